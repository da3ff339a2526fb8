/- The pure statement of the law FnStreams, part 2: over numbers, texts and lists alone, what the law computes is true. Conditions: the sizes of what a machine holds. -/
import Derived.Test.YtnhflbeahbcklabGreatPureFnStreamsx0
namespace Go.Proofs.YtnhflbeahbcklabGreat.A.Pure
open Go Go.Proofs Go.Proofs.YtnhflbeahbcklabGreatAL Go.RowKit
set_option linter.unusedVariables false
set_option linter.unusedSimpArgs false
set_option maxHeartbeats 1000000
theorem Xjz (l : List Int) (n B : Int) (hn : (l.length : Int) = n) (hn2 : n ≤ 1000000) (hB : 0 ≤ B ∧ B ≤ 100000000) (h : inB B l) : Xfb l n B = some true := by
 unfold Xfb
 rw [Xaz (by simp only [bne_eq_false_iff_eq]; exact hn), Xqm l.length (f := Xfc l n B) (by
  intro i hi
  have := Xsj h hi
  unfold Xfc
  rw [syA, rqA, wkA (e := 0 - B), Xai, Xab, Int.toNat_natCast, decide_eq_true (by omega), Bool.not_true, Xam, wkA]
  rfl) (by unfold Xfc; rw [snA]), Xab]
def Xya (n i : Int) (v17 : Int × Int) : Option (Lp (Int × Int) (Ou Unit Int)) :=
 sel (decide (v17.2 ≤ (Xaa .i64 ((Xaa .i64 (2 * n)) - 2)))) (
 bnd (it (Xsv n i v17) 20 (v17.1, 0)) fun o47 => match o47 with
 | .out v43 => (
 some (.go (v43, Xaa .i64 (v17.2 + 1))))
 | .ret r => some (.done (.ret r))) (
 some (.done (.out ())))
theorem Yo0 {n i : Int} {v : Int × Int} {x : Lp (Int × Int) (Ou Unit Int)} (h : Xya n i v = some x) : Xol n i v = some x := by
 unfold Xya at h
 unfold Xol
 rcases Xrg h with ⟨hb, h⟩ | ⟨hb, h⟩
 ·
  rw [hb, Xaq]
  obtain ⟨a, h1, h2⟩ := Xb6 h
  rw [Xii.2 ⟨20, h1⟩, Xab]
  exact h2
 ·
  rw [hb, Xam]; exact h
theorem Yxa {V O : Type} {f g : V → Option (Lp V O)} (hf : ∀ v y, f v = some y → g v = some y) {o : O} : ∀ (k : Nat) (v : V), it f k v = some o → it g k v = some o
 | 0, v, h => by cases h
 | k + 1, v, h => by
  rw [it] at h ⊢
  cases e : f v with
  | none => rw [e] at h; cases h
  | some s =>
   rw [e] at h
   rw [hf v s e]
   cases s with
   | go y => exact Yxa hf k y h
   | done o' => exact h
def Xhf (n i : Int) : Int := match it (Xya n i) 20 (0, 0) with | some (.ret q) => q | _ => -1
theorem Yxm : ∀ i : Fin 16, (0 ≤ Xhf 4 (i.val : Int) ∧ Xhf 4 (i.val : Int) < 16) := by decide +kernel
theorem Yxn : ∀ i : Fin 64, (0 ≤ Xhf 8 (i.val : Int) ∧ Xhf 8 (i.val : Int) < 64) := by decide +kernel
theorem Xo9 (n : Int) (hn : n = 4 ∨ n = 8) (i : Nat) (hi : (i : Int) < n * n) : 0 ≤ Xhf n i ∧ Xhf n i < n * n := by
 rcases hn with rfl | rfl
 ·
  exact Yxm ⟨i, by omega⟩
 ·
  exact Yxn ⟨i, by omega⟩
theorem Xpt (n : Int) (hn : n = 4 ∨ n = 8) (i : Nat) (hi : (i : Int) < n * n) : Xv4 n i = some (Xhf n i) := by
 have hp := Xo9 n hn i hi
 unfold Xv4
 have hw : Xaa .i64 (n * n) = n * n := by rcases hn with rfl | rfl <;> exact wkA
 have hc : (sel (n != 4) (sel (n != 8) (some true) (sel (decide ((i : Int) < 0)) (some true) (some (decide ((i : Int) ≥ (Xaa .i64 (n * n))))))) (sel (decide ((i : Int) < 0)) (some true) (some (decide ((i : Int) ≥ (Xaa .i64 (n * n))))))) = some false := by
  rw [hw, Xas (show ¬ (i : Int) < 0 by omega), decide_eq_false (show ¬ (i : Int) ≥ n * n by omega)]
  rcases hn with rfl | rfl <;> rfl
 rw [hc, Xab, Xam]
 unfold Xhf at hp ⊢
 cases e : it (Xya n i) 20 (0, 0) with
 | none => rw [e] at hp; simp only at hp; omega
 | some s =>
  rw [e] at hp
  have h := Yxa (fun v y => Yo0 (n := n) (i := i)) 20 _ e
  rw [Xii.2 ⟨20, h⟩, Xab]
  cases s with
  | out u => simp only at hp; omega
  | ret q => rfl
theorem Xft (n : Int) (hn : n = 4 ∨ n = 8) (l : List Int) (B : Int) (hB : 0 ≤ B) (hl : (l.length : Int) = n * n) (hb : inB B l) : ∃ o, Xfa n l = some (o, true) ∧ o.length = l.length ∧ inB B o := by
 have hm : maxLen = 9223372036854775807 := rfl
 have hw : Xaa .i64 (n * n) = n * n := by rcases hn with rfl | rfl <;> exact wkA
 have hl2 : l.length ≤ 64 := by rcases hn with rfl | rfl <;> omega
 unfold Xfa
 have hc : (sel (n != 4) (sel (n != 8) (some true) (some ((l.length : Int) != (Xaa .i64 (n * n))))) (some ((l.length : Int) != (Xaa .i64 (n * n))))) = some false := by
  rw [hw, hl, bne_self_eq_false]
  rcases hn with rfl | rfl <;> rfl
 rw [hc, Xab, Xam, rqA, Int.toNat_natCast]
 obtain ⟨o, e, h1, h2⟩ := Xff (f := Xc7 n l) l.length (fun i s => s.length = l.length ∧ inB B s) (by
  intro i s hi ⟨g1, g2⟩
  have hp := Xo9 n hn i (by omega)
  have ha := Xsj hb hi
  unfold Xc7
  simp only
  rw [hw, syA, Xpt n hn i (by omega), Xab, rqA, rqA, rqA, wkA, Int.toNat_natCast]
  exact ⟨_, rfl, by rw [List.length_set]; exact g1, Ypz g2 _ ha⟩) (by intro s; unfold Xc7; simp only; rw [hw, snA]) (List.replicate l.length 0) ⟨List.length_replicate, Ypy _ hB⟩
 exact ⟨o, (Xc3 e).trans rfl, h1, h2⟩
def Xiw (u v : Int) : Int := match it Xml 10 (1, (IntKind.wrap .i64 (BitVec.ofInt (IntKind.bits .i64) u &&& BitVec.ofInt (IntKind.bits .i64) v).toNat)) with | some q => q | none => 7
theorem Yvq : ∀ u v : Fin 8, (-1 ≤ Xiw (u.val : Int) (v.val : Int) ∧ Xiw (u.val : Int) (v.val : Int) ≤ 1) := by decide +kernel
theorem Xu4 (u v : Nat) (hu : u < 8) (hv : v < 8) : ∃ s, Xl2 u v = some s ∧ -1 ≤ s ∧ s ≤ 1 := by
 have h := Yvq ⟨u, hu⟩ ⟨v, hv⟩
 simp only at h
 unfold Xl2
 rw [Xai, Xab, decide_eq_true (by omega), Xaq, Xai, Xab, decide_eq_true (by omega), Bool.not_true, Xab, Xam]
 unfold Xiw at h
 cases e : it Xml 10 (1, (IntKind.wrap .i64 (BitVec.ofInt (IntKind.bits .i64) (u : Int) &&& BitVec.ofInt (IntKind.bits .i64) (v : Int)).toNat)) with
 | none => rw [e] at h; simp only at h; omega
 | some q =>
  rw [e] at h
  rw [Xii.2 ⟨10, e⟩, Xab]
  exact ⟨q, rfl, h⟩
def Xrk (qp : Int) : Int := if qp.tmod 6 = 0 then 10 else if qp.tmod 6 = 1 then 11 else if qp.tmod 6 = 2 then 13 else if qp.tmod 6 = 3 then 14 else if qp.tmod 6 = 4 then 16 else 18
def Xoz (qp : Int) : Int := match it (Xmm qp) 10 (Xrk qp, 0) with | some q => q | none => 0
theorem Yv0 : ∀ q : Fin 41, (10 ≤ Xoz (q.val : Int) ∧ Xoz (q.val : Int) ≤ 1152) := by decide +kernel
theorem Yi0 (qp : Int) (h0 : 0 ≤ qp ∧ qp ≤ 40) : ∃ s, Xl4 qp = some s ∧ 10 ≤ s ∧ s ≤ 1152 := by
 have h := Yv0 ⟨qp.toNat, by omega⟩
 simp only at h
 rw [show ((qp.toNat : Nat) : Int) = qp by omega] at h
 unfold Xl4
 rw [Xai, Xab, decide_eq_true (by omega), Bool.not_true, Xam, rqA]
 have hb : (sel ((qp.tmod 6) == 0) (some (10 : Int)) (sel ((qp.tmod 6) == 1) (some 11) (sel ((qp.tmod 6) == 2) (some 13) (sel ((qp.tmod 6) == 3) (some 14) (sel ((qp.tmod 6) == 4) (some 16) (some 18)))))) = some (Xrk qp) := by
  unfold Xrk
  simp only [Yl8, beq_iff_eq]
  repeat' split
  all_goals rfl
 rw [hb, Xab]
 unfold Xoz at h
 cases e : it (Xmm qp) 10 (Xrk qp, 0) with
 | none => rw [e] at h; simp only at h; omega
 | some q =>
  rw [e] at h
  rw [Xii.2 ⟨10, e⟩, Xab]
  exact ⟨q, rfl, h⟩
theorem Xu2 (p : Int) (h : 0 ≤ p ∧ p ≤ 15) : ∃ k, Xri p = some k ∧ 0 ≤ k ∧ k ≤ 2 := by
 unfold Xri
 rw [Xai, Xab, decide_eq_true h, Bool.not_true, Xam, rqA, rqA, rqA, rqA, Xcm, Xab]
 cases ((Xaa .i64 (p.tdiv 4)).tmod 2 == 0 && (p.tmod 4).tmod 2 == 0) with
 | true => exact ⟨0, rfl, by omega, by omega⟩
 | false =>
  rw [Xam, Xcm, Xab]
  cases ((Xaa .i64 (p.tdiv 4)).tmod 2 == 1 && (p.tmod 4).tmod 2 == 1) with
  | true => exact ⟨1, rfl, by omega, by omega⟩
  | false => exact ⟨2, rfl, by omega, by omega⟩
theorem Xb5 (k a b c : Int) : ∃ x, Xce k a b c = some x ∧ (x = a ∨ x = b ∨ x = c) := by
 unfold Xce
 cases (k == 0) with
 | true => exact ⟨a, rfl, Or.inl rfl⟩
 | false =>
  cases (k == 1) with
  | true => exact ⟨b, rfl, Or.inr (Or.inl rfl)⟩
  | false => exact ⟨c, rfl, Or.inr (Or.inr rfl)⟩
theorem Ys5 (qp : Int) (h0 : 0 ≤ qp ∧ qp ≤ 40) (x : Int) (hx : 0 ≤ x ∧ x ≤ 29) : ∃ o, loop (Xfr qp) (x, 0) = some o ∧ 0 ≤ o ∧ o ≤ 1856 := by
 obtain ⟨o, e, h1, h2⟩ := Xo1 (f := Xfr qp) (qp / 6).toNat (fun i s => 0 ≤ s ∧ s ≤ 29 * 2 ^ i) (by
  intro i s hi ⟨g1, g2⟩
  have h6 : (2 : Int) ^ i ≤ 64 := by
   have : i ≤ 6 := by omega
   obtain rfl | rfl | rfl | rfl | rfl | rfl | rfl : i = 0 ∨ i = 1 ∨ i = 2 ∨ i = 3 ∨ i = 4 ∨ i = 5 ∨ i = 6 := by omega
   all_goals decide
  have h7 : (2 : Int) ^ (i + 1) = 2 * 2 ^ i := by rw [Int.pow_succ, Int.mul_comm]
  unfold Xfr
  simp only
  rw [rqA, Xbp (by omega), wkA (e := qp / 6), syA, wkA (e := 2 * s), wkA (e := (i : Int) + 1)]
  exact ⟨_, rfl, by omega, by rw [h7]; omega⟩) (by intro s; unfold Xfr; simp only; rw [rqA, Xbp (by omega), wkA (e := qp / 6), snA]) x ⟨hx.1, by simp; omega⟩
 have h6 : (2 : Int) ^ (qp / 6).toNat ≤ 64 := by
  generalize hi : (qp / 6).toNat = i
  obtain rfl | rfl | rfl | rfl | rfl | rfl | rfl : i = 0 ∨ i = 1 ∨ i = 2 ∨ i = 3 ∨ i = 4 ∨ i = 5 ∨ i = 6 := by omega
  all_goals decide
 exact ⟨o, e, h1, by omega⟩
theorem Ygp (qp p : Int) (h0 : 0 ≤ qp ∧ qp ≤ 40) (hp : 0 ≤ p ∧ p ≤ 15) : ∃ s, Xm5 qp p = some s ∧ 0 ≤ s ∧ s ≤ 1856 := by
 unfold Xm5
 obtain ⟨k, e, k0, k1⟩ := Xu2 p hp
 rw [e, Xab, Xai, Xab, decide_eq_true h0, Xaq, decide_eq_false (by omega), Xab, Xam, rqA]
 obtain ⟨a1, e1, b1⟩ := Xb5 k 10 16 13
 obtain ⟨a2, e2, b2⟩ := Xb5 k 11 18 14
 obtain ⟨a3, e3, b3⟩ := Xb5 k 13 20 16
 obtain ⟨a4, e4, b4⟩ := Xb5 k 14 23 18
 obtain ⟨a5, e5, b5⟩ := Xb5 k 16 25 20
 obtain ⟨a6, e6, b6⟩ := Xb5 k 18 29 23
 rw [e1, e2, e3, e4, e5, e6]
 simp only [Xab, Yvp]
 obtain ⟨o, eo, o1, o2⟩ := Ys5 qp h0 (sel (qp.tmod 6 == 0) a1 (sel (qp.tmod 6 == 1) a2 (sel (qp.tmod 6 == 2) a3 (sel (qp.tmod 6 == 3) a4 (sel (qp.tmod 6 == 4) a5 (sel (qp.tmod 6 == 5) a6 0)))))) (by
  simp only [Yl8]
  repeat' split
  all_goals omega)
 exact ⟨o, (Xc3 eo).trans rfl, o1, o2⟩
theorem Yro {a s B : Int} (ha : -B ≤ a ∧ a ≤ B) (hs : -1 ≤ s ∧ s ≤ 1) : (-B ≤ a * s ∧ a * s ≤ B) ∧ (-B ≤ s * a ∧ s * a ≤ B) := by
 obtain rfl | rfl | rfl : s = -1 ∨ s = 0 ∨ s = 1 := by omega
 all_goals omega
theorem Yjh (p : List Int) (B : Int) (hB : 0 ≤ B ∧ B ≤ 1000000000000) (hl : p.length = 64) (hb : inB B p) (i v : Nat) (hi : i < 8) (hv : v < 8) : ∃ o, Xou p i v = some o ∧ -(8 * B) ≤ o ∧ o ≤ 8 * B := by
 unfold Xou
 obtain ⟨o, e, h1, h2⟩ := Xo1 (f := Xfd p i v) 8 (fun k s => -(B * k) ≤ s ∧ s ≤ B * k) (by
  intro k s hk ⟨g1, g2⟩
  obtain ⟨q, eq, q0, q1⟩ := Xu4 v k hv hk
  have ha := Xsj hb (i := 8 * i + k) (by omega)
  have hm := (Yro ha ⟨q0, q1⟩).1
  have hk8 : B * k ≤ B * 8 := Int.mul_le_mul_of_nonneg_left (by omega) hB.1
  have hk0 : B * ((k + 1 : Nat) : Int) = B * k + B := by rw [Int.natCast_add, Int.mul_add]; simp
  unfold Xfd
  simp only
  rw [syA, wkA (e := 8 * (i : Int)), wkA (e := 8 * (i : Int) + (k : Int)), rqA, eq, Xab, show (8 * (i : Int) + (k : Int)).toNat = 8 * i + k by omega, wkA (e := p.getD (8 * i + k) 0 * q), wkA (e := s + p.getD (8 * i + k) 0 * q), wkA (e := (k : Int) + 1)]
  exact ⟨_, rfl, by rw [hk0]; omega, by rw [hk0]; omega⟩) (by intro s; unfold Xfd; rw [Xas (by simp)]) 0 (by simp)
 exact ⟨o, (Xc3 e).trans rfl, by omega, by omega⟩
theorem Yg3 (p : List Int) (B : Int) (hB : 0 ≤ B ∧ B ≤ 10000000000) (hl : p.length = 64) (hb : inB B p) : ∃ o, Xm7 p = some o ∧ o.length = 64 ∧ inB (64 * B) o := by
 have hm : maxLen = 9223372036854775807 := rfl
 unfold Xm7
 obtain ⟨h, eh, hh1, hh2⟩ := Xff (f := Xdu p) 8 (fun i s => s.length = 8 * i ∧ inB (8 * B) s) (by
  intro i s hi ⟨g1, g2⟩
  obtain ⟨t, et, t1, t2⟩ := Xff (f := Xdv p ((i : Int), s)) 8 (fun v s => s.length = 8 * i + v ∧ inB (8 * B) s) (by
   intro v s hv ⟨g1, g2⟩
   obtain ⟨r, er, r1, r2⟩ := Yjh p B ⟨hB.1, by omega⟩ hl hb i v hi hv
   unfold Xdv
   simp only
   rw [syA, er, Xab, Xav (by simp only [List.length_singleton]; omega), wkA (e := (v : Int) + 1)]
   exact ⟨_, rfl, by simp; omega, Xzr g2 (Yuo ⟨by omega, r2⟩)⟩) (by intro s; unfold Xdv; rw [Xas (by simp)]) s ⟨by omega, g2⟩
  unfold Xdu
  simp only
  rw [syA, et, Xab, wkA (e := (i : Int) + 1)]
  exact ⟨_, rfl, by omega, t2⟩) (by intro s; unfold Xdu; rw [Xas (by simp)]) [] ⟨rfl, Ypx _⟩
 rw [eh, Xab]
 obtain ⟨o, eo, o1, o2⟩ := Xff (f := Xc8 h) 8 (fun i s => s.length = 8 * i ∧ inB (64 * B) s) (by
  intro i s hi ⟨g1, g2⟩
  obtain ⟨t, et, t1, t2⟩ := Xff (f := Xc9 h ((i : Int), s)) 8 (fun v s => s.length = 8 * i + v ∧ inB (64 * B) s) (by
   intro v r hv ⟨g1, g2⟩
   obtain ⟨a, ea, a1, a2⟩ := Xo1 (f := Xda h ((i : Int), s) ((v : Int), r)) 8 (fun k s => -(8 * B * k) ≤ s ∧ s ≤ 8 * B * k) (by
    intro k c hk ⟨g1, g2⟩
    obtain ⟨q, eq, q0, q1⟩ := Xu4 i k hi hk
    have ha := Xsj hh2 (i := 8 * k + v) (by omega)
    have hm := (Yro ha ⟨q0, q1⟩).2
    have hk8 : 8 * B * k ≤ 8 * B * 8 := Int.mul_le_mul_of_nonneg_left (by omega) (by omega)
    have hk0 : 8 * B * ((k + 1 : Nat) : Int) = 8 * B * k + 8 * B := by rw [Int.natCast_add, Int.mul_add]; simp
    unfold Xda
    simp only
    rw [syA, eq, Xab, wkA (e := 8 * (k : Int)), wkA (e := 8 * (k : Int) + (v : Int)), rqA, rqA, show (8 * (k : Int) + (v : Int)).toNat = 8 * k + v by omega, wkA (e := q * h.getD (8 * k + v) 0), wkA (e := c + q * h.getD (8 * k + v) 0), wkA (e := (k : Int) + 1)]
    exact ⟨_, rfl, by rw [hk0]; omega, by rw [hk0]; omega⟩) (by intro s; unfold Xda; rw [Xas (by simp)]) 0 (by simp)
   unfold Xc9
   simp only
   rw [syA, ea, Xab, Xav (by simp only [List.length_singleton]; omega), wkA (e := (v : Int) + 1)]
   exact ⟨_, rfl, by simp; omega, Xzr g2 (Yuo ⟨by omega, by omega⟩)⟩) (by intro s; unfold Xc9; rw [Xas (by simp)]) s ⟨by omega, g2⟩
  unfold Xc8
  simp only
  rw [syA, et, Xab, wkA (e := (i : Int) + 1)]
  exact ⟨_, rfl, by omega, t2⟩) (by intro s; unfold Xc8; rw [Xas (by simp)]) [] ⟨rfl, Ypx _⟩
 exact ⟨o, (Xc3 eo).trans rfl, by omega, o2⟩
theorem Xla (a b : Int) (ha : -1000000000000 ≤ a ∧ a ≤ 1000000000000) (hb : b = 2 ∨ b = 64) : ∃ d, Xd6 a b = some d ∧ b * d ≤ a ∧ a < b * d + b := by
 unfold Xd6
 have h1 : b * (a.tdiv b) + a.tmod b = a := Int.mul_tdiv_add_tmod a b
 have h2 : -b < a.tmod b ∧ a.tmod b < b := by
  have hb0 : 0 < b := by omega
  refine ⟨?_, Int.tmod_lt_of_pos a hb0⟩
  have := Int.lt_tmod_of_pos a hb0
  omega
 rw [rqA, rqA]
 generalize a.tmod b = m at h1 h2
 generalize a.tdiv b = t at h1 h2
 have ht : -1000000000001 ≤ t ∧ t ≤ 1000000000001 := by rcases hb with rfl | rfl <;> omega
 by_cases h : m < 0
 ·
  rw [Xa9 h, Xab, wkA (e := t), wkA (e := t - 1)]
  refine ⟨_, rfl, ?_⟩
  rcases hb with rfl | rfl <;> omega
 ·
  rw [Xas h, Xab, wkA (e := t)]
  refine ⟨_, rfl, ?_⟩
  rcases hb with rfl | rfl <;> omega
theorem Xz0 (p : List Int) (hl : p.length = 64) (hb : inB 5760000 p) : ∃ o, Xiy p = some o ∧ o.length = 64 ∧ inB 10000000 o := by
 unfold Xiy
 obtain ⟨o, e, h1, h2⟩ := Yg3 p 5760000 (by omega) hl hb
 rw [Xjz p 64 10000000 (by omega) (by omega) (by omega) (Ylm hb (by omega)), Xab, Bool.not_true, Xam, e, Xab]
 obtain ⟨r, er, r1, r2⟩ := Xti (f := Xh6) 64 (fun x => -368640000 ≤ x ∧ x ≤ 368640000) (fun x => -10000000 ≤ x ∧ x ≤ 10000000) (by
  intro i l hi hll hx
  obtain ⟨d, ed, d1, d2⟩ := Xla (l.getD i 0 + 32) 64 (by omega) (Or.inr rfl)
  unfold Xh6
  simp only [Int.toNat_natCast]
  rw [syA, rqA, rqA, wkA (e := l.getD i 0 + 32), ed, Xab, rqA, rqA, wkA (e := (i : Int) + 1)]
  exact ⟨d, rfl, by omega, by omega⟩) (by intro s; unfold Xh6; rw [Xas (by simp)]) o h1 (fun x hx => by have := h2 x hx; omega)
 exact ⟨r, (Xc3 er).trans rfl, r1, r2⟩
theorem Xs5 (p : List Int) (B : Int) (hB : 0 ≤ B) (hl : p.length = 16) (hb : inB B p) : ∃ o, Xka p = some o ∧ o.length = 16 ∧ inB B o := by
 unfold Xka
 rw [rqA]
 obtain ⟨o, e, h1, h2⟩ := Xff (f := Xej p) 16 (fun i s => s.length = 16 ∧ inB B s) (by
  intro i s hi ⟨g1, g2⟩
  have ha := Xsj hb (i := i) (by omega)
  unfold Xej
  simp only
  rw [syA, rqA, rqA, rqA, Xbq (by omega), Xbp (by omega), wkA (e := (i : Int) / 4), wkA (e := (i : Int) % 4 * 4), wkA (e := (i : Int) % 4 * 4 + (i : Int) / 4), rqA, rqA, wkA (e := (i : Int) + 1), Int.toNat_natCast]
  exact ⟨_, rfl, by rw [List.length_set]; exact g1, Ypz g2 _ ha⟩) (by intro s; unfold Xej; rw [Xas (by simp)]) (List.replicate (16 : Int).toNat 0) ⟨by simp, Ypy _ hB⟩
 exact ⟨o, (Xc3 e).trans rfl, h1, h2⟩
theorem Yw9 {B a b c d : Int} (h1 : -B ≤ a ∧ a ≤ B) (h2 : -B ≤ b ∧ b ≤ B) (h3 : -B ≤ c ∧ c ≤ B) (h4 : -B ≤ d ∧ d ≤ B) : inB B [a, b, c, d] := fun x hx => by
 simp only [List.mem_cons, List.not_mem_nil, or_false] at hx
 rcases hx with rfl | rfl | rfl | rfl
 ·
  exact h1
 ·
  exact h2
 ·
  exact h3
 ·
  exact h4
theorem Xrw (p : List Int) (B : Int) (hB : 0 ≤ B ∧ B ≤ 1000000000) (hl : p.length = 16) (hb : inB B p) : ∃ o, Xib p = some o ∧ o.length = 16 ∧ inB (4 * B + 2) o := by
 have hm : maxLen = 9223372036854775807 := rfl
 unfold Xib
 obtain ⟨o, e, h1, h2⟩ := Xff (f := Xdt p) 4 (fun i s => s.length = 4 * i ∧ inB (4 * B + 2) s) (by
  intro i s hi ⟨g1, g2⟩
  have a0 := Xsj hb (i := 4 * i) (by omega)
  have a1 := Xsj hb (i := 4 * i + 1) (by omega)
  have a2 := Xsj hb (i := 4 * i + 2) (by omega)
  have a3 := Xsj hb (i := 4 * i + 3) (by omega)
  obtain ⟨f, ef, f1, f2⟩ := Xla (p.getD (4 * i + 1) 0) 2 (by omega) (Or.inl rfl)
  obtain ⟨g, eg, g1', g2'⟩ := Xla (p.getD (4 * i + 3) 0) 2 (by omega) (Or.inl rfl)
  unfold Xdt
  simp only
  rw [syA, wkA (e := 4 * (i : Int)), wkA (e := 4 * (i : Int) + 1), wkA (e := 4 * (i : Int) + 2), wkA (e := 4 * (i : Int) + 3), rqA, rqA, rqA, rqA, show (4 * (i : Int)).toNat = 4 * i by omega, show (4 * (i : Int) + 1).toNat = 4 * i + 1 by omega, show (4 * (i : Int) + 2).toNat = 4 * i + 2 by omega, show (4 * (i : Int) + 3).toNat = 4 * i + 3 by omega, ef, Xab, eg, Xab]
  generalize p.getD (4 * i) 0 = a at *
  generalize p.getD (4 * i + 1) 0 = b at *
  generalize p.getD (4 * i + 2) 0 = c at *
  generalize p.getD (4 * i + 3) 0 = d at *
  rw [wkA (e := (i : Int) + 1), wkA (e := a + c), wkA (e := a - c), wkA (e := b + g), wkA (e := f - d), wkA (e := a + c + (b + g)), wkA (e := a - c + (f - d)), wkA (e := a - c - (f - d)), wkA (e := a + c - (b + g)), Xav (by simp only [List.length_cons, List.length_nil]; omega)]
  exact ⟨_, rfl, by simp; omega, Xzr g2 (Yw9 (by omega) (by omega) (by omega) (by omega))⟩) (by intro s; unfold Xdt; rw [Xas (by simp)]) [] ⟨rfl, Ypx _⟩
 exact ⟨o, (Xc3 e).trans rfl, h1, h2⟩
theorem Xru (p : List Int) (hl : p.length = 16) (hb : inB 10000000 p) : ∃ o, Xk3 p = some o ∧ o.length = 16 ∧ inB 10000000 o := by
 unfold Xk3
 obtain ⟨a, ea, a1, a2⟩ := Xrw p 10000000 (by omega) hl hb
 obtain ⟨b, eb, b1, b2⟩ := Xs5 a _ (by omega) a1 a2
 obtain ⟨c, ec, c1, c2⟩ := Xrw b _ (by omega) b1 b2
 obtain ⟨d, ed, d1, d2⟩ := Xs5 c _ (by omega) c1 c2
 rw [Xjz p 16 10000000 (by omega) (by omega) (by omega) hb, Xab, Bool.not_true, Xam, ea, Xab, eb, Xab, ec, Xab, ed, Xab]
 obtain ⟨r, er, r1, r2⟩ := Xti (f := Xjg) 16 (fun x => -160000010 ≤ x ∧ x ≤ 160000010) (fun x => -10000000 ≤ x ∧ x ≤ 10000000) (by
  intro i l hi hll hx
  obtain ⟨d, ed, d1, d2⟩ := Xla (l.getD i 0 + 32) 64 (by omega) (Or.inr rfl)
  unfold Xjg
  simp only [Int.toNat_natCast]
  rw [syA, rqA, rqA, wkA (e := l.getD i 0 + 32), ed, Xab, rqA, rqA, wkA (e := (i : Int) + 1)]
  exact ⟨d, rfl, by omega, by omega⟩) (by intro s; unfold Xjg; rw [Xas (by simp)]) d d1 (fun x hx => by have := d2 x hx; omega)
 exact ⟨r, (Xc3 er).trans rfl, r1, r2⟩
theorem Xqp (l qp p : Int) (hl : -5000 ≤ l ∧ l ≤ 5000) (h0 : 0 ≤ qp ∧ qp ≤ 40) (hp : 0 ≤ p ∧ p ≤ 15) : ∃ o, Xi0 l qp p = some o ∧ -10000000 ≤ o ∧ o ≤ 10000000 := by
 unfold Xi0
 obtain ⟨s, es, q0, q1⟩ := Ygp qp p h0 hp
 rw [Xai, Xab, decide_eq_true hl, Bool.not_true, Xam, es, Xab]
 have m1 : l * s ≤ 5000 * s := Int.mul_le_mul_of_nonneg_right hl.2 q0
 have m2 : -5000 * s ≤ l * s := Int.mul_le_mul_of_nonneg_right hl.1 q0
 rw [wkA]
 exact ⟨_, rfl, by omega, by omega⟩
theorem Xqo (l qp : Int) (hl : -5000 ≤ l ∧ l ≤ 5000) (h0 : 0 ≤ qp ∧ qp ≤ 40) : ∃ o, Xiz l qp = some o ∧ -5760000 ≤ o ∧ o ≤ 5760000 := by
 unfold Xiz
 obtain ⟨s, es, q0, q1⟩ := Yi0 qp h0
 rw [Xai, Xab, decide_eq_true hl, Bool.not_true, Xam, es, Xab]
 have m1 : l * s ≤ 5000 * s := Int.mul_le_mul_of_nonneg_right hl.2 (by omega)
 have m2 : -5000 * s ≤ l * s := Int.mul_le_mul_of_nonneg_right hl.1 (by omega)
 rw [wkA]
 exact ⟨_, rfl, by omega, by omega⟩
theorem Yuy {l : List Int} (h : Yhi l = true) : l.length = 64 ∧ inB 5000 l := by
 obtain ⟨h1, h2⟩ := Xj1 h
 refine ⟨h1, fun x hx => ?_⟩
 have := List.all_eq_true.1 h2 x hx
 unfold Yij at this
 rwa [decide_eq_true_eq] at this
theorem Ynd {c : Xfg} (h : Xge c = true) : 0 ≤ c.Qp ∧ c.Qp ≤ 40 := by
 unfold Xge at h
 rw [Bool.and_eq_true, decide_eq_true_eq] at h
 exact h.1
theorem Xpa (p : List Int) (c : Xfg) (hc : Xge c = true) (hp : Yhi p = true) : ∃ o, Xfq p c = some (o, true) ∧ o.length = 64 ∧ inB 10000000 o := by
 have hm : maxLen = 9223372036854775807 := rfl
 have hq := Ynd hc
 obtain ⟨hl, hb⟩ := Yuy hp
 unfold Xfq
 rw [Xe9, Xab, hc, Xaq, Xjz p 64 5000 (by omega) (by omega) (by omega) hb, Xab, Bool.not_true, Xab, Xam]
 cases hE : c.Exact with
 | true =>
  obtain ⟨o, e, h1, h2⟩ := Xft 8 (Or.inr rfl) p 5000 (by omega) (by omega) hb
  rw [Xaq, e, Xab]
  exact ⟨o, rfl, by omega, Ylm h2 (by omega)⟩
 | false =>
  rw [Xam]
  cases hL : c.Large with
  | true =>
   obtain ⟨w, ew, w1, w2⟩ := Xft 8 (Or.inr rfl) p 5000 (by omega) (by omega) hb
   obtain ⟨l, el, l1, l2⟩ := Xti (f := Xbz c) 64 (fun x => -5000 ≤ x ∧ x ≤ 5000) (fun x => -5760000 ≤ x ∧ x ≤ 5760000) (by
    intro i l hi hll hx
    obtain ⟨d, ed, d1, d2⟩ := Xqo (l.getD i 0) c.Qp hx hq
    unfold Xbz
    simp only [Int.toNat_natCast]
    rw [syA, rqA, rqA, ed, Xab, rqA, rqA, wkA (e := (i : Int) + 1)]
    exact ⟨d, rfl, d1, d2⟩) (by intro s; unfold Xbz; rw [Xas (by simp)]) w (by omega) w2
   obtain ⟨o, e, h1, h2⟩ := Xz0 l l1 l2
   rw [Xaq, ew, Xab, el, Xab, e, Xab]
   exact ⟨o, rfl, h1, h2⟩
  | false =>
   obtain ⟨o, eo, o1, o2⟩ := Xff (f := Xc6 p c) 4 (fun k s => s.length = 64 ∧ inB 10000000 s) (by
    intro k s hk ⟨g1, g2⟩
    have hcut : ((p.drop (16 * k)).take 16).length = 16 := by rw [List.length_take, List.length_drop]; omega
    obtain ⟨a, ea, a1, a2⟩ := Xft 4 (Or.inl rfl) ((p.drop (16 * k)).take 16) 5000 (by omega) (by omega) (Yq8 (Yq7 hb _) _)
    obtain ⟨l, el, l1, l2⟩ := Xti (f := Xbv c) 16 (fun x => -5000 ≤ x ∧ x ≤ 5000) (fun x => -10000000 ≤ x ∧ x ≤ 10000000) (by
     intro i l hi hll hx
     obtain ⟨d, ed, d1, d2⟩ := Xqp (l.getD i 0) c.Qp i hx hq (by omega)
     unfold Xbv
     simp only [Int.toNat_natCast]
     rw [syA, rqA, rqA, ed, Xab, rqA, rqA, wkA (e := (i : Int) + 1)]
     exact ⟨d, rfl, d1, d2⟩) (by intro s; unfold Xbv; rw [Xas (by simp)]) a (by omega) a2
    obtain ⟨b, eb, b1, b2⟩ := Xru l l1 l2
    obtain ⟨r, er, r1, r2⟩ := Xff (f := Xb0 ((k : Int), s) b) 16 (fun i s => s.length = 64 ∧ inB 10000000 s) (by
     intro i s hi ⟨g1, g2⟩
     have ha := Xsj b2 (i := i) (by omega)
     unfold Xb0
     simp only
     rw [syA, rqA, rqA, rqA, rqA, rqA, rqA, Xbp (a := (k : Int)) (by omega), Xbp (a := (i : Int)) (by omega), Xbq (a := (k : Int)) (by omega), Xbq (a := (i : Int)) (by omega), wkA (e := (k : Int) / 2), wkA (e := (k : Int) / 2 * 4), wkA (e := (i : Int) / 4), wkA (e := (k : Int) / 2 * 4 + (i : Int) / 4), wkA (e := 8 * ((k : Int) / 2 * 4 + (i : Int) / 4)), wkA (e := (k : Int) % 2 * 4), wkA (e := 8 * ((k : Int) / 2 * 4 + (i : Int) / 4) + (k : Int) % 2 * 4), wkA (e := 8 * ((k : Int) / 2 * 4 + (i : Int) / 4) + (k : Int) % 2 * 4 + (i : Int) % 4), rqA, rqA, wkA (e := (i : Int) + 1), Int.toNat_natCast]
     exact ⟨_, rfl, by rw [List.length_set]; exact g1, Ypz g2 _ ha⟩) (by intro s; unfold Xb0; rw [Xas (by simp)]) s ⟨g1, g2⟩
    unfold Xc6
    simp only
    rw [syA, wkA (e := 16 * (k : Int)), wkA (e := 16 * (k : Int) + 16), rqA, show (16 * (k : Int)).toNat = 16 * k by omega, show (16 * (k : Int) + 16).toNat - 16 * k = 16 by omega, ea, Xab, el, Xab, eb, Xab, er, Xab, wkA (e := (k : Int) + 1)]
    exact ⟨_, rfl, r1, r2⟩) (by intro s; unfold Xc6; rw [Xas (by simp)]) (List.replicate (64 : Int).toNat 0) ⟨by simp, Ypy _ (by omega)⟩
   rw [Xam, rqA, eo, Xab]
   exact ⟨o, rfl, o1, o2⟩
theorem Xrx (l : List Int) (h : Xn7 l = true) : Xs6 l = some true := by
 obtain ⟨h1, h2⟩ := Xr6 h
 unfold Xs6
 rw [Xaz (by simp only [bne_eq_false_iff_eq]; omega), Xqm l.length (f := Xlb l) (by
  intro i hi
  have := h2 i (by omega)
  unfold Xlb
  rw [syA, rqA, Xai, Xab, Int.toNat_natCast, decide_eq_true this, Bool.not_true, Xam, wkA]
  rfl) (by unfold Xlb; rw [snA]), Xab]
theorem Yni {l : List Int} (h1 : l.length = 64) (h2 : ∀ x ∈ l, 0 ≤ x ∧ x ≤ 255) : Xn7 l = true := by
 unfold Xn7
 rw [Bool.and_eq_true, decide_eq_true_eq, List.all_eq_true]
 exact ⟨h1, fun x hx => by unfold Yww; rw [decide_eq_true_eq]; exact h2 x hx⟩
theorem Xu1 (g b : List Int) (hg : Xn7 g = true) (hl : b.length = 64) (hb : inB 10000000 b) : ∃ o, Xl1 g b = some o ∧ Xn7 o = true := by
 have hm : maxLen = 9223372036854775807 := rfl
 obtain ⟨g1, g2⟩ := Xr6 hg
 unfold Xl1
 rw [Xrx g hg, Xab, Xaq, Xjz b 64 10000000 (by omega) (by omega) (by omega) hb, Xab, Bool.not_true, Xab, Xam]
 obtain ⟨o, e, h1, h2⟩ := Xff (f := Xgw g b) 64 (fun i s => s.length = i ∧ ∀ x ∈ s, 0 ≤ x ∧ x ≤ 255) (by
  intro i s hi ⟨k1, k2⟩
  have ha := Xsj hb (i := i) (by omega)
  have hd := g2 i hi
  have br := Xn3 (n := g.getD i 0 + b.getD i 0) (a := 0) (b := 255) (by omega)
  unfold Xgw
  simp only [Int.toNat_natCast]
  rw [syA, rqA, rqA, wkA (e := g.getD i 0 + b.getD i 0), Xfn, Xab, Xav (by simp only [List.length_singleton]; omega), wkA (e := (i : Int) + 1)]
  refine ⟨_, rfl, by simp; omega, fun x hx => ?_⟩
  rcases List.mem_append.1 hx with hx | hx
  ·
   exact k2 x hx
  ·
   rw [List.mem_singleton.1 hx]; exact br) (by intro s; unfold Xgw; rw [Xas (by simp)]) [] ⟨rfl, fun x hx => by simp at hx⟩
 exact ⟨o, (Xc3 e).trans rfl, Yni h1 h2⟩
def Yat (e : Xnc) : Prop := (e.Above.length = 0 ∨ e.Above.length = 8) ∧ (e.Left.length = 0 ∨ e.Left.length = 8) ∧ (∀ x ∈ e.Above, 0 ≤ x ∧ x ≤ 255) ∧ (∀ x ∈ e.Left, 0 ≤ x ∧ x ≤ 255) ∧ -1 ≤ e.Corner ∧ e.Corner ≤ 255
theorem Yc3 {p : Pic} (ok : Xck p = true) (x y : Int) : Xdg p x y 8 8 = some (Xmr p x y) := by
 obtain ⟨k1, k2, k3⟩ := Xbu ok
 unfold Xdg Xmr
 rw [Xgb, Xab, ok, Xaq, Xai, Xab, Xai, Xab, wkA (e := p.Wide - 8), wkA (e := p.High - 8), Xai, Xab, Xai, Xab]
 simp only [Xcm, Xab]
 congr 1
 rw [Bool.eq_iff_iff]
 simp only [Bool.and_eq_true, decide_eq_true_eq]
 omega
theorem Xnl {p : Pic} (ok : Xck p = true) {x y : Int} (hx : x.tmod 8 = 0) (hy : y.tmod 8 = 0) (h : Xmr p x y = true) : Xpc p x y = some true := by
 unfold Xpc
 rw [rqA, hx, rqA, hy, Yc3 ok, Xab, h]
 rfl
theorem Ygg {p : Pic} (ok : Xck p = true) {x y : Int} (hx : x.tmod 8 = 0) (hy : y.tmod 8 = 0) (h : Xmr p x y = true) : ∃ e, Xm3 p x y = some (e, true) ∧ Yat e := by
 have hm : maxLen = 9223372036854775807 := rfl
 obtain ⟨k1, k2, k3⟩ := Xbu ok
 have h' := h
 unfold Xmr at h'
 rw [decide_eq_true_eq] at h'
 unfold Xm3
 rw [Xnl ok hx hy h, Xab, Bool.not_true, Xam]
 obtain ⟨o, e, o1, o2, o3, o4, o5, o6⟩ := Xff (f := Xfo p x y) 8 (fun i s => (y > 0 → s.1.length = i) ∧ (¬ y > 0 → s.1.length = 0) ∧ (x > 0 → s.2.length = i) ∧ (¬ x > 0 → s.2.length = 0) ∧ (∀ z ∈ s.1, 0 ≤ z ∧ z ≤ 255) ∧ (∀ z ∈ s.2, 0 ≤ z ∧ z ≤ 255)) (by
  intro i s hi ⟨g1, g2, g3, g4, g5, g6⟩
  obtain ⟨a, b⟩ := s
  simp only at g1 g2 g3 g4 g5 g6
  have d1 := Xqx p (x + i) (y - 1)
  have d2 := Xqx p (x - 1) (y + i)
  have st1 : ∃ a', (sel (decide (y > 0)) (bnd (Xh5 p (Xaa .i64 (x + (i : Int))) (Xaa .i64 (y - 1))) fun q16 => req ((a.length + ([q16]).length) * 8 ≤ 140737488355328 ∧ a.length + ([q16]).length ≤ maxLen) <| some (a ++ ([q16]))) (some a)) = some a' ∧ (y > 0 → a'.length = i + 1) ∧ (¬ y > 0 → a'.length = 0) ∧ (∀ z ∈ a', 0 ≤ z ∧ z ≤ 255) := by
   by_cases c : y > 0
   ·
    rw [Xa9 c, wkA (e := x + (i : Int)), wkA (e := y - 1), Xk2 ok, Xab, Xav (by simp only [List.length_singleton]; have := g1 c; omega)]
    refine ⟨_, rfl, fun _ => by simp; exact g1 c, fun hn => absurd c hn, fun z hz => ?_⟩
    rcases List.mem_append.1 hz with hz | hz
    ·
     exact g5 z hz
    ·
     rw [List.mem_singleton.1 hz]; exact d1
   ·
    rw [Xas c]
    exact ⟨_, rfl, fun hn => absurd hn c, fun _ => g2 c, g5⟩
  obtain ⟨a', ea, a1, a2, a3⟩ := st1
  have st2 : ∃ b', (sel (decide (x > 0)) (bnd (Xh5 p (Xaa .i64 (x - 1)) (Xaa .i64 (y + (i : Int)))) fun q17 => req ((b.length + ([q17]).length) * 8 ≤ 140737488355328 ∧ b.length + ([q17]).length ≤ maxLen) <| some (a', (b ++ ([q17])))) (some (a', b))) = some (a', b') ∧ (x > 0 → b'.length = i + 1) ∧ (¬ x > 0 → b'.length = 0) ∧ (∀ z ∈ b', 0 ≤ z ∧ z ≤ 255) := by
   by_cases c : x > 0
   ·
    rw [Xa9 c, wkA (e := y + (i : Int)), wkA (e := x - 1), Xk2 ok, Xab, Xav (by simp only [List.length_singleton]; have := g3 c; omega)]
    refine ⟨_, rfl, fun _ => by simp; exact g3 c, fun hn => absurd c hn, fun z hz => ?_⟩
    rcases List.mem_append.1 hz with hz | hz
    ·
     exact g6 z hz
    ·
     rw [List.mem_singleton.1 hz]; exact d2
   ·
    rw [Xas c]
    exact ⟨_, rfl, fun hn => absurd hn c, fun _ => g4 c, g6⟩
  obtain ⟨b', eb, b1, b2, b3⟩ := st2
  unfold Xfo
  simp only
  rw [syA, ea, Xab, eb, Xab, wkA (e := (i : Int) + 1)]
  exact ⟨(a', b'), rfl, a1, a2, b1, b2, a3, b3⟩) (by intro s; unfold Xfo; rw [Xas (by simp)]) ([], []) ⟨fun _ => rfl, fun _ => rfl, fun _ => rfl, fun _ => rfl, fun z hz => by simp at hz, fun z hz => by simp at hz⟩
 rw [e, Xab, Xcm, Xab]
 have d3 := Xqx p (x - 1) (y - 1)
 have ha : o.1.length = 0 ∨ o.1.length = 8 := by
  by_cases c : y > 0
  ·
   exact Or.inr (o1 c)
  ·
   exact Or.inl (o2 c)
 have hb : o.2.length = 0 ∨ o.2.length = 8 := by
  by_cases c : x > 0
  ·
   exact Or.inr (o3 c)
  ·
   exact Or.inl (o4 c)
 cases hc : (decide (x > 0) && decide (y > 0)) with
 | true =>
  rw [Xaq, wkA (e := x - 1), wkA (e := y - 1), Xk2 ok, Xab, Xab]
  exact ⟨_, rfl, ha, hb, o5, o6, by simp only; omega, by simp only; omega⟩
 | false =>
  rw [Xam, Xab]
  exact ⟨_, rfl, ha, hb, o5, o6, by simp only; omega, by simp only; omega⟩
theorem Xry (l : List Int) (hl : l.length = 0 ∨ l.length = 8) (h : ∀ x ∈ l, 0 ≤ x ∧ x ≤ 255) : Xpd l = some true := by
 unfold Xpd
 have hc : (sel ((l.length : Int) != 0) (some ((l.length : Int) != 8)) (some false)) = some false := by
  rcases hl with e | e
  ·
   rw [e]; rfl
  ·
   rw [e]; rfl
 rw [hc, Xab, Xam, Xqm l.length (f := Xlc l) (by
  intro i hi
  have := h (l.getD i 0) (by rw [Xb2 l i hi]; exact List.getElem_mem _)
  unfold Xlc
  rw [syA, rqA, Xai, Xab, Int.toNat_natCast, decide_eq_true this, Bool.not_true, Xam, wkA]
  rfl) (by unfold Xlc; rw [snA]), Xab]
theorem Xrt {e : Xnc} (h : Yat e) : Xsq e = some true := by
 obtain ⟨h1, h2, h3, h4, h5, h6⟩ := h
 unfold Xsq
 rw [Xry _ h1 h3, Xab, Xaq, Xry _ h2 h4, Xab, Xaq, Xai, Xab, decide_eq_true ⟨h5, h6⟩, Xab]
theorem Xqt (l : List Int) (k : Nat) (hk : k < 8) (hl : l.length = 0 ∨ l.length = 8) (h : ∀ x ∈ l, 0 ≤ x ∧ x ≤ 255) : ∃ x, Xfe l k = some x ∧ 0 ≤ x ∧ x ≤ 255 := by
 unfold Xfe
 rcases hl with e | e
 ·
  rw [Xbb (by rw [e]; rfl)]; exact ⟨_, rfl, by omega, by omega⟩
 ·
  rw [Xaz (by rw [e]; rfl), rqA, Int.toNat_natCast]
  exact ⟨_, rfl, h _ (by rw [Xb2 l k (by omega)]; exact List.getElem_mem _)⟩
theorem Xu6 {e : Xnc} (h : Yat e) : ∃ x, Xov e = some x ∧ 0 ≤ x ∧ x ≤ 255 := by
 obtain ⟨h1, h2, h3, h4, _, _⟩ := h
 unfold Xov
 rw [wkA (e := (e.Above.length : Int) + (e.Left.length : Int))]
 by_cases hz : (e.Above.length : Int) + (e.Left.length : Int) = 0
 ·
  rw [Xbb (by simpa using hz)]; exact ⟨_, rfl, by omega, by omega⟩
 ·
  rw [Xaz (by simpa using hz), rqA, Xbp (by omega), wkA (e := ((e.Above.length : Int) + (e.Left.length : Int)) / 2)]
  obtain ⟨a, ea, a1, a2⟩ := Xo1 (f := Xi4 e) e.Above.length (fun i s => 0 ≤ s ∧ s ≤ ((e.Above.length : Int) + (e.Left.length : Int)) / 2 + 255 * i) (by
   intro i s hi ⟨g1, g2⟩
   have := h3 (e.Above.getD i 0) (by rw [Xb2 _ i hi]; exact List.getElem_mem _)
   unfold Xi4
   simp only [Int.toNat_natCast]
   rw [syA, rqA, wkA (e := s + e.Above.getD i 0), wkA (e := (i : Int) + 1)]
   exact ⟨_, rfl, by omega, by omega⟩) (by intro s; unfold Xi4; rw [Xas (by simp)]) (((e.Above.length : Int) + (e.Left.length : Int)) / 2) ⟨by omega, by omega⟩
  obtain ⟨b, eb, b1, b2⟩ := Xo1 (f := Xi5 e) e.Left.length (fun i s => 0 ≤ s ∧ s ≤ ((e.Above.length : Int) + (e.Left.length : Int)) / 2 + 255 * e.Above.length + 255 * i) (by
   intro i s hi ⟨g1, g2⟩
   have := h4 (e.Left.getD i 0) (by rw [Xb2 _ i hi]; exact List.getElem_mem _)
   unfold Xi5
   simp only [Int.toNat_natCast]
   rw [syA, rqA, wkA (e := s + e.Left.getD i 0), wkA (e := (i : Int) + 1)]
   exact ⟨_, rfl, by omega, by omega⟩) (by intro s; unfold Xi5; rw [Xas (by simp)]) a ⟨by omega, by omega⟩
  rw [ea, Xab, eb, Xab, Xav hz, Xbp b1]
  have hn : (e.Above.length : Int) + (e.Left.length : Int) = 8 ∨ (e.Above.length : Int) + (e.Left.length : Int) = 16 := by omega
  have hr : 0 ≤ b / ((e.Above.length : Int) + (e.Left.length : Int)) ∧ b / ((e.Above.length : Int) + (e.Left.length : Int)) ≤ 255 := by
   rcases hn with hn | hn <;> rw [hn] <;> omega
  rw [wkA]
  exact ⟨_, rfl, hr⟩
theorem Ygk (m : Int) (hm0 : 0 ≤ m ∧ m ≤ 3) {e : Xnc} (h : Yat e) : ∃ g, Xj2 m e = some g ∧ Xn7 g = true := by
 have hm : maxLen = 9223372036854775807 := rfl
 have h' := h
 obtain ⟨h1, h2, h3, h4, h5, h6⟩ := h'
 obtain ⟨mid, em, m1, m2⟩ := Xu6 h
 unfold Xj2
 rw [Xrt h, Xab, Xaq, Xai, Xab, decide_eq_true hm0, Bool.not_true, Xab, Xam]
 have hc : ∃ v, sel (decide (e.Corner < 0)) (some (128 : Int)) (some e.Corner) = some v ∧ 0 ≤ v ∧ v ≤ 255 := by
  by_cases c : e.Corner < 0
  ·
   rw [Xa9 c]; exact ⟨_, rfl, by omega, by omega⟩
  ·
   rw [Xas c]; exact ⟨_, rfl, by omega, by omega⟩
 obtain ⟨v, ev, v1, v2⟩ := hc
 rw [ev, Xab]
 obtain ⟨o, eo, o1, o2⟩ := Xff (f := Xef m e v) 64 (fun i s => s.length = i ∧ ∀ x ∈ s, 0 ≤ x ∧ x ≤ 255) (by
  intro i s hi ⟨g1, g2⟩
  obtain ⟨a, ea, a1, a2⟩ := Xqt e.Above (i % 8) (by omega) h1 h3
  obtain ⟨b, eb, b1, b2⟩ := Xqt e.Left (i / 8) (by omega) h2 h4
  have br := Xn3 (n := b + a - v) (a := 0) (b := 255) (by omega)
  have put : ∀ z : Int, 0 ≤ z ∧ z ≤ 255 → (s ++ [z]).length = i + 1 ∧ ∀ x ∈ s ++ [z], 0 ≤ x ∧ x ≤ 255 := by
   intro z hz
   refine ⟨by simp; omega, fun x hx => ?_⟩
   rcases List.mem_append.1 hx with hx | hx
   ·
    exact g2 x hx
   ·
    rw [List.mem_singleton.1 hx]; exact hz
  unfold Xef
  simp only
  rw [syA, rqA, Xbq (by omega), show (i : Int) % 8 = ((i % 8 : Nat) : Int) by omega, ea, Xab, rqA, Xbp (by omega), wkA (e := (i : Int) / 8), show (i : Int) / 8 = ((i / 8 : Nat) : Int) by omega, eb, Xab, wkA (e := (i : Int) + 1), em]
  cases (m == 0) with
  | true =>
   rw [Xaq, Xab, Xav (by simp only [List.length_singleton]; omega), Xab]
   exact ⟨_, rfl, put _ ⟨m1, m2⟩⟩
  | false =>
   rw [Xam]
   cases (m == 1) with
   | true =>
    rw [Xaq, Xav (by simp only [List.length_singleton]; omega), Xab]
    exact ⟨_, rfl, put _ ⟨a1, a2⟩⟩
   | false =>
    rw [Xam]
    cases (m == 2) with
    | true =>
     rw [Xaq, Xav (by simp only [List.length_singleton]; omega), Xab]
     exact ⟨_, rfl, put _ ⟨b1, b2⟩⟩
    | false =>
     rw [Xam, wkA (e := b + a), wkA (e := b + a - v), Xfn, Xab, Xav (by simp only [List.length_singleton]; omega), Xab]
     exact ⟨_, rfl, put _ br⟩) (by intro s; unfold Xef; rw [Xas (by simp)]) [] ⟨rfl, fun x hx => by simp at hx⟩
 exact ⟨o, (Xc3 eo).trans rfl, Yni o1 o2⟩
theorem Yvz : Xm9 ⟨0, 0, 0, 0, []⟩ = true := rfl
theorem Ytd {m : Int} {l : List Int} (hm : 0 ≤ m ∧ m ≤ 3) (hl : Yhi l = true) : Xm9 ⟨2, m, 0, 0, l⟩ = true := by
 unfold Xm9
 simp only
 rw [if_neg (by omega), if_neg (by omega), if_pos trivial, hl, decide_eq_true hm]
 rfl
theorem Yo3 {dx dy : Int} {l : List Int} (hx : -16 ≤ dx ∧ dx ≤ 16) (hy : -16 ≤ dy ∧ dy ≤ 16) (hl : Yhi l = true) : Xm9 ⟨1, 0, dx, dy, l⟩ = true := by
 unfold Xm9
 simp only
 rw [if_neg (by omega), if_pos trivial, hl, decide_eq_true hx, decide_eq_true hy]
 rfl
theorem Yjk {p : Pic} {x y : Int} {d : List Int} (ok : Xck p = true) (h0 : Xmr p x y = true) (hd : Xn7 d = true) : ∃ p', Xl8 p x y d = some p' ∧ Xck p' = true ∧ p'.Wide = p.Wide ∧ p'.High = p.High := by
 have hm : maxLen = 9223372036854775807 := rfl
 obtain ⟨k1, k2, k3⟩ := Xbu ok
 have ar := Xd7 k1 k2
 unfold Xmr at h0
 rw [decide_eq_true_eq] at h0
 have hdl := (Xr6 hd).1
 have hn := Xap p.Dots
 unfold Xl8
 rw [rqA]
 obtain ⟨o, e, o1⟩ := Xff (f := Xg0 p x y d) 64 (fun _ s => s.length = p.Dots.size) (by
  intro i s hi g1
  have b1 : 0 ≤ (y + (i : Int) / 8) * p.Wide := Int.mul_nonneg (by omega) (by omega)
  have b2 : (y + (i : Int) / 8) * p.Wide ≤ (p.High - 1) * p.Wide := Int.mul_le_mul_of_nonneg_right (by omega) (by omega)
  have b3 : (p.High - 1) * p.Wide = p.Wide * p.High - p.Wide := by rw [Int.sub_mul, Int.one_mul, Int.mul_comm]
  unfold Xg0
  simp only
  rw [syA, rqA, rqA, rqA, Xbp (by omega), Xbq (by omega), wkA (e := (i : Int) / 8), wkA (e := y + (i : Int) / 8), wkA (e := (y + (i : Int) / 8) * p.Wide), wkA (e := (y + (i : Int) / 8) * p.Wide + x), wkA (e := (y + (i : Int) / 8) * p.Wide + x + (i : Int) % 8), rqA, rqA, wkA (e := (i : Int) + 1)]
  exact ⟨_, rfl, by rw [List.length_set]; exact g1⟩) (by intro s; unfold Xg0; rw [Xas (by simp)]) (Xal p.Dots) hn
 refine ⟨_, (Xc3 e).trans rfl, Xtm k1 k2 ?_, rfl, rfl⟩
 simp only
 rw [strOfNums_size]; omega
def Xrh (n : Int) : Bool := decide (n.tmod 8 = 0) && decide (8 ≤ n ∧ n ≤ 64)
theorem Xs7 (n : Int) : Xpf n = some (Xrh n) := by
 unfold Xpf Xrh
 rw [rqA, Xai, Xab, Xcm, Xab, Ydw]
theorem Yjm (l : List Xao) (c : Xfg) (hs : ∀ s ∈ l, Xm9 s = true) (hl : l.length ≤ 64) : Xox l c = some (strOfNums (Xke l c)) := by
 have hm : maxLen = 9223372036854775807 := rfl
 have kr : ∀ (r a : List Xao) (t : List Int), l = a ++ r → t.length ≤ 5265 * a.length → loop (Xi7 l c) ((a.length : Int), t) = some (t ++ Xke r c) := by
  intro r
  induction r with
  | nil =>
   intro a t ha _
   rw [List.append_nil] at ha
   exact Xbx (by unfold Xi7; simp only; rw [Xas (by rw [ha]; omega), Xke, List.append_nil])
  | cons s r ih =>
   intro a t ha ht
   have hlen : a.length < l.length := by rw [ha]; simp
   have hx : l.getD a.length Xbt = s := by rw [ha]; exact Xnr a s _ r
   have hok : Xm9 s = true := hs s (by rw [ha]; simp)
   have g := Yvy (c := c) hok
   have hn := ih (a ++ [s]) (t ++ sqL s c) (by rw [ha]; simp) (by simp only [List.length_append, List.length_singleton]; omega)
   rw [List.length_append, List.length_singleton] at hn
   rw [Xke, ← List.append_assoc, ← hn]
   refine Xg1 ?_
   unfold Xi7
   simp only [Int.toNat_natCast, hx]
   rw [syA, rqA, show (⟨s.Kind, s.Mode, s.Dx, s.Dy, s.Levels⟩ : Xao) = s from rfl, Yjj s c hok, Xab, Yde _ (Xkg (Yvx _ _)), rqA, wkA]
   rfl
 unfold Xox
 exact Xc3 (kr l [] [] rfl (by simp))
theorem Xv8 (c : Xa6) (hc : Xik c) : ∃ p c', Xgn c = some (p, c') ∧ Xky p = true ∧ Xik c' := by
 unfold Xgn
 obtain ⟨x, c1, e1, x0, x1, _, h1⟩ := Xbg c 41 hc
 obtain ⟨b, c2, e2, h2⟩ := Xcw c1 4 h1
 obtain ⟨y, c3, e3, y0, y1, _, h3⟩ := Xbg c2 3 h2
 have x1' := x1 (by omega)
 rw [e1, Xab]
 simp only
 rw [e2, Xab]
 simp only
 rw [e3, Xab]
 simp only
 have po : ∀ (l e f : Bool), (l && e) = false → Xky ⟨x, l, e, f⟩ = true := by
  intro l e f h
  unfold Xky
  rw [Bool.and_eq_true, decide_eq_true_eq]
  exact ⟨by simp only; omega, by simp only [h]; rfl⟩
 cases (y == 0) with
 | true => exact ⟨_, _, rfl, po _ _ _ rfl, h3⟩
 | false =>
  cases (y == 1) with
  | true => exact ⟨_, _, rfl, po _ _ _ rfl, h3⟩
  | false => exact ⟨_, _, rfl, po _ _ _ rfl, h3⟩
theorem Yln {V O : Type} {f g : V → Option (Lp V O)} (I : V → Prop) (h : ∀ v, I v → f v = g v) (hI : ∀ v v', I v → g v = some (.go v') → I v') : ∀ (k : Nat) (v : V), I v → it f k v = it g k v
 | 0, _, _ => rfl
 | k + 1, v, hv => by
  rw [it, it, h v hv]
  cases e : g v with
  | none => rfl
  | some s =>
   cases s with
   | go y => exact Yln I h hI k y (hI v y hv e)
   | done o => rfl
theorem Xzu {V O : Type} {f g : V → Option (Lp V O)} (I : V → Prop) (h : ∀ v, I v → f v = g v) (hI : ∀ v v', I v → g v = some (.go v') → I v') {v : V} (hv : I v) : loop f v = loop g v := by
 apply Option.ext
 intro o
 rw [Xii, Xii]
 exact ⟨fun ⟨k, hk⟩ => ⟨k, by rw [← Yln I h hI k v hv]; exact hk⟩, fun ⟨k, hk⟩ => ⟨k, by rw [Yln I h hI k v hv]; exact hk⟩⟩
theorem Yp6 {V O : Type} {f : V → Option (Lp V O)} {v : V} {o : O} (k : Nat) (h : it f k v = some o) : loop f v = some o := Xii.2 ⟨k, h⟩
theorem Yfs {a b : List Int} {n : Nat} (ha : a.length = n) (hb : b.length = n) (h : ∀ i : Nat, i < n → a.getD i 0 = b.getD i 0) : a = b := by
 apply List.ext_getElem (by omega)
 intro i h1 h2
 have := h i (by omega)
 rwa [Xb2 a i h1, Xb2 b i h2] at this
theorem Xjc {n : Nat} (g : Nat → Int) {i : Nat} (h : i < n) : ((List.range n).map g).getD i 0 = g i := by
 rw [Xb2 _ i (by simpa using h)]; simp
theorem Ywo {α : Type} {f : Int × List α → Option (Lp (Int × List α) (List α))} (n : Nat) (g : Nat → α) (a : List α) (hs : ∀ i : Nat, i < n → f ((i : Int), a ++ (List.range i).map g) = some (.go (((i + 1 : Nat) : Int), a ++ (List.range i).map g ++ [g i]))) (he : f ((n : Int), a ++ (List.range n).map g) = some (.done (a ++ (List.range n).map g))) : loop f (0, a) = some (a ++ (List.range n).map g) := by
 have key : ∀ i : Nat, i ≤ n → loop f ((i : Int), a ++ (List.range i).map g) = some (a ++ (List.range n).map g) := by
  refine Xc1 _ (Xbx he) ?_
  intro i hi ih
  refine lgo (hs i hi) ?_
  rw [List.append_assoc, show (List.range i).map g ++ [g i] = (List.range (i + 1)).map g by simp [List.range_succ]]
  exact ih
 have := key 0 (by omega)
 simpa using this
theorem Xie {S : Type} {f : Int × S → Option (Lp (Int × S) S)} (n : Nat) (I : Nat → S → Prop) (hs : ∀ (i : Nat) (l : S), i < n → I i l → ∃ l', f ((i : Int), l) = some (.go (((i + 1 : Nat) : Int), l')) ∧ I (i + 1) l') (he : ∀ l, I n l → f ((n : Int), l) = some (.done l)) (l0 : S) (h0 : I 0 l0) : ∃ o, loop f (0, l0) = some o ∧ I n o := by
 have key : ∀ i : Nat, i ≤ n → ∀ l, I i l → ∃ o, loop f ((i : Int), l) = some o ∧ I n o := by
  refine Xc1 _ ?_ ?_
  ·
   intro l h; exact ⟨l, Xbx (he l h), h⟩
  ·
   intro i hi ih l h
   obtain ⟨l', e, h'⟩ := hs i l hi h
   obtain ⟨o, e2, h2⟩ := ih l' h'
   exact ⟨o, lgo e e2, h2⟩
 exact key 0 (by omega) l0 h0
theorem Ys2 {f : Int × List Int → Option (Lp (Int × List Int) (List Int))} (n : Nat) (g : Nat → Int) (l : List Int) (hl : l.length = n) (hs : ∀ (i : Nat) (s : List Int), i < n → s.length = n → s.getD i 0 = l.getD i 0 → f ((i : Int), s) = some (.go (((i + 1 : Nat) : Int), s.set i (g i)))) (he : ∀ s : List Int, s.length = n → f ((n : Int), s) = some (.done s)) : loop f (0, l) = some ((List.range n).map g) := by
 obtain ⟨o, e, h1, h2, _⟩ := Xie (f := f) n (fun i s => s.length = n ∧ (∀ j, j < i → s.getD j 0 = g j) ∧ ∀ j, i ≤ j → s.getD j 0 = l.getD j 0) (by
  intro i s hi ⟨g1, g2, g3⟩
  refine ⟨_, hs i s hi g1 (g3 i (Nat.le_refl _)), by rw [List.length_set]; exact g1, fun j hj => ?_, fun j hj => ?_⟩
  ·
   rw [Xf7 s i j _ (by omega)]
   by_cases h : i = j
   ·
    rw [if_pos h, h]
   ·
    rw [if_neg h]; exact g2 j (by omega)
  ·
   rw [Xf7 s i j _ (by omega), if_neg (by omega)]; exact g3 j (by omega)) (fun s hs => he s hs.1) l ⟨hl, fun j hj => by omega, fun _ _ => rfl⟩
 rw [e]
 congr 1
 exact Yfs h1 (by simp) fun i hi => by rw [h2 i hi, Xjc g hi]
theorem Ypt : Xn6 = Xd6 := rfl
theorem Yiz (qp : Int) (h0 : 0 ≤ qp ∧ qp ≤ 40) : Xl4 qp = some (Xoz qp) := by
 have h := Yv0 ⟨qp.toNat, by omega⟩
 simp only at h
 rw [show ((qp.toNat : Nat) : Int) = qp by omega] at h
 unfold Xl4
 rw [Xai, Xab, decide_eq_true (by omega), Bool.not_true, Xam, rqA]
 have hb : (sel ((qp.tmod 6) == 0) (some (10 : Int)) (sel ((qp.tmod 6) == 1) (some 11) (sel ((qp.tmod 6) == 2) (some 13) (sel ((qp.tmod 6) == 3) (some 14) (sel ((qp.tmod 6) == 4) (some 16) (some 18)))))) = some (Xrk qp) := by
  unfold Xrk
  simp only [Yl8, beq_iff_eq]
  repeat' split
  all_goals rfl
 rw [hb, Xab]
 unfold Xoz at h ⊢
 cases e : it (Xmm qp) 10 (Xrk qp, 0) with
 | none => rw [e] at h; simp only at h; omega
 | some q => rw [Xii.2 ⟨10, e⟩, Xab]
theorem Ylj : ∀ q : Fin 41, Xlo (q.val : Int) = some (Xoz (q.val : Int)) := by decide +kernel
theorem Yh8 (qp : Int) (h0 : 0 ≤ qp ∧ qp ≤ 40) : Xlo qp = some (Xoz qp) := by
 have := Ylj ⟨qp.toNat, by omega⟩
 simp only at this
 rwa [show ((qp.toNat : Nat) : Int) = qp by omega] at this
theorem Ym0 (qp : Int) (h0 : 0 ≤ qp ∧ qp ≤ 40) : Xlo qp = Xl4 qp := by rw [Yh8 qp h0, Yiz qp h0]
theorem Xu3 (u v : Nat) (hu : u < 8) (hv : v < 8) : Xl2 u v = some (Xiw u v) := by
 have h := Yvq ⟨u, hu⟩ ⟨v, hv⟩
 simp only at h
 unfold Xl2
 rw [Xai, Xab, decide_eq_true (by omega), Xaq, Xai, Xab, decide_eq_true (by omega), Bool.not_true, Xab, Xam]
 unfold Xiw at h ⊢
 cases e : it Xml 10 (1, (IntKind.wrap .i64 (BitVec.ofInt (IntKind.bits .i64) (u : Int) &&& BitVec.ofInt (IntKind.bits .i64) (v : Int)).toNat)) with
 | none => rw [e] at h; simp only at h; omega
 | some q => rw [Xii.2 ⟨10, e⟩, Xab]
theorem Yli : ∀ u v : Fin 8, Xln (u.val : Int) (v.val : Int) = some (Xiw (u.val : Int) (v.val : Int)) := by decide +kernel
theorem Yap (u v : Nat) (hu : u < 8) (hv : v < 8) : Xln u v = some (Xiw u v) := Yli ⟨u, hu⟩ ⟨v, hv⟩
def Yl7 (qp p : Int) : Option Int :=
 bnd (Xri p) fun q1 => bnd (Xce q1 10 16 13) fun a1 => bnd (Xce q1 11 18 14) fun a2 => bnd (Xce q1 13 20 16) fun a3 => bnd (Xce q1 14 23 18) fun a4 => bnd (Xce q1 16 25 20) fun a5 => bnd (Xce q1 18 29 23) fun a6 =>
 it (Xfr qp) 10 ((sel (qp.tmod 6 == 0) a1 (sel (qp.tmod 6 == 1) a2 (sel (qp.tmod 6 == 2) a3 (sel (qp.tmod 6 == 3) a4 (sel (qp.tmod 6 == 4) a5 (sel (qp.tmod 6 == 5) a6 0)))))), 0)
theorem Yvm : ∀ q : Fin 41, ∀ p : Fin 16, (Yl7 (q.val : Int) (p.val : Int)).isSome = true ∧ Xmw (q.val : Int) (p.val : Int) = Yl7 (q.val : Int) (p.val : Int) := by decide +kernel
theorem Ykl (qp p : Int) (h0 : 0 ≤ qp ∧ qp ≤ 40) (hp : 0 ≤ p ∧ p ≤ 15) : Xmw qp p = Xm5 qp p := by
 have := Yvm ⟨qp.toNat, by omega⟩ ⟨p.toNat, by omega⟩
 simp only at this
 rw [show ((qp.toNat : Nat) : Int) = qp by omega, show ((p.toNat : Nat) : Int) = p by omega] at this
 obtain ⟨h1, h2⟩ := this
 rw [h2]
 cases e : Yl7 qp p with
 | none => rw [e] at h1; cases h1
 | some o =>
  unfold Yl7 at e
  unfold Xm5
  obtain ⟨k, ek, k0, k1⟩ := Xu2 p hp
  rw [ek, Xab] at e ⊢
  rw [Xai, Xab, decide_eq_true h0, Xaq, decide_eq_false (by omega), Xab, Xam, rqA]
  obtain ⟨a1, e1, b1⟩ := Xb5 k 10 16 13
  obtain ⟨a2, e2, b2⟩ := Xb5 k 11 18 14
  obtain ⟨a3, e3, b3⟩ := Xb5 k 13 20 16
  obtain ⟨a4, e4, b4⟩ := Xb5 k 14 23 18
  obtain ⟨a5, e5, b5⟩ := Xb5 k 16 25 20
  obtain ⟨a6, e6, b6⟩ := Xb5 k 18 29 23
  rw [e1, e2, e3, e4, e5, e6] at e ⊢
  simp only [Xab, Yvp] at e ⊢
  rw [Yp6 10 e, Xab]
def Xql (n : Int) (v16 : Int × List Int) : Option (Lp (Int × List Int) (List Int)) :=
 sel (decide (v16.1 ≤ (Xaa .i64 ((Xaa .i64 (2 * n)) - 2)))) (
 bnd (it (Xkr n v16) 20 (0, v16.2)) fun v42 =>
 some (.go (Xaa .i64 (v16.1 + 1), v42))) (
 some (.done v16.2))
theorem Yo1 {n : Int} {v : Int × List Int} {x : Lp (Int × List Int) (List Int)} (h : Xql n v = some x) : Xg2 n v = some x := by
 unfold Xql at h
 unfold Xg2
 rcases Xrg h with ⟨hb, h⟩ | ⟨hb, h⟩
 ·
  rw [hb, Xaq]
  obtain ⟨a, h1, h2⟩ := Xb6 h
  rw [Xii.2 ⟨20, h1⟩, Xab]
  exact h2
 ·
  rw [hb, Xam]; exact h
def Yil (n : Int) : List Int := (it (Xql n) 20 (0, [])).getD []
theorem Yzw : (it (Xql 4) 20 (0, [])).isSome = true ∧ (Yil 4).length = 16 := by decide +kernel
theorem Yzx : (it (Xql 8) 20 (0, [])).isSome = true ∧ (Yil 8).length = 64 := by decide +kernel
theorem Yvn : ∀ i : Fin 16, (Yil 4).getD i.val 0 = Xhf 4 (i.val : Int) := by decide +kernel
theorem Yvo : ∀ i : Fin 64, (Yil 8).getD i.val 0 = Xhf 8 (i.val : Int) := by decide +kernel
theorem Xzo (n : Int) (hn : n = 4 ∨ n = 8) : Xit n = some (Yil n) ∧ ((Yil n).length : Int) = n * n ∧ ∀ i : Nat, (i : Int) < n * n → (Yil n).getD i 0 = Xhf n i := by
 have h : (it (Xql n) 20 (0, [])).isSome = true ∧ ((Yil n).length : Int) = n * n := by
  rcases hn with rfl | rfl
  ·
   have := Yzw; exact ⟨this.1, by omega⟩
  ·
   have := Yzx; exact ⟨this.1, by omega⟩
 refine ⟨?_, h.2, fun i hi => ?_⟩
 ·
  obtain ⟨o, ho⟩ := Option.isSome_iff_exists.1 h.1
  have hl := Yp6 20 (Yxa (fun v y => Yo1 (n := n)) 20 _ ho)
  unfold Xit
  rw [hl, Xab]
  unfold Yil; rw [ho]; rfl
 ·
  rcases hn with rfl | rfl
  ·
   exact Yvn ⟨i, by omega⟩
  ·
   exact Yvo ⟨i, by omega⟩
theorem Xr0 (n : Int) (hn : n = 4 ∨ n = 8) (l : List Int) (hl : (l.length : Int) = n * n) : Xe5 n l = Xfa n l := by
 obtain ⟨e, h1, h2⟩ := Xzo n hn
 have hw : Xaa .i64 (n * n) = n * n := by rcases hn with rfl | rfl <;> exact wkA
 have hn2 : n * n ≤ 64 := by rcases hn with rfl | rfl <;> omega
 unfold Xe5 Xfa
 rw [e]
 have : loop (Xh0 l (Yil n)) (0, List.replicate (l.length : Int).toNat 0) = loop (Xc7 n l) (0, List.replicate (l.length : Int).toNat 0) := by
  refine Xzu (fun v => (∃ i : Nat, v.1 = (i : Int) ∧ i ≤ l.length) ∧ v.2.length = l.length) ?_ ?_ ⟨⟨0, rfl, by omega⟩, by simp⟩
  ·
   intro ⟨i, s⟩ ⟨⟨k, ek, hk⟩, hs⟩
   simp only at hs ek
   subst ek
   unfold Xh0 Xc7
   simp only [Int.toNat_natCast]
   rw [hw]
   by_cases hi : (k : Int) < n * n
   ·
    have hp := Xo9 n hn k hi
    have h3 := h2 k hi
    simp only [h3]
    rw [syA, Xa9 hi, Xpt n hn k hi, Xab, rqA, rqA]
   ·
    rw [snA, Xas hi]
  ·
   intro ⟨i, s⟩ v' ⟨⟨k, ek, hk⟩, hs⟩ he
   simp only at hs ek
   subst ek
   unfold Xc7 at he
   simp only [Int.toNat_natCast] at he
   rw [hw] at he
   by_cases hi : (k : Int) < n * n
   ·
    have hp := Xo9 n hn k hi
    rw [Xa9 hi, Xpt n hn k hi, Xab, rqA, rqA, rqA, wkA] at he
    cases he
    exact ⟨⟨k + 1, rfl, by omega⟩, by rw [List.length_set]; exact hs⟩
   ·
    rw [Xas hi] at he; cases he
 simp only [Xab, this]
def Ymp (t : Nat → Int) : Nat → Int
 | 0 => 0
 | k + 1 => Xaa .i64 (Ymp t k + t k)
def Yzs (p : List Int) (i v k : Nat) : Int := Xaa .i64 (Xiw v k * p.getD (8 * i + k) 0)
def Yy8 (p : List Int) (u v k : Nat) : Int := Xaa .i64 (Xiw u k * p.getD (8 * k + v) 0)
def Xr8 (p : List Int) : List Int := (List.range 64).map fun j => Ymp (Yzs p (j / 8) (j % 8)) 8
def Yth (p : List Int) : List Int := (List.range 64).map fun j => Ymp (Yy8 (Xr8 p) (j / 8) (j % 8)) 8
theorem Yns (p : List Int) : (Xr8 p).length = 64 := by simp [Xr8]
theorem Yv2 (p : List Int) : (Yth p).length = 64 := by simp [Yth]
theorem Yo7 {f1 : Int × List Int → Option (Lp (Int × List Int) (List Int))} {f2 : Int × List Int → Int × List Int → Option (Lp (Int × List Int) (List Int))} {f3 : Int × List Int → Int × List Int → Int × List Int → Option (Lp (Int × List Int) (List Int))} (t : Nat → Nat → Nat → Int)
  (h1 : ∀ v, f1 v = sel (decide (v.1 < 8)) (bnd (loop (f2 v) (0, v.2)) fun w => some (.go (Xaa .i64 (v.1 + 1), w))) (some (.done v.2)))
  (h2 : ∀ v w, f2 v w = sel (decide (w.1 < 8)) (bnd (loop (f3 v w) (0, w.2)) fun x => some (.go (Xaa .i64 (w.1 + 1), x))) (some (.done w.2)))
  (h3 : ∀ (i v k : Nat) (a b s : List Int), i < 8 → v < 8 → k < 8 → s.length = 64 → f3 ((i : Int), a) ((v : Int), b) ((k : Int), s) = some (.go (((k + 1 : Nat) : Int), s.set (8 * i + v) (Xaa .i64 (s.getD (8 * i + v) 0 + t i v k)))))
  (h4 : ∀ (i v : Nat) (a b s : List Int), f3 ((i : Int), a) ((v : Int), b) (8, s) = some (.done s)) : loop f1 (0, List.replicate 64 0) = some ((List.range 64).map fun j => Ymp (t (j / 8) (j % 8)) 8) := by
 obtain ⟨o, e, o1, o2, _⟩ := Xie (f := f1) 8 (fun i s => s.length = 64 ∧ (∀ j, j < 8 * i → s.getD j 0 = Ymp (t (j / 8) (j % 8)) 8) ∧ ∀ j, 8 * i ≤ j → s.getD j 0 = 0) (by
  intro i s hi ⟨g1, g2, g3⟩
  obtain ⟨r, er, r1, r2, r3⟩ := Xie (f := f2 ((i : Int), s)) 8 (fun v s => s.length = 64 ∧ (∀ j, j < 8 * i + v → s.getD j 0 = Ymp (t (j / 8) (j % 8)) 8) ∧ ∀ j, 8 * i + v ≤ j → s.getD j 0 = 0) (by
   intro v s' hv ⟨k1, k2, k3⟩
   obtain ⟨q, eq, q1, q2, q3⟩ := Xie (f := f3 ((i : Int), s) ((v : Int), s')) 8 (fun k s => s.length = 64 ∧ (∀ j, j ≠ 8 * i + v → s.getD j 0 = s'.getD j 0) ∧ s.getD (8 * i + v) 0 = Ymp (t i v) k) (by
    intro k s'' hk ⟨m1, m2, m3⟩
    refine ⟨_, h3 i v k s s' s'' hi hv hk m1, by rw [List.length_set]; exact m1, fun j hj => ?_, ?_⟩
    ·
     rw [Xf7 _ _ _ _ (by omega), if_neg (fun h => hj h.symm)]; exact m2 j hj
    ·
     rw [Xf7 _ _ _ _ (by omega), if_pos rfl, m3]; rfl) (fun z _ => h4 i v s s' z) s' ⟨k1, fun _ _ => rfl, by rw [k3 _ (Nat.le_refl _)]; rfl⟩
   refine ⟨q, by rw [h2, Xa9 (by simp only; omega), eq, Xab, wk (by simp only; omega) (by simp only; omega)]; rfl, q1, fun j hj => ?_, fun j hj => ?_⟩
   ·
    by_cases h : j = 8 * i + v
    ·
     rw [h, q3, show (8 * i + v) / 8 = i by omega, show (8 * i + v) % 8 = v by omega]
    ·
     rw [q2 j h]; exact k2 j (by omega)
   ·
    rw [q2 j (by omega)]; exact k3 j (by omega)) (fun z _ => by rw [h2, Xas (by simp)]) s ⟨g1, g2, g3⟩
  refine ⟨r, by rw [h1, Xa9 (by simp only; omega), er, Xab, wk (by simp only; omega) (by simp only; omega)]; rfl, r1, fun j hj => r2 j (by omega), fun j hj => r3 j (by omega)⟩) (fun z _ => by rw [h1, Xas (by simp)]) (List.replicate 64 0) ⟨by simp, fun j hj => by omega, fun j _ => by
   by_cases h : j < 64
   ·
    rw [Xb2 _ _ (by rw [List.length_replicate]; exact h)]; exact List.getElem_replicate ..
   ·
    rw [List.getD_eq_getElem?_getD, List.getElem?_eq_none (by rw [List.length_replicate]; omega)]; rfl⟩
 rw [e]
 congr 1
 exact Yfs o1 (by simp) fun j hj => by rw [o2 j (by omega), Xjc (fun j => Ymp (t (j / 8) (j % 8)) 8) hj]
theorem Yn2 (p : List Int) (hp : p.length = 64) : Xsi p = some (Yth p) := by
 unfold Xsi
 rw [rqA]
 have e1 : loop (Xq6 p) (0, List.replicate (64 : Int).toNat 0) = some (Xr8 p) :=
  Yo7 (f2 := Xq7 p) (f3 := Xkt p) (fun i v k => Yzs p i v k) (fun _ => rfl) (fun _ _ => rfl) (fun i v k a b s hi hv hk hs => by
   unfold Xkt
   simp only
   rw [syA, wkA (e := 8 * (i : Int)), wkA (e := 8 * (i : Int) + (v : Int)), wkA (e := 8 * (i : Int) + (k : Int)), rqA, rqA, Yap v k hv hk, Xab, rqA, rqA, rqA, wkA (e := (k : Int) + 1), show (8 * (i : Int) + (v : Int)).toNat = 8 * i + v by omega, show (8 * (i : Int) + (k : Int)).toNat = 8 * i + k by omega]
   rfl) (fun i v a b s => by unfold Xkt; rw [Xas (by simp)])
 have e2 : loop (Xpm (Xr8 p)) (0, List.replicate (64 : Int).toNat 0) = some (Yth p) :=
  Yo7 (f2 := Xpn (Xr8 p)) (f3 := Xiu (Xr8 p)) (fun i v k => Yy8 (Xr8 p) i v k) (fun _ => rfl) (fun _ _ => rfl) (fun i v k a b s hi hv hk hs => by
   have hl := Yns p
   unfold Xiu
   simp only
   rw [syA, wkA (e := 8 * (i : Int)), wkA (e := 8 * (i : Int) + (v : Int)), wkA (e := 8 * (k : Int)), wkA (e := 8 * (k : Int) + (v : Int)), rqA, rqA, Yap i k hi hk, Xab, rqA, rqA, rqA, rqA, wkA (e := (k : Int) + 1), show (8 * (i : Int) + (v : Int)).toNat = 8 * i + v by omega, show (8 * (k : Int) + (v : Int)).toNat = 8 * k + v by omega]
   rfl) (fun i v a b s => by unfold Xiu; rw [Xas (by simp)])
 rw [e1, Xab, rqA, e2, Xab]
theorem Yjg (p : List Int) (hp : p.length = 64) (i v : Nat) (hi : i < 8) (hv : v < 8) : Xou p i v = some (Ymp (Yzs p i v) 8) := by
 obtain ⟨o, e, h⟩ := Xo1 (f := Xfd p i v) 8 (fun k s => s = Ymp (Yzs p i v) k) (by
  intro k s hk g
  subst g
  unfold Xfd
  simp only
  rw [syA, wkA (e := 8 * (i : Int)), wkA (e := 8 * (i : Int) + (k : Int)), rqA, Xu3 v k hv hk, Xab, wkA (e := (k : Int) + 1), show (8 * (i : Int) + (k : Int)).toNat = 8 * i + k by omega, Int.mul_comm (p.getD _ _)]
  exact ⟨_, rfl, rfl⟩) (by intro s; unfold Xfd; rw [Xas (by simp)]) 0 rfl
 unfold Xou
 rw [e, Xab, h]
theorem Yg2 (p : List Int) (hp : p.length = 64) : Xm7 p = some (Yth p) := by
 have hm : maxLen = 9223372036854775807 := rfl
 unfold Xm7
 obtain ⟨o, e, ho⟩ := Xff (f := Xdu p) 8 (fun i s => s = (List.range (8 * i)).map fun j => Ymp (Yzs p (j / 8) (j % 8)) 8) (by
  intro i s hi g
  subst g
  obtain ⟨r, er, hr⟩ := Xff (f := Xdv p ((i : Int), (List.range (8 * i)).map fun j => Ymp (Yzs p (j / 8) (j % 8)) 8)) 8 (fun v s => s = (List.range (8 * i + v)).map fun j => Ymp (Yzs p (j / 8) (j % 8)) 8) (by
   intro v s hv g
   subst g
   unfold Xdv
   simp only
   rw [syA, Yjg p hp i v hi hv, Xab, Xav (by simp only [List.length_singleton, List.length_map, List.length_range]; omega), wkA (e := (v : Int) + 1)]
   refine ⟨_, rfl, ?_⟩
   rw [show 8 * i + (v + 1) = (8 * i + v) + 1 by omega, List.range_succ, List.map_append, List.map_singleton, show (8 * i + v) / 8 = i by omega, show (8 * i + v) % 8 = v by omega]) (by intro s; unfold Xdv; rw [Xas (by simp)]) _ rfl
  rw [Nat.add_zero] at er
  unfold Xdu
  simp only
  rw [syA, er, Xab, wkA (e := (i : Int) + 1)]
  exact ⟨_, rfl, by rw [hr, show 8 * (i + 1) = 8 * i + 8 by omega]⟩) (by intro s; unfold Xdu; rw [Xas (by simp)]) [] rfl
 have ho' : o = Xr8 p := by rw [ho]; rfl
 rw [e, Xab, ho']
 obtain ⟨o2, e2, ho2⟩ := Xff (f := Xc8 (Xr8 p)) 8 (fun i s => s = (List.range (8 * i)).map fun j => Ymp (Yy8 (Xr8 p) (j / 8) (j % 8)) 8) (by
  intro i s hi g
  subst g
  obtain ⟨r, er, hr⟩ := Xff (f := Xc9 (Xr8 p) ((i : Int), (List.range (8 * i)).map fun j => Ymp (Yy8 (Xr8 p) (j / 8) (j % 8)) 8)) 8 (fun v s => s = (List.range (8 * i + v)).map fun j => Ymp (Yy8 (Xr8 p) (j / 8) (j % 8)) 8) (by
   intro v s hv g
   obtain ⟨c, ec, hc⟩ := Xo1 (f := Xda (Xr8 p) ((i : Int), (List.range (8 * i)).map fun j => Ymp (Yy8 (Xr8 p) (j / 8) (j % 8)) 8) ((v : Int), s)) 8 (fun k x => x = Ymp (Yy8 (Xr8 p) i v) k) (by
    intro k x hk g
    subst g
    have hl := Yns p
    unfold Xda
    simp only
    rw [syA, Xu3 i k hi hk, Xab, wkA (e := 8 * (k : Int)), wkA (e := 8 * (k : Int) + (v : Int)), rqA, rqA, wkA (e := (k : Int) + 1), show (8 * (k : Int) + (v : Int)).toNat = 8 * k + v by omega]
    exact ⟨_, rfl, rfl⟩) (by intro s; unfold Xda; rw [Xas (by simp)]) 0 rfl
   subst g
   unfold Xc9
   simp only
   rw [syA, ec, Xab, Xav (by simp only [List.length_singleton, List.length_map, List.length_range]; omega), wkA (e := (v : Int) + 1)]
   refine ⟨_, rfl, ?_⟩
   rw [hc, show 8 * i + (v + 1) = (8 * i + v) + 1 by omega, List.range_succ, List.map_append, List.map_singleton, show (8 * i + v) / 8 = i by omega, show (8 * i + v) % 8 = v by omega]) (by intro s; unfold Xc9; rw [Xas (by simp)]) _ rfl
  rw [Nat.add_zero] at er
  unfold Xc8
  simp only
  rw [syA, er, Xab, wkA (e := (i : Int) + 1)]
  exact ⟨_, rfl, by rw [hr, show 8 * (i + 1) = 8 * i + 8 by omega]⟩) (by intro s; unfold Xc8; rw [Xas (by simp)]) [] rfl
 rw [e2, Xab, ho2]
 rfl
theorem Ydu (l : List Int) (n B : Int) (hn : (l.length : Int) = n) (hn2 : n ≤ 1000000) (h : inB B l) : Xd9 l n (-B) B = some true := by
 rw [Xnt l n (-B) B (by omega), hn, beq_self_eq_true, Bool.and_true]
 congr 1
 rw [List.all_eq_true]
 intro x hx
 rw [decide_eq_true_eq]; exact h x hx
theorem Xyc (o : List Int) {f : Int × List Int → Option (Lp (Int × List Int) (List Int))} (n : Nat) (hn : n ≤ 64) (hl : o.length = n) (hf : ∀ v : Int × List Int, f v = sel (decide (v.1 < (n : Int))) (req (0 ≤ v.1 ∧ v.1 < v.2.length) <| req (v.1.toNat < v.2.length) <| bnd (Xd6 (Xaa .i64 ((v.2.getD v.1.toNat 0) + 32)) 64) fun q => req (0 ≤ v.1 ∧ v.1 < v.2.length) <| req (v.1.toNat < v.2.length) <| some (.go (Xaa .i64 (v.1 + 1), (v.2.set v.1.toNat q)))) (some (.done v.2))) : bnd (Xjx o) (fun q => some q.2) = bnd (loop f (0, o)) fun q => some q := by
 unfold Xjx
 have : Xof o = f := by
  funext v
  rw [hf, ← hl]; rfl
 rw [this]
 cases loop f (0, o) <;> rfl
theorem Ydj (p : List Int) (hl : p.length = 64) (hb : inB 10000000 p) : Xio p = Xiy p := by
 unfold Xio Xiy
 rw [Ydu p 64 10000000 (by omega) (by omega) hb, Xjz p 64 10000000 (by omega) (by omega) (by omega) hb, Xab, Xab, Bool.not_true, Xam, Xam, Yn2 p hl, Yg2 p hl, Xab, Xab]
 exact Xyc (Yth p) 64 (by omega) (Yv2 p) (fun _ => rfl)
def tgA (q : Int → Int → Int → Int → Option (Int × Int × Int × Int)) (v4 : (Int × (List Int))) : Option (Lp (Int × (List Int)) (List Int)) :=
 sel (decide (v4.1 < 16)) (
 req (0 ≤ v4.1 ∧ v4.1 < v4.2.length) <|
 req (v4.1.toNat < v4.2.length) <|
 req (0 ≤ (Xaa .i64 (v4.1 + 1)) ∧ (Xaa .i64 (v4.1 + 1)) < v4.2.length) <|
 req ((Xaa .i64 (v4.1 + 1)).toNat < v4.2.length) <|
 req (0 ≤ (Xaa .i64 (v4.1 + 2)) ∧ (Xaa .i64 (v4.1 + 2)) < v4.2.length) <|
 req ((Xaa .i64 (v4.1 + 2)).toNat < v4.2.length) <|
 req (0 ≤ (Xaa .i64 (v4.1 + 3)) ∧ (Xaa .i64 (v4.1 + 3)) < v4.2.length) <|
 req ((Xaa .i64 (v4.1 + 3)).toNat < v4.2.length) <|
 bnd (q (v4.2.getD v4.1.toNat 0) (v4.2.getD ((Xaa .i64 (v4.1 + 1)).toNat) 0) (v4.2.getD ((Xaa .i64 (v4.1 + 2)).toNat) 0) (v4.2.getD ((Xaa .i64 (v4.1 + 3)).toNat) 0)) fun q8 =>
 req (0 ≤ v4.1 ∧ v4.1 ≤ (Xaa .i64 (v4.1 + 4)) ∧ (Xaa .i64 (v4.1 + 4)) ≤ (v4.2.length : Int)) <|
 req ((v4.1.toNat + ((Xaa .i64 (v4.1 + 4)).toNat - v4.1.toNat) ≤ v4.2.length ∧ ([q8.1, q8.2.1, q8.2.2.1, q8.2.2.2]).length ≤ ((Xaa .i64 (v4.1 + 4)).toNat - v4.1.toNat))) <|
 some (.go (Xaa .i64 (v4.1 + 4), (over v4.2 v4.1.toNat ([q8.1, q8.2.1, q8.2.2.1, q8.2.2.2]))))) (
 some (.done v4.2))
def tgB (v17 : (Int × (List Int))) (q26 : (Int × Int × Int × Int)) (v28 : (Int × (List Int))) : Option (Lp (Int × (List Int)) (List Int)) :=
 sel (decide (v28.1 < 4)) (
 req (0 ≤ v28.1 ∧ v28.1 < ([q26.1, q26.2.1, q26.2.2.1, q26.2.2.2] : List Int).length) <|
 req (0 ≤ (Xaa .i64 (v17.1 + (Xaa .i64 (4 * v28.1)))) ∧ (Xaa .i64 (v17.1 + (Xaa .i64 (4 * v28.1)))) < v28.2.length) <|
 req ((Xaa .i64 (v17.1 + (Xaa .i64 (4 * v28.1)))).toNat < v28.2.length) <|
 some (.go (Xaa .i64 (v28.1 + 1), (v28.2.set ((Xaa .i64 (v17.1 + (Xaa .i64 (4 * v28.1)))).toNat) (([q26.1, q26.2.1, q26.2.2.1, q26.2.2.2] : List Int).getD v28.1.toNat 0))))) (
 some (.done v28.2))
noncomputable def tgC (q : Int → Int → Int → Int → Option (Int × Int × Int × Int)) (v17 : (Int × (List Int))) : Option (Lp (Int × (List Int)) (List Int)) :=
 sel (decide (v17.1 < 4)) (
 req (0 ≤ v17.1 ∧ v17.1 < v17.2.length) <|
 req (v17.1.toNat < v17.2.length) <|
 req (0 ≤ (Xaa .i64 (v17.1 + 4)) ∧ (Xaa .i64 (v17.1 + 4)) < v17.2.length) <|
 req ((Xaa .i64 (v17.1 + 4)).toNat < v17.2.length) <|
 req (0 ≤ (Xaa .i64 (v17.1 + 8)) ∧ (Xaa .i64 (v17.1 + 8)) < v17.2.length) <|
 req ((Xaa .i64 (v17.1 + 8)).toNat < v17.2.length) <|
 req (0 ≤ (Xaa .i64 (v17.1 + 12)) ∧ (Xaa .i64 (v17.1 + 12)) < v17.2.length) <|
 req ((Xaa .i64 (v17.1 + 12)).toNat < v17.2.length) <|
 bnd (q (v17.2.getD v17.1.toNat 0) (v17.2.getD ((Xaa .i64 (v17.1 + 4)).toNat) 0) (v17.2.getD ((Xaa .i64 (v17.1 + 8)).toNat) 0) (v17.2.getD ((Xaa .i64 (v17.1 + 12)).toNat) 0)) fun q26 =>
 bnd (loop (tgB v17 q26) (0, v17.2)) fun v30 =>
 some (.go (Xaa .i64 (v17.1 + 1), v30))) (
 some (.done v17.2))
noncomputable def Yz8 (q : Int → Int → Int → Int → Option (Int × Int × Int × Int)) (p0 : (List Int)) : Option (List Int) :=
 bnd (Xey p0) fun q1 =>
 bnd (loop (tgA q) (0, q1)) fun v7 =>
 bnd (loop (tgC q) (0, v7)) fun v25 =>
 some v25
theorem Yv5 : Xct = Yz8 Xec := rfl
abbrev Q4 := Int × Int × Int × Int
def Yop (q : Q4) (i : Nat) : Int := [q.1, q.2.1, q.2.2.1, q.2.2.2].getD i 0
def Xvy (t : Int → Int → Int → Int → Q4) (p : List Int) : List Int := (List.range 16).map fun j => Yop (t (p.getD (4 * (j / 4)) 0) (p.getD (4 * (j / 4) + 1) 0) (p.getD (4 * (j / 4) + 2) 0) (p.getD (4 * (j / 4) + 3) 0)) (j % 4)
def Xww (p : List Int) : List Int := (List.range 16).map fun j => p.getD (j % 4 * 4 + j / 4) 0
theorem Xx7 (t : Int → Int → Int → Int → Q4) (p : List Int) : (Xvy t p).length = 16 := by simp [Xvy]
theorem Xwx (p : List Int) : (Xww p).length = 16 := by simp [Xww]
theorem Yon {l m : List Int} {i : Nat} (h : i + m.length ≤ l.length) (j : Nat) : (over l i m).getD j 0 = if i ≤ j ∧ j < i + m.length then m.getD (j - i) 0 else l.getD j 0 := by
 rw [List.getD_eq_getElem?_getD, Ydf h]
 split <;> rw [List.getD_eq_getElem?_getD]
theorem Yyb {q : Int → Int → Int → Int → Option Q4} {t : Int → Int → Int → Int → Q4} (hq : ∀ a b c d, q a b c d = some (t a b c d)) (p : List Int) (hp : p.length = 16) : Yz8 q p = some (Xww (Xvy t (Xww (Xvy t p)))) := by
 have hm : maxLen = 9223372036854775807 := rfl
 unfold Yz8 Xey
 rw [Xav (by simp only [List.length_nil]; omega), Xab, List.nil_append]
 have hA : loop (tgA q) (0, p) = some (Xvy t p) := by
  have key : ∀ r : Nat, r ≤ 4 → ∀ s : List Int, s.length = 16 → (∀ j, j < 4 * r → s.getD j 0 = (Xvy t p).getD j 0) → (∀ j, 4 * r ≤ j → s.getD j 0 = p.getD j 0) → loop (tgA q) (((4 * r : Nat) : Int), s) = some (Xvy t p) := by
   refine Xc1 _ ?_ ?_
   ·
    intro s h1 h2 _
    refine Xbx ?_
    unfold tgA
    rw [Xas (by simp), Yfs h1 (Xx7 t p) h2]
   ·
    intro r hr ih s h1 h2 h3
    refine lgo (y := (((4 * (r + 1) : Nat) : Int), over s (4 * r) [Yop (t (p.getD (4 * r) 0) (p.getD (4 * r + 1) 0) (p.getD (4 * r + 2) 0) (p.getD (4 * r + 3) 0)) 0, Yop (t (p.getD (4 * r) 0) (p.getD (4 * r + 1) 0) (p.getD (4 * r + 2) 0) (p.getD (4 * r + 3) 0)) 1, Yop (t (p.getD (4 * r) 0) (p.getD (4 * r + 1) 0) (p.getD (4 * r + 2) 0) (p.getD (4 * r + 3) 0)) 2, Yop (t (p.getD (4 * r) 0) (p.getD (4 * r + 1) 0) (p.getD (4 * r + 2) 0) (p.getD (4 * r + 3) 0)) 3])) ?_ (ih _ ?_ ?_ ?_)
    ·
     unfold tgA
     simp only
     rw [syA, wkA (e := ((4 * r : Nat) : Int) + 1), wkA (e := ((4 * r : Nat) : Int) + 2), wkA (e := ((4 * r : Nat) : Int) + 3), wkA (e := ((4 * r : Nat) : Int) + 4)]
     rw [rqA, rqA, rqA, rqA, rqA, rqA, rqA, rqA, hq, Xab, rqA, Xav (by simp only [List.length_cons, List.length_nil]; omega)]
     rw [show (((4 * r : Nat) : Int) + 1).toNat = 4 * r + 1 by omega, show (((4 * r : Nat) : Int) + 2).toNat = 4 * r + 2 by omega, show (((4 * r : Nat) : Int) + 3).toNat = 4 * r + 3 by omega, Int.toNat_natCast, h3 _ (by omega), h3 _ (by omega), h3 _ (by omega), h3 _ (by omega)]
     rfl
    ·
     rw [Xrd (by simp only [List.length_cons, List.length_nil]; omega)]; exact h1
    ·
     intro j hj
     rw [Yon (by simp only [List.length_cons, List.length_nil]; omega)]
     simp only [List.length_cons, List.length_nil]
     by_cases h : 4 * r ≤ j
     ·
      rw [if_pos (by omega)]
      unfold Xvy
      rw [Xjc _ (by omega), show 4 * (j / 4) = 4 * r by omega]
      obtain h | h | h | h : j = 4 * r ∨ j = 4 * r + 1 ∨ j = 4 * r + 2 ∨ j = 4 * r + 3 := by omega
      ·
       rw [h, show 4 * r - 4 * r = 0 by omega, show (4 * r) % 4 = 0 by omega]; rfl
      ·
       rw [h, show 4 * r + 1 - 4 * r = 1 by omega, show (4 * r + 1) % 4 = 1 by omega]; rfl
      ·
       rw [h, show 4 * r + 2 - 4 * r = 2 by omega, show (4 * r + 2) % 4 = 2 by omega]; rfl
      ·
       rw [h, show 4 * r + 3 - 4 * r = 3 by omega, show (4 * r + 3) % 4 = 3 by omega]; rfl
     ·
      rw [if_neg (by omega)]; exact h2 j (by omega)
    ·
     intro j hj
     rw [Yon (by simp only [List.length_cons, List.length_nil]; omega), if_neg (by simp only [List.length_cons, List.length_nil]; omega)]
     exact h3 j (by omega)
  exact key 0 (by omega) p hp (fun j hj => by omega) fun _ _ => rfl
 rw [hA, Xab]
 generalize hR : Xvy t p = R
 have hl : R.length = 16 := by rw [← hR]; exact Xx7 t p
 have hC : loop (tgC q) (0, R) = some (Xww (Xvy t (Xww R))) := by
  have at4 : ∀ j : Nat, j < 16 → (Xww (Xvy t (Xww R))).getD j 0 = Yop (t (R.getD (j % 4) 0) (R.getD (j % 4 + 4) 0) (R.getD (j % 4 + 8) 0) (R.getD (j % 4 + 12) 0)) (j / 4) := by
   intro j hj
   rw [Xww, Xjc _ hj, Xvy, Xjc _ (by omega), Xww, Xjc _ (by omega), Xjc _ (by omega), Xjc _ (by omega), Xjc _ (by omega)]
   rw [show (j % 4 * 4 + j / 4) / 4 = j % 4 by omega, show (j % 4 * 4 + j / 4) % 4 = j / 4 by omega, show 4 * (j % 4) % 4 * 4 + 4 * (j % 4) / 4 = j % 4 by omega, show (4 * (j % 4) + 1) % 4 * 4 + (4 * (j % 4) + 1) / 4 = j % 4 + 4 by omega, show (4 * (j % 4) + 2) % 4 * 4 + (4 * (j % 4) + 2) / 4 = j % 4 + 8 by omega, show (4 * (j % 4) + 3) % 4 * 4 + (4 * (j % 4) + 3) / 4 = j % 4 + 12 by omega]
  obtain ⟨o, e, o1, o2, _⟩ := Xie (f := tgC q) 4 (fun c s => s.length = 16 ∧ (∀ j, j < 16 → j % 4 < c → s.getD j 0 = (Xww (Xvy t (Xww R))).getD j 0) ∧ ∀ j, j < 16 → c ≤ j % 4 → s.getD j 0 = R.getD j 0) (by
   intro c s hc ⟨g1, g2, g3⟩
   obtain ⟨r, er, r1, r2, r3⟩ := Xie (f := tgB ((c : Int), s) (t (R.getD c 0) (R.getD (c + 4) 0) (R.getD (c + 8) 0) (R.getD (c + 12) 0))) 4 (fun i s' => s'.length = 16 ∧ (∀ j, j < 16 → j % 4 ≠ c → s'.getD j 0 = s.getD j 0) ∧ ∀ j, j < 16 → j % 4 = c → j / 4 < i → s'.getD j 0 = Yop (t (R.getD c 0) (R.getD (c + 4) 0) (R.getD (c + 8) 0) (R.getD (c + 12) 0)) (j / 4)) (by
    intro i s' hi ⟨k1, k2, k3⟩
    unfold tgB
    simp only
    rw [syA, Xav (by simp only [List.length_cons, List.length_nil]; omega), wkA (e := 4 * (i : Int)), wkA (e := (c : Int) + 4 * (i : Int)), rqA, rqA, wkA (e := (i : Int) + 1), show ((c : Int) + 4 * (i : Int)).toNat = c + 4 * i by omega, Int.toNat_natCast]
    refine ⟨_, rfl, by rw [List.length_set]; exact k1, fun j hj hjc => ?_, fun j hj hjc hji => ?_⟩
    ·
     rw [Xf7 _ _ _ _ (by omega), if_neg (by omega)]; exact k2 j hj hjc
    ·
     rw [Xf7 _ _ _ _ (by omega)]
     by_cases h : c + 4 * i = j
     ·
      rw [if_pos h, show j / 4 = i by omega]; rfl
     ·
      rw [if_neg h]; exact k3 j hj hjc (by omega)) (fun z _ => by unfold tgB; rw [Xas (by simp)]) s ⟨g1, fun _ _ _ => rfl, fun j hj hjc hji => by omega⟩
   unfold tgC
   simp only
   rw [syA, wkA (e := (c : Int) + 4), wkA (e := (c : Int) + 8), wkA (e := (c : Int) + 12), rqA, rqA, rqA, rqA, rqA, rqA, rqA, rqA, hq, Xab, show ((c : Int) + 4).toNat = c + 4 by omega, show ((c : Int) + 8).toNat = c + 8 by omega, show ((c : Int) + 12).toNat = c + 12 by omega, Int.toNat_natCast, g3 c (by omega) (by omega), g3 (c + 4) (by omega) (by omega), g3 (c + 8) (by omega) (by omega), g3 (c + 12) (by omega) (by omega), er, Xab, wkA (e := (c : Int) + 1)]
   refine ⟨r, rfl, r1, fun j hj hjc => ?_, fun j hj hjc => ?_⟩
   ·
    by_cases h : j % 4 = c
    ·
     rw [r3 j hj h (by omega), at4 j hj, h]
    ·
     rw [r2 j hj h]; exact g2 j hj (by omega)
   ·
    rw [r2 j hj (by omega)]; exact g3 j hj (by omega)) (fun z _ => by unfold tgC; rw [Xas (by simp)]) R ⟨hl, fun j hj hjc => by omega, fun _ _ _ => rfl⟩
  rw [e]
  congr 1
  exact Yfs o1 (Xwx _) fun j hj => o2 j hj (by omega)
 rw [hC, Xab]
theorem Xs4 (p : List Int) (hl : p.length = 16) : Xka p = some (Xww p) := by
 unfold Xka
 rw [rqA]
 obtain ⟨o, e, o1, o2⟩ := Xie (f := Xej p) 16 (fun i s => s.length = 16 ∧ ∀ j, j < 16 → j % 4 * 4 + j / 4 < i → s.getD j 0 = p.getD (j % 4 * 4 + j / 4) 0) (by
  intro i s hi ⟨g1, g2⟩
  unfold Xej
  simp only
  rw [syA, rqA, rqA, rqA, Xbq (by omega), Xbp (by omega), wkA (e := (i : Int) / 4), wkA (e := (i : Int) % 4 * 4), wkA (e := (i : Int) % 4 * 4 + (i : Int) / 4), rqA, rqA, wkA (e := (i : Int) + 1), Int.toNat_natCast, show ((i : Int) % 4 * 4 + (i : Int) / 4).toNat = i % 4 * 4 + i / 4 by omega]
  refine ⟨_, rfl, by rw [List.length_set]; exact g1, fun j hj hji => ?_⟩
  rw [Xf7 _ _ _ _ (by omega)]
  by_cases h : i % 4 * 4 + i / 4 = j
  ·
   rw [if_pos h, show j % 4 * 4 + j / 4 = i by omega]
  ·
   rw [if_neg h]; exact g2 j hj (by omega)) (fun z _ => by unfold Xej; rw [Xas (by simp)]) (List.replicate (16 : Int).toNat 0) ⟨by simp, fun j hj h => by omega⟩
 rw [e, Xab]
 congr 1
 exact Yfs o1 (Xwx p) fun j hj => by rw [o2 j hj (by omega), Xww, Xjc _ hj]
theorem Yvk {f : Int × List Int → Option (Lp (Int × List Int) (List Int))} {t : Int → Int → Int → Int → Q4} (p : List Int) (h : ∀ (i : Nat) (s : List Int), i < 4 → s.length = 4 * i → f ((i : Int), s) = some (.go (((i + 1 : Nat) : Int), s ++ [(t (p.getD (4 * i) 0) (p.getD (4 * i + 1) 0) (p.getD (4 * i + 2) 0) (p.getD (4 * i + 3) 0)).1, (t (p.getD (4 * i) 0) (p.getD (4 * i + 1) 0) (p.getD (4 * i + 2) 0) (p.getD (4 * i + 3) 0)).2.1, (t (p.getD (4 * i) 0) (p.getD (4 * i + 1) 0) (p.getD (4 * i + 2) 0) (p.getD (4 * i + 3) 0)).2.2.1, (t (p.getD (4 * i) 0) (p.getD (4 * i + 1) 0) (p.getD (4 * i + 2) 0) (p.getD (4 * i + 3) 0)).2.2.2]))) (he : ∀ s, f (4, s) = some (.done s)) : loop f (0, []) = some (Xvy t p) := by
 obtain ⟨o, e, ho⟩ := Xie (f := f) 4 (fun i s => s = (List.range (4 * i)).map fun j => Yop (t (p.getD (4 * (j / 4)) 0) (p.getD (4 * (j / 4) + 1) 0) (p.getD (4 * (j / 4) + 2) 0) (p.getD (4 * (j / 4) + 3) 0)) (j % 4)) (by
  intro i s hi g
  refine ⟨_, h i s hi (by rw [g]; simp), ?_⟩
  rw [g, show 4 * (i + 1) = 4 * i + 1 + 1 + 1 + 1 by omega]
  simp only [List.range_succ, List.map_append, List.map_singleton, List.append_assoc]
  rw [show (4 * i + 1 + 1 + 1) / 4 = i by omega, show (4 * i + 1 + 1) / 4 = i by omega, show (4 * i + 1) / 4 = i by omega, show 4 * i / 4 = i by omega, show (4 * i + 1 + 1 + 1) % 4 = 3 by omega, show (4 * i + 1 + 1) % 4 = 2 by omega, show (4 * i + 1) % 4 = 1 by omega, show 4 * i % 4 = 0 by omega]
  rfl) (fun z _ => he z) [] rfl
 rw [e, ho]; rfl
def Yju (a b : Int) : Int := Xaa .i64 (if a.tmod b < 0 then Xaa .i64 (a.tdiv b) - 1 else a.tdiv b)
theorem Xtg (a b : Int) (hb : b ≠ 0) : Xd6 a b = some (Yju a b) := by
 unfold Xd6 Yju
 rw [Xav hb, Xav hb, Yin]
 split <;> rfl
def t4B (a b c d : Int) : Q4 := (Xaa .i64 ((Xaa .i64 (a + c)) + (Xaa .i64 (b + Yju d 2))), Xaa .i64 ((Xaa .i64 (a - c)) + (Xaa .i64 (Yju b 2 - d))), Xaa .i64 ((Xaa .i64 (a - c)) - (Xaa .i64 (Yju b 2 - d))), Xaa .i64 ((Xaa .i64 (a + c)) - (Xaa .i64 (b + Yju d 2))))
theorem Xw5 (a b c d : Int) : Xec a b c d = some (t4B a b c d) := by
 unfold Xec
 rw [Ypt, Xtg b 2 (by omega), Xtg d 2 (by omega), Xab, Xab]; rfl
theorem Xrv (p : List Int) (hl : p.length = 16) : Xib p = some (Xvy t4B p) := by
 have hm : maxLen = 9223372036854775807 := rfl
 unfold Xib
 rw [Yvk (f := Xdt p) (t := t4B) p (by
  intro i s hi hs
  unfold Xdt
  simp only
  rw [syA, wkA (e := 4 * (i : Int)), wkA (e := 4 * (i : Int) + 1), wkA (e := 4 * (i : Int) + 2), wkA (e := 4 * (i : Int) + 3), rqA, rqA, rqA, rqA, show (4 * (i : Int)).toNat = 4 * i by omega, show (4 * (i : Int) + 1).toNat = 4 * i + 1 by omega, show (4 * (i : Int) + 2).toNat = 4 * i + 2 by omega, show (4 * (i : Int) + 3).toNat = 4 * i + 3 by omega, Xtg _ 2 (by omega), Xab, Xtg _ 2 (by omega), Xab, wkA (e := (i : Int) + 1), Xav (by simp only [List.length_cons, List.length_nil]; omega)]
  rfl) (by intro s; unfold Xdt; rw [Xas (by simp)]), Xab]
theorem Yhj (p : List Int) (hl : p.length = 16) (hb : inB 10000000 p) : Xkk p = Xk3 p := by
 unfold Xkk Xk3
 rw [Ydu p 16 10000000 (by omega) (by omega) hb, Xjz p 16 10000000 (by omega) (by omega) (by omega) hb, Xab, Xab, Bool.not_true, Xam, Xam, Yv5, Yyb Xw5 p hl, Xrv p hl, Xab, Xab, Xs4 _ (Xx7 _ _), Xab, Xrv _ (Xwx _), Xab, Xs4 _ (Xx7 _ _), Xab]
 exact Xyc _ 16 (by omega) (Xwx _) (fun _ => rfl)
theorem Yl1 {β : Type} {c : Prop} [Decidable c] {k k' : Option β} (h : c → k = k') : req c k = req c k' := by
 by_cases hc : c
 ·
  rw [Xav hc, Xav hc, h hc]
 ·
  unfold req; rw [if_neg hc, if_neg hc]
theorem Xux {β : Type} {c : Prop} [Decidable c] {k k' : Option β} (h0 : c) (h : k = k') : req c k = k' := by rw [Xav h0, h]
theorem Yqe {β : Type} {b : Bool} {x x' y y' : β} (h : b = true → x = x') (h2 : b = false → y = y') : sel b x y = sel b x' y' := by
 cases b
 ·
  exact h2 rfl
 ·
  exact h rfl
theorem Yy4 {α β : Type} {x x' : Option α} {f f' : α → Option β} (h : x = x') (h2 : ∀ a, x' = some a → f a = f' a) : bnd x f = bnd x' f' := by
 subst h
 cases x with
 | none => rfl
 | some a => exact h2 a rfl
theorem Yux {V O : Type} {f : V → Option (Lp V O)} (I : V → Prop) (J : O → Prop) (h1 : ∀ v v', I v → f v = some (.go v') → I v') (h2 : ∀ v o, I v → f v = some (.done o) → J o) {v : V} {o : O} (h : loop f v = some o) (hv : I v) : J o := by
 obtain ⟨k, hk⟩ := Xii.1 h
 clear h
 induction k generalizing v with
 | zero => cases hk
 | succ k ih =>
  rw [it] at hk
  cases e : f v with
  | none => rw [e] at hk; cases hk
  | some s =>
   rw [e] at hk
   cases s with
   | go y => exact ih (h1 v y hv e) hk
   | done o' => cases hk; exact h2 v o hv e
theorem Ydm (l qp p : Int) (h0 : 0 ≤ qp ∧ qp ≤ 40) (hp : 0 ≤ p ∧ p ≤ 15) : Xiq l qp p = Xi0 l qp p := by
 unfold Xiq Xi0
 rw [Xaj, Xai, Ykl qp p h0 hp]
theorem Ydk (l qp : Int) (h0 : 0 ≤ qp ∧ qp ≤ 40) : Xip l qp = Xiz l qp := by
 unfold Xip Xiz
 rw [Xaj, Xai, Ym0 qp h0]
def Xx4 (k : Int) (v7 : Int × List Int) : Option (Lp (Int × List Int) (List Int)) :=
 sel (decide (v7.1 < 4)) (
 bnd (it (Xnh k v7) 10 (0, v7.2)) fun v18 =>
 some (.go (Xaa .i64 (v7.1 + 1), v18))) (
 some (.done v7.2))
theorem Yos {k : Int} {v : Int × List Int} {x : Lp (Int × List Int) (List Int)} (h : Xx4 k v = some x) : Xje k v = some x := by
 unfold Xx4 at h
 unfold Xje
 rcases Xrg h with ⟨hb, h⟩ | ⟨hb, h⟩
 ·
  rw [hb, Xaq]
  obtain ⟨a, h1, h2⟩ := Xb6 h
  rw [Xii.2 ⟨10, h1⟩, Xab]
  exact h2
 ·
  rw [hb, Xam]; exact h
def Xo8 (k : Int) : List Int := (it (Xx4 k) 10 (0, [])).getD []
def Xoh (k i : Int) : Int := (Xaa .i64 ((Xaa .i64 ((Xaa .i64 (8 * (Xaa .i64 ((Xaa .i64 ((Xaa .i64 (k.tdiv 2)) * 4)) + (Xaa .i64 (i.tdiv 4)))))) + (Xaa .i64 ((k.tmod 2) * 4)))) + (i.tmod 4)))
theorem Yp9 : ∀ k : Fin 4, (it (Xx4 (k.val : Int)) 10 (0, [])).isSome = true ∧ (Xo8 (k.val : Int)).length = 16 ∧ ∀ i : Fin 16, (Xo8 (k.val : Int)).getD i.val 0 = Xoh (k.val : Int) (i.val : Int) ∧ 0 ≤ Xoh (k.val : Int) (i.val : Int) ∧ Xoh (k.val : Int) (i.val : Int) < 64 := by decide +kernel
theorem Yfn (k : Nat) (hk : k < 4) : Xmz k = some (Xo8 k) ∧ (Xo8 k).length = 16 ∧ ∀ i : Nat, i < 16 → (Xo8 k).getD i 0 = Xoh k i ∧ 0 ≤ Xoh k i ∧ Xoh k i < 64 := by
 obtain ⟨h1, h2, h3⟩ := Yp9 ⟨k, hk⟩
 refine ⟨?_, h2, fun i hi => h3 ⟨i, hi⟩⟩
 obtain ⟨o, ho⟩ := Option.isSome_iff_exists.1 h1
 have hl := Yp6 10 (Yxa (fun v y => Yos (k := (k : Int))) 10 _ ho)
 unfold Xmz
 rw [hl, Xab]
 unfold Xo8; simp only at ho; rw [ho]; rfl
theorem Xro (p : List Int) (c : Xfg) (hc : Xge c = true) (hp : Yhi p = true) : Xha p c = Xfq p c := by
 have hq := Ynd hc
 obtain ⟨hl, hb⟩ := Yuy hp
 unfold Xha Xfq
 rw [Xe9, Xdc, Xqa p (by omega), hp, hc, Xjz p 64 5000 (by omega) (by omega) (by omega) hb]
 simp only [Xab, Xaq, Bool.not_true, Xam]
 rw [Xr0 8 (Or.inr rfl) p (by omega)]
 refine Yqe (fun _ => rfl) fun _ => Yqe (fun _ => ?_) fun _ => ?_
 ·
  obtain ⟨w, ew, w1, w2⟩ := Xft 8 (Or.inr rfl) p 5000 (by omega) (by omega) hb
  rw [ew, Xab, Xab]
  have hloop : loop (Xer c (w, true)) (0, (w, true).1) = loop (Xbz c) (0, (w, true).1) := by
   have : Xer c (w, true) = Xbz c := by
    funext v
    unfold Xer Xbz
    simp only [Ydk _ _ hq, w1, hl]
    rfl
   rw [this]
  rw [hloop]
  obtain ⟨l, el, l1, l2⟩ := Xti (f := Xbz c) 64 (fun x => -5000 ≤ x ∧ x ≤ 5000) (fun x => -5760000 ≤ x ∧ x ≤ 5760000) (by
   intro i l hi hll hx
   obtain ⟨d, ed, d1, d2⟩ := Xqo (l.getD i 0) c.Qp hx hq
   unfold Xbz
   simp only [Int.toNat_natCast]
   rw [syA, rqA, rqA, ed, Xab, rqA, rqA, wkA (e := (i : Int) + 1)]
   exact ⟨d, rfl, d1, d2⟩) (by intro s; unfold Xbz; rw [Xas (by simp)]) w (by omega) w2
  simp only [el, Xab]
  rw [Ydj l l1 (Ylm l2 (by omega))]
 ·
  refine Yl1 fun _ => Yy4 ?_ fun _ _ => rfl
  refine Xzu (fun v => (∃ k : Nat, v.1 = (k : Int) ∧ k ≤ 4) ∧ v.2.length = 64) ?_ ?_ ⟨⟨0, rfl, by omega⟩, by simp⟩
  ·
   intro ⟨k0, s⟩ ⟨⟨k, ek, hk⟩, hs⟩
   simp only at ek hs
   subst ek
   unfold Xjm Xc6
   simp only
   refine Yqe (fun hk4 => ?_) fun _ => rfl
   have hk4 : k < 4 := by have := of_decide_eq_true hk4; omega
   rw [wkA (e := 16 * (k : Int)), wkA (e := 16 * (k : Int) + 16)]
   refine Yl1 fun _ => ?_
   rw [show (16 * (k : Int)).toNat = 16 * k by omega, show (16 * (k : Int) + 16).toNat - 16 * k = 16 by omega]
   have hcut : ((p.drop (16 * k)).take 16).length = 16 := by rw [List.length_take, List.length_drop]; omega
   obtain ⟨a, ea, a1, a2⟩ := Xft 4 (Or.inl rfl) ((p.drop (16 * k)).take 16) 5000 (by omega) (by omega) (Yq8 (Yq7 hb _) _)
   rw [Xr0 4 (Or.inl rfl) _ (by omega), ea, Xab, Xab]
   have hloop : loop (Xed c (a, true)) (0, (a, true).1) = loop (Xbv c) (0, (a, true).1) := by
    have : Xed c (a, true) = Xbv c := by
     funext v
     unfold Xed Xbv
     simp only [show ((a.length : Nat) : Int) = 16 by omega]
     refine Yqe (fun h16 => ?_) fun _ => rfl
     have := of_decide_eq_true h16
     refine Yl1 fun h0 => Yl1 fun _ => ?_
     rw [Ydm _ _ _ hq (by omega)]
    rw [this]
   rw [hloop]
   obtain ⟨l, el, l1, l2⟩ := Xti (f := Xbv c) 16 (fun x => -5000 ≤ x ∧ x ≤ 5000) (fun x => -10000000 ≤ x ∧ x ≤ 10000000) (by
    intro i l hi hll hx
    obtain ⟨d, ed, d1, d2⟩ := Xqp (l.getD i 0) c.Qp i hx hq (by omega)
    unfold Xbv
    simp only [Int.toNat_natCast]
    rw [syA, rqA, rqA, ed, Xab, rqA, rqA, wkA (e := (i : Int) + 1)]
    exact ⟨d, rfl, d1, d2⟩) (by intro s; unfold Xbv; rw [Xas (by simp)]) a (by omega) a2
   obtain ⟨b, eb, b1, b2⟩ := Xru l l1 l2
   obtain ⟨q1, q2, q3⟩ := Yfn k hk4
   simp only [el, Xab]
   rw [Yhj l l1 l2, eb, Xab, Xab, q1, Xab]
   refine Yy4 ?_ fun _ _ => rfl
   have : Xf8 b (Xo8 k) = Xb0 ((k : Int), s) b := by
    funext v
    unfold Xf8 Xb0
    simp only [show (((Xo8 k).length : Nat) : Int) = 16 by omega]
    refine Yqe (fun h16 => ?_) fun _ => rfl
    have h16 := of_decide_eq_true h16
    by_cases h0 : 0 ≤ v.1
    ·
     obtain ⟨i, hi⟩ : ∃ i : Nat, v.1 = (i : Int) := ⟨v.1.toNat, by omega⟩
     obtain ⟨v1, v2⟩ := v
     simp only at hi h0 h16
     subst hi
     obtain ⟨r1, r2, r3⟩ := q3 i (by omega)
     have e1 : (Xaa .i64 ((Xaa .i64 ((Xaa .i64 (8 * (Xaa .i64 ((Xaa .i64 ((Xaa .i64 ((k : Int).tdiv 2)) * 4)) + (Xaa .i64 ((i : Int).tdiv 4)))))) + (Xaa .i64 (((k : Int).tmod 2) * 4)))) + ((i : Int).tmod 4))) = Xoh k i := rfl
     simp only [Int.toNat_natCast, r1, e1]
     refine Xux (by omega) (Xux (by omega) (Xux (by omega) (Xux (by omega) ?_)))
     refine (Xux (by omega) (Xux (by omega) (Xux (by omega) (Xux (by omega) (Xux (by omega) (Xux (by omega) ?_)))))).symm
     rfl
    ·
     unfold req
     rw [if_neg (by omega), if_pos (by omega), if_pos (by omega), if_pos (by omega), if_pos (by omega), if_neg (by omega)]
   rw [this]
  ·
   intro ⟨k0, s⟩ v' ⟨⟨k, ek, hk⟩, hs⟩ he
   simp only at ek hs
   subst ek
   unfold Xc6 at he
   simp only at he
   rcases Xrg he with ⟨hb4, he⟩ | ⟨_, he⟩
   ·
    have hk4 : k < 4 := by have := of_decide_eq_true hb4; omega
    obtain ⟨_, he⟩ := Xa7 he
    obtain ⟨a, _, he⟩ := Xb6 he
    obtain ⟨l, _, he⟩ := Xb6 he
    obtain ⟨b, _, he⟩ := Xb6 he
    obtain ⟨r, hr, he⟩ := Xb6 he
    rw [wkA (e := (k : Int) + 1)] at he
    cases he
    refine ⟨⟨k + 1, rfl, by omega⟩, ?_⟩
    refine Yux (f := Xb0 ((k : Int), s) b) (fun v => v.2.length = 64) (fun o => o.length = 64) ?_ ?_ hr hs
    ·
     intro v v' hv he
     unfold Xb0 at he
     rcases Xrg he with ⟨_, he⟩ | ⟨_, he⟩
     ·
      obtain ⟨_, he⟩ := Xa7 he
      obtain ⟨_, he⟩ := Xa7 he
      obtain ⟨_, he⟩ := Xa7 he
      obtain ⟨_, he⟩ := Xa7 he
      obtain ⟨_, he⟩ := Xa7 he
      obtain ⟨_, he⟩ := Xa7 he
      obtain ⟨_, he⟩ := Xa7 he
      obtain ⟨_, he⟩ := Xa7 he
      cases he
      simp only [List.length_set]; exact hv
     ·
      cases he
    ·
     intro v o hv he
     unfold Xb0 at he
     rcases Xrg he with ⟨_, he⟩ | ⟨_, he⟩
     ·
      obtain ⟨_, he⟩ := Xa7 he
      obtain ⟨_, he⟩ := Xa7 he
      obtain ⟨_, he⟩ := Xa7 he
      obtain ⟨_, he⟩ := Xa7 he
      obtain ⟨_, he⟩ := Xa7 he
      obtain ⟨_, he⟩ := Xa7 he
      obtain ⟨_, he⟩ := Xa7 he
      obtain ⟨_, he⟩ := Xa7 he
      cases he
     ·
      cases he; exact hv
   ·
    cases he
theorem Yrl {S O : Type} {f g : Int × S → Option (Lp (Int × S) O)} (n : Nat) (I : Nat → S → Prop) (h : ∀ (i : Nat) (s : S), i ≤ n → I i s → f ((i : Int), s) = g ((i : Int), s)) (hI : ∀ (i : Nat) (s : S) (v' : Int × S), i ≤ n → I i s → g ((i : Int), s) = some (.go v') → v'.1 = ((i + 1 : Nat) : Int) ∧ i + 1 ≤ n ∧ I (i + 1) v'.2) {s0 : S} (h0 : I 0 s0) : loop f (0, s0) = loop g (0, s0) := by
 refine Xzu (fun v => ∃ i : Nat, v.1 = (i : Int) ∧ i ≤ n ∧ I i v.2) ?_ ?_ ⟨0, rfl, by omega, h0⟩
 ·
  intro ⟨k, s⟩ ⟨i, e, hi, hs⟩
  simp only at e hs
  subst e
  exact h i s hi hs
 ·
  intro ⟨k, s⟩ v' ⟨i, e, hi, hs⟩ he
  simp only at e hs
  subst e
  obtain ⟨a, b, c⟩ := hI i s v' hi hs he
  exact ⟨i + 1, a, b, c⟩
theorem Yng {p : Pic} (ok : Xck p = true) (x y : Int) : Xeu p x y = Xh5 p x y := by rw [Ye7 ok, Xk2 ok]
theorem Xsk {p : Pic} (ok : Xck p = true) {x y : Int} (hx : x.tmod 8 = 0) (hy : y.tmod 8 = 0) (h : Xmr p x y = true) : Xc4 p x y = some true := Yb3 ok x y hx hy h
theorem Ykg {p : Pic} (ok : Xck p = true) {x y : Int} (hx : x.tmod 8 = 0) (hy : y.tmod 8 = 0) (h : Xmr p x y = true) : Xmt p x y = Xm3 p x y := by
 unfold Xmt Xm3
 rw [Xcq, ok, Xsk ok hx hy h, Xnl ok hx hy h]
 have : Xkj p x y = Xfo p x y := by
  funext v
  unfold Xkj Xfo
  simp only [Yng ok]
 simp only [Xab, Xaq, Bool.not_true, Xam, this, Yng ok]
theorem Yph {e : Xnc} (h : Yat e) : Xmu e = some true := by
 obtain ⟨h1, h2, h3, h4, h5, h6⟩ := h
 have side : ∀ l : List Int, (l.length = 0 ∨ l.length = 8) → (∀ x ∈ l, 0 ≤ x ∧ x ≤ 255) → bnd (sel (decide ((l.length : Int) > 0)) (bnd (Xd9 l 8 0 255) fun q10 => some (!q10)) (some false)) (fun v9 => some v9) = some false := by
  intro l hl hb
  rcases hl with e | e
  ·
   rw [snA]; rfl
  ·
   rw [syA, Xnt l 8 0 255 (by omega)]
   have : (l.all fun x => decide (0 ≤ x ∧ x ≤ 255)) = true := List.all_eq_true.2 fun x hx => decide_eq_true (hb x hx)
   rw [this, e]; rfl
 have go : ∀ (i : Nat) (l : List Int), i < 2 → ([e.Above, e.Left]).getD i Xmc = l → (l.length = 0 ∨ l.length = 8) → (∀ x ∈ l, 0 ≤ x ∧ x ≤ 255) → Xfi e (i : Int) = some (.go ((i + 1 : Nat) : Int)) := by
  intro i l hi hg hl hb
  unfold Xfi
  simp only [Int.toNat_natCast, hg]
  have hs := side l hl hb
  rw [Xa9 (by simp only [List.length_cons, List.length_nil]; omega), Xav (by simp only [List.length_cons, List.length_nil]; omega), Xav (by simp only [List.length_cons, List.length_nil]; omega)]
  obtain ⟨a, ea, hs⟩ := Xb6 hs
  injection hs with hs
  subst hs
  rw [ea, Xab, Xam, wkA]
  rfl
 unfold Xmu
 have : loop (Xfi e) 0 = some (.out ()) := by
  refine lgo (go 0 e.Above (by omega) rfl h1 h3) (lgo (go 1 e.Left (by omega) rfl h2 h4) (Xbx ?_))
  unfold Xfi
  rw [Xas (by simp)]
 rw [this, Xab, Xaj, Xab, decide_eq_true ⟨h5, h6⟩]
def Yr3 (l : List Int) : Nat → Int
 | 0 => 0
 | n + 1 => Yr3 l n + l.getD n 0
theorem Xtu {l : List Int} (h : ∀ x ∈ l, 0 ≤ x ∧ x ≤ 255) : ∀ n : Nat, n ≤ l.length → 0 ≤ Yr3 l n ∧ Yr3 l n ≤ 255 * n
 | 0, _ => by simp [Yr3]
 | n + 1, hn => by
  have a := Xtu h n (by omega)
  have b := h (l.getD n 0) (by rw [Xb2 l n (by omega)]; exact List.getElem_mem _)
  rw [Yr3]; omega
theorem Ymk {f : Int × Int → Option (Lp (Int × Int) Int)} {l : List Int} (hl : l.length ≤ 64) (h : ∀ x ∈ l, 0 ≤ x ∧ x ≤ 255) (hf : ∀ v, f v = sel (decide (v.2 < (l.length : Int))) (req (0 ≤ v.2 ∧ v.2 < l.length) <| some (.go (Xaa .i64 (v.1 + (l.getD v.2.toNat 0)), Xaa .i64 (v.2 + 1)))) (some (.done v.1))) (a : Int) (ha : 0 ≤ a ∧ a ≤ 100000) : loop f (a, 0) = some (a + Yr3 l l.length) := by
 obtain ⟨o, e, ho⟩ := Xo1 (f := f) l.length (fun i s => s = a + Yr3 l i) (by
  intro i s hi g
  have r := Xtu h i (by omega)
  have b := h (l.getD i 0) (by rw [Xb2 l i (by omega)]; exact List.getElem_mem _)
  rw [hf]
  simp only [Int.toNat_natCast]
  rw [syA, rqA, wkA (e := s + l.getD i 0), wkA (e := (i : Int) + 1)]
  exact ⟨_, rfl, by rw [Yr3]; omega⟩) (by intro s; rw [hf, Xas (by simp)]) a (by simp [Yr3])
 rw [e, ho]
theorem Xxu {l : List Int} (hl : l.length ≤ 64) (h : ∀ x ∈ l, 0 ≤ x ∧ x ≤ 255) : Xcn l = some (Yr3 l l.length) := by
 unfold Xcn
 rw [Ymk (f := Xd1 l) hl h (fun _ => rfl) 0 (by omega), Xab, Int.zero_add]
theorem Yu2 {e : Xnc} (h : Yat e) : (sel (decide ((Xaa .i64 ((e.Above.length : Int) + (e.Left.length : Int))) > 0)) (bnd (Xcn e.Above) fun q5 => bnd (Xcn e.Left) fun q6 => req ((2 : Int) ≠ 0) <| req ((Xaa .i64 ((e.Above.length : Int) + (e.Left.length : Int))) ≠ 0) <|
  some (Xaa .i64 ((Xaa .i64 ((Xaa .i64 (q5 + q6)) + (Xaa .i64 ((Xaa .i64 ((e.Above.length : Int) + (e.Left.length : Int))).tdiv 2)))).tdiv (Xaa .i64 ((e.Above.length : Int) + (e.Left.length : Int)))))) (some 128)) = Xov e := by
 obtain ⟨h1, h2, h3, h4, h5, h6⟩ := h
 unfold Xov
 have r1 := Xtu h3 e.Above.length (Nat.le_refl _)
 have r2 := Xtu h4 e.Left.length (Nat.le_refl _)
 rw [wkA (e := (e.Above.length : Int) + (e.Left.length : Int))]
 by_cases hz : (e.Above.length : Int) + (e.Left.length : Int) = 0
 ·
  rw [snA, Xbb (by simpa using hz)]
 ·
  rw [syA, Xaz (by simpa using hz), Xxu (by omega) h3, Xab, Xxu (by omega) h4, Xab, rqA, Xav hz, rqA, Xbp (a := (e.Above.length : Int) + (e.Left.length : Int)) (by omega), wkA (e := ((e.Above.length : Int) + (e.Left.length : Int)) / 2),
   Ymk (f := Xi4 e) (by omega) h3 (fun _ => rfl) _ (by omega), Xab, Ymk (f := Xi5 e) (by omega) h4 (fun _ => rfl) _ (by omega), Xab, Xav hz, wkA (e := Yr3 e.Above e.Above.length + Yr3 e.Left e.Left.length), wkA (e := Yr3 e.Above e.Above.length + Yr3 e.Left e.Left.length + ((e.Above.length : Int) + (e.Left.length : Int)) / 2)]
  congr 3; omega
theorem Yom (l : List Int) (hl : l.length = 0 ∨ l.length = 8) : ∃ g, Xls l = some g ∧ g.length = 8 ∧ ∀ k : Nat, k < 8 → Xfe l k = some (g.getD k 0) := by
 unfold Xls
 rcases hl with e | e
 ·
  refine ⟨_, Xbb (by rw [e]; rfl), rfl, fun k hk => ?_⟩
  unfold Xfe
  rw [Xbb (by rw [e]; rfl)]
  congr 1
  obtain rfl | rfl | rfl | rfl | rfl | rfl | rfl | rfl : k = 0 ∨ k = 1 ∨ k = 2 ∨ k = 3 ∨ k = 4 ∨ k = 5 ∨ k = 6 ∨ k = 7 := by omega
  all_goals rfl
 ·
  refine ⟨l, Xaz (by rw [e]; rfl), e, fun k hk => ?_⟩
  unfold Xfe
  rw [Xaz (by rw [e]; rfl), rqA, Int.toNat_natCast]
theorem Yku (n a b : Int) : Xep n a b = Xhj n a b := by rw [Xki, Xfn]
def Xy1 (m mid v : Int) (A B : List Int) (i : Nat) : Int := sel (m == 0) mid (sel (m == 1) (A.getD (i % 8) 0) (sel (m == 2) (B.getD (i / 8) 0) (Xdi (Xaa .i64 (Xaa .i64 (B.getD (i / 8) 0 + A.getD (i % 8) 0) - v)) 0 255)))
theorem Ysw {f1 : Int × List Int → Option (Lp (Int × List Int) (List Int))} {f2 : Int × List Int → Int × List Int → Option (Lp (Int × List Int) (List Int))} (g : Nat → Int)
  (h1 : ∀ v, f1 v = sel (decide (v.1 < 8)) (bnd (loop (f2 v) (0, v.2)) fun w => some (.go (Xaa .i64 (v.1 + 1), w))) (some (.done v.2)))
  (h2 : ∀ (r c : Nat) (a s : List Int), r < 8 → c < 8 → s.length = 8 * r + c → f2 ((r : Int), a) ((c : Int), s) = some (.go (((c + 1 : Nat) : Int), s ++ [g (8 * r + c)])))
  (h3 : ∀ (r : Nat) (a s : List Int), f2 ((r : Int), a) (8, s) = some (.done s)) : loop f1 (0, []) = some ((List.range 64).map g) := by
 obtain ⟨o, e, ho⟩ := Xff (f := f1) 8 (fun r s => s = (List.range (8 * r)).map g) (by
  intro r s hr hs
  obtain ⟨q, eq, hq⟩ := Xie (f := f2 ((r : Int), s)) 8 (fun c s' => s' = (List.range (8 * r + c)).map g) (by
   intro c s' hc hs'
   exact ⟨_, h2 r c s s' hr hc (by rw [hs']; simp), by rw [hs', show 8 * r + (c + 1) = (8 * r + c) + 1 by omega, List.range_succ, List.map_append]; rfl⟩) (fun z _ => h3 r s z) s hs
  rw [h1]
  refine ⟨q, ?_, by rw [hq, show 8 * (r + 1) = 8 * r + 8 by omega]⟩
  simp only
  rw [syA, eq, Xab, wkA]
  rfl) (by intro s; rw [h1, Xas (by simp)]) [] rfl
 rw [e, ho]
theorem Ymw (m : Int) (hm0 : 0 ≤ m ∧ m ≤ 3) {e : Xnc} (h : Yat e) : ∃ g, Xjt m e = some g ∧ Xj2 m e = some g := by
 have hm : maxLen = 9223372036854775807 := rfl
 obtain ⟨mid, em, m1, m2⟩ := Xu6 h
 obtain ⟨A, eA, hA, fA⟩ := Yom e.Above h.1
 obtain ⟨B, eB, hB, fB⟩ := Yom e.Left h.2.1
 obtain ⟨v, ev⟩ : ∃ v, sel (decide (e.Corner < 0)) (some (128 : Int)) (some e.Corner) = some v := by rw [Yvp]; exact ⟨_, rfl⟩
 refine ⟨(List.range 64).map (Xy1 m mid v A B), ?_, ?_⟩
 ·
  unfold Xjt
  rw [Yph h, Xab, Xaq, Xaj, Xab, decide_eq_true hm0, Bool.not_true, Xab, Xam, Yu2 h, em, Xab, eA, Xab, eB, Xab, ev, Xab, Ysw (f1 := Xnf m mid A B v) (f2 := Xgf m mid A B v) (Xy1 m mid v A B) (fun _ => rfl) ?_ ?_, Xab]
  ·
   intro r c a s hr hc hs
   unfold Xgf Xy1
   simp only [Int.toNat_natCast, Xki, Xab]
   rw [syA, wkA (e := (c : Int) + 1), show (8 * r + c) % 8 = c by omega, show (8 * r + c) / 8 = r by omega]
   cases (m == 0) with
   | true => rw [Xaq, Xav (by simp only [List.length_singleton]; omega), Xab]; rfl
   | false =>
    rw [Xam]
    cases (m == 1) with
    | true => rw [Xaq, rqA, Xav (by simp only [List.length_singleton]; omega), Xab]; rfl
    | false =>
     rw [Xam]
     cases (m == 2) with
     | true => rw [Xaq, rqA, Xav (by simp only [List.length_singleton]; omega), Xab]; rfl
     | false => rw [Xam, rqA, rqA, Xav (by simp only [List.length_singleton]; omega), Xab]; rfl
  ·
   intro r a s
   unfold Xgf
   rw [Xas (by simp)]
 ·
  unfold Xj2
  rw [Xrt h, Xab, Xaq, Xai, Xab, decide_eq_true hm0, Bool.not_true, Xab, Xam, ev, Xab]
  obtain ⟨o, eo, ho⟩ := Xff (f := Xef m e v) 64 (fun i s => s = (List.range i).map (Xy1 m mid v A B)) (by
   intro i s hi hs
   have hlen : s.length = i := by rw [hs]; simp
   refine ⟨s ++ [Xy1 m mid v A B i], ?_, by rw [hs, List.range_succ, List.map_append]; rfl⟩
   unfold Xef Xy1
   simp only
   rw [syA, rqA, Xbq (by omega), show (i : Int) % 8 = ((i % 8 : Nat) : Int) by omega, fA _ (by omega), Xab, rqA, Xbp (by omega), wkA (e := (i : Int) / 8), show (i : Int) / 8 = ((i / 8 : Nat) : Int) by omega, fB _ (by omega), Xab, wkA (e := (i : Int) + 1), em]
   cases (m == 0) with
   | true => rw [Xaq, Xab, Xav (by simp only [List.length_singleton]; omega), Xab]; rfl
   | false =>
    rw [Xam]
    cases (m == 1) with
    | true => rw [Xaq, Xav (by simp only [List.length_singleton]; omega), Xab]; rfl
    | false =>
     rw [Xam]
     cases (m == 2) with
     | true => rw [Xaq, Xav (by simp only [List.length_singleton]; omega), Xab]; rfl
     | false => rw [Xam, Xfn, Xab, Xav (by simp only [List.length_singleton]; omega), Xab]; rfl) (by intro s; unfold Xef; rw [Xas (by simp)]) [] rfl
  rw [eo, Xab, ho]
theorem Ykh (m : Int) (hm0 : 0 ≤ m ∧ m ≤ 3) {e : Xnc} (h : Yat e) : Xjt m e = Xj2 m e := by
 obtain ⟨g, h1, h2⟩ := Ymw m hm0 h
 rw [h1, h2]
theorem Yam (g b : List Int) (hg : Xn7 g = true) (hl : b.length = 64) (hb : inB 10000000 b) : Xll g b = Xl1 g b := by
 obtain ⟨g1, g2⟩ := Xr6 hg
 unfold Xll Xl1
 rw [Xrx g hg, Ye5 g (by omega), hg, Ydu b 64 10000000 (by omega) (by omega) hb, Xjz b 64 10000000 (by omega) (by omega) (by omega) hb]
 have : Xme g b = Xgw g b := by
  funext v
  unfold Xme Xgw
  simp only [Yku, show ((g.length : Nat) : Int) = 64 by omega]
 simp only [Xab, Xaq, Bool.not_true, Xam, this]
theorem Yo4 {s : Xao} (h : Xm9 s = true) (h1 : s.Kind = 0) : s.Dx = 0 ∧ s.Dy = 0 := by
 unfold Xm9 at h
 rw [h1] at h
 simp at h
 exact ⟨h.2.1, h.2.2.1⟩
theorem Yxr {s : Xao} (h : Xm9 s = true) : (-16 ≤ s.Dx ∧ s.Dx ≤ 16) ∧ (-16 ≤ s.Dy ∧ s.Dy ≤ 16) := by
 have hk := Xqu h
 obtain h1 | h1 | h1 : s.Kind = 0 ∨ s.Kind = 1 ∨ s.Kind = 2 := by omega
 ·
  obtain ⟨a, b⟩ := Yo4 h h1; omega
 ·
  obtain ⟨a, b, _⟩ := Xrj h h1; exact ⟨a, b⟩
 ·
  unfold Xm9 at h
  rw [h1] at h
  simp at h
  omega
theorem Yff (s : Xao) (c : Xfg) : Xhb s c = some (Xhu s c) := by
 unfold Xhb Xhu
 cases c.Key <;> rfl
structure Yyx (now ref : Pic) (l t x y : Int) (c : Xfg) (q : Xao) : Prop where
 ok : Xck now = true
 hx : x.tmod 8 = 0
 hy : y.tmod 8 = 0
 h0 : Xmr now x y = true
 hl : 0 ≤ l ∧ l ≤ 256
 ht : 0 ≤ t ∧ t ≤ 256
 hc : Xge c = true
 hs : q.Levels.length ≤ 1048576
theorem Ykm {now ref : Pic} {l t x y : Int} {c : Xfg} {q : Xao} (h : Yyx now ref l t x y c q) (hq : (Xm9 q && Xhu q c) = false) : Xdm now ref l t c x y q = some ([], false) := by
 unfold Xdm
 rw [Xcq, Xab, h.ok, Xaq, Xsk h.ok h.hx h.hy h.h0, Xab, Xaq, Xaj, Xab, decide_eq_true h.hl, Xaq, Xaj, Xab, decide_eq_true h.ht, Xaq, Xen q (by have := h.hs; omega), Xab, Xdc, Xab, h.hc, Xaq, Yff, Xab]
 cases h1 : Xm9 q with
 | false => rfl
 | true =>
  rw [h1, Bool.true_and] at hq
  rw [hq]; rfl
theorem Ydn {now ref : Pic} {l t x y : Int} {c : Xfg} {q : Xao} (h : Yyx now ref l t x y c q) (hq : Xm9 q = true) (hL : Xhu q c = true) (hr : c.Key = false → Xck ref = true) : ∃ d, Xdm now ref l t c x y q = some (d, true) ∧ Xeh now ref l t c x y q = some (d, true) ∧ Xn7 d = true := by
 obtain ⟨ok, hx, hy, h0, hl, ht, hc, hs⟩ := h
 obtain ⟨k1, k2, k3⟩ := Xbu ok
 have h0' := h0
 unfold Xmr at h0'
 rw [decide_eq_true_eq] at h0'
 have dxy := Yxr hq
 unfold Xeh Xdm
 rw [Xnl ok hx hy h0, Xab, Xaq, Xai, Xab, decide_eq_true hl, Xaq, Xai, Xab, decide_eq_true ht, Xaq, Xjh, Xab, hq, Xaq, Xe9, Xab, hc, Bool.not_true, Xab, Xam]
 rw [Xcq, Xab, ok, Xaq, Xsk ok hx hy h0, Xab, Xaq, Xaj, Xab, decide_eq_true hl, Xaq, Xaj, Xab, decide_eq_true ht, Xaq, Xen q (by omega), Xab, hq, Xaq, Xdc, Xab, hc, Xaq, Yff, Xab, hL, Xaq]
 by_cases h2 : q.Kind = 2
 ·
  obtain ⟨hm, hlv⟩ := Xtt hq h2
  obtain ⟨e, ee, he⟩ := Ygg ok hx hy h0
  obtain ⟨b, eb, b1, b2⟩ := Xpa q.Levels c hc hlv
  obtain ⟨g, eg, hg⟩ := Ygk q.Mode hm he
  obtain ⟨j, ej, hj⟩ := Xu1 g b hg b1 b2
  refine ⟨j, ?_, ?_, hj⟩
  ·
   rw [Xaz (b := q.Kind != 2) (by simpa using h2), Xab, Xam, Xaz (by rw [h2]; rfl), Xro q.Levels c hc hlv, eb, Xab, Xaz (by rw [h2]; rfl), Ykg ok hx hy h0, ee, Xab, Ykh q.Mode hm he, eg, Xab, Yam g b hg b1 b2, ej, Xab]
  ·
   rw [Xbb (by simpa using h2), ee, Xab, eb, Xab, eg, Xab, ej, Xab]
 ·
  have hK : c.Key = false := by
   unfold Xhu at hL
   cases hk : c.Key with
   | false => rfl
   | true => rw [hk] at hL; simp at hL; exact absurd hL h2
  have rok := hr hK
  rw [Xbb (b := q.Kind != 2) (by simpa using h2), Xcq, Xab, rok, Bool.not_true, Xab, Xam]
  rw [Xaz (b := q.Kind == 2) (by simpa using h2), hK, Xam, Xgb, Xab, rok, Bool.not_true, Xab, Xam]
  rw [wkA (e := l + x), wkA (e := l + x + q.Dx), wkA (e := t + y), wkA (e := t + y + q.Dy), Ygf rok _ _ (by omega) (by omega), Xab, Xxn rok _ _ (by omega) (by omega), Xab, Xxn rok _ _ (by omega) (by omega)]
  by_cases h3 : q.Kind = 0
  ·
   obtain ⟨z1, z2⟩ := Yo4 hq h3
   rw [Xbb (b := q.Kind == 0) (by simpa using h3), Xbb (b := q.Kind == 0) (by simpa using h3), z1, z2, Int.add_zero, Int.add_zero]
   exact ⟨_, rfl, rfl, Ydx _ _ _⟩
  ·
   have h1 : q.Kind = 1 := by have := Xqu hq; omega
   obtain ⟨_, _, hlv⟩ := Xrj hq h1
   obtain ⟨b, eb, b1, b2⟩ := Xpa q.Levels c hc hlv
   obtain ⟨j, ej, hj⟩ := Xu1 _ b (Ydx ref (l + x + q.Dx) (t + y + q.Dy)) b1 b2
   rw [Xaz (b := q.Kind == 0) (by simpa using h3), Xaz (b := q.Kind == 0) (by simpa using h3), Xro q.Levels c hc hlv, eb, Xab, Xab, Xbb (b := q.Kind == 1) (by simpa using h1), Xab, Yam _ b (Ydx _ _ _) b1 b2, ej, Xab]
   exact ⟨_, rfl, rfl, hj⟩
theorem Yxj {β : Type} {a b c : Prop} [Decidable a] [Decidable b] [Decidable c] (hb : b) (hc : c) (k : Option β) : req a (req b (req c k)) = req b (req c (req a k)) := by
 rw [Xav hb, Xav hc, Xav hb, Xav hc]
theorem Yqy {p : Pic} (ok : Xck p = true) : p.Dots.size ≤ 65536 := by
 obtain ⟨k1, k2, k3⟩ := Xbu ok
 have := Xd7 k1 k2
 omega
theorem Yvc {p : Pic} {x y : Int} {d : List Int} (hd : Xn7 d = true) (hp : p.Dots.size ≤ maxLen) : Xte p x y d = Xl8 p x y d := by
 obtain ⟨d1, d2⟩ := Xr6 hd
 unfold Xte Xl8 Xqb
 rw [Xav hp, Xab, Xav hp]
 have : Xq5 p x y d = Xg0 p x y d := by
  funext v
  unfold Xq5 Xg0
  simp only [show ((d.length : Nat) : Int) = 64 by omega]
  exact Yqe (fun _ => Yxj (by omega) (by omega) _) fun _ => rfl
 rw [this]
theorem Yu0 (n : Nat) (x : Int) : ((List.range n).map fun _ => x) = List.replicate n x := by
 apply List.ext_getElem
 ·
  simp
 ·
  intro i h1 h2; simp
theorem Yav (w h : Int) (hw : 1 ≤ w ∧ w ≤ 256) (hh : 1 ≤ h ∧ h ≤ 256) : Xn8 w h = some ⟨w, h, strOfNums (List.replicate (w * h).toNat 128)⟩ := by
 have ar := Xd7 hw hh
 unfold Xn8
 rw [Xaj, Xab, decide_eq_true hw, Xaq, Xaj, Xab, decide_eq_true hh, Bool.not_true, Xab, Xam, wkA (e := w * h), rqA]
 rw [Ys2 (f := Xmv w h) (w * h).toNat (fun _ => 128) (List.replicate (w * h).toNat 0) (by simp) ?_ ?_, Xab, Yu0]
 ·
  intro i s hi hs _
  unfold Xmv
  simp only [List.length_replicate, Int.toNat_natCast]
  rw [wkA (e := w * h), syA, rqA, rqA, wkA]
  rfl
 ·
  intro s hs
  unfold Xmv
  simp only [List.length_replicate]
  rw [wkA (e := w * h), snA]
theorem Xss (w h : Int) (hw : 1 ≤ w ∧ w ≤ 256) (hh : 1 ≤ h ∧ h ≤ 256) : Xqn w h = some ⟨w, h, strOfNums (List.replicate (w * h).toNat 128)⟩ := by
 have ar := Xd7 hw hh
 unfold Xqn
 rw [Xai, Xab, decide_eq_true hw, Xaq, Xai, Xab, decide_eq_true hh, Bool.not_true, Xab, Xam, wkA (e := w * h), show w * h = (((w * h).toNat : Nat) : Int) by omega, Xsw _ _ (by omega), Xab, Int.toNat_natCast]
def Xms (p : Pic) (r : Xph) : Bool := decide (1 ≤ r.Wide ∧ r.Wide ≤ p.Wide) && (decide (1 ≤ r.High ∧ r.High ≤ p.High) && (decide (0 ≤ r.Left ∧ r.Left ≤ p.Wide - r.Wide) && decide (0 ≤ r.Top ∧ r.Top ≤ p.High - r.High)))
theorem Xq4 {p : Pic} (ok : Xck p = true) (r : Xph) : Xd5 p r = some (Xms p r) := by
 obtain ⟨k1, k2, k3⟩ := Xbu ok
 unfold Xd5 Xms
 rw [Xaj, Xaj, Xab, Xab]
 by_cases h1 : 1 ≤ r.Wide ∧ r.Wide ≤ p.Wide
 ·
  rw [decide_eq_true h1, Xaq, Bool.true_and]
  by_cases h2 : 1 ≤ r.High ∧ r.High ≤ p.High
  ·
   rw [decide_eq_true h2, Xaq, Bool.true_and, wkA (e := p.Wide - r.Wide), wkA (e := p.High - r.High), Xaj, Xaj, Xab, Xab, Xcm, Xab]
  ·
   rw [decide_eq_false h2, Xam, Bool.false_and]; rfl
 ·
  rw [decide_eq_false h1, Xam, Bool.false_and]; rfl
theorem Xl6 (p : Pic) (r : Xph) : Xdg p r.Left r.Top r.Wide r.High = some (Xck p && Xms p r) := by
 unfold Xdg Xms
 rw [Xgb, Xab]
 cases ok : Xck p with
 | false => rfl
 | true =>
  obtain ⟨k1, k2, k3⟩ := Xbu ok
  rw [Xaq, Xai, Xai, Xab, Xab]
  by_cases h1 : 1 ≤ r.Wide ∧ r.Wide ≤ p.Wide
  ·
   rw [decide_eq_true h1, Xaq, Bool.true_and, Bool.true_and]
   by_cases h2 : 1 ≤ r.High ∧ r.High ≤ p.High
   ·
    rw [decide_eq_true h2, Xaq, Bool.true_and, wkA (e := p.Wide - r.Wide), wkA (e := p.High - r.High), Xai, Xai, Xab, Xab, Xcm, Xab]
   ·
    rw [decide_eq_false h2, Xam, Bool.false_and]; rfl
  ·
   rw [decide_eq_false h1, Xam, Bool.false_and]; rfl
theorem Xjq {p : Pic} {r : Xph} (h : Xms p r = true) : (1 ≤ r.Wide ∧ r.Wide ≤ p.Wide) ∧ (1 ≤ r.High ∧ r.High ≤ p.High) ∧ (0 ≤ r.Left ∧ r.Left ≤ p.Wide - r.Wide) ∧ (0 ≤ r.Top ∧ r.Top ≤ p.High - r.High) := by
 unfold Xms at h
 simp only [Bool.and_eq_true, decide_eq_true_eq] at h
 exact h
def Xpi (p : Pic) (r : Xph) : Nat → List Int
 | 0 => []
 | n + 1 => Xpi p r n ++ Xal (p.Dots.extract ((r.Top + n) * p.Wide + r.Left).toNat ((r.Top + n) * p.Wide + r.Left + r.Wide).toNat)
theorem Yt6 {p : Pic} {r : Xph} (ok : Xck p = true) (h : Xms p r = true) (n : Nat) (hn : (n : Int) < r.High) : 0 ≤ (r.Top + n) * p.Wide ∧ (r.Top + n) * p.Wide + r.Left + r.Wide ≤ p.Dots.size ∧ (r.Top + n) * p.Wide ≤ 65536 ∧ (Xal (p.Dots.extract ((r.Top + n) * p.Wide + r.Left).toNat ((r.Top + n) * p.Wide + r.Left + r.Wide).toNat)).length = r.Wide.toNat := by
 obtain ⟨k1, k2, k3⟩ := Xbu ok
 obtain ⟨a1, a2, a3, a4⟩ := Xjq h
 have ar := Xd7 k1 k2
 have b1 : 0 ≤ (r.Top + n) * p.Wide := Int.mul_nonneg (by omega) (by omega)
 have b2 : (r.Top + n) * p.Wide ≤ (p.High - 1) * p.Wide := Int.mul_le_mul_of_nonneg_right (by omega) (by omega)
 have b3 : (p.High - 1) * p.Wide = p.Wide * p.High - p.Wide := by rw [Int.sub_mul, Int.one_mul, Int.mul_comm]
 refine ⟨b1, by omega, by omega, ?_⟩
 rw [Xap, ByteArray.size_extract]
 omega
theorem Xvf {p : Pic} {r : Xph} (ok : Xck p = true) (h : Xms p r = true) : ∀ n : Nat, (n : Int) ≤ r.High → ((Xpi p r n).length : Int) = n * r.Wide
 | 0, _ => by simp [Xpi]
 | n + 1, hn => by
  have a := Xjq h
  have b := Yt6 ok h n (by omega)
  rw [Xpi, List.length_append, Int.natCast_add, Xvf ok h n (by omega), b.2.2.2, Int.natCast_add, Int.add_mul]
  simp only [Int.natCast_one, Int.one_mul]
  omega
theorem Yqx {p : Pic} {r : Xph} {f : Int × List Int → Option (Lp (Int × List Int) (List Int))} (ok : Xck p = true) (h : Xms p r = true) (hf : f = Xk1 p r) : loop f (r.Top, []) = some (Xpi p r r.High.toNat) := by
 have hm : maxLen = 9223372036854775807 := rfl
 obtain ⟨k1, k2, k3⟩ := Xbu ok
 obtain ⟨a1, a2, a3, a4⟩ := Xjq h
 subst hf
 have key : ∀ n : Nat, n ≤ r.High.toNat → loop (Xk1 p r) (r.Top + n, Xpi p r n) = some (Xpi p r r.High.toNat) := by
  refine Xc1 _ ?_ ?_
  ·
   refine Xbx ?_
   unfold Xk1
   rw [wkA (e := r.Top + r.High), Xas (by simp only; omega)]
  ·
   intro n hn ih
   refine lgo (y := (r.Top + ((n + 1 : Nat) : Int), Xpi p r (n + 1))) ?_ ih
   obtain ⟨b1, b2, b3, b4⟩ := Yt6 ok h n (by omega)
   have cl := Xvf ok h n (by omega)
   have cw : (n : Int) * r.Wide ≤ 256 * r.Wide := Int.mul_le_mul_of_nonneg_right (by omega) (by omega)
   unfold Xk1
   simp only
   rw [wkA (e := r.Top + r.High), syA, wkA (e := (r.Top + n) * p.Wide), wkA (e := (r.Top + n) * p.Wide + r.Left), wkA (e := (r.Top + n) * p.Wide + r.Left + r.Wide), rqA, Xav (by rw [b4]; omega), wkA (e := r.Top + n + 1), show r.Top + ((n + 1 : Nat) : Int) = r.Top + n + 1 by omega]
   rfl
 have := key 0 (by omega)
 simpa [Xpi] using this
def Zag (p : Pic) (r : Xph) : Pic := ⟨r.Wide, r.High, strOfNums (Xpi p r r.High.toNat)⟩
theorem Yy9 {p : Pic} {r : Xph} (ok : Xck p = true) (h : Xms p r = true) : Xck (Zag p r) = true := by
 obtain ⟨k1, k2, k3⟩ := Xbu ok
 obtain ⟨a1, a2, a3, a4⟩ := Xjq h
 refine Xtm (by show 1 ≤ r.Wide ∧ r.Wide ≤ 256; omega) (by show 1 ≤ r.High ∧ r.High ≤ 256; omega) ?_
 show ((strOfNums _).size : Int) = r.Wide * r.High
 rw [strOfNums_size, Xvf ok h _ (by omega), Int.mul_comm]
 congr 1; omega
theorem Yme {p : Pic} {r : Xph} (ok : Xck p = true) (h : Xms p r = true) : Xts p r = some (Zag p r, true) := by
 unfold Xts
 rw [Xl6, ok, h, Xab]
 simp only [Bool.true_and, Bool.not_true, Xam]
 rw [Yqx ok h rfl, Xab]
 rfl
theorem Yk6 {p : Pic} {r : Xph} (ok : Xck p = true) (h : Xms p r = true) : Xn5 p r = some (Zag p r, true) := by
 obtain ⟨k1, k2, k3⟩ := Xbu ok
 obtain ⟨a1, a2, a3, a4⟩ := Xjq h
 have ar := Xd7 (w := r.Wide) (h := r.High) (by omega) (by omega)
 unfold Xn5
 rw [Xcq, Xab, ok, Xaq, Xq4 ok, Xab, h, Bool.not_true, Xab, Xam, wkA (e := r.Wide * r.High), rqA]
 have := Yqx (f := Xq2 p r) ok h rfl
 rw [show List.replicate (0 : Int).toNat (0 : Int) = [] from rfl, this, Xab]
 rfl
def Xpg (l : List Xao) (c : Xfg) : Bool := l.all fun q => Xm9 q && Xhu q c
theorem Xuu (n : Int) : Xlr n = some (Xrh n) := by
 unfold Xlr Xrh
 rw [rqA, Xaj, Xab, Xcm, Xab, Ydw]
theorem Ymi (l : List Xao) (c : Xfg) (hl : l.length ≤ 1048576) : Yac l c = some (Xge c && (decide (1 ≤ l.length ∧ l.length ≤ 64) && Xpg l c)) := by
 unfold Yac
 rw [Xe9, Xab]
 cases hc : Xge c with
 | false => rfl
 | true =>
  rw [Xaq, Xai, Xab, Xab]
  by_cases h64 : 1 ≤ l.length ∧ l.length ≤ 64
  ·
   rw [decide_eq_true (show 1 ≤ (l.length : Int) ∧ (l.length : Int) ≤ 64 by omega), decide_eq_true h64, Bool.not_true, Xam, Bool.true_and, Bool.true_and]
   have key : ∀ (r a : List Xao), l = a ++ r → loop (Xid l c) (a.length : Int) = some (if Xpg r c = true then .out () else .ret false) := by
    intro r
    induction r with
    | nil =>
     intro a ha
     rw [List.append_nil] at ha
     exact Xbx (by unfold Xid; rw [Xas (by rw [ha]; omega)]; rfl)
    | cons s r ih =>
     intro a ha
     have hlen : a.length < l.length := by rw [ha]; simp
     have hx : l.getD a.length Xbt = s := by rw [ha]; exact Xnr a s _ r
     have hn := ih (a ++ [s]) (by rw [ha]; simp)
     rw [List.length_append, List.length_singleton] at hn
     have hstep : Xid l c (a.length : Int) = sel (!(Xm9 s && Xhu s c)) (some (.done (.ret false))) (some (.go ((a.length + 1 : Nat) : Int))) := by
      unfold Xid
      simp only [Int.toNat_natCast, hx]
      rw [syA, rqA, show (⟨s.Kind, s.Mode, s.Dx, s.Dy, s.Levels⟩ : Xao) = s from rfl, Xjh, Xab, rqA, wkA]
      unfold Xhu
      cases Xm9 s with
      | false => rfl
      | true =>
       cases c.Key with
       | false => rfl
       | true => rw [Xaq, Xaq, Xab, Bool.true_and, Bool.not_true, Bool.false_or]; rfl
     unfold Xpg at hn ⊢
     rw [List.all_cons]
     cases hq : (Xm9 s && Xhu s c) with
     | true =>
      rw [hq] at hstep
      rw [Xg1 (hstep.trans (by rw [Bool.not_true, Xam])), hn, Bool.true_and]
     | false =>
      rw [hq] at hstep
      rw [Xci (hstep.trans (by rw [Bool.not_false, Xaq]))]
      simp
   have k0 : loop (Xid l c) 0 = some (if Xpg l c = true then .out () else .ret false) := key l [] rfl
   rw [k0, Xab]
   cases Xpg l c <;> rfl
  ·
   rw [decide_eq_false (show ¬ (1 ≤ (l.length : Int) ∧ (l.length : Int) ≤ 64) by omega), decide_eq_false h64]; rfl
theorem Ykd {w h : Int} (hw : Xrh w = true) (hh : Xrh h = true) (i : Nat) (hi : (i : Int) < w / 8 * (h / 8)) : (8 ≤ w ∧ w ≤ 64) ∧ (8 ≤ h ∧ h ≤ 64) ∧ 1 ≤ w / 8 ∧ w / 8 ≤ 8 ∧ 1 ≤ h / 8 ∧ h / 8 ≤ 8 ∧ 0 ≤ (i : Int) % (w / 8) * 8 ∧ (i : Int) % (w / 8) * 8 ≤ w - 8 ∧ 0 ≤ (i : Int) / (w / 8) * 8 ∧ (i : Int) / (w / 8) * 8 ≤ h - 8 := by
 unfold Xrh at hw hh
 rw [Bool.and_eq_true, decide_eq_true_eq, decide_eq_true_eq] at hw hh
 rw [Xbq (by omega)] at hw hh
 have h1 : 1 ≤ w / 8 ∧ w / 8 ≤ 8 := by omega
 have h2 : 1 ≤ h / 8 ∧ h / 8 ≤ 8 := by omega
 have m0 : 0 ≤ (i : Int) % (w / 8) := Int.emod_nonneg _ (by omega)
 have m1 : (i : Int) % (w / 8) < w / 8 := Int.emod_lt_of_pos _ (by omega)
 have d0 : 0 ≤ (i : Int) / (w / 8) := Int.ediv_nonneg (by omega) (by omega)
 have d1 : (i : Int) / (w / 8) < h / 8 := Int.ediv_lt_of_lt_mul (by omega) (by rw [Int.mul_comm]; exact hi)
 exact ⟨hw.2, hh.2, h1.1, h1.2, h2.1, h2.2, by omega, by omega, by omega, by omega⟩
theorem Xly {w : Int} (hw : Xrh w = true) : w % 8 = 0 ∧ 8 ≤ w ∧ w ≤ 64 := by
 unfold Xrh at hw
 rw [Bool.and_eq_true, decide_eq_true_eq, decide_eq_true_eq] at hw
 rw [Xbq (by omega)] at hw
 exact ⟨hw.1, hw.2⟩
structure Ywk (ref : Pic) (le tp : Int) (r : Xph) (c : Xfg) (l : List Xao) : Prop where
 hw : Xrh r.Wide = true
 hh : Xrh r.High = true
 hl : 0 ≤ le ∧ le ≤ 256
 ht : 0 ≤ tp ∧ tp ≤ 256
 hc : Xge c = true
 hn : (l.length : Int) = r.Wide / 8 * (r.High / 8)
 hs : ∀ q ∈ l, q.Levels.length ≤ 1048576
 hr : c.Key = false → Xck ref = true
def tbI (r : Xph) (v : Int × Int × ByteArray) : Prop := Xck ⟨v.1, v.2.1, v.2.2⟩ = true ∧ v.1 = r.Wide ∧ v.2.1 = r.High
theorem Yv4 {ref : Pic} {le tp : Int} {r : Xph} {c : Xfg} {l : List Xao} (H : Ywk ref le tp r c l) (i : Nat) (hi : i < l.length) (s : Int × Int × ByteArray) (hs : tbI r s) :
  ((Xm9 (l.getD i Xbt) && Xhu (l.getD i Xbt) c) = false → Xb3 r c l (le, tp, ref.Wide, ref.High, ref.Dots) ((i : Int), s) = some (.done (.ret (⟨0, 0, ⟨#[]⟩⟩, false)))) ∧
  ((Xm9 (l.getD i Xbt) && Xhu (l.getD i Xbt) c) = true → ∃ s', Xb3 r c l (le, tp, ref.Wide, ref.High, ref.Dots) ((i : Int), s) = some (.go (((i + 1 : Nat) : Int), s')) ∧ Xbr r c l (le, tp, ref.Wide, ref.High, ref.Dots) ((i : Int), s) = some (.go (((i + 1 : Nat) : Int), s')) ∧ tbI r s') := by
 obtain ⟨hw, hh, hl, ht, hc, hn, hls, hr⟩ := H
 obtain ⟨w, h, dt⟩ := s
 obtain ⟨ok, e1, e2⟩ := hs
 simp only at ok e1 e2
 subst e1; subst e2
 obtain ⟨p1, p2, p3, p4, p5, p6, p7, p8, p9, p10⟩ := Ykd hw hh i (by omega)
 have hmem : l.getD i Xbt ∈ l := by rw [Xb2 l i hi]; exact List.getElem_mem _
 have held : Xmr (⟨r.Wide, r.High, dt⟩ : Pic) ((i : Int) % (r.Wide / 8) * 8) ((i : Int) / (r.Wide / 8) * 8) = true := by
  unfold Xmr; rw [decide_eq_true_eq]; exact ⟨p7, p8, p9, p10⟩
 have SD : Yyx (⟨r.Wide, r.High, dt⟩ : Pic) ref le tp ((i : Int) % (r.Wide / 8) * 8) ((i : Int) / (r.Wide / 8) * 8) c (l.getD i Xbt) :=
  ⟨ok, by rw [Xbq p7]; omega, by rw [Xbq p9]; omega, held, hl, ht, hc, hls _ hmem⟩
 have l64 : l.length ≤ 64 := by
  have : r.Wide / 8 * (r.High / 8) ≤ 8 * 8 := Int.mul_le_mul (by omega) (by omega) (by omega) (by omega)
  omega
 have eI : Xb3 r c l (le, tp, ref.Wide, ref.High, ref.Dots) ((i : Int), r.Wide, r.High, dt) = bnd (Xdm (⟨r.Wide, r.High, dt⟩ : Pic) ref le tp c ((i : Int) % (r.Wide / 8) * 8) ((i : Int) / (r.Wide / 8) * 8) (l.getD i Xbt)) fun q21 => sel (!q21.2) (some (.done (.ret (⟨0, 0, ⟨#[]⟩⟩, false)))) (bnd (Xte (⟨r.Wide, r.High, dt⟩ : Pic) ((i : Int) % (r.Wide / 8) * 8) ((i : Int) / (r.Wide / 8) * 8) q21.1) fun q22 => some (.go (((i + 1 : Nat) : Int), q22.Wide, q22.High, q22.Dots))) := by
  unfold Xb3
  simp only [Int.toNat_natCast]
  rw [syA, rqA, rqA, Xbp (a := r.Wide) (by omega), wkA (e := r.Wide / 8), rqA, rqA, rqA, Xbq (a := (i : Int)) (by omega), Xbp (a := (i : Int)) (by omega), wkA (e := (i : Int) % (r.Wide / 8) * 8), wkA (e := (i : Int) / (r.Wide / 8)), wkA (e := (i : Int) / (r.Wide / 8) * 8), wkA (e := (i : Int) + 1)]
  rfl
 have eS : Xbr r c l (le, tp, ref.Wide, ref.High, ref.Dots) ((i : Int), r.Wide, r.High, dt) = bnd (Xeh (⟨r.Wide, r.High, dt⟩ : Pic) ref le tp c ((i : Int) % (r.Wide / 8) * 8) ((i : Int) / (r.Wide / 8) * 8) (l.getD i Xbt)) fun q21 => bnd (Xl8 (⟨r.Wide, r.High, dt⟩ : Pic) ((i : Int) % (r.Wide / 8) * 8) ((i : Int) / (r.Wide / 8) * 8) q21.1) fun q22 => some (.go (((i + 1 : Nat) : Int), q22.Wide, q22.High, q22.Dots)) := by
  unfold Xbr
  simp only [Int.toNat_natCast]
  rw [syA, rqA, Xbp (a := r.Wide) (by omega), wkA (e := r.Wide / 8), rqA, rqA, rqA, rqA, Xbq (a := (i : Int)) (by omega), Xbp (a := (i : Int)) (by omega), Int.mul_comm 8 ((i : Int) % (r.Wide / 8)), wkA (e := (i : Int) / (r.Wide / 8)), Int.mul_comm 8 ((i : Int) / (r.Wide / 8)), wkA (e := (i : Int) % (r.Wide / 8) * 8), wkA (e := (i : Int) / (r.Wide / 8) * 8), wkA (e := (i : Int) + 1)]
  rfl
 refine ⟨fun hq => ?_, fun hq => ?_⟩
 ·
  rw [eI, Ykm SD hq, Xab]; rfl
 ·
  rw [Bool.and_eq_true] at hq
  obtain ⟨d, d1, d2, d3⟩ := Ydn SD hq.1 hq.2 hr
  obtain ⟨p', ep, g1, g2, g3⟩ := Yjk ok held d3
  refine ⟨(p'.Wide, p'.High, p'.Dots), ?_, ?_, g1, g2, g3⟩
  ·
   rw [eI, d1, Xab, Bool.not_true, Xam, Yvc d3 (by have := Yqy ok; have hm : maxLen = 9223372036854775807 := rfl; simp only at this ⊢; omega), ep, Xab]
  ·
   rw [eS, d2, Xab, ep, Xab]
theorem Yzf {r : Xph} (hw : Xrh r.Wide = true) (hh : Xrh r.High = true) : tbI r (r.Wide, r.High, strOfNums (List.replicate (r.Wide * r.High).toNat 128)) := by
 have a := Xly hw
 have b := Xly hh
 have ar := Xd7 (w := r.Wide) (h := r.High) (by omega) (by omega)
 refine ⟨Xtm (by simp only; omega) (by simp only; omega) ?_, rfl, rfl⟩
 simp only
 rw [strOfNums_size, List.length_replicate]; omega
theorem Yxx {ref : Pic} {le tp : Int} {r : Xph} {c : Xfg} {l : List Xao} (H : Ywk ref le tp r c l) (s0 : Int × Int × ByteArray) (h0 : tbI r s0) :
  (Xpg l c = false → loop (Xb3 r c l (le, tp, ref.Wide, ref.High, ref.Dots)) (0, s0) = some (.ret (⟨0, 0, ⟨#[]⟩⟩, false))) ∧
  (Xpg l c = true → ∃ s, loop (Xb3 r c l (le, tp, ref.Wide, ref.High, ref.Dots)) (0, s0) = some (.out s) ∧ loop (Xbr r c l (le, tp, ref.Wide, ref.High, ref.Dots)) (0, s0) = some s ∧ tbI r s) := by
 have key : ∀ i : Nat, i ≤ l.length → ∀ s, tbI r s →
  ((∃ j, i ≤ j ∧ j < l.length ∧ (Xm9 (l.getD j Xbt) && Xhu (l.getD j Xbt) c) = false) → loop (Xb3 r c l (le, tp, ref.Wide, ref.High, ref.Dots)) ((i : Int), s) = some (.ret (⟨0, 0, ⟨#[]⟩⟩, false))) ∧
  ((∀ j, i ≤ j → j < l.length → (Xm9 (l.getD j Xbt) && Xhu (l.getD j Xbt) c) = true) → ∃ s', loop (Xb3 r c l (le, tp, ref.Wide, ref.High, ref.Dots)) ((i : Int), s) = some (.out s') ∧ loop (Xbr r c l (le, tp, ref.Wide, ref.High, ref.Dots)) ((i : Int), s) = some s' ∧ tbI r s') := by
  refine Xc1 _ ?_ ?_
  ·
   intro s hs
   refine ⟨fun ⟨j, h1, h2, _⟩ => by omega, fun _ => ⟨s, Xbx ?_, Xbx ?_, hs⟩⟩
   ·
    unfold Xb3; rw [Xas (by simp)]
   ·
    unfold Xbr; rw [Xas (by simp)]
  ·
   intro i hi ih s hs
   obtain ⟨hno, hyes⟩ := Yv4 H i hi s hs
   cases hq : (Xm9 (l.getD i Xbt) && Xhu (l.getD i Xbt) c) with
   | false =>
    refine ⟨fun _ => Xbx (hno hq), fun hall => ?_⟩
    have := hall i (Nat.le_refl _) hi
    rw [hq] at this; cases this
   | true =>
    obtain ⟨s', e1, e2, hs'⟩ := hyes hq
    obtain ⟨i1, i2⟩ := ih s' hs'
    refine ⟨fun ⟨j, h1, h2, h3⟩ => lgo e1 (i1 ⟨j, ?_, h2, h3⟩), fun hall => ?_⟩
    ·
     rcases Nat.lt_or_ge i j with h | h
     ·
      exact h
     ·
      have : j = i := by omega
      subst this
      rw [hq] at h3; cases h3
    ·
     obtain ⟨s2, k1, k2, k3⟩ := i2 fun j hj => hall j (by omega)
     exact ⟨s2, lgo e1 k1, lgo e2 k2, k3⟩
 obtain ⟨k1, k2⟩ := key 0 (by omega) s0 h0
 refine ⟨fun hf => k1 ?_, fun ht => k2 fun j _ hj => ?_⟩
 ·
  unfold Xpg at hf
  rw [List.all_eq_false] at hf
  obtain ⟨x, hx, hxf⟩ := hf
  obtain ⟨j, hj, rfl⟩ := List.getElem_of_mem hx
  exact ⟨j, by omega, hj, by rw [Xb2 l j hj]; simpa using hxf⟩
 ·
  unfold Xpg at ht
  rw [List.all_eq_true] at ht
  exact ht _ (by rw [Xb2 l j hj]; exact List.getElem_mem _)
theorem Yxb {now ref ref' : Pic} {l l' t t' x y : Int} {c : Xfg} {q : Xao} (h : Yyx now ref l t x y c q) (h' : Yyx now ref' l' t' x y c q) (hq : Xm9 q = true) (hL : Xhu q c = true) (hK : c.Key = true) : Xeh now ref l t c x y q = Xeh now ref' l' t' c x y q := by
 have h2 : (q.Kind == 2) = true := by unfold Xhu at hL; rw [hK] at hL; simpa using hL
 unfold Xeh
 rw [Xai, Xai, Xai, Xai, decide_eq_true h.hl, decide_eq_true h.ht, decide_eq_true h'.hl, decide_eq_true h'.ht, h2]
 simp only [Xaq]
theorem Yxc {ref ref' : Pic} {le tp le' tp' : Int} {r : Xph} {c : Xfg} {l : List Xao} (H : Ywk ref le tp r c l) (H' : Ywk ref' le' tp' r c l) (hK : c.Key = true) (ha : Xpg l c = true) (s0 : Int × Int × ByteArray) (h0 : tbI r s0) :
  loop (Xbr r c l (le, tp, ref.Wide, ref.High, ref.Dots)) (0, s0) = loop (Xbr r c l (le', tp', ref'.Wide, ref'.High, ref'.Dots)) (0, s0) := by
 have hall : ∀ i, i < l.length → (Xm9 (l.getD i Xbt) && Xhu (l.getD i Xbt) c) = true := fun i hi => by
  unfold Xpg at ha
  rw [List.all_eq_true] at ha
  exact ha _ (by rw [Xb2 l i hi]; exact List.getElem_mem _)
 refine Yrl l.length (fun _ s => tbI r s) ?_ ?_ h0
 ·
  intro i s hi hs
  rcases Nat.lt_or_ge i l.length with hlt | hge
  ·
   have hq := hall i hlt
   rw [Bool.and_eq_true] at hq
   obtain ⟨w, h, dt⟩ := s
   obtain ⟨ok, e1, e2⟩ := hs
   simp only at ok e1 e2
   subst e1; subst e2
   have hn := H.hn
   obtain ⟨p1, p2, p3, p4, p5, p6, p7, p8, p9, p10⟩ := Ykd H.hw H.hh i (by omega)
   have hmem : l.getD i Xbt ∈ l := by rw [Xb2 l i hlt]; exact List.getElem_mem _
   have held : Xmr (⟨r.Wide, r.High, dt⟩ : Pic) ((i : Int) % (r.Wide / 8) * 8) ((i : Int) / (r.Wide / 8) * 8) = true := by
    unfold Xmr; rw [decide_eq_true_eq]; exact ⟨p7, p8, p9, p10⟩
   have SD : Yyx (⟨r.Wide, r.High, dt⟩ : Pic) ref le tp ((i : Int) % (r.Wide / 8) * 8) ((i : Int) / (r.Wide / 8) * 8) c (l.getD i Xbt) :=
    ⟨ok, by rw [Xbq p7]; omega, by rw [Xbq p9]; omega, held, H.hl, H.ht, H.hc, H.hs _ hmem⟩
   have SD' : Yyx (⟨r.Wide, r.High, dt⟩ : Pic) ref' le' tp' ((i : Int) % (r.Wide / 8) * 8) ((i : Int) / (r.Wide / 8) * 8) c (l.getD i Xbt) :=
    ⟨ok, by rw [Xbq p7]; omega, by rw [Xbq p9]; omega, held, H'.hl, H'.ht, H'.hc, H'.hs _ hmem⟩
   have l64 : l.length ≤ 64 := by
    have : r.Wide / 8 * (r.High / 8) ≤ 8 * 8 := Int.mul_le_mul (by omega) (by omega) (by omega) (by omega)
    omega
   unfold Xbr
   simp only [Int.toNat_natCast]
   refine Yqe (fun _ => Yl1 fun _ => ?_) fun _ => rfl
   rw [Xbp (a := r.Wide) (by omega), wkA (e := r.Wide / 8), Xbq (a := (i : Int)) (by omega), Xbp (a := (i : Int)) (by omega), Int.mul_comm 8 ((i : Int) % (r.Wide / 8)), wkA (e := (i : Int) / (r.Wide / 8)), Int.mul_comm 8 ((i : Int) / (r.Wide / 8)), wkA (e := (i : Int) % (r.Wide / 8) * 8), wkA (e := (i : Int) / (r.Wide / 8) * 8)]
   refine Yl1 fun _ => Yl1 fun _ => Yl1 fun _ => Yl1 fun _ => Yy4 ?_ fun _ _ => rfl
   exact Yxb SD SD' hq.1 hq.2 hK
  ·
   unfold Xbr
   rw [Xas (by simp only; omega), Xas (by simp only; omega)]
 ·
  intro i s v' hi hs he
  rcases Nat.lt_or_ge i l.length with hlt | hge
  ·
   obtain ⟨s', _, e2, hs'⟩ := (Yv4 H' i hlt s hs).2 (hall i hlt)
   rw [e2] at he
   injection he with he
   injection he with he
   subst he
   exact ⟨rfl, by omega, hs'⟩
  ·
   unfold Xbr at he
   rw [Xas (by simp only; omega)] at he
   cases he
theorem Xwi (ref : Pic) (r : Xph) (c : Xfg) (cf : Bool) (l : List Xao) (hll : l.length ≤ 1048576) (hs : ∀ q ∈ l, q.Levels.length ≤ 1048576) : ∃ x, Xko ref r c cf l = some x ∧ Xk6 ref r c cf l = some x ∧ (x.2 = true → tbI r (x.1.Wide, x.1.High, x.1.Dots)) := by
 unfold Xko Xk6
 rw [Xuu, Xab, Xs7, Xab]
 cases hw : Xrh r.Wide with
 | false => exact ⟨_, rfl, rfl, fun h => by cases h⟩
 | true =>
  rw [Xaq, Xaq, Xuu, Xab, Xs7, Xab]
  cases hh : Xrh r.High with
  | false => exact ⟨_, rfl, rfl, fun h => by cases h⟩
  | true =>
   rw [Xaq, Xaq, Xaj, Xab, Xai, Xab]
   by_cases hL : 0 ≤ r.Left ∧ r.Left ≤ 256
   ·
    rw [decide_eq_true hL, Xaq, Xaq, Xaj, Xab, Xai, Xab]
    by_cases hT : 0 ≤ r.Top ∧ r.Top ≤ 256
    ·
     rw [decide_eq_true hT, Xaq, Xaq, Xdc, Xab, Ymi l c hll, Xab]
     cases hc : Xge c with
     | false => exact ⟨_, rfl, rfl, fun h => by cases h⟩
     | true =>
      have sw := Xly hw
      have sh := Xly hh
      have mb : r.Wide / 8 * (r.High / 8) ≤ 8 * 8 := Int.mul_le_mul (by omega) (by omega) (by omega) (by omega)
      have m0 : 1 * 1 ≤ r.Wide / 8 * (r.High / 8) := Int.mul_le_mul (by omega) (by omega) (by omega) (by omega)
      rw [Xaq, rqA, rqA, Bool.true_and, Xbp (a := r.Wide) (by omega), Xbp (a := r.High) (by omega), wkA (e := r.Wide / 8), wkA (e := r.High / 8), wkA (e := r.Wide / 8 * (r.High / 8))]
      by_cases hn : (l.length : Int) = r.Wide / 8 * (r.High / 8)
      ·
       have hne : ((l.length : Int) != r.Wide / 8 * (r.High / 8)) = false := by simpa using hn
       rw [decide_eq_true (show 1 ≤ l.length ∧ l.length ≤ 64 by omega), Bool.true_and, hne]
       -- the picture before
       have ha : (sel c.Key (some false) (bnd (Xdo ref) fun q8 => sel q8 (bnd (Xd5 ref r) fun q9 => some (!q9)) (some true))) = some (!c.Key && !(Xck ref && Xms ref r)) := by
        cases c.Key with
        | true => rfl
        | false =>
         rw [Xam, Xcq, Xab]
         cases hp : Xck ref with
         | false => rfl
         | true => rw [Xaq, Xq4 hp, Xab]; rfl
       have hb : (sel c.Key (some false) (bnd (Xdg ref r.Left r.Top r.Wide r.High) fun q8 => some (!q8))) = some (!c.Key && !(Xck ref && Xms ref r)) := by
        cases c.Key with
        | true => rfl
        | false => rw [Xam, Xl6, Xab]; rfl
       have G := Yzf hw hh
       have gI := Yav r.Wide r.High (by omega) (by omega)
       have gS := Xss r.Wide r.High (by omega) (by omega)
       rw [ha, hb, gI, gS]
       simp only [Xab, Xam]
       cases hbad : (!c.Key && !(Xck ref && Xms ref r)) with
       | true => cases Xpg l c <;> exact ⟨_, rfl, rfl, fun h => by cases h⟩
       | false =>
        have hr : c.Key = false → Xck ref = true ∧ Xms ref r = true := by
         intro hk
         rw [hk] at hbad
         simp only [Bool.not_false, Bool.true_and, Bool.not_eq_false'] at hbad
         rwa [Bool.and_eq_true] at hbad
        have vI : ∃ (rI : Pic) (lI tI : Int), (sel cf (sel (!c.Key) (bnd (Xn5 ref r) fun q11 => some ((0 : Int), (0 : Int), q11.1.Wide, q11.1.High, q11.1.Dots)) (some (0, 0, ref.Wide, ref.High, ref.Dots))) (some (r.Left, r.Top, ref.Wide, ref.High, ref.Dots))) = some (lI, tI, rI.Wide, rI.High, rI.Dots) ∧ Ywk rI lI tI r c l ∧
          ∃ (rS : Pic) (lS tS : Int), (bnd (sel c.Key (some false) (some cf)) fun v10 => sel v10 (bnd (Xts ref r) fun q11 => some ((0 : Int), (0 : Int), q11.1.Wide, q11.1.High, q11.1.Dots)) (some (r.Left, r.Top, ref.Wide, ref.High, ref.Dots))) = some (lS, tS, rS.Wide, rS.High, rS.Dots) ∧ Ywk rS lS tS r c l ∧ (c.Key = false → rI = rS ∧ lI = lS ∧ tI = tS) := by
         cases hK : c.Key with
         | true =>
          have TT : ∀ le tp : Int, (0 ≤ le ∧ le ≤ 256) → (0 ≤ tp ∧ tp ≤ 256) → Ywk ref le tp r c l := fun le tp h1 h2 => ⟨hw, hh, h1, h2, hc, hn, hs, fun h => by rw [hK] at h; cases h⟩
          cases cf with
          | true => exact ⟨ref, 0, 0, rfl, TT 0 0 (by omega) (by omega), ref, r.Left, r.Top, rfl, TT _ _ hL hT, fun h => by cases h⟩
          | false => exact ⟨ref, r.Left, r.Top, rfl, TT _ _ hL hT, ref, r.Left, r.Top, rfl, TT _ _ hL hT, fun h => by cases h⟩
         | false =>
          obtain ⟨hp, ho⟩ := hr hK
          cases cf with
          | true =>
           rw [Xaq, Bool.not_false, Xaq, Yk6 hp ho, Xab, Xam, Xab, Xaq, Yme hp ho, Xab]
           have TT : Ywk (Zag ref r) 0 0 r c l := ⟨hw, hh, by omega, by omega, hc, hn, hs, fun _ => Yy9 hp ho⟩
           exact ⟨Zag ref r, 0, 0, rfl, TT, Zag ref r, 0, 0, rfl, TT, fun _ => ⟨rfl, rfl, rfl⟩⟩
          | false =>
           have TT : Ywk ref r.Left r.Top r c l := ⟨hw, hh, hL, hT, hc, hn, hs, fun _ => hp⟩
           exact ⟨ref, r.Left, r.Top, rfl, TT, ref, r.Left, r.Top, rfl, TT, fun _ => ⟨rfl, rfl, rfl⟩⟩
        obtain ⟨rI, lI, tI, eI, HI, rS, lS, tS, eS, HS, hk⟩ := vI
        rw [Xam, eI, eS]
        simp only [Xab, Xam]
        obtain ⟨n1, n2⟩ := Yxx HI _ G
        cases hall : Xpg l c with
        | false =>
         rw [n1 hall, Xab]
         exact ⟨_, rfl, rfl, fun h => by cases h⟩
        | true =>
         obtain ⟨s, e1, e2, e3⟩ := n2 hall
         have e4 : loop (Xbr r c l (lS, tS, rS.Wide, rS.High, rS.Dots)) (0, r.Wide, r.High, strOfNums (List.replicate (r.Wide * r.High).toNat 128)) = some s := by
          cases hK : c.Key with
          | true => rw [Yxc HS HI hK hall _ G]; exact e2
          | false =>
           obtain ⟨q1, q2, q3⟩ := hk hK
           subst q1; subst q2; subst q3
           exact e2
         rw [e1, Xab, Xaq, Xab, Xam, e4, Xab]
         exact ⟨_, rfl, rfl, fun _ => e3⟩
      ·
       have hne : ((l.length : Int) != r.Wide / 8 * (r.High / 8)) = true := by simpa using hn
       rw [hne, Xab, Xaq]
       refine ⟨_, rfl, ?_, fun h => by cases h⟩
       cases (decide (1 ≤ l.length ∧ l.length ≤ 64) && Xpg l c) <;> rfl
    ·
     rw [decide_eq_false hT]; exact ⟨_, rfl, rfl, fun h => by cases h⟩
   ·
    rw [decide_eq_false hL]; exact ⟨_, rfl, rfl, fun h => by cases h⟩
theorem Xxw (l : List Int) (hl : l.length ≤ 1000000000) : Xkv l l = some true := by
 unfold Xkv
 rw [bne_self_eq_false, Xam, Xqm l.length (f := Xgi l l) (by
  intro i hi
  unfold Xgi
  rw [syA, rqA, rqA, bne_self_eq_false, Xam, wkA]
  rfl) (by unfold Xgi; rw [snA]), Xab]
theorem Yfx (s : ByteArray) (k : Nat) (hk : k < s.size) : (Xal s).getD k 0 = Xcd s k := by
 have := Xr2 (Xal s) (by intro x hx; obtain ⟨b, _, rfl⟩ := List.mem_map.1 hx; have := b.toNat_lt; omega) k (by rw [Xap]; exact hk)
 rw [Xkd] at this
 exact this.symm
theorem Yum {w h : Int} (hw : 1 ≤ w ∧ w ≤ 256) (hh : 1 ≤ h ∧ h ≤ 256) : Xck ⟨w, h, strOfNums (List.replicate (w * h).toNat 128)⟩ = true := by
 have ar := Xd7 hw hh
 refine Xtm hw hh ?_
 simp only
 rw [strOfNums_size, List.length_replicate]; omega
theorem Yjz (a b : List Int) (i : Nat) : (a ++ b).getD (a.length + i) 0 = b.getD i 0 := by
 rw [List.getD_eq_getElem?_getD, List.getD_eq_getElem?_getD, List.getElem?_append_right (by omega)]
 congr 2; omega
theorem Yui (a b : List Int) (i : Nat) (hi : i < a.length) : (a ++ b).getD i 0 = a.getD i 0 := by
 rw [List.getD_eq_getElem?_getD, List.getD_eq_getElem?_getD, List.getElem?_append_left hi]
theorem Za0 (v x : Int) (h0 : 0 ≤ v) (h1 : v ≤ 1000000000000000000) (hx : x = 0 ∨ x = 1) : IntKind.wrap .i64 (BitVec.ofInt (IntKind.bits .i64) (v * 2) ||| BitVec.ofInt (IntKind.bits .i64) x).toNat = v * 2 + x := by
 obtain ⟨a, rfl⟩ : ∃ a : Nat, v = a := ⟨v.toNat, by omega⟩
 obtain ⟨b, rfl⟩ : ∃ b : Nat, x = b := ⟨x.toNat, by omega⟩
 have h : (BitVec.ofInt 64 ((a : Int) * 2) ||| BitVec.ofInt 64 (b : Int)).toNat = a * 2 + b := by
  rw [BitVec.toNat_or, BitVec.toNat_ofInt, BitVec.toNat_ofInt]
  have e1 : (((a : Int) * 2) % ((2 ^ 64 : Nat) : Int)).toNat = a * 2 := by omega
  have e2 : ((b : Int) % ((2 ^ 64 : Nat) : Int)).toNat = b := by omega
  rw [e1, e2]
  have := Nat.two_pow_add_eq_or_of_lt (i := 1) (b := b) (by omega) a
  rw [show 2 ^ 1 * a = a * 2 by omega] at this
  exact this.symm
 show IntKind.wrap .i64 ((BitVec.ofInt 64 ((a : Int) * 2) ||| BitVec.ofInt 64 (b : Int)).toNat : Int) = _
 rw [h, ← Xty, wkA]
 omega
theorem Xx3 {i : Nat} (h : i ≤ 40) : (2 : Int) ^ i ≤ 1099511627776 := by
 have h2 : (2 : Nat) ^ i ≤ 1099511627776 := Nat.pow_le_pow_right (n := 2) (by omega) h
 have := Int.ofNat_le.2 h2
 rw [Int.natCast_pow] at this
 exact this
theorem Xhg {L a f b : List Int} (hL : L = a ++ (f ++ b)) (hb : Xeo L) (hl : L.length ≤ 400000) (hf : f.length ≤ 41) : Xa0 ⟨strOfNums L, (a.length : Int), false⟩ (f.length : Int) = some (Xg5 f, ⟨strOfNums L, ((a.length + f.length : Nat) : Int), false⟩) := by
 have hLl : L.length = a.length + (f.length + b.length) := by rw [hL]; simp only [List.length_append]
 have hfb : Xeo f := fun x hx => hb x (by rw [hL]; simp [hx])
 unfold Xa0
 simp only
 rw [Xam, strOfNums_size, wkA, Xab, snA]
 have key : ∀ i : Nat, i ≤ f.length → loop (Xgh ⟨strOfNums L, (a.length : Int), false⟩ (f.length : Int)) (Xg5 (f.take i), (i : Int)) = some (Xg5 f) := by
  refine Xc1 _ ?_ ?_
  ·
   refine Xbx ?_
   unfold Xgh
   simp only
   rw [snA, List.take_length]
  ·
   intro i hi ih
   refine lgo ?_ ih
   have hx : L.getD (a.length + i) 0 = f.getD i 0 := by rw [hL, Yjz, Yui _ _ _ hi]
   have hbt : Xcd (strOfNums L) ((a.length : Int) + i) = f.getD i 0 := by
    rw [show (a.length : Int) + i = ((a.length + i : Nat) : Int) by omega, Xr2 L (Xkg hb) _ (by omega), hx]
   have h2 : f.getD i 0 = 48 ∨ f.getD i 0 = 49 := hfb _ (by rw [Xb2 f i hi]; exact List.getElem_mem hi)
   have ht : Xeo (f.take i) := fun x hx => hfb x (List.mem_of_mem_take hx)
   have hr := Xi8 ht
   have hp : (2 : Int) ^ (f.take i).length ≤ 1099511627776 := Xx3 (by rw [List.length_take]; omega)
   have hv : Xg5 (f.take (i + 1)) = Xg5 (f.take i) * 2 + (f.getD i 0 - 48) := by
    rw [List.take_add_one, Xrm, Xb2 f i hi, List.getElem?_eq_getElem hi]
    simp [Xg5]
   unfold Xgh
   simp only
   rw [syA, rqA, wkA (e := (a.length : Int) + i), Xav (by rw [strOfNums_size]; omega), hbt, w8 (by omega) (by omega), wkA (e := f.getD i 0 - 48), show (2 : Int) ^ min (1 : Int).toNat (IntKind.bits .i64) = 2 from rfl, wkA (e := Xg5 (f.take i) * 2), Za0 _ _ (by omega) (by omega) (by omega), wkA, hv]
   rfl
 have := key 0 (by omega)
 rw [List.take_zero] at this
 refine (Xc3 this).trans ?_
 rw [wkA]
 rfl
theorem Ytz (m : Nat) (h : m ≠ 0) : ∃ r, Ypf m = 49 :: r := by
 induction m using Nat.strongRecOn with
 | _ m ih =>
  rw [Ypf, dif_neg h]
  by_cases h1 : m / 2 = 0
  ·
   have : m = 1 := by omega
   subst this
   rw [Ypf, dif_pos h1]
   exact ⟨[], rfl⟩
  ·
   obtain ⟨r, e⟩ := ih (m / 2) (by omega) h1
   rw [e]
   exact ⟨r ++ [48 + ((m % 2 : Nat) : Int)], rfl⟩
theorem Zad (m : Nat) : Xg5 (Ypf m) = m := by
 induction m using Nat.strongRecOn with
 | _ m ih =>
  rw [Ypf]
  by_cases h : m = 0
  ·
   rw [dif_pos h, h]; rfl
  ·
   rw [dif_neg h, Xrm, ih (m / 2) (by omega)]
   simp [Xg5]
   omega
theorem Xh4 {L a b : List Int} {n : Nat} (hL : L = a ++ (ueL n ++ b)) (hb : Xeo L) (hl : L.length ≤ 400000) (hn : n ≤ 1000000) : Xbj ⟨strOfNums L, (a.length : Int), false⟩ = some ((n : Int), ⟨strOfNums L, ((a.length + (ueL n).length : Nat) : Int), false⟩) := by
 have hLl : L.length = a.length + ((ueL n).length + b.length) := by rw [hL]; simp only [List.length_append]
 have f1 := Yps (m := n + 1) (j := 20) (by omega)
 have f2 := Yk2 (m := n + 1) (by omega)
 have ul : (ueL n).length = Yhh (n + 1) - 1 + Yhh (n + 1) := by unfold ueL; rw [List.length_append, List.length_replicate, Ykt]
 obtain ⟨r, er⟩ := Ytz (n + 1) (by omega)
 have hc : ∀ i : Nat, i < (ueL n).length → L.getD (a.length + i) 0 = (ueL n).getD i 0 := fun i hi => by rw [hL, Yjz, Yui _ _ _ hi]
 have key : ∀ i : Nat, i ≤ Yhh (n + 1) - 1 → loop (Xch ⟨strOfNums L, (a.length : Int), false⟩) (i : Int) = some ((Yhh (n + 1) - 1 : Nat) : Int) := by
  refine Xc1 _ ?_ ?_
  ·
   refine Xbx ?_
   have hx : (ueL n).getD (Yhh (n + 1) - 1) 0 = 49 := by
    have := Yjz (List.replicate (Yhh (n + 1) - 1) 48) (Ypf (n + 1)) 0
    rw [List.length_replicate] at this
    unfold ueL
    exact this.trans (by rw [er]; rfl)
   unfold Xch
   simp only
   rw [Xam, wkA, strOfNums_size, syA, rqA, show (a.length : Int) + ((Yhh (n + 1) - 1 : Nat) : Int) = ((a.length + (Yhh (n + 1) - 1) : Nat) : Int) by omega, Xr2 L (Xkg hb) _ (by omega), hc _ (by omega), hx, Xab]
   rfl
  ·
   intro i hi ih
   refine lgo ?_ ih
   have hx : (ueL n).getD i 0 = 48 := by
    unfold ueL
    rw [Yui _ _ _ (by rw [List.length_replicate]; exact hi), Xb2 _ i (by rw [List.length_replicate]; exact hi), List.getElem_replicate]
   unfold Xch
   simp only
   rw [Xam, wkA (e := (a.length : Int) + i), strOfNums_size, syA, rqA, show (a.length : Int) + (i : Int) = ((a.length + i : Nat) : Int) by omega, Xr2 L (Xkg hb) _ (by omega), hc _ (by omega), hx, Xab, wkA]
   rfl
 have hf := Xhg hL hb hl (by omega)
 have hv : Xg5 (ueL n) = (n : Int) + 1 := by unfold ueL; rw [Xrm, Zae, Zad, Int.zero_mul, Int.zero_add]; omega
 unfold Xbj
 refine (Xc3 (key 0 (by omega))).trans ?_
 simp only
 rw [snA, Xab, wkA (e := 2 * ((Yhh (n + 1) - 1 : Nat) : Int)), wkA (e := 2 * ((Yhh (n + 1) - 1 : Nat) : Int) + 1), show 2 * ((Yhh (n + 1) - 1 : Nat) : Int) + 1 = ((ueL n).length : Int) by omega, hf, Xab]
 simp only
 rw [Xam, hv, wkA, Xab, snA, show (n : Int) + 1 - 1 = n by omega]
theorem Xtq {L a b : List Int} {n : Int} (hL : L = a ++ (seL n ++ b)) (hb : Xeo L) (hl : L.length ≤ 400000) (hn : -500000 ≤ n ∧ n ≤ 500000) : Xbw ⟨strOfNums L, (a.length : Int), false⟩ = some (n, ⟨strOfNums L, ((a.length + (seL n).length : Nat) : Int), false⟩) := by
 have hf := Yk3 n hn
 unfold Xbw
 rw [Xh4 hL hb hl hf, Xab]
 have ho : Xjn ((Ypu n : Nat) : Int) = some (n, true) := by
  unfold Xjn
  rw [Xaj, Xab, decide_eq_true (by omega), Bool.not_true, Xam, rqA, Xbq (by omega)]
  unfold Ypu
  split
  ·
   rw [Xbb (by rw [beq_iff_eq]; omega), rqA, wkA (e := (((2 * n - 1).toNat : Nat) : Int) + 1), Xbp (by omega), wkA]
   congr 2; omega
  ·
   rw [Xaz (by rw [beq_eq_false_iff_ne]; omega), rqA, wkA (e := 0 - _)]
   have : (0 - (((-2 * n).toNat : Nat) : Int)).tdiv 2 = n := by
    rw [show (0 - (((-2 * n).toNat : Nat) : Int)) = n * 2 by omega]
    exact Int.mul_tdiv_cancel n (by omega)
   rw [this, wkA]
 simp only
 rw [ho, Xab]
 rfl
theorem Yzm (l : List Int) (hl : l.length ≤ 64) : nz l ≤ 64 := by have := Yu7 l; omega
theorem Ya5 {L a b l : List Int} (hL : L = a ++ (Xlg l ++ b)) (hb : Xeo L) (hl : L.length ≤ 400000) (hall : l.all Yij = true) (h64 : l.length ≤ 64) : Xcg ⟨strOfNums L, (a.length : Int), false⟩ (l.length : Int) = some (l, ⟨strOfNums L, ((a.length + (Xlg l).length : Nat) : Int), false⟩) := by
 have key : ∀ (r pre : List Int) (g : Nat) (a' b' : List Int), l = pre ++ r → g ≤ pre.length → L = a' ++ (Xnv g r ++ b') → loop (Xbe (l.length : Int)) (((pre.length - g : Nat) : Int), (nz r : Int), strOfNums L, (a'.length : Int), false, pre ++ List.replicate r.length 0) = some (l, strOfNums L, ((a'.length + (Xnv g r).length : Nat) : Int), false) := by
  intro r
  induction r with
  | nil =>
   intro pre g a' b' h1 h2 h3
   refine Xbx ?_
   unfold Xbe
   simp only
   rw [Xas (by rw [nz]; omega), Xab, Xam, h1]
   simp only [Xnv, List.length_nil, List.replicate_zero, Nat.add_zero]
  | cons x r ih =>
   intro pre g a' b' h1 h2 h3
   have hlen : l.length = pre.length + (r.length + 1) := by rw [h1]; simp
   have hx : -5000 ≤ x ∧ x ≤ 5000 := Ydc.1 (List.all_eq_true.1 hall x (by rw [h1]; simp))
   by_cases e : x = 0
   ·
    rw [Xnv, if_pos e] at h3
    have := ih (pre ++ [x]) (g + 1) a' b' (by rw [h1]; simp) (by simp; omega) h3
    rw [nz, if_pos e, Xnv, if_pos e, ← this, List.length_append, List.length_singleton, show pre.length + 1 - (g + 1) = pre.length - g by omega, List.append_assoc, List.length_cons, List.replicate_succ, e]
    rfl
   ·
    rw [Xnv, if_neg e] at h3
    have u1 := Xgd g (by omega)
    have u2 := Xrf x (by omega)
    have u3 := Yu7 r
    have e1 := Xh4 (L := L) (a := a') (b := seL x ++ Xnv 0 r ++ b') (n := g) (by rw [h3]; simp only [List.append_assoc]) hb hl (by omega)
    have e2 := Xtq (L := L) (a := a' ++ ueL g) (b := Xnv 0 r ++ b') (n := x) (by rw [h3]; simp only [List.append_assoc]) hb hl (by omega)
    have := ih (pre ++ [x]) 0 (a' ++ ueL g ++ seL x) b' (by rw [h1]; simp) (by simp) (by rw [h3]; simp only [List.append_assoc])
    rw [List.length_append] at e2
    simp only [List.length_append, List.length_singleton] at this
    rw [nz, if_neg e, Xnv, if_neg e]
    refine lgo ?_ (this.trans ?_)
    ·
     unfold Xbe
     simp only
     rw [syA, Bool.not_false, Xab, Xaq, e1, Xab]
     simp only
     rw [e2, Xab]
     simp only
     have hp : ((pre.length - g : Nat) : Int) + (g : Int) = (pre.length : Int) := by omega
     rw [hp, wkA (e := (pre.length : Int)), snA, Xaz (by rw [beq_eq_false_iff_ne]; exact e), Xaj, Xab, decide_eq_true (by omega), Bool.not_true, Xab, Xam, Int.toNat_natCast, Xav (by simp only [List.length_append, List.length_replicate, List.length_cons]; omega), Xav (by simp only [List.length_append, List.length_replicate, List.length_cons]; omega), wkA, wkA, List.length_cons, List.replicate_succ, Yqf]
     rw [show ((nz r + 1 : Nat) : Int) - 1 = (nz r : Int) by omega, show pre ++ [x] ++ List.replicate r.length 0 = pre ++ x :: List.replicate r.length 0 by simp, show ((pre.length + 1 - 0 : Nat) : Int) = (pre.length : Int) + 1 by omega]
    ·
     simp only [List.length_append]
     rw [show a'.length + (ueL g).length + (seL x).length + (Xnv 0 r).length = a'.length + ((ueL g).length + (seL x).length + (Xnv 0 r).length) by omega]
 have hz := Yzm l h64
 have e0 := Xh4 (L := L) (a := a) (b := Xnv 0 l ++ b) (n := nz l) (by rw [hL]; unfold Xlg; simp only [List.append_assoc]) hb hl (by omega)
 have := key l [] 0 (a ++ ueL (nz l)) b rfl (by simp) (by rw [hL]; unfold Xlg; simp only [List.append_assoc])
 unfold Xcg
 rw [rqA, e0, Xab]
 simp only
 rw [List.length_append] at this
 simp only [List.nil_append, List.length_nil] at this
 rw [Int.toNat_natCast]
 refine (Xc3 this).trans ?_
 simp only
 unfold Xlg
 rw [List.length_append, Nat.add_assoc]
theorem Xuz {L a b l : List Int} {c : Xfg} (hL : L = a ++ (Ymt l c ++ b)) (hb : Xeo L) (hl : L.length ≤ 400000) (h : Yhi l = true) : Xbh ⟨strOfNums L, (a.length : Int), false⟩ c = some (l, ⟨strOfNums L, ((a.length + (Ymt l c).length : Nat) : Int), false⟩) := by
 have hm : maxLen = 9223372036854775807 := rfl
 obtain ⟨h1, h2⟩ := Xj1 h
 unfold Xbh
 rw [Ya6, Xab]
 unfold Ymt at hL ⊢
 by_cases e : (c.Large || c.Exact) = true
 ·
  rw [if_pos e] at hL
  rw [Xbb e, if_pos e]
  have := Ya5 hL hb hl h2 (by omega)
  rw [h1] at this
  exact (Xc3 this).trans rfl
 ·
  rw [if_neg e] at hL
  rw [Xaz (by simpa using e), if_neg e]
  have step : ∀ (n : Nat) (s q : List Int) (a' b' : List Int), n < 4 → q.length = 16 → q.all Yij = true → s.length ≤ 64 → L = a' ++ (Xlg q ++ b') → Xa3 ((n : Int), strOfNums L, (a'.length : Int), false, s) = some (.go (((n + 1 : Nat) : Int), strOfNums L, (((a' ++ Xlg q).length : Nat) : Int), false, s ++ q)) := by
   intro n s q a' b' hn hq hqa hs hLL
   have := Ya5 hLL hb hl hqa (by omega)
   rw [hq] at this
   unfold Xa3
   simp only
   rw [syA]
   refine (Xc3 this).trans ?_
   simp only
   rw [rqA, wkA, List.length_append]
   rfl
  have q0 : (l.take 16).length = 16 := by rw [List.length_take]; omega
  have q1 : ((l.drop 16).take 16).length = 16 := by rw [List.length_take, List.length_drop]; omega
  have q2 : ((l.drop 32).take 16).length = 16 := by rw [List.length_take, List.length_drop]; omega
  have q3 : (l.drop 48).length = 16 := by rw [List.length_drop]; omega
  have hcat : l.take 16 ++ (l.drop 16).take 16 ++ (l.drop 32).take 16 ++ l.drop 48 = l := by
   have e1 : (l.drop 32).take 16 ++ l.drop 48 = l.drop 32 := by
    have := List.take_append_drop 16 (l.drop 32)
    rwa [List.drop_drop] at this
   have e2 : (l.drop 16).take 16 ++ l.drop 32 = l.drop 16 := by
    have := List.take_append_drop 16 (l.drop 16)
    rwa [List.drop_drop] at this
   rw [List.append_assoc, e1, List.append_assoc, e2, List.take_append_drop]
  have g0 := step 0 [] _ a (Xlg ((l.drop 16).take 16) ++ Xlg ((l.drop 32).take 16) ++ Xlg (l.drop 48) ++ b) (by omega) q0 (Xjb h2 _) (by simp) (by rw [hL]; simp only [List.append_assoc])
  have g1 := step 1 ([] ++ l.take 16) _ (a ++ Xlg (l.take 16)) (Xlg ((l.drop 32).take 16) ++ Xlg (l.drop 48) ++ b) (by omega) q1 (Xjb (Xja h2 _) _) (by simp only [List.length_append, List.length_nil]; omega) (by rw [hL]; simp only [List.append_assoc])
  have g2 := step 2 ([] ++ l.take 16 ++ (l.drop 16).take 16) _ (a ++ Xlg (l.take 16) ++ Xlg ((l.drop 16).take 16)) (Xlg (l.drop 48) ++ b) (by omega) q2 (Xjb (Xja h2 _) _) (by simp only [List.length_append, List.length_nil]; omega) (by rw [hL]; simp only [List.append_assoc])
  have g3 := step 3 ([] ++ l.take 16 ++ (l.drop 16).take 16 ++ (l.drop 32).take 16) _ (a ++ Xlg (l.take 16) ++ Xlg ((l.drop 16).take 16) ++ Xlg ((l.drop 32).take 16)) b (by omega) q3 (Xja h2 _) (by simp only [List.length_append, List.length_nil]; omega) (by rw [hL]; simp only [List.append_assoc])
  have l4 : ∀ s, Xa3 (((4 : Nat) : Int), s) = some (.done (s.2.2.2, s.1, s.2.1, s.2.2.1)) := by intro s; unfold Xa3; simp only; rw [snA]
  have e : loop Xa3 (((0 : Nat) : Int), strOfNums L, (a.length : Int), false, []) = _ := (Xg1 g0).trans ((Xg1 g1).trans ((Xg1 g2).trans ((Xg1 g3).trans (Xci (l4 _)))))
  refine (Xc3 e).trans ?_
  simp only [List.nil_append, hcat]
  simp only [List.length_append, Nat.add_assoc]
theorem Yql {s : Xao} (h : Xm9 s = true) (h1 : s.Kind = 0) : s = ⟨0, 0, 0, 0, []⟩ := by
 unfold Xm9 at h
 rw [if_pos h1, decide_eq_true_eq] at h
 obtain ⟨k, m, x, y, l⟩ := s
 simp only at h h1
 obtain ⟨a, b, c, d⟩ := h
 rw [h1, a, b, c, List.length_eq_zero_iff.1 d]
theorem Yim {L a b : List Int} {s : Xao} {c : Xfg} (hL : L = a ++ (sqL s c ++ b)) (hb : Xeo L) (hl : L.length ≤ 400000) (h : Xm9 s = true) (hlet : Xhu s c = true) : Xca ⟨strOfNums L, (a.length : Int), false⟩ c = some (s, ⟨strOfNums L, ((a.length + (sqL s c).length : Nat) : Int), false⟩) := by
 have hk := Xqu h
 have hl6 : s.Levels.length ≤ 64 := by
  by_cases h0 : s.Kind = 0
  ·
   rw [Yql h h0]; simp
  ·
   by_cases h1 : s.Kind = 1
   ·
    have := Xj1 (Xrj h h1).2.2; omega
   ·
    have := Xj1 (Xtt h (by omega)).2; omega
 have hok := Xen s (by omega)
 rw [h] at hok
 unfold Xca
 simp only
 obtain ⟨p, hp, hL2, e1⟩ : ∃ p : List Int, p = (if c.Key = true then [] else ueL s.Kind.toNat) ∧ L = (a ++ p) ++ ((if s.Kind = 1 then seL s.Dx ++ seL s.Dy ++ Ymt s.Levels c else if s.Kind = 2 then ueL s.Mode.toNat ++ Ymt s.Levels c else []) ++ b) ∧ (sel (!c.Key) (bnd (Xbj ⟨strOfNums L, (a.length : Int), false⟩) fun q2 => some (q2.2.row_, q2.2.at_, q2.2.bad_, q2.1)) (some (strOfNums L, (a.length : Int), false, 2))) = some (strOfNums L, (((a ++ p).length : Nat) : Int), false, s.Kind) := by
  refine ⟨_, rfl, by rw [hL]; unfold sqL; simp only [List.append_assoc], ?_⟩
  cases hK : c.Key with
  | true =>
   unfold Xhu at hlet
   rw [hK, Bool.not_true, Bool.false_or, beq_iff_eq] at hlet
   rw [Bool.not_true, Xam, if_pos rfl, List.append_nil, hlet]
  | false =>
   have := Xh4 (L := L) (a := a) (n := s.Kind.toNat) (b := (if s.Kind = 1 then seL s.Dx ++ seL s.Dy ++ Ymt s.Levels c else if s.Kind = 2 then ueL s.Mode.toNat ++ Ymt s.Levels c else []) ++ b) (by rw [hL]; unfold sqL; rw [hK, if_neg (by decide)]; simp only [List.append_assoc]) hb hl (by omega)
   rw [Bool.not_false, Xaq, this, Xab, if_neg (by decide), List.length_append]
   simp only
   rw [show ((s.Kind.toNat : Nat) : Int) = s.Kind by omega]
 rw [e1, Xab]
 simp only
 have e2 : (sel false (some (strOfNums L, (((a ++ p).length : Nat) : Int), false, (0 : Int), (0 : Int), (0 : Int), ([] : List Int))) (
   sel (s.Kind == 1) (
   bnd (Xbw (⟨strOfNums L, (((a ++ p).length : Nat) : Int), false⟩ : Xkf)) fun q4 =>
   bnd (Xbw q4.2) fun q5 =>
   bnd (Xbh q5.2 c) fun q6 =>
   some (q6.2.row_, q6.2.at_, q6.2.bad_, 0, q4.1, q5.1, q6.1)) (
   sel (s.Kind == 2) (
   bnd (Xbj (⟨strOfNums L, (((a ++ p).length : Nat) : Int), false⟩ : Xkf)) fun q7 =>
   bnd (Xbh q7.2 c) fun q8 =>
   some (q8.2.row_, q8.2.at_, q8.2.bad_, q7.1, 0, 0, q8.1)) (
   some (strOfNums L, (((a ++ p).length : Nat) : Int), false, 0, 0, 0, []))))) = some (strOfNums L, ((a.length + (sqL s c).length : Nat) : Int), false, s.Mode, s.Dx, s.Dy, s.Levels) := by
  rw [Xam]
  unfold sqL
  rw [← hp]
  by_cases h1 : s.Kind = 1
  ·
   obtain ⟨x1, x2, x3⟩ := Xrj h h1
   have hm0 : s.Mode = 0 := by
    unfold Xm9 at h
    rw [if_neg (by omega), if_pos h1] at h
    simp only [Bool.and_eq_true, decide_eq_true_eq] at h
    exact h.1
   rw [if_pos h1] at hL2
   have y1 := Xtq (L := L) (a := a ++ p) (b := seL s.Dy ++ Ymt s.Levels c ++ b) (n := s.Dx) (by rw [hL2]; simp only [List.append_assoc]) hb hl (by omega)
   have y2 := Xtq (L := L) (a := a ++ p ++ seL s.Dx) (b := Ymt s.Levels c ++ b) (n := s.Dy) (by rw [hL2]; simp only [List.append_assoc]) hb hl (by omega)
   have y3 := Xuz (L := L) (a := a ++ p ++ seL s.Dx ++ seL s.Dy) (b := b) (l := s.Levels) (c := c) (by rw [hL2]; simp only [List.append_assoc]) hb hl x3
   rw [List.length_append (as := a ++ p)] at y2
   rw [List.length_append (as := a ++ p ++ seL s.Dx), List.length_append (as := a ++ p)] at y3
   rw [Xbb (by rw [beq_iff_eq]; exact h1), y1, Xab]
   simp only
   rw [y2, Xab]
   simp only
   rw [y3, Xab, if_pos h1, hm0]
   simp only [List.length_append, Nat.add_assoc]
  ·
   rw [Xaz (by rw [beq_eq_false_iff_ne]; exact h1), if_neg h1]
   rw [if_neg h1] at hL2
   by_cases h2 : s.Kind = 2
   ·
    obtain ⟨x1, x3⟩ := Xtt h h2
    have hd0 : s.Dx = 0 ∧ s.Dy = 0 := by
     unfold Xm9 at h
     rw [if_neg (by omega), if_neg (by omega), if_pos h2] at h
     simp only [Bool.and_eq_true, decide_eq_true_eq] at h
     exact ⟨h.2.1, h.2.2.1⟩
    rw [if_pos h2] at hL2
    have y1 := Xh4 (L := L) (a := a ++ p) (b := Ymt s.Levels c ++ b) (n := s.Mode.toNat) (by rw [hL2]; simp only [List.append_assoc]) hb hl (by omega)
    have y3 := Xuz (L := L) (a := a ++ p ++ ueL s.Mode.toNat) (b := b) (l := s.Levels) (c := c) (by rw [hL2]; simp only [List.append_assoc]) hb hl x3
    rw [List.length_append (as := a ++ p)] at y3
    rw [Xbb (by rw [beq_iff_eq]; exact h2), y1, Xab]
    simp only
    rw [y3, Xab, if_pos h2, hd0.1, hd0.2, show ((s.Mode.toNat : Nat) : Int) = s.Mode by omega]
    simp only [List.length_append, Nat.add_assoc]
   ·
    have h0 := Yql h (by omega)
    rw [Xaz (by rw [beq_eq_false_iff_ne]; exact h2), if_neg h2, List.append_nil, List.length_append]
    rw [h0]
 rw [e2, Xab]
 simp only
 rw [Xam, show (⟨s.Kind, s.Mode, s.Dx, s.Dy, s.Levels⟩ : Xao) = s from rfl, hok, Xab, Xab]
 rfl
def Zb8 (t : Nat → Int) : Nat → Int
 | 0 => 0
 | k + 1 => Zb8 t k + t k
def eT (f : Nat → Int) (u : Nat) : Int := Zb8 (fun k => Xiw (u : Int) (k : Int) * f k) 8
def eS (X : Nat → Nat → Int) (u v : Nat) : Int := eT (fun i => eT (X i) v) u
theorem Yti {L : List Int} {i w : Nat} (h : i + w ≤ L.length) : L = L.take i ++ ((L.drop i).take w ++ L.drop (i + w)) ∧ (L.take i).length = i ∧ ((L.drop i).take w).length = w := by
 refine ⟨?_, by rw [List.length_take]; omega, by rw [List.length_take, List.length_drop]; omega⟩
 rw [← List.drop_drop, List.take_append_drop, List.take_append_drop]
theorem Ye8 {L : List Int} (hb : Xeo L) (hl : L.length ≤ 400000) {i w : Nat} (h : i + w ≤ L.length) (hw : w ≤ 41) : Xa0 ⟨strOfNums L, (i : Int), false⟩ (w : Int) = some (Xg5 ((L.drop i).take w), ⟨strOfNums L, ((i + w : Nat) : Int), false⟩) := by
 obtain ⟨h1, h2, h3⟩ := Yti h
 have := Xhg h1 hb hl (by omega)
 rw [h2, h3] at this
 exact this
theorem Yar {L : List Int} (hb : Xeo L) {i : Nat} (h : i < L.length) : Xcd (strOfNums L) (i : Int) = L.getD i 0 ∧ (L.getD i 0 = 48 ∨ L.getD i 0 = 49) := ⟨Xr2 L (Xkg hb) i h, hb _ (by rw [Xb2 L i h]; exact List.getElem_mem h)⟩
theorem Xrn {L : List Int} {i k : Nat} (h : i + k < L.length) : Xg5 ((L.drop i).take (k + 1)) = 2 * Xg5 ((L.drop i).take k) + L.getD (i + k) 0 - 48 := by
 rw [List.take_add_one, Xrm, List.getElem?_eq_getElem (by rw [List.length_drop]; omega), List.getElem_drop, Xb2 L _ h]
 simp [Xg5]
 omega
theorem Xv6 {L : List Int} (hb : Xeo L) (hl : L.length ≤ 400000) {i w : Nat} (hi : i ≤ L.length) (hw : w ≤ 41) : Xc0 (strOfNums L) (i : Int) (w : Int) = some (if i + w ≤ L.length then (Xg5 ((L.drop i).take w), ((i + w : Nat) : Int), true) else (0, 0, false)) := by
 unfold Xc0
 rw [strOfNums_size, wkA (e := (L.length : Int) - i)]
 by_cases h : i + w ≤ L.length
 ·
  rw [snA, if_pos h]
  have key : ∀ k : Nat, k ≤ w → loop (Xk9 (strOfNums L) (i : Int) (w : Int)) (Xg5 ((L.drop i).take k), ((i + k : Nat) : Int)) = some (Xg5 ((L.drop i).take w)) := by
   refine Xc1 _ ?_ ?_
   ·
    refine Xbx ?_
    unfold Xk9
    simp only
    rw [Xas (by rw [wkA]; omega)]
   ·
    intro k hk ih
    refine lgo ?_ ih
    obtain ⟨b1, b2⟩ := Yar hb (i := i + k) (by omega)
    have hr := Xi8 (l := (L.drop i).take k) (fun x hx => hb x (List.mem_of_mem_drop (List.mem_of_mem_take hx)))
    have hp : (2 : Int) ^ ((L.drop i).take k).length ≤ 1099511627776 := Xx3 (by rw [List.length_take]; omega)
    have hv := Xrn (L := L) (i := i) (k := k) (by omega)
    unfold Xk9
    simp only
    rw [Xa9 (by rw [wkA]; omega), Xav (by rw [strOfNums_size]; omega), b1, wkA (e := 2 * Xg5 ((L.drop i).take k)), wkA (e := L.getD (i + k) 0), wkA (e := 2 * Xg5 ((L.drop i).take k) + L.getD (i + k) 0), wkA (e := 2 * Xg5 ((L.drop i).take k) + L.getD (i + k) 0 - 48), wkA (e := ((i + k : Nat) : Int) + 1), ← hv]
    rfl
  have := key 0 (by omega)
  refine (Xc3 this).trans ?_
  rw [wkA]
  rfl
 ·
  rw [syA, if_neg h]
theorem Ysb {L : List Int} (hb : Xeo L) : ∀ n i : Nat, i + n = L.length → ∃ z : Nat, i + z ≤ L.length ∧ (∀ k, k < z → L.getD (i + k) 0 = 48) ∧ (i + z < L.length → L.getD (i + z) 0 = 49)
 | 0, i, h => ⟨0, by omega, fun k hk => by omega, fun h2 => by omega⟩
 | n + 1, i, h => by
  rcases (Yar hb (i := i) (by omega)).2 with e | e
  ·
   obtain ⟨z, h1, h2, h3⟩ := Ysb hb n (i + 1) (by omega)
   refine ⟨z + 1, by omega, fun k hk => ?_, fun hz => ?_⟩
   ·
    cases k with
    | zero => exact e
    | succ k => have := h2 k (by omega); rwa [show i + 1 + k = i + (k + 1) by omega] at this
   ·
    have := h3 (by omega)
    rwa [show i + 1 + z = i + (z + 1) by omega] at this
  ·
   exact ⟨0, by omega, fun k hk => by omega, fun _ => e⟩
theorem Ypd {L : List Int} {i : Nat} : ∀ z : Nat, i + z ≤ L.length → (∀ k, k < z → L.getD (i + k) 0 = 48) → Xg5 ((L.drop i).take z) = 0
 | 0, _, _ => rfl
 | z + 1, h, hz => by rw [Xrn (by omega), Ypd z (by omega) (fun k hk => hz k (by omega)), hz z (by omega)]; rfl
theorem Ypc {L : List Int} {i z w : Nat} (h : i + z + w ≤ L.length) (hz : ∀ k, k < z → L.getD (i + k) 0 = 48) : Xg5 ((L.drop i).take (z + w)) = Xg5 ((L.drop (i + z)).take w) := by
 induction w with
 | zero => rw [Nat.add_zero, Ypd z (by omega) hz]; rfl
 | succ w ih =>
  rw [← Nat.add_assoc, Xrn (by omega), Xrn (by omega), ih (by omega)]
  rw [Nat.add_assoc]
theorem Yv9 {L : List Int} (hb : Xeo L) {i w : Nat} (h : i + (w + 1) ≤ L.length) (h1 : L.getD i 0 = 49) : (2 : Int) ^ w ≤ Xg5 ((L.drop i).take (w + 1)) := by
 induction w with
 | zero => rw [Xrn (by omega)]; simp only [Nat.add_zero]; rw [h1, show Xg5 ((L.drop i).take 0) = 0 from rfl]; decide
 | succ w ih =>
  have := ih (by omega)
  have := (Yar hb (i := i + (w + 1)) (by omega)).2
  rw [Xrn (by omega), Int.pow_succ]
  omega
theorem Yor (z : Nat) (h : z ≤ 21) : 0 ≤ Xaa .u64 (z : Int) ∧ Xaa .i64 (1 * 2 ^ min (Xaa .u64 (z : Int)).toNat (IntKind.bits .i64)) = (2 : Int) ^ z := by
 have all : ∀ q : Fin 22, (0 ≤ Xaa .u64 (q.val : Int) ∧ Xaa .i64 (1 * 2 ^ min (Xaa .u64 (q.val : Int)).toNat (IntKind.bits .i64)) = (2 : Int) ^ q.val) := by decide +kernel
 exact all ⟨z, by omega⟩
theorem Yr5 (s : ByteArray) (a : Int) : Xbj ⟨s, a, true⟩ = some (0, ⟨s, a, true⟩) := by
 have h : Xch ⟨s, a, true⟩ 0 = some (.done 0) := rfl
 unfold Xbj
 rw [Xci h, Xab]
 rfl
theorem Xrl {L : List Int} (hb : Xeo L) (hl : L.length ≤ 400000) (i : Nat) (hi : i ≤ L.length) :
  (∃ v j : Nat, Xbo (strOfNums L) (i : Int) = some ((v : Int), (j : Int), true) ∧ Xbj ⟨strOfNums L, (i : Int), false⟩ = some ((v : Int), ⟨strOfNums L, (j : Int), false⟩) ∧ v ≤ 1000000 ∧ i < j ∧ j ≤ L.length) ∨ (Xbo (strOfNums L) (i : Int) = some (0, 0, false) ∧ ∃ a : Int, Xbj ⟨strOfNums L, (i : Int), false⟩ = some (0, ⟨strOfNums L, a, true⟩)) := by
 obtain ⟨z, h1, h2, h3⟩ := Ysb hb (L.length - i) i (by omega)
 have lI : loop (Xch ⟨strOfNums L, (i : Int), false⟩) 0 = some (z : Int) := by
  have key : ∀ k : Nat, k ≤ z → loop (Xch ⟨strOfNums L, (i : Int), false⟩) (k : Int) = some (z : Int) := by
   refine Xc1 _ ?_ ?_
   ·
    refine Xbx ?_
    unfold Xch
    simp only
    rw [Xam, wkA (e := (i : Int) + (z : Int)), strOfNums_size]
    by_cases hlt : i + z < L.length
    ·
     rw [syA, rqA, show (i : Int) + (z : Int) = ((i + z : Nat) : Int) by omega, (Yar hb hlt).1, h3 hlt, Xab]; rfl
    ·
     rw [snA, Xab, Xam]
   ·
    intro k hk ih
    refine lgo ?_ ih
    unfold Xch
    simp only
    rw [Xam, wkA (e := (i : Int) + (k : Int)), strOfNums_size, syA, rqA, show (i : Int) + (k : Int) = ((i + k : Nat) : Int) by omega, (Yar hb (by omega)).1, h2 k hk, Xab, wkA]
    rfl
  exact key 0 (by omega)
 have lS : ∀ m : Nat, m = min z 21 → loop (Xfv (strOfNums L) (i : Int)) 0 = some (m : Int) := by
  intro m hm
  have key : ∀ k : Nat, k ≤ m → loop (Xfv (strOfNums L) (i : Int)) (k : Int) = some (m : Int) := by
   refine Xc1 _ ?_ ?_
   ·
    refine Xbx ?_
    unfold Xfv
    rw [wkA (e := (i : Int) + (m : Int)), strOfNums_size]
    by_cases hlt : i + m < L.length
    ·
     rw [syA, rqA, show (i : Int) + (m : Int) = ((i + m : Nat) : Int) by omega, (Yar hb hlt).1]
     by_cases hz : z ≤ 21
     ·
      have : m = z := by omega
      subst this
      rw [h3 hlt, Xaz (by rfl), Xab, Xam]
     ·
      have : m = 21 := by omega
      subst this
      rw [h2 21 (by omega), Xbb (by rfl), decide_eq_false (by omega), Xab, Xam]
    ·
     rw [snA, Xab, Xam]
   ·
    intro k hk ih
    refine lgo ?_ ih
    unfold Xfv
    rw [wkA (e := (i : Int) + (k : Int)), strOfNums_size, syA, rqA, show (i : Int) + (k : Int) = ((i + k : Nat) : Int) by omega, (Yar hb (by omega)).1, h2 k (by omega), Xbb (by rfl), decide_eq_true (by omega), Xab, Xaq, wkA]
    rfl
  exact key 0 (by omega)
 unfold Xbo Xbj
 rw [lI, Xab, lS _ rfl, Xab]
 simp only
 by_cases hz : z ≤ 20
 ·
  rw [show min z 21 = z by omega, snA, Xab, wkA (e := 2 * (z : Int)), wkA (e := 2 * (z : Int) + 1), wkA (e := (i : Int) + (z : Int)), wkA (e := (z : Int) + 1), show (i : Int) + (z : Int) = ((i + z : Nat) : Int) by omega, show (z : Int) + 1 = ((z + 1 : Nat) : Int) by omega, show 2 * (z : Int) + 1 = ((z + (z + 1) : Nat) : Int) by omega, Xv6 hb hl h1 (by omega), Xab]
  obtain ⟨p1, p2⟩ := Yor z (by omega)
  by_cases hfit : i + z + (z + 1) ≤ L.length
  ·
   rw [if_pos hfit, Ye8 hb hl (by omega) (by omega), Xab, Ypc (by omega) h2]
   simp only
   have hge := Yv9 hb (i := i + z) (w := z) (by omega) (h3 (by omega))
   have hpp : (1 : Int) ≤ 2 ^ z := Int.pow_pos (by omega)
   have hr := Xi8 (l := (L.drop (i + z)).take (z + 1)) (fun x hx => hb x (List.mem_of_mem_drop (List.mem_of_mem_take hx)))
   have hp : (2 : Int) ^ ((L.drop (i + z)).take (z + 1)).length ≤ 1099511627776 := Xx3 (by rw [List.length_take]; omega)
   generalize hq : Xg5 ((L.drop (i + z)).take (z + 1)) = q at *
   rw [Xaq, Xav p1, p2, snA, wkA (e := q - 1), Xab, Xam, Xab]
   by_cases hbig : q - 1 > 1000000
   ·
    rw [Xa9 hbig, Xa9 hbig]
    exact .inr ⟨rfl, _, rfl⟩
   ·
    rw [Xas hbig, Xas hbig]
    exact .inl ⟨(q - 1).toNat, i + z + (z + 1), by rw [show (((q - 1).toNat : Nat) : Int) = q - 1 by omega], by rw [show (((q - 1).toNat : Nat) : Int) = q - 1 by omega, show i + (z + (z + 1)) = i + z + (z + 1) by omega], by omega, by omega, by omega⟩
  ·
   rw [if_neg hfit]
   simp only
   rw [Xam, Xab, Xaq]
   refine .inr ⟨rfl, (i : Int), ?_⟩
   have : Xa0 ⟨strOfNums L, (i : Int), false⟩ ((z + (z + 1) : Nat) : Int) = some (0, ⟨strOfNums L, (i : Int), true⟩) := by
    unfold Xa0
    simp only
    rw [Xam, strOfNums_size, wkA, Xab, syA]
   rw [this, Xab]
   rfl
 ·
  have hm : min z 21 = 21 := by omega
  rw [hm, syA, Xab]
  refine .inr ⟨?_, (i : Int), ?_⟩
  ·
   rw [wkA (e := (i : Int) + ((21 : Nat) : Int)), wkA (e := ((21 : Nat) : Int) + 1), show (i : Int) + ((21 : Nat) : Int) = ((i + 21 : Nat) : Int) by omega, show ((21 : Nat) : Int) + 1 = ((22 : Nat) : Int) by omega, Xv6 hb hl (by omega) (by omega), Xab]
   obtain ⟨p1, p2⟩ := Yor 21 (by omega)
   by_cases hfit : i + 21 + 22 ≤ L.length
   ·
    rw [if_pos hfit]
    simp only
    rw [Xaq, Xav p1, p2]
    by_cases h21 : z = 21
    ·
     subst h21
     have hge : (2 : Int) ^ 21 ≤ Xg5 ((L.drop (i + 21)).take 22) := Yv9 hb (i := i + 21) (w := 21) (by omega) (h3 (by omega))
     have hr := Xi8 (l := (L.drop (i + 21)).take 22) (fun x hx => hb x (List.mem_of_mem_drop (List.mem_of_mem_take hx)))
     have hp : (2 : Int) ^ ((L.drop (i + 21)).take 22).length ≤ 1099511627776 := Xx3 (by rw [List.length_take]; omega)
     have e21 : (2 : Int) ^ 21 = 2097152 := by decide
     rw [e21] at hge ⊢
     rw [snA, wkA, decide_eq_true (by omega), Xab, Xaq]
    ·
     have hlt : Xg5 ((L.drop (i + 21)).take 22) < 2 ^ 21 := by
      have a := Ypc (L := L) (i := i + 21) (z := 1) (w := 21) (by omega) (fun k hk => by
       have : k = 0 := by omega
       subst this
       exact h2 21 (by omega))
      rw [show (1 + 21 : Nat) = 22 from rfl] at a
      have hr := Xi8 (l := (L.drop (i + 21 + 1)).take 21) (fun x hx => hb x (List.mem_of_mem_drop (List.mem_of_mem_take hx)))
      rw [a]
      have : ((L.drop (i + 21 + 1)).take 21).length = 21 := by rw [List.length_take, List.length_drop]; omega
      rw [this] at hr
      exact hr.2
     rw [Xa9 hlt, Xab, Xaq]
   ·
    rw [if_neg hfit]
    simp only
    rw [Xam, Xab, Xaq]
  ·
   have : ∀ w : Int, Xa0 ⟨strOfNums L, (i : Int), true⟩ w = some (0, ⟨strOfNums L, (i : Int), true⟩) := fun w => rfl
   rw [this, Xab]
   rfl
theorem Yu8 (v : Nat) (hv : v ≤ 1000000) : ∃ n : Int, Xjn (v : Int) = some (n, true) ∧ Xv3 (v : Int) = some (n, true) ∧ -500000 ≤ n ∧ n ≤ 500000 := by
 unfold Xjn Xv3
 rw [Xaj, Xab, Xai, Xab, decide_eq_true (by omega), Bool.not_true, Xam, Xam, rqA, rqA, Xbq (by omega)]
 by_cases h : (v : Int) % 2 = 1
 ·
  rw [Xbb (by rw [beq_iff_eq]; exact h), Xbb (by rw [beq_iff_eq]; exact h), rqA, wkA (e := (v : Int) + 1), Xbp (by omega), wkA]
  exact ⟨_, rfl, rfl, by omega, by omega⟩
 ·
  rw [Xaz (by rw [beq_eq_false_iff_ne]; exact h), Xaz (by rw [beq_eq_false_iff_ne]; exact h), rqA, rqA, wkA (e := 0 - (v : Int))]
  have e1 : (0 - (v : Int)).tdiv 2 = -((v : Int) / 2) := by
   rw [show (0 - (v : Int)) = (-((v : Int) / 2)) * 2 by omega]
   exact Int.mul_tdiv_cancel _ (by omega)
  rw [e1, Xbp (a := (v : Int)) (by omega), wkA (e := (v : Int) / 2), wkA (e := 0 - (v : Int) / 2), wkA (e := -((v : Int) / 2)), show 0 - (v : Int) / 2 = -((v : Int) / 2) by omega]
  exact ⟨_, rfl, rfl, by omega, by omega⟩
theorem Yrx (s : ByteArray) (a : Int) : Xbw ⟨s, a, true⟩ = some (0, ⟨s, a, true⟩) := by
 unfold Xbw
 rw [Yr5, Xab]
 rfl
theorem Yga {L : List Int} (hb : Xeo L) (hl : L.length ≤ 400000) (i : Nat) (hi : i ≤ L.length) :
  (∃ (n : Int) (j : Nat), Xco (strOfNums L) (i : Int) = some (n, (j : Int), true) ∧ Xbw ⟨strOfNums L, (i : Int), false⟩ = some (n, ⟨strOfNums L, (j : Int), false⟩) ∧ (-500000 ≤ n ∧ n ≤ 500000) ∧ i < j ∧ j ≤ L.length) ∨ (Xco (strOfNums L) (i : Int) = some (0, 0, false) ∧ ∃ a : Int, Xbw ⟨strOfNums L, (i : Int), false⟩ = some (0, ⟨strOfNums L, a, true⟩)) := by
 unfold Xco Xbw
 rcases Xrl hb hl i hi with ⟨v, j, e1, e2, h1, h2, h3⟩ | ⟨e1, a, e2⟩
 ·
  obtain ⟨n, o1, o2, o3, o4⟩ := Yu8 v h1
  refine .inl ⟨n, j, ?_, ?_, ⟨o3, o4⟩, h2, h3⟩
  ·
   rw [e1, Xab]
   simp only
   rw [Bool.not_true, Xam, o2, Xab]
  ·
   rw [e2, Xab]
   simp only
   rw [o1, Xab]
   rfl
 ·
  refine .inr ⟨?_, a, ?_⟩
  ·
   rw [e1, Xab]; rfl
  ·
   rw [e2, Xab]; rfl
def Ytp (L : List Int) (N n pos : Nat) : Prop := pos ≤ N → N ≤ pos + n → ∀ (i : Nat) (l : List Int) (rem : Nat), i ≤ L.length → l.length = N → rem ≤ 1000000 →
  (∃ (j : Nat) (l' : List Int), (∀ (k : Nat) (q1 : Int × Int × Bool), q1.1 = ((k + rem : Nat) : Int) → k + rem ≤ 1000000 → loop (Xcx (strOfNums L) (N : Int) q1) ((i : Int), (pos : Int), (k : Int), l) = some (.out ((j : Int), l'))) ∧ loop (Xbe (N : Int)) ((pos : Int), (rem : Int), strOfNums L, (i : Int), false, l) = some (l', strOfNums L, (j : Int), false) ∧ l'.length = N ∧ j ≤ L.length ∧ rem ≤ N - pos) ∨
  ((∀ (k : Nat) (q1 : Int × Int × Bool), q1.1 = ((k + rem : Nat) : Int) → k + rem ≤ 1000000 → loop (Xcx (strOfNums L) (N : Int) q1) ((i : Int), (pos : Int), (k : Int), l) = some (.ret ([], 0, false))) ∧ ∃ (l' : List Int) (a : Int), loop (Xbe (N : Int)) ((pos : Int), (rem : Int), strOfNums L, (i : Int), false, l) = some (l', strOfNums L, a, true) ∧ l'.length = N)
theorem Yox {L : List Int} (hb : Xeo L) (hl : L.length ≤ 400000) (N : Nat) (hN : N ≤ 64) (n : Nat) (ih : ∀ n', n' + 1 = n → ∀ pos, Ytp L N n' pos) (pos : Nat) : Ytp L N n pos := by
 intro hp hn i l rem hi hll hrem
 cases rem with
 | zero =>
  refine .inl ⟨i, l, fun k q1 hq hk => Xbx ?_, Xbx ?_, hll, hi, by omega⟩
  ·
   unfold Xcx
   simp only
   rw [snA]
  ·
   unfold Xbe
   simp only
   rw [snA, Xab, Xam]
 | succ r =>
  have sI : Xbe (N : Int) ((pos : Int), ((r + 1 : Nat) : Int), strOfNums L, (i : Int), false, l) = bnd (Xbj ⟨strOfNums L, (i : Int), false⟩) fun q17 => bnd (Xbw q17.2) fun q18 => bnd (sel (decide ((Xaa .i64 ((pos : Int) + q17.1)) ≥ (N : Int))) (some true) (sel (q18.1 == 0) (some true) (bnd (Xan q18.1 (-5000) 5000) fun q20 => some (!q20)))) fun v19 => sel v19 (some (.done (l, q18.2.row_, q18.2.at_, true))) (req (0 ≤ (Xaa .i64 ((pos : Int) + q17.1)) ∧ (Xaa .i64 ((pos : Int) + q17.1)) < l.length) <| req ((Xaa .i64 ((pos : Int) + q17.1)).toNat < l.length) <| some (.go (Xaa .i64 ((Xaa .i64 ((pos : Int) + q17.1)) + 1), Xaa .i64 (((r + 1 : Nat) : Int) - 1), q18.2.row_, q18.2.at_, q18.2.bad_, (l.set ((Xaa .i64 ((pos : Int) + q17.1)).toNat) q18.1)))) := by
   unfold Xbe
   simp only
   rw [syA, Bool.not_false, Xab, Xaq]
  have sS : ∀ (k : Nat) (q1 : Int × Int × Bool), q1.1 = ((k + (r + 1) : Nat) : Int) → Xcx (strOfNums L) (N : Int) q1 ((i : Int), (pos : Int), (k : Int), l) = bnd (Xbo (strOfNums L) (i : Int)) fun q17 => bnd (sel q17.2.2 (some (decide (q17.1 > (Xaa .i64 ((Xaa .i64 ((N : Int) - 1)) - (pos : Int)))))) (some true)) fun v18 => sel v18 (some (.done (.ret (([] : List Int), 0, false)))) (bnd (Xco (strOfNums L) q17.2.1) fun q19 => bnd (sel q19.2.2 (sel (q19.1 == 0) (some true) (bnd (Xat q19.1 (-5000) 5000) fun q21 => some (!q21))) (some true)) fun v20 => sel v20 (some (.done (.ret (([] : List Int), 0, false)))) (req (0 ≤ (Xaa .i64 ((pos : Int) + q17.1)) ∧ (Xaa .i64 ((pos : Int) + q17.1)) < l.length) <| req ((Xaa .i64 ((pos : Int) + q17.1)).toNat < l.length) <| some (.go (q19.2.1, Xaa .i64 ((Xaa .i64 ((pos : Int) + q17.1)) + 1), Xaa .i64 ((k : Int) + 1), (l.set ((Xaa .i64 ((pos : Int) + q17.1)).toNat) q19.1))))) := fun k q1 hq => by
   unfold Xcx
   simp only
   rw [syA]
  rcases Xrl hb hl i hi with ⟨v, j, e1, e2, h1, h2, h3⟩ | ⟨e1, a, e2⟩
  ·
   rw [e2, Xab] at sI
   simp only at sI
   have sS' := fun k q1 hq => (sS k q1 hq).trans (by rw [e1, Xab])
   simp only at sS'
   by_cases hge : pos + v ≥ N
   ·
    refine .inr ⟨fun k q1 hq hk => Xbx ((sS' k q1 hq).trans ?_), ?_⟩
    ·
     rw [Xaq, wkA (e := (N : Int) - 1), wkA (e := (N : Int) - 1 - pos), decide_eq_true (by omega), Xab, Xaq]
    ·
     rcases Yga hb hl j h3 with ⟨m, j2, _, f2, _⟩ | ⟨_, a, f2⟩
     ·
      refine ⟨l, (j2 : Int), Xbx (sI.trans ?_), hll⟩
      rw [f2, Xab, wkA (e := (pos : Int) + v), syA, Xab, Xaq]
     ·
      refine ⟨l, a, Xbx (sI.trans ?_), hll⟩
      rw [f2, Xab, wkA (e := (pos : Int) + v), syA, Xab, Xaq]
   ·
    have sS2 := fun k q1 hq => (sS' k q1 hq).trans (by rw [Xaq, wkA (e := (N : Int) - 1), wkA (e := (N : Int) - 1 - pos), decide_eq_false (by omega), Xab, Xam])
    rw [wkA (e := (pos : Int) + v)] at sI
    rcases Yga hb hl j h3 with ⟨m, j2, f1, f2, f3, f4, f5⟩ | ⟨f1, a, f2⟩
    ·
     rw [f2, Xab, snA] at sI
     have sS3 := fun k q1 hq => (sS2 k q1 hq).trans (by rw [f1, Xab])
     simp only at sS3 sI
     by_cases hm : m = 0 ∨ ¬ (-5000 ≤ m ∧ m ≤ 5000)
     ·
      have hv : (sel (m == 0) (some true) (bnd (Xan m (-5000) 5000) fun q20 => some (!q20))) = some true ∧ (sel true (sel (m == 0) (some true) (bnd (Xat m (-5000) 5000) fun q20 => some (!q20))) (some true)) = some true := by
       rw [Xaq, Xaj, Xai, Xab]
       rcases hm with h0 | h0
       ·
        rw [Xbb (by rw [beq_iff_eq]; exact h0)]; exact ⟨rfl, rfl⟩
       ·
        rw [decide_eq_false h0]
        cases (m == 0) <;> exact ⟨rfl, rfl⟩
      refine .inr ⟨fun k q1 hq hk => Xbx ((sS3 k q1 hq).trans ?_), l, (j2 : Int), Xbx (sI.trans ?_), hll⟩
      ·
       rw [hv.2, Xab, Xaq]
      ·
       rw [hv.1, Xab, Xaq]
     ·
      have hm0 : m ≠ 0 := fun h => hm (.inl h)
      have hm1 : -5000 ≤ m ∧ m ≤ 5000 := Classical.byContradiction fun h => hm (.inr h)
      have hv : (sel (m == 0) (some true) (bnd (Xan m (-5000) 5000) fun q20 => some (!q20))) = some false ∧ (sel true (sel (m == 0) (some true) (bnd (Xat m (-5000) 5000) fun q20 => some (!q20))) (some true)) = some false := by
       rw [Xaq, Xaj, Xai, Xab, Xaz (by rw [beq_eq_false_iff_ne]; exact hm0), decide_eq_true hm1]
       exact ⟨rfl, rfl⟩
      have gI : Xbe (N : Int) ((pos : Int), ((r + 1 : Nat) : Int), strOfNums L, (i : Int), false, l) = some (.go (((pos + v + 1 : Nat) : Int), (r : Int), strOfNums L, (j2 : Int), false, l.set (pos + v) m)) := by
       rw [sI, hv.1, Xab, Xam, rqA, rqA, wkA, wkA, show ((r + 1 : Nat) : Int) - 1 = (r : Int) by omega, show ((pos : Int) + (v : Int)).toNat = pos + v by omega]
       rfl
      have gS : ∀ (k : Nat) (q1 : Int × Int × Bool), q1.1 = ((k + (r + 1) : Nat) : Int) → k + (r + 1) ≤ 1000000 → Xcx (strOfNums L) (N : Int) q1 ((i : Int), (pos : Int), (k : Int), l) = some (.go ((j2 : Int), ((pos + v + 1 : Nat) : Int), ((k + 1 : Nat) : Int), l.set (pos + v) m)) := fun k q1 hq hk => by
       refine (sS3 k q1 hq).trans ?_
       rw [hv.2, Xab, Xam, wkA (e := (pos : Int) + v), rqA, rqA, wkA, wkA, show ((pos : Int) + (v : Int)).toNat = pos + v by omega]
       rfl
      have hR := ih (n - 1) (by omega) (pos + v + 1) (by omega) (by omega) j2 (l.set (pos + v) m) r f5 (by rw [List.length_set]; exact hll) (by omega)
      rcases hR with ⟨j3, l', r1, r2, r3, r4, r5⟩ | ⟨r1, l', a, r2, r3⟩
      ·
       exact .inl ⟨j3, l', fun k q1 hq hk => lgo (gS k q1 hq hk) (r1 (k + 1) q1 (by rw [hq]; omega) (by omega)), lgo gI r2, r3, r4, by omega⟩
      ·
       exact .inr ⟨fun k q1 hq hk => lgo (gS k q1 hq hk) (r1 (k + 1) q1 (by rw [hq]; omega) (by omega)), l', a, lgo gI r2, r3⟩
    ·
     refine .inr ⟨fun k q1 hq hk => Xbx ((sS2 k q1 hq).trans ?_), l, a, Xbx (sI.trans ?_), hll⟩
     ·
      rw [f1, Xab]; rfl
     ·
      rw [f2, Xab, snA]; rfl
  ·
   refine .inr ⟨fun k q1 hq hk => Xbx ((sS k q1 hq).trans ?_), l, a, Xbx (sI.trans ?_), hll⟩
   ·
    rw [e1, Xab]; rfl
   ·
    rw [e2, Xab]
    simp only
    rw [Yrx, Xab]
    simp only
    cases decide ((Xaa .i64 ((pos : Int) + 0)) ≥ (N : Int)) <;> rfl
theorem Yzu {L : List Int} (hb : Xeo L) (hl : L.length ≤ 400000) (N : Nat) (hN : N ≤ 64) : ∀ n pos : Nat, Ytp L N n pos := by
 intro n
 induction n with
 | zero => exact fun pos => Yox hb hl N hN 0 (fun n' h => by omega) pos
 | succ n ih => exact fun pos => Yox hb hl N hN (n + 1) (fun n' h pos => by
   have : n' = n := by omega
   subst this
   exact ih pos) pos
theorem Yrw (s : ByteArray) (a : Int) (N : Nat) (hN : N ≤ 64) : Xcg ⟨s, a, true⟩ (N : Int) = some (List.replicate N 0, ⟨s, a, true⟩) := by
 unfold Xcg
 rw [rqA, Yr5, Xab]
 have h : ∀ l, Xbe (N : Int) (0, 0, s, a, true, l) = some (.done (l, s, a, true)) := fun l => rfl
 simp only
 rw [Xci (h _), Xab, Int.toNat_natCast]
theorem You {L : List Int} (hb : Xeo L) (hl : L.length ≤ 400000) (N : Nat) (hN : N ≤ 64) (i : Nat) (hi : i ≤ L.length) :
  (∃ (l : List Int) (j : Nat), Xm8 (strOfNums L) (i : Int) (N : Int) = some (l, (j : Int), true) ∧ Xcg ⟨strOfNums L, (i : Int), false⟩ (N : Int) = some (l, ⟨strOfNums L, (j : Int), false⟩) ∧ l.length = N ∧ j ≤ L.length) ∨ (Xm8 (strOfNums L) (i : Int) (N : Int) = some ([], 0, false) ∧ ∃ (l : List Int) (a : Int), Xcg ⟨strOfNums L, (i : Int), false⟩ (N : Int) = some (l, ⟨strOfNums L, a, true⟩) ∧ l.length = N) := by
 unfold Xm8 Xcg
 rw [rqA, rqA]
 rcases Xrl hb hl i hi with ⟨v, j, e1, e2, h1, h2, h3⟩ | ⟨e1, a, e2⟩
 ·
  rw [e1, Xab, e2, Xab]
  simp only
  rw [Xaq, Xab, Int.toNat_natCast]
  rcases Yzu hb hl N hN N 0 (by omega) (by omega) j (List.replicate N 0) v h3 (by simp) h1 with ⟨j3, l', r1, r2, r3, r4, r5⟩ | ⟨r1, l', a, r2, r3⟩
  ·
   have r1' := r1 0 ((v : Int), (j : Int), true) (by simp) (by omega)
   have r2' : loop (Xbe (N : Int)) (0, (v : Int), strOfNums L, (j : Int), false, List.replicate N 0) = some (l', strOfNums L, (j3 : Int), false) := r2
   have r3' : loop (Xcx (strOfNums L) (N : Int) ((v : Int), (j : Int), true)) ((j : Int), 0, 0, List.replicate N 0) = some (.out ((j3 : Int), l')) := r1'
   rw [snA, r2', r3', Xab, Xab]
   exact .inl ⟨l', j3, rfl, rfl, r3, r4⟩
  ·
   have r2' : loop (Xbe (N : Int)) (0, (v : Int), strOfNums L, (j : Int), false, List.replicate N 0) = some (l', strOfNums L, a, true) := r2
   refine .inr ⟨?_, l', a, ?_, r3⟩
   ·
    by_cases hbig : (v : Int) > N
    ·
     rw [Xa9 hbig]
    ·
     have r3' : loop (Xcx (strOfNums L) (N : Int) ((v : Int), (j : Int), true)) ((j : Int), 0, 0, List.replicate N 0) = some (.ret ([], 0, false)) := r1 0 ((v : Int), (j : Int), true) (by simp) (by omega)
     rw [Xas hbig, r3', Xab]
   ·
    rw [r2', Xab]
 ·
  refine .inr ⟨?_, List.replicate N 0, a, ?_, by simp⟩
  ·
   rw [e1, Xab]; rfl
  ·
   rw [e2, Xab]
   have h : ∀ l, Xbe (N : Int) (0, 0, strOfNums L, a, true, l) = some (.done (l, strOfNums L, a, true)) := fun l => rfl
   simp only
   rw [Xci (h _), Xab, Int.toNat_natCast]
theorem Yp4 (s : ByteArray) (a : Int) : ∀ n k : Nat, k + n = 4 → ∀ l : List Int, l.length = 16 * k → ∃ l' : List Int, loop Xa3 ((k : Int), s, a, true, l) = some (l', s, a, true) ∧ l'.length = 64
 | 0, k, hk, l, hl => ⟨l, Xbx (by unfold Xa3; simp only; rw [snA]), by omega⟩
 | n + 1, k, hk, l, hl => by
  have hm : maxLen = 9223372036854775807 := rfl
  obtain ⟨l', e, h⟩ := Yp4 s a n (k + 1) (by omega) (l ++ List.replicate 16 0) (by rw [List.length_append, List.length_replicate]; omega)
  refine ⟨l', lgo ?_ e, h⟩
  have := Yrw s a 16 (by omega)
  unfold Xa3
  simp only
  rw [syA]
  refine (Xc3 this).trans ?_
  simp only
  rw [Xav (by simp only [List.length_replicate]; omega), wkA]
  rfl
theorem Xzt (s : ByteArray) (a : Int) (c : Xfg) : ∃ l : List Int, Xbh ⟨s, a, true⟩ c = some (l, ⟨s, a, true⟩) ∧ l.length = 64 := by
 unfold Xbh
 rw [Ya6, Xab]
 by_cases h : (c.Large || c.Exact) = true
 ·
  rw [Xbb h]
  have := Yrw s a 64 (by omega)
  exact ⟨_, (Xc3 this).trans rfl, by simp⟩
 ·
  rw [Xaz (by simpa using h)]
  obtain ⟨l', e, hl⟩ := Yp4 s a 4 0 rfl [] rfl
  exact ⟨l', (Xc3 e).trans rfl, hl⟩
end Go.Proofs.YtnhflbeahbcklabGreat.A.Pure
