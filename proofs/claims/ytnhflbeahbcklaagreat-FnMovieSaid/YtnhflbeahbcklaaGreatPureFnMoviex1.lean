/- The pure statement of the law FnMovie, part 2: over numbers, texts and lists alone, what the law computes is true. Conditions: the sizes of what a machine holds. -/
import Derived.Test.YtnhflbeahbcklaaGreatPureFnMoviex0
namespace Go.Proofs.YtnhflbeahbcklaaGreat.A.Pure
open Go Go.Proofs Go.Proofs.YtnhflbeahbcklaaGreatAL Go.RowKit
set_option linter.unusedVariables false
set_option linter.unusedSimpArgs false
set_option maxHeartbeats 1000000
theorem Xqh {S : Type} {f : S × Int → Option (Lp (S × Int) S)} (n : Nat) (I : Nat → S → Prop) (hs : ∀ (i : Nat) (l : S), i < n → I i l → ∃ l', f (l, (i : Int)) = some (.go (l', ((i + 1 : Nat) : Int))) ∧ I (i + 1) l') (he : ∀ l, f (l, (n : Int)) = some (.done l)) (l0 : S) (h0 : I 0 l0) : ∃ o, loop f (l0, 0) = some o ∧ I n o := by
 have key : ∀ i : Nat, i ≤ n → ∀ l, I i l → ∃ o, loop f (l, (i : Int)) = some o ∧ I n o := by
  refine Xgp _ ?_ ?_
  ·
   intro l h; exact ⟨l, Xf9 (he l), h⟩
  ·
   intro i hi ih l h
   obtain ⟨l', e, h'⟩ := hs i l hi h
   obtain ⟨o, e2, h2⟩ := ih l' h'
   exact ⟨o, lgo e e2, h2⟩
 exact key 0 (by omega) l0 h0
theorem Xeg (l : List Int) (i j : Nat) (y : Int) (hi : i < l.length) : (l.set i y).getD j 0 = if i = j then y else l.getD j 0 := by
 rw [List.getD_eq_getElem?_getD, List.getElem?_set, List.getD_eq_getElem?_getD]
 by_cases h : i = j
 ·
  subst h; rw [if_pos rfl, if_pos rfl, if_pos hi]; rfl
 ·
  rw [if_neg h, if_neg h]
theorem Xnd {f : Int × List Int → Option (Lp (Int × List Int) (List Int))} (n : Nat) (P Q : Int → Prop) (hs : ∀ (i : Nat) (l : List Int), i < n → l.length = n → P (l.getD i 0) → ∃ y, f ((i : Int), l) = some (.go (((i + 1 : Nat) : Int), l.set i y)) ∧ Q y) (he : ∀ l, f ((n : Int), l) = some (.done l)) (l0 : List Int) (h0 : l0.length = n) (hb : ∀ x ∈ l0, P x) : ∃ o, loop f (0, l0) = some o ∧ o.length = n ∧ ∀ x ∈ o, Q x := by
 obtain ⟨o, e, h1, h2, _⟩ := Xd6 (f := f) n (fun i l => l.length = n ∧ (∀ j, j < i → Q (l.getD j 0)) ∧ ∀ j, i ≤ j → j < n → P (l.getD j 0)) (by
  intro i l hi ⟨g1, g2, g3⟩
  obtain ⟨y, e, hy⟩ := hs i l hi g1 (g3 i (Nat.le_refl _) hi)
  refine ⟨_, e, by rw [List.length_set]; exact g1, fun j hj => ?_, fun j hj hj2 => ?_⟩
  ·
   rw [Xeg l i j y (by omega)]
   by_cases h : i = j
   ·
    rw [if_pos h]; exact hy
   ·
    rw [if_neg h]; exact g2 j (by omega)
  ·
   rw [Xeg l i j y (by omega), if_neg (by omega)]; exact g3 j (by omega) hj2) he l0 ⟨h0, fun j hj => by omega, fun j _ hj => hb _ (by rw [Xb4 l0 j (by omega)]; exact List.getElem_mem _)⟩
 refine ⟨o, e, h1, fun x hx => ?_⟩
 obtain ⟨j, hj, rfl⟩ := List.getElem_of_mem hx
 have := h2 j (by omega)
 rwa [Xb4 o j hj] at this
theorem Xcc (l : List Int) (n B : Int) (hn : (l.length : Int) = n) (hn2 : n ≤ 1000000) (hB : 0 ≤ B ∧ B ≤ 100000000) (h : inB B l) : Xcn l n B = some true := by
 unfold Xcn
 rw [Xba (by simp only [bne_eq_false_iff_eq]; exact hn), Yaz l.length (f := Xfl l n B) (by
  intro i hi
  have := Xma h hi
  unfold Xfl
  rw [syA, rqA, wkA (e := 0 - B), Xaj, Xab, Int.toNat_natCast, decide_eq_true (by omega), Bool.not_true, Xao, wkA]
  rfl) (by unfold Xfl; rw [snA]), Xab]
def Yax (n i : Int) (v17 : Int × Int) : Option (Lp (Int × Int) (Ou Unit Int)) :=
 sel (decide (v17.2 ≤ (Xaa .i64 ((Xaa .i64 (2 * n)) - 2)))) (
 bnd (it (Xu9 n i v17) 20 (v17.1, 0)) fun o47 => match o47 with
 | .out v43 => (
 some (.go (v43, Xaa .i64 (v17.2 + 1))))
 | .ret r => some (.done (.ret r))) (
 some (.done (.out ())))
theorem Yrm {n i : Int} {v : Int × Int} {x : Lp (Int × Int) (Ou Unit Int)} (h : Yax n i v = some x) : Xp3 n i v = some x := by
 unfold Yax at h
 unfold Xp3
 rcases Xj1 h with ⟨hb, h⟩ | ⟨hb, h⟩
 ·
  rw [hb, Xat]
  obtain ⟨a, h1, h2⟩ := Xbc h
  rw [Xi5.2 ⟨20, h1⟩, Xab]
  exact h2
 ·
  rw [hb, Xao]; exact h
theorem Yy1 {V O : Type} {f g : V → Option (Lp V O)} (hf : ∀ v y, f v = some y → g v = some y) {o : O} : ∀ (k : Nat) (v : V), it f k v = some o → it g k v = some o
 | 0, v, h => by cases h
 | k + 1, v, h => by
  rw [it] at h ⊢
  cases e : f v with
  | none => rw [e] at h; cases h
  | some s =>
   rw [e] at h
   rw [hf v s e]
   cases s with
   | go y => exact Yy1 hf k y h
   | done o' => exact h
def Xcr (n i : Int) : Int := match it (Yax n i) 20 (0, 0) with | some (.ret q) => q | _ => -1
theorem Yzh : ∀ i : Fin 16, (0 ≤ Xcr 4 (i.val : Int) ∧ Xcr 4 (i.val : Int) < 16) := by decide +kernel
theorem Yzi : ∀ i : Fin 64, (0 ≤ Xcr 8 (i.val : Int) ∧ Xcr 8 (i.val : Int) < 64) := by decide +kernel
theorem Xfe (n : Int) (hn : n = 4 ∨ n = 8) (i : Nat) (hi : (i : Int) < n * n) : 0 ≤ Xcr n i ∧ Xcr n i < n * n := by
 rcases hn with rfl | rfl
 ·
  exact Yzh ⟨i, by omega⟩
 ·
  exact Yzi ⟨i, by omega⟩
theorem Xea (n : Int) (hn : n = 4 ∨ n = 8) (i : Nat) (hi : (i : Int) < n * n) : Xtf n i = some (Xcr n i) := by
 have hp := Xfe n hn i hi
 unfold Xtf
 have hw : Xaa .i64 (n * n) = n * n := by rcases hn with rfl | rfl <;> exact wkA
 have hc : (sel (n != 4) (sel (n != 8) (some true) (sel (decide ((i : Int) < 0)) (some true) (some (decide ((i : Int) ≥ (Xaa .i64 (n * n))))))) (sel (decide ((i : Int) < 0)) (some true) (some (decide ((i : Int) ≥ (Xaa .i64 (n * n))))))) = some false := by
  rw [hw, Xap (show ¬ (i : Int) < 0 by omega), decide_eq_false (show ¬ (i : Int) ≥ n * n by omega)]
  rcases hn with rfl | rfl <;> rfl
 rw [hc, Xab, Xao]
 unfold Xcr at hp ⊢
 cases e : it (Yax n i) 20 (0, 0) with
 | none => rw [e] at hp; simp only at hp; omega
 | some s =>
  rw [e] at hp
  have h := Yy1 (fun v y => Yrm (n := n) (i := i)) 20 _ e
  rw [Xi5.2 ⟨20, h⟩, Xab]
  cases s with
  | out u => simp only at hp; omega
  | ret q => rfl
theorem Xp4 (n : Int) (hn : n = 4 ∨ n = 8) (l : List Int) (B : Int) (hl : (l.length : Int) = n * n) (hb : inB B l) : ∃ o, Xfg n l = some (o, true) ∧ o.length = l.length ∧ inB B o := by
 have hm : maxLen = 9223372036854775807 := rfl
 have hw : Xaa .i64 (n * n) = n * n := by rcases hn with rfl | rfl <;> exact wkA
 have hl2 : l.length ≤ 64 := by rcases hn with rfl | rfl <;> omega
 unfold Xfg
 have hc : (sel (n != 4) (sel (n != 8) (some true) (some ((l.length : Int) != (Xaa .i64 (n * n))))) (some ((l.length : Int) != (Xaa .i64 (n * n))))) = some false := by
  rw [hw, hl, bne_self_eq_false]
  rcases hn with rfl | rfl <;> rfl
 rw [hc, Xab, Xao]
 obtain ⟨o, e, h1, h2⟩ := Xd6 (f := Xci n l) l.length (fun i s => s.length = i ∧ inB B s) (by
  intro i s hi ⟨g1, g2⟩
  have hp := Xfe n hn i (by omega)
  have ha := Xma hb (i := (Xcr n i).toNat) (by omega)
  unfold Xci
  simp only
  rw [hw, syA, Xea n hn i (by omega), Xab, rqA, Xa2 (by simp only [List.length_singleton]; omega), wkA]
  exact ⟨_, rfl, by simp; omega, Xms g2 (Yoi ha)⟩) (by intro s; unfold Xci; simp only; rw [hw, snA]) [] ⟨rfl, Xyp B⟩
 exact ⟨o, (Xge e).trans rfl, h1, h2⟩
theorem Xgd (n : Int) (hn : n = 4 ∨ n = 8) (l : List Int) (B : Int) (hB : 0 ≤ B) (hl : (l.length : Int) = n * n) (hb : inB B l) : ∃ o, Xdn n l = some (o, true) ∧ o.length = l.length ∧ inB B o := by
 have hm : maxLen = 9223372036854775807 := rfl
 have hw : Xaa .i64 (n * n) = n * n := by rcases hn with rfl | rfl <;> exact wkA
 have hl2 : l.length ≤ 64 := by rcases hn with rfl | rfl <;> omega
 unfold Xdn
 have hc : (sel (n != 4) (sel (n != 8) (some true) (some ((l.length : Int) != (Xaa .i64 (n * n))))) (some ((l.length : Int) != (Xaa .i64 (n * n))))) = some false := by
  rw [hw, hl, bne_self_eq_false]
  rcases hn with rfl | rfl <;> rfl
 rw [hc, Xab, Xao, rqA, Int.toNat_natCast]
 obtain ⟨o, e, h1, h2⟩ := Xd6 (f := Xb0 n l) l.length (fun i s => s.length = l.length ∧ inB B s) (by
  intro i s hi ⟨g1, g2⟩
  have hp := Xfe n hn i (by omega)
  have ha := Xma hb hi
  unfold Xb0
  simp only
  rw [hw, syA, Xea n hn i (by omega), Xab, rqA, rqA, rqA, wkA, Int.toNat_natCast]
  exact ⟨_, rfl, by rw [List.length_set]; exact g1, Ysg g2 _ ha⟩) (by intro s; unfold Xb0; simp only; rw [hw, snA]) (List.replicate l.length 0) ⟨List.length_replicate, Ysf _ hB⟩
 exact ⟨o, (Xge e).trans rfl, h1, h2⟩
def Xjk (u v : Int) : Int := match it Xnh 10 (1, (IntKind.wrap .i64 (BitVec.ofInt (IntKind.bits .i64) u &&& BitVec.ofInt (IntKind.bits .i64) v).toNat)) with | some q => q | none => 7
theorem Yxs : ∀ u v : Fin 8, (-1 ≤ Xjk (u.val : Int) (v.val : Int) ∧ Xjk (u.val : Int) (v.val : Int) ≤ 1) := by decide +kernel
theorem Xxq (u v : Nat) (hu : u < 8) (hv : v < 8) : ∃ s, Xm0 u v = some s ∧ -1 ≤ s ∧ s ≤ 1 := by
 have h := Yxs ⟨u, hu⟩ ⟨v, hv⟩
 simp only at h
 unfold Xm0
 rw [Xaj, Xab, decide_eq_true (by omega), Xat, Xaj, Xab, decide_eq_true (by omega), Bool.not_true, Xab, Xao]
 unfold Xjk at h
 cases e : it Xnh 10 (1, (IntKind.wrap .i64 (BitVec.ofInt (IntKind.bits .i64) (u : Int) &&& BitVec.ofInt (IntKind.bits .i64) (v : Int)).toNat)) with
 | none => rw [e] at h; simp only at h; omega
 | some q =>
  rw [e] at h
  rw [Xi5.2 ⟨10, e⟩, Xab]
  exact ⟨q, rfl, h⟩
def Xtn (qp : Int) : Int := if qp.tmod 6 = 0 then 10 else if qp.tmod 6 = 1 then 11 else if qp.tmod 6 = 2 then 13 else if qp.tmod 6 = 3 then 14 else if qp.tmod 6 = 4 then 16 else 18
def Xqa (qp : Int) : Int := match it (Xnj qp) 10 (Xtn qp, 0) with | some q => q | none => 0
theorem Yx1 : ∀ q : Fin 41, (10 ≤ Xqa (q.val : Int) ∧ Xqa (q.val : Int) ≤ 1152) := by decide +kernel
theorem Xxt (qp : Int) (h0 : 0 ≤ qp ∧ qp ≤ 40) : ∃ s, Xkf qp = some s ∧ 10 ≤ s ∧ s ≤ 1152 := by
 have h := Yx1 ⟨qp.toNat, by omega⟩
 simp only at h
 rw [show ((qp.toNat : Nat) : Int) = qp by omega] at h
 unfold Xkf
 rw [Xaj, Xab, decide_eq_true (by omega), Bool.not_true, Xao, rqA]
 have hb : (sel ((qp.tmod 6) == 0) (some (10 : Int)) (sel ((qp.tmod 6) == 1) (some 11) (sel ((qp.tmod 6) == 2) (some 13) (sel ((qp.tmod 6) == 3) (some 14) (sel ((qp.tmod 6) == 4) (some 16) (some 18)))))) = some (Xtn qp) := by
  unfold Xtn
  simp only [Yji, beq_iff_eq]
  repeat' split
  all_goals rfl
 rw [hb, Xab]
 unfold Xqa at h
 cases e : it (Xnj qp) 10 (Xtn qp, 0) with
 | none => rw [e] at h; simp only at h; omega
 | some q =>
  rw [e] at h
  rw [Xi5.2 ⟨10, e⟩, Xab]
  exact ⟨q, rfl, h⟩
theorem Xri (p : Int) (h : 0 ≤ p ∧ p ≤ 15) : ∃ k, Xp1 p = some k ∧ 0 ≤ k ∧ k ≤ 2 := by
 unfold Xp1
 rw [Xaj, Xab, decide_eq_true h, Bool.not_true, Xao, rqA, rqA, rqA, rqA, Xdf, Xab]
 cases ((Xaa .i64 (p.tdiv 4)).tmod 2 == 0 && (p.tmod 4).tmod 2 == 0) with
 | true => exact ⟨0, rfl, by omega, by omega⟩
 | false =>
  rw [Xao, Xdf, Xab]
  cases ((Xaa .i64 (p.tdiv 4)).tmod 2 == 1 && (p.tmod 4).tmod 2 == 1) with
  | true => exact ⟨1, rfl, by omega, by omega⟩
  | false => exact ⟨2, rfl, by omega, by omega⟩
theorem Xa7 (k a b c : Int) : ∃ x, Xbg k a b c = some x ∧ (x = a ∨ x = b ∨ x = c) := by
 unfold Xbg
 cases (k == 0) with
 | true => exact ⟨a, rfl, Or.inl rfl⟩
 | false =>
  cases (k == 1) with
  | true => exact ⟨b, rfl, Or.inr (Or.inl rfl)⟩
  | false => exact ⟨c, rfl, Or.inr (Or.inr rfl)⟩
theorem Yvi (qp : Int) (h0 : 0 ≤ qp ∧ qp ≤ 40) (x : Int) (hx : 0 ≤ x ∧ x ≤ 29) : ∃ o, loop (Xgc qp) (x, 0) = some o ∧ 0 ≤ o ∧ o ≤ 1856 := by
 obtain ⟨o, e, h1, h2⟩ := Xqh (f := Xgc qp) (qp / 6).toNat (fun i s => 0 ≤ s ∧ s ≤ 29 * 2 ^ i) (by
  intro i s hi ⟨g1, g2⟩
  have h6 : (2 : Int) ^ i ≤ 64 := by
   have : i ≤ 6 := by omega
   obtain rfl | rfl | rfl | rfl | rfl | rfl | rfl : i = 0 ∨ i = 1 ∨ i = 2 ∨ i = 3 ∨ i = 4 ∨ i = 5 ∨ i = 6 := by omega
   all_goals decide
  have h7 : (2 : Int) ^ (i + 1) = 2 * 2 ^ i := by rw [Int.pow_succ, Int.mul_comm]
  unfold Xgc
  simp only
  rw [rqA, Xbn (by omega), wkA (e := qp / 6), syA, wkA (e := 2 * s), wkA (e := (i : Int) + 1)]
  exact ⟨_, rfl, by omega, by rw [h7]; omega⟩) (by intro s; unfold Xgc; simp only; rw [rqA, Xbn (by omega), wkA (e := qp / 6), snA]) x ⟨hx.1, by simp; omega⟩
 have h6 : (2 : Int) ^ (qp / 6).toNat ≤ 64 := by
  generalize hi : (qp / 6).toNat = i
  obtain rfl | rfl | rfl | rfl | rfl | rfl | rfl : i = 0 ∨ i = 1 ∨ i = 2 ∨ i = 3 ∨ i = 4 ∨ i = 5 ∨ i = 6 := by omega
  all_goals decide
 exact ⟨o, e, h1, by omega⟩
theorem Yjp (qp p : Int) (h0 : 0 ≤ qp ∧ qp ≤ 40) (hp : 0 ≤ p ∧ p ≤ 15) : ∃ s, Xn3 qp p = some s ∧ 0 ≤ s ∧ s ≤ 1856 := by
 unfold Xn3
 obtain ⟨k, e, k0, k1⟩ := Xri p hp
 rw [e, Xab, Xaj, Xab, decide_eq_true h0, Xat, decide_eq_false (by omega), Xab, Xao, rqA]
 obtain ⟨a1, e1, b1⟩ := Xa7 k 10 16 13
 obtain ⟨a2, e2, b2⟩ := Xa7 k 11 18 14
 obtain ⟨a3, e3, b3⟩ := Xa7 k 13 20 16
 obtain ⟨a4, e4, b4⟩ := Xa7 k 14 23 18
 obtain ⟨a5, e5, b5⟩ := Xa7 k 16 25 20
 obtain ⟨a6, e6, b6⟩ := Xa7 k 18 29 23
 rw [e1, e2, e3, e4, e5, e6]
 simp only [Xab, Yt6]
 obtain ⟨o, eo, o1, o2⟩ := Yvi qp h0 (sel (qp.tmod 6 == 0) a1 (sel (qp.tmod 6 == 1) a2 (sel (qp.tmod 6 == 2) a3 (sel (qp.tmod 6 == 3) a4 (sel (qp.tmod 6 == 4) a5 (sel (qp.tmod 6 == 5) a6 0)))))) (by
  simp only [Yji]
  repeat' split
  all_goals omega)
 exact ⟨o, (Xge eo).trans rfl, o1, o2⟩
theorem Yjq (qp p : Int) (h0 : 0 ≤ qp ∧ qp ≤ 40) (hp : 0 ≤ p ∧ p ≤ 15) : ∃ s, Xn4 qp p = some s ∧ 0 ≤ s ∧ s ≤ 13107 := by
 unfold Xn4
 obtain ⟨k, e, k0, k1⟩ := Xri p hp
 rw [e, Xab, Xaj, Xab, decide_eq_true h0, Xat, decide_eq_false (by omega), Xab, Xao, rqA]
 obtain ⟨a1, e1, b1⟩ := Xa7 k 13107 5243 8066
 obtain ⟨a2, e2, b2⟩ := Xa7 k 11916 4660 7490
 obtain ⟨a3, e3, b3⟩ := Xa7 k 10082 4194 6554
 obtain ⟨a4, e4, b4⟩ := Xa7 k 9362 3647 5825
 obtain ⟨a5, e5, b5⟩ := Xa7 k 8192 3355 5243
 obtain ⟨a6, e6, b6⟩ := Xa7 k 7282 2893 4559
 rw [e1, e2, e3, e4, e5, e6]
 simp only [Xab, Yt6]
 refine ⟨_, rfl, ?_⟩
 simp only [Yji]
 repeat' split
 all_goals omega
theorem Ytx {a s B : Int} (ha : -B ≤ a ∧ a ≤ B) (hs : -1 ≤ s ∧ s ≤ 1) : (-B ≤ a * s ∧ a * s ≤ B) ∧ (-B ≤ s * a ∧ s * a ≤ B) := by
 obtain rfl | rfl | rfl : s = -1 ∨ s = 0 ∨ s = 1 := by omega
 all_goals omega
theorem Ymd (p : List Int) (B : Int) (hB : 0 ≤ B ∧ B ≤ 1000000000000) (hl : p.length = 64) (hb : inB B p) (i v : Nat) (hi : i < 8) (hv : v < 8) : ∃ o, Xp6 p i v = some o ∧ -(8 * B) ≤ o ∧ o ≤ 8 * B := by
 unfold Xp6
 obtain ⟨o, e, h1, h2⟩ := Xqh (f := Xfm p i v) 8 (fun k s => -(B * k) ≤ s ∧ s ≤ B * k) (by
  intro k s hk ⟨g1, g2⟩
  obtain ⟨q, eq, q0, q1⟩ := Xxq v k hv hk
  have ha := Xma hb (i := 8 * i + k) (by omega)
  have hm := (Ytx ha ⟨q0, q1⟩).1
  have hk8 : B * k ≤ B * 8 := Int.mul_le_mul_of_nonneg_left (by omega) hB.1
  have hk0 : B * ((k + 1 : Nat) : Int) = B * k + B := by rw [Int.natCast_add, Int.mul_add]; simp
  unfold Xfm
  simp only
  rw [syA, wkA (e := 8 * (i : Int)), wkA (e := 8 * (i : Int) + (k : Int)), rqA, eq, Xab, show (8 * (i : Int) + (k : Int)).toNat = 8 * i + k by omega, wkA (e := p.getD (8 * i + k) 0 * q), wkA (e := s + p.getD (8 * i + k) 0 * q), wkA (e := (k : Int) + 1)]
  exact ⟨_, rfl, by rw [hk0]; omega, by rw [hk0]; omega⟩) (by intro s; unfold Xfm; rw [Xap (by simp)]) 0 (by simp)
 exact ⟨o, (Xge e).trans rfl, by omega, by omega⟩
theorem Xvh (p : List Int) (B : Int) (hB : 0 ≤ B ∧ B ≤ 10000000000) (hl : p.length = 64) (hb : inB B p) : ∃ o, Xky p = some o ∧ o.length = 64 ∧ inB (64 * B) o := by
 have hm : maxLen = 9223372036854775807 := rfl
 unfold Xky
 obtain ⟨h, eh, hh1, hh2⟩ := Xd6 (f := Xdz p) 8 (fun i s => s.length = 8 * i ∧ inB (8 * B) s) (by
  intro i s hi ⟨g1, g2⟩
  obtain ⟨t, et, t1, t2⟩ := Xd6 (f := Xd0 p ((i : Int), s)) 8 (fun v s => s.length = 8 * i + v ∧ inB (8 * B) s) (by
   intro v s hv ⟨g1, g2⟩
   obtain ⟨r, er, r1, r2⟩ := Ymd p B ⟨hB.1, by omega⟩ hl hb i v hi hv
   unfold Xd0
   simp only
   rw [syA, er, Xab, Xa2 (by simp only [List.length_singleton]; omega), wkA (e := (v : Int) + 1)]
   exact ⟨_, rfl, by simp; omega, Xms g2 (Yoi ⟨by omega, r2⟩)⟩) (by intro s; unfold Xd0; rw [Xap (by simp)]) s ⟨by omega, g2⟩
  unfold Xdz
  simp only
  rw [syA, et, Xab, wkA (e := (i : Int) + 1)]
  exact ⟨_, rfl, by omega, t2⟩) (by intro s; unfold Xdz; rw [Xap (by simp)]) [] ⟨rfl, Xyp _⟩
 rw [eh, Xab]
 obtain ⟨o, eo, o1, o2⟩ := Xd6 (f := Xdh h) 8 (fun i s => s.length = 8 * i ∧ inB (64 * B) s) (by
  intro i s hi ⟨g1, g2⟩
  obtain ⟨t, et, t1, t2⟩ := Xd6 (f := Xdi h ((i : Int), s)) 8 (fun v s => s.length = 8 * i + v ∧ inB (64 * B) s) (by
   intro v r hv ⟨g1, g2⟩
   obtain ⟨a, ea, a1, a2⟩ := Xqh (f := Xdj h ((i : Int), s) ((v : Int), r)) 8 (fun k s => -(8 * B * k) ≤ s ∧ s ≤ 8 * B * k) (by
    intro k c hk ⟨g1, g2⟩
    obtain ⟨q, eq, q0, q1⟩ := Xxq i k hi hk
    have ha := Xma hh2 (i := 8 * k + v) (by omega)
    have hm := (Ytx ha ⟨q0, q1⟩).2
    have hk8 : 8 * B * k ≤ 8 * B * 8 := Int.mul_le_mul_of_nonneg_left (by omega) (by omega)
    have hk0 : 8 * B * ((k + 1 : Nat) : Int) = 8 * B * k + 8 * B := by rw [Int.natCast_add, Int.mul_add]; simp
    unfold Xdj
    simp only
    rw [syA, eq, Xab, wkA (e := 8 * (k : Int)), wkA (e := 8 * (k : Int) + (v : Int)), rqA, rqA, show (8 * (k : Int) + (v : Int)).toNat = 8 * k + v by omega, wkA (e := q * h.getD (8 * k + v) 0), wkA (e := c + q * h.getD (8 * k + v) 0), wkA (e := (k : Int) + 1)]
    exact ⟨_, rfl, by rw [hk0]; omega, by rw [hk0]; omega⟩) (by intro s; unfold Xdj; rw [Xap (by simp)]) 0 (by simp)
   unfold Xdi
   simp only
   rw [syA, ea, Xab, Xa2 (by simp only [List.length_singleton]; omega), wkA (e := (v : Int) + 1)]
   exact ⟨_, rfl, by simp; omega, Xms g2 (Yoi ⟨by omega, by omega⟩)⟩) (by intro s; unfold Xdi; rw [Xap (by simp)]) s ⟨by omega, g2⟩
  unfold Xdh
  simp only
  rw [syA, et, Xab, wkA (e := (i : Int) + 1)]
  exact ⟨_, rfl, by omega, t2⟩) (by intro s; unfold Xdh; rw [Xap (by simp)]) [] ⟨rfl, Xyp _⟩
 exact ⟨o, (Xge eo).trans rfl, by omega, o2⟩
theorem Xlz (a b : Int) (ha : -1000000000000 ≤ a ∧ a ≤ 1000000000000) (hb : b = 2 ∨ b = 64) : ∃ d, Xeb a b = some d ∧ b * d ≤ a ∧ a < b * d + b := by
 unfold Xeb
 have h1 : b * (a.tdiv b) + a.tmod b = a := Int.mul_tdiv_add_tmod a b
 have h2 : -b < a.tmod b ∧ a.tmod b < b := by
  have hb0 : 0 < b := by omega
  refine ⟨?_, Int.tmod_lt_of_pos a hb0⟩
  have := Int.lt_tmod_of_pos a hb0
  omega
 rw [rqA, rqA]
 generalize a.tmod b = m at h1 h2
 generalize a.tdiv b = t at h1 h2
 have ht : -1000000000001 ≤ t ∧ t ≤ 1000000000001 := by rcases hb with rfl | rfl <;> omega
 by_cases h : m < 0
 ·
  rw [Xbh h, Xab, wkA (e := t), wkA (e := t - 1)]
  refine ⟨_, rfl, ?_⟩
  rcases hb with rfl | rfl <;> omega
 ·
  rw [Xap h, Xab, wkA (e := t)]
  refine ⟨_, rfl, ?_⟩
  rcases hb with rfl | rfl <;> omega
theorem Ya3 (p : List Int) (hl : p.length = 64) (hb : inB 255 p) : ∃ o, Xsd p = some o ∧ o.length = 64 := by
 unfold Xsd
 obtain ⟨o, e, h1, h2⟩ := Xvh p 255 (by omega) hl hb
 rw [Xcc p 64 1000 (by omega) (by omega) (by omega) (Xqq hb (by omega)), Xab, Bool.not_true, Xao, e, Xab]
 exact ⟨o, rfl, h1⟩
theorem Ycv (p : List Int) (hl : p.length = 64) (hb : inB 5760000 p) : ∃ o, Xjn p = some o ∧ o.length = 64 ∧ inB 10000000 o := by
 unfold Xjn
 obtain ⟨o, e, h1, h2⟩ := Xvh p 5760000 (by omega) hl hb
 rw [Xcc p 64 10000000 (by omega) (by omega) (by omega) (Xqq hb (by omega)), Xab, Bool.not_true, Xao, e, Xab]
 obtain ⟨r, er, r1, r2⟩ := Xnd (f := Xiy) 64 (fun x => -368640000 ≤ x ∧ x ≤ 368640000) (fun x => -10000000 ≤ x ∧ x ≤ 10000000) (by
  intro i l hi hll hx
  obtain ⟨d, ed, d1, d2⟩ := Xlz (l.getD i 0 + 32) 64 (by omega) (Or.inr rfl)
  unfold Xiy
  simp only [Int.toNat_natCast]
  rw [syA, rqA, rqA, wkA (e := l.getD i 0 + 32), ed, Xab, rqA, rqA, wkA (e := (i : Int) + 1)]
  exact ⟨d, rfl, by omega, by omega⟩) (by intro s; unfold Xiy; rw [Xap (by simp)]) o h1 (fun x hx => by have := h2 x hx; omega)
 exact ⟨r, (Xge er).trans rfl, r1, r2⟩
theorem Xl1 (p : List Int) (B : Int) (hB : 0 ≤ B) (hl : p.length = 16) (hb : inB B p) : ∃ o, Xgl p = some o ∧ o.length = 16 ∧ inB B o := by
 unfold Xgl
 rw [rqA]
 obtain ⟨o, e, h1, h2⟩ := Xd6 (f := Xer p) 16 (fun i s => s.length = 16 ∧ inB B s) (by
  intro i s hi ⟨g1, g2⟩
  have ha := Xma hb (i := i) (by omega)
  unfold Xer
  simp only
  rw [syA, rqA, rqA, rqA, Xb2 (by omega), Xbn (by omega), wkA (e := (i : Int) / 4), wkA (e := (i : Int) % 4 * 4), wkA (e := (i : Int) % 4 * 4 + (i : Int) / 4), rqA, rqA, wkA (e := (i : Int) + 1), Int.toNat_natCast]
  exact ⟨_, rfl, by rw [List.length_set]; exact g1, Ysg g2 _ ha⟩) (by intro s; unfold Xer; rw [Xap (by simp)]) (List.replicate (16 : Int).toNat 0) ⟨by simp, Ysf _ hB⟩
 exact ⟨o, (Xge e).trans rfl, h1, h2⟩
theorem Ytj {B a b c d : Int} (h1 : -B ≤ a ∧ a ≤ B) (h2 : -B ≤ b ∧ b ≤ B) (h3 : -B ≤ c ∧ c ≤ B) (h4 : -B ≤ d ∧ d ≤ B) : inB B [a, b, c, d] := fun x hx => by
 simp only [List.mem_cons, List.not_mem_nil, or_false] at hx
 rcases hx with rfl | rfl | rfl | rfl
 ·
  exact h1
 ·
  exact h2
 ·
  exact h3
 ·
  exact h4
theorem Xvf (p : List Int) (B : Int) (hB : 0 ≤ B ∧ B ≤ 1000000000) (hl : p.length = 16) (hb : inB B p) : ∃ o, Xkx p = some o ∧ o.length = 16 ∧ inB (6 * B) o := by
 have hm : maxLen = 9223372036854775807 := rfl
 unfold Xkx
 obtain ⟨o, e, h1, h2⟩ := Xd6 (f := Xes p) 4 (fun i s => s.length = 4 * i ∧ inB (6 * B) s) (by
  intro i s hi ⟨g1, g2⟩
  have a0 := Xma hb (i := 4 * i) (by omega)
  have a1 := Xma hb (i := 4 * i + 1) (by omega)
  have a2 := Xma hb (i := 4 * i + 2) (by omega)
  have a3 := Xma hb (i := 4 * i + 3) (by omega)
  unfold Xes
  simp only
  rw [syA, wkA (e := 4 * (i : Int)), wkA (e := 4 * (i : Int) + 1), wkA (e := 4 * (i : Int) + 2), wkA (e := 4 * (i : Int) + 3), rqA, rqA, rqA, rqA, show (4 * (i : Int)).toNat = 4 * i by omega, show (4 * (i : Int) + 1).toNat = 4 * i + 1 by omega, show (4 * (i : Int) + 2).toNat = 4 * i + 2 by omega, show (4 * (i : Int) + 3).toNat = 4 * i + 3 by omega]
  generalize p.getD (4 * i) 0 = a at *
  generalize p.getD (4 * i + 1) 0 = b at *
  generalize p.getD (4 * i + 2) 0 = c at *
  generalize p.getD (4 * i + 3) 0 = d at *
  rw [wkA (e := (i : Int) + 1)]
  have w1 : Xaa .i64 (Xaa .i64 (Xaa .i64 (a + b) + c) + d) = a + b + c + d := by
   rw [wkA (e := a + b), wkA (e := a + b + c), wkA]
  have w2 : Xaa .i64 (Xaa .i64 (Xaa .i64 (Xaa .i64 (2 * a) + b) - c) - Xaa .i64 (2 * d)) = 2 * a + b - c - 2 * d := by
   rw [wkA (e := 2 * a), wkA (e := 2 * d), wkA (e := 2 * a + b), wkA (e := 2 * a + b - c), wkA]
  have w3 : Xaa .i64 (Xaa .i64 (Xaa .i64 (a - b) - c) + d) = a - b - c + d := by
   rw [wkA (e := a - b), wkA (e := a - b - c), wkA]
  have w4 : Xaa .i64 (Xaa .i64 (Xaa .i64 (a - Xaa .i64 (2 * b)) + Xaa .i64 (2 * c)) - d) = a - 2 * b + 2 * c - d := by
   rw [wkA (e := 2 * b), wkA (e := 2 * c), wkA (e := a - 2 * b), wkA (e := a - 2 * b + 2 * c), wkA]
  rw [w1, w2, w3, w4, Xa2 (by simp only [List.length_cons, List.length_nil]; omega)]
  exact ⟨_, rfl, by simp; omega, Xms g2 (Ytj (by omega) (by omega) (by omega) (by omega))⟩) (by intro s; unfold Xes; rw [Xap (by simp)]) [] ⟨rfl, Xyp _⟩
 exact ⟨o, (Xge e).trans rfl, h1, h2⟩
theorem Xt3 (p : List Int) (B : Int) (hB : 0 ≤ B ∧ B ≤ 1000000000) (hl : p.length = 16) (hb : inB B p) : ∃ o, Xi0 p = some o ∧ o.length = 16 ∧ inB (4 * B + 2) o := by
 have hm : maxLen = 9223372036854775807 := rfl
 unfold Xi0
 obtain ⟨o, e, h1, h2⟩ := Xd6 (f := Xdy p) 4 (fun i s => s.length = 4 * i ∧ inB (4 * B + 2) s) (by
  intro i s hi ⟨g1, g2⟩
  have a0 := Xma hb (i := 4 * i) (by omega)
  have a1 := Xma hb (i := 4 * i + 1) (by omega)
  have a2 := Xma hb (i := 4 * i + 2) (by omega)
  have a3 := Xma hb (i := 4 * i + 3) (by omega)
  obtain ⟨f, ef, f1, f2⟩ := Xlz (p.getD (4 * i + 1) 0) 2 (by omega) (Or.inl rfl)
  obtain ⟨g, eg, g1', g2'⟩ := Xlz (p.getD (4 * i + 3) 0) 2 (by omega) (Or.inl rfl)
  unfold Xdy
  simp only
  rw [syA, wkA (e := 4 * (i : Int)), wkA (e := 4 * (i : Int) + 1), wkA (e := 4 * (i : Int) + 2), wkA (e := 4 * (i : Int) + 3), rqA, rqA, rqA, rqA, show (4 * (i : Int)).toNat = 4 * i by omega, show (4 * (i : Int) + 1).toNat = 4 * i + 1 by omega, show (4 * (i : Int) + 2).toNat = 4 * i + 2 by omega, show (4 * (i : Int) + 3).toNat = 4 * i + 3 by omega, ef, Xab, eg, Xab]
  generalize p.getD (4 * i) 0 = a at *
  generalize p.getD (4 * i + 1) 0 = b at *
  generalize p.getD (4 * i + 2) 0 = c at *
  generalize p.getD (4 * i + 3) 0 = d at *
  rw [wkA (e := (i : Int) + 1), wkA (e := a + c), wkA (e := a - c), wkA (e := b + g), wkA (e := f - d), wkA (e := a + c + (b + g)), wkA (e := a - c + (f - d)), wkA (e := a - c - (f - d)), wkA (e := a + c - (b + g)), Xa2 (by simp only [List.length_cons, List.length_nil]; omega)]
  exact ⟨_, rfl, by simp; omega, Xms g2 (Ytj (by omega) (by omega) (by omega) (by omega))⟩) (by intro s; unfold Xdy; rw [Xap (by simp)]) [] ⟨rfl, Xyp _⟩
 exact ⟨o, (Xge e).trans rfl, h1, h2⟩
theorem Ydy (p : List Int) (hl : p.length = 16) (hb : inB 255 p) : ∃ o, Xu6 p = some o ∧ o.length = 16 ∧ inB 9180 o := by
 unfold Xu6
 obtain ⟨a, ea, a1, a2⟩ := Xvf p 255 (by omega) hl hb
 obtain ⟨b, eb, b1, b2⟩ := Xl1 a (6 * 255) (by omega) a1 a2
 obtain ⟨c, ec, c1, c2⟩ := Xvf b (6 * 255) (by omega) b1 b2
 obtain ⟨d, ed, d1, d2⟩ := Xl1 c (6 * (6 * 255)) (by omega) c1 c2
 rw [Xcc p 16 1000 (by omega) (by omega) (by omega) (Xqq hb (by omega)), Xab, Bool.not_true, Xao, ea, Xab, eb, Xab, ec, Xab, ed, Xab]
 exact ⟨d, rfl, d1, d2⟩
theorem Xtz (p : List Int) (hl : p.length = 16) (hb : inB 10000000 p) : ∃ o, Xls p = some o ∧ o.length = 16 ∧ inB 10000000 o := by
 unfold Xls
 obtain ⟨a, ea, a1, a2⟩ := Xt3 p 10000000 (by omega) hl hb
 obtain ⟨b, eb, b1, b2⟩ := Xl1 a _ (by omega) a1 a2
 obtain ⟨c, ec, c1, c2⟩ := Xt3 b _ (by omega) b1 b2
 obtain ⟨d, ed, d1, d2⟩ := Xl1 c _ (by omega) c1 c2
 rw [Xcc p 16 10000000 (by omega) (by omega) (by omega) hb, Xab, Bool.not_true, Xao, ea, Xab, eb, Xab, ec, Xab, ed, Xab]
 obtain ⟨r, er, r1, r2⟩ := Xnd (f := Xj3) 16 (fun x => -160000010 ≤ x ∧ x ≤ 160000010) (fun x => -10000000 ≤ x ∧ x ≤ 10000000) (by
  intro i l hi hll hx
  obtain ⟨d, ed, d1, d2⟩ := Xlz (l.getD i 0 + 32) 64 (by omega) (Or.inr rfl)
  unfold Xj3
  simp only [Int.toNat_natCast]
  rw [syA, rqA, rqA, wkA (e := l.getD i 0 + 32), ed, Xab, rqA, rqA, wkA (e := (i : Int) + 1)]
  exact ⟨d, rfl, by omega, by omega⟩) (by intro s; unfold Xj3; rw [Xap (by simp)]) d d1 (fun x hx => by have := d2 x hx; omega)
 exact ⟨r, (Xge er).trans rfl, r1, r2⟩
theorem Xon (x : Int) (h : -1000000000000 ≤ x ∧ x ≤ 1000000000000) : Xgx x = some (Ydh x) := by
 unfold Xgx Ydh
 by_cases hx : x < 0
 ·
  rw [Xbh hx, if_pos hx, wkA]; congr 1; omega
 ·
  rw [Xap hx, if_neg hx]
theorem Xsk (w x B : Int) (h : 0 ≤ x ∧ x ≤ B) (hB : B ≤ 1000000000) : ∃ o, Xjs w x = some o ∧ -B ≤ o ∧ o ≤ B := by
 unfold Xjs
 by_cases hx : w < 0
 ·
  rw [Xbh hx, wkA]; exact ⟨_, rfl, by omega, by omega⟩
 ·
  rw [Xap hx]; exact ⟨_, rfl, by omega, by omega⟩
def Yzj (qp : Int) : Int := Xaa .i64 (1 * 2 ^ min (Xaa .u64 (Xaa .i64 (15 + (Xaa .i64 (qp.tdiv 6))))).toNat (IntKind.bits .i64))
theorem Yzk : ∀ q : Fin 41, (0 ≤ Xaa .u64 (Xaa .i64 (15 + (Xaa .i64 ((q.val : Int).tdiv 6)))) ∧ 32768 ≤ Yzj (q.val : Int) ∧ Yzj (q.val : Int) ≤ 2097152) := by decide +kernel
theorem Xqy (w qp p : Int) (hw : -9180 ≤ w ∧ w ≤ 9180) (h0 : 0 ≤ qp ∧ qp ≤ 40) (hp : 0 ≤ p ∧ p ≤ 15) : ∃ o, Xif w qp p = some o ∧ -5000 ≤ o ∧ o ≤ 5000 := by
 have hs := Yzk ⟨qp.toNat, by omega⟩
 simp only at hs
 rw [show ((qp.toNat : Nat) : Int) = qp by omega] at hs
 obtain ⟨s1, s2, s3⟩ := hs
 obtain ⟨s, es, q0, q1⟩ := Yjq qp p h0 hp
 unfold Xif
 have en : Xaa .i64 (1 * 2 ^ min (Xaa .u64 (Xaa .i64 (15 + (Xaa .i64 (qp.tdiv 6))))).toNat (IntKind.bits .i64)) = Yzj qp := rfl
 rw [Xaj, Xab, decide_eq_true (by omega), Xat, Xaj, Xab, decide_eq_true h0, Xat, Xaj, Xab, decide_eq_true hp, Bool.not_true, Xab, Xao, rqA, Xa2 s1, Xon w (by omega), Xab, es, Xab, rqA, en]
 generalize Yzj qp = n at *
 have ha : 0 ≤ Ydh w ∧ Ydh w ≤ 9180 := by unfold Ydh; split <;> omega
 generalize Ydh w = a at *
 have hm : 0 ≤ a * s ∧ a * s ≤ 9180 * 13107 := ⟨Int.mul_nonneg ha.1 q0, Int.mul_le_mul ha.2 q1 q0 (by omega)⟩
 rw [rqA, wkA (e := a * s), Xbn (a := n) (by omega), wkA (e := n / 3), wkA (e := a * s + n / 3), Xbn (by omega)]
 have d0 : 0 ≤ (a * s + n / 3) / n := Int.ediv_nonneg (by omega) (by omega)
 have d1 : (a * s + n / 3) / n < 5000 := Int.ediv_lt_of_lt_mul (by omega) (by omega)
 rw [wkA]
 obtain ⟨o, eo, o1, o2⟩ := Xsk w _ 5000 ⟨d0, by omega⟩ (by omega)
 rw [eo, Xab]
 exact ⟨o, rfl, o1, o2⟩
theorem Xqx (w qp : Int) (h0 : 0 ≤ qp ∧ qp ≤ 40) : ∃ o, Xie w qp = some o ∧ -5000 ≤ o ∧ o ≤ 5000 := by
 unfold Xie
 rw [Xaj, Xab]
 by_cases hw : -20000 ≤ w ∧ w ≤ 20000
 ·
  obtain ⟨s, es, q0, q1⟩ := Xxt qp h0
  rw [decide_eq_true hw, Xat, Xaj, Xab, decide_eq_true h0, Bool.not_true, Xab, Xao, es, Xab, Xon w (by omega), Xab]
  have ha : 0 ≤ Ydh w ∧ Ydh w ≤ 20000 := by unfold Ydh; split <;> omega
  generalize Ydh w = a at *
  rw [rqA, rqA, Xbn (a := s) (by omega), wkA (e := s / 2), wkA (e := a + s / 2), Xbn (by omega)]
  have d0 : 0 ≤ (a + s / 2) / s := Int.ediv_nonneg (by omega) (by omega)
  have d1 : (a + s / 2) / s < 5000 := Int.ediv_lt_of_lt_mul (by omega) (by omega)
  rw [wkA]
  obtain ⟨o, eo, o1, o2⟩ := Xsk w _ 5000 ⟨d0, by omega⟩ (by omega)
  rw [eo, Xab]
  exact ⟨o, rfl, o1, o2⟩
 ·
  rw [decide_eq_false hw, Xao, Xab, Xat]
  exact ⟨0, rfl, by omega, by omega⟩
theorem Xsi (l qp p : Int) (hl : -5000 ≤ l ∧ l ≤ 5000) (h0 : 0 ≤ qp ∧ qp ≤ 40) (hp : 0 ≤ p ∧ p ≤ 15) : ∃ o, Xjp l qp p = some o ∧ -10000000 ≤ o ∧ o ≤ 10000000 := by
 unfold Xjp
 obtain ⟨s, es, q0, q1⟩ := Yjp qp p h0 hp
 rw [Xaj, Xab, decide_eq_true hl, Bool.not_true, Xao, es, Xab]
 have m1 : l * s ≤ 5000 * s := Int.mul_le_mul_of_nonneg_right hl.2 q0
 have m2 : -5000 * s ≤ l * s := Int.mul_le_mul_of_nonneg_right hl.1 q0
 rw [wkA]
 exact ⟨_, rfl, by omega, by omega⟩
theorem Xse (l qp : Int) (hl : -5000 ≤ l ∧ l ≤ 5000) (h0 : 0 ≤ qp ∧ qp ≤ 40) : ∃ o, Xjo l qp = some o ∧ -5760000 ≤ o ∧ o ≤ 5760000 := by
 unfold Xjo
 obtain ⟨s, es, q0, q1⟩ := Xxt qp h0
 rw [Xaj, Xab, decide_eq_true hl, Bool.not_true, Xao, es, Xab]
 have m1 : l * s ≤ 5000 * s := Int.mul_le_mul_of_nonneg_right hl.2 (by omega)
 have m2 : -5000 * s ≤ l * s := Int.mul_le_mul_of_nonneg_right hl.1 (by omega)
 rw [wkA]
 exact ⟨_, rfl, by omega, by omega⟩
theorem Ysm {l : List Int} (h1 : l.length = 64) (h2 : inB 5000 l) : Yfh l = true := by
 unfold Yfh
 rw [Bool.and_eq_true, decide_eq_true_eq, List.all_eq_true]
 exact ⟨h1, fun x hx => by unfold Ypt; rw [decide_eq_true_eq]; exact h2 x hx⟩
theorem Yco {l : List Int} (h : Yfh l = true) : l.length = 64 ∧ inB 5000 l := by
 obtain ⟨h1, h2⟩ := Xpa h
 refine ⟨h1, fun x hx => ?_⟩
 have := List.all_eq_true.1 h2 x hx
 unfold Ypt at this
 rwa [decide_eq_true_eq] at this
theorem Xy7 {c : Xeu} (h : Xho c = true) : 0 ≤ c.Qp ∧ c.Qp ≤ 40 := by
 unfold Xho at h
 rw [Bool.and_eq_true, decide_eq_true_eq] at h
 exact h.1
theorem Xq0 (p : List Int) (k : Nat) (hk : k < 4) (B : Int) (hl : p.length = 64) (hb : inB B p) : ∃ o, Xih p k = some o ∧ o.length = 16 ∧ inB B o := by
 have hm : maxLen = 9223372036854775807 := rfl
 unfold Xih
 obtain ⟨o, e, h1, h2⟩ := Xd6 (f := Xce p k) 16 (fun i s => s.length = i ∧ inB B s) (by
  intro i s hi ⟨g1, g2⟩
  have ha := Xma hb (i := (8 * ((k : Int) / 2 * 4 + (i : Int) / 4) + (k : Int) % 2 * 4 + (i : Int) % 4).toNat) (by omega)
  unfold Xce
  simp only
  rw [syA, rqA, rqA, rqA, rqA, Xbn (a := (k : Int)) (by omega), Xbn (a := (i : Int)) (by omega), Xb2 (a := (k : Int)) (by omega), Xb2 (a := (i : Int)) (by omega), wkA (e := (k : Int) / 2), wkA (e := (k : Int) / 2 * 4), wkA (e := (i : Int) / 4), wkA (e := (k : Int) / 2 * 4 + (i : Int) / 4), wkA (e := 8 * ((k : Int) / 2 * 4 + (i : Int) / 4)), wkA (e := (k : Int) % 2 * 4), wkA (e := 8 * ((k : Int) / 2 * 4 + (i : Int) / 4) + (k : Int) % 2 * 4), wkA (e := 8 * ((k : Int) / 2 * 4 + (i : Int) / 4) + (k : Int) % 2 * 4 + (i : Int) % 4), rqA, Xa2 (by simp only [List.length_singleton]; omega), wkA (e := (i : Int) + 1)]
  exact ⟨_, rfl, by simp; omega, Xms g2 (Yoi ha)⟩) (by intro s; unfold Xce; rw [Xap (by simp)]) [] ⟨rfl, Xyp _⟩
 exact ⟨o, (Xge e).trans rfl, h1, h2⟩
theorem Xt0 (p : List Int) (c : Xeu) (hc : Xho c = true) (hl : p.length = 64) (hb : inB 255 p) : ∃ o, Xc1 p c = some (o, true) ∧ Yfh o = true := by
 have hm : maxLen = 9223372036854775807 := rfl
 have hq := Xy7 hc
 unfold Xc1
 rw [Xdl, Xab, hc, Xat, Xcc p 64 255 (by omega) (by omega) (by omega) hb, Xab, Bool.not_true, Xab, Xao]
 cases hE : c.Exact with
 | true =>
  obtain ⟨o, e, h1, h2⟩ := Xp4 8 (Or.inr rfl) p 255 (by omega) hb
  rw [Xat, e, Xab]
  exact ⟨o, rfl, Ysm (by omega) (Xqq h2 (by omega))⟩
 | false =>
  rw [Xao]
  cases hL : c.Large with
  | true =>
   obtain ⟨w, ew, w1⟩ := Ya3 p hl hb
   obtain ⟨l, el, l1, l2⟩ := Xnd (f := Xcj c) 64 (fun _ => True) (fun x => -5000 ≤ x ∧ x ≤ 5000) (by
    intro i l hi hll _
    obtain ⟨d, ed, d1, d2⟩ := Xqx (l.getD i 0) c.Qp hq
    unfold Xcj
    simp only [Int.toNat_natCast]
    rw [syA, rqA, rqA, ed, Xab, rqA, rqA, wkA (e := (i : Int) + 1)]
    exact ⟨d, rfl, d1, d2⟩) (by intro s; unfold Xcj; rw [Xap (by simp)]) w w1 (fun _ _ => trivial)
   obtain ⟨o, e, h1, h2⟩ := Xp4 8 (Or.inr rfl) l 5000 (by omega) l2
   rw [Xat, ew, Xab, el, Xab, e, Xab]
   exact ⟨o, rfl, Ysm (by omega) h2⟩
  | false =>
   obtain ⟨o, eo, o1, o2⟩ := Xd6 (f := Xee p c) 4 (fun k s => s.length = 16 * k ∧ inB 5000 s) (by
    intro k s hk ⟨g1, g2⟩
    obtain ⟨a, ea, a1, a2⟩ := Xq0 p k hk 255 hl hb
    obtain ⟨b, eb, b1, b2⟩ := Ydy a a1 a2
    obtain ⟨l, el, l1, l2⟩ := Xnd (f := Xcd c) 16 (fun x => -9180 ≤ x ∧ x ≤ 9180) (fun x => -5000 ≤ x ∧ x ≤ 5000) (by
     intro i l hi hll hx
     obtain ⟨d, ed, d1, d2⟩ := Xqy (l.getD i 0) c.Qp i hx hq (by omega)
     unfold Xcd
     simp only [Int.toNat_natCast]
     rw [syA, rqA, rqA, ed, Xab, rqA, rqA, wkA (e := (i : Int) + 1)]
     exact ⟨d, rfl, d1, d2⟩) (by intro s; unfold Xcd; rw [Xap (by simp)]) b b1 b2
    obtain ⟨r, er, r1, r2⟩ := Xp4 4 (Or.inl rfl) l 5000 (by omega) l2
    unfold Xee
    simp only
    rw [syA, ea, Xab, eb, Xab, el, Xab, er, Xab]
    simp only
    rw [rqA, wkA (e := (k : Int) + 1)]
    exact ⟨_, rfl, by rw [List.length_append]; omega, Xms g2 r2⟩) (by intro s; unfold Xee; rw [Xap (by simp)]) [] ⟨rfl, Xyp _⟩
   rw [Xao, eo, Xab]
   exact ⟨o, rfl, Ysm (by omega) o2⟩
theorem Xhm (p : List Int) (c : Xeu) (hc : Xho c = true) (hp : Yfh p = true) : ∃ o, Xcg p c = some (o, true) ∧ o.length = 64 ∧ inB 10000000 o := by
 have hm : maxLen = 9223372036854775807 := rfl
 have hq := Xy7 hc
 obtain ⟨hl, hb⟩ := Yco hp
 unfold Xcg
 rw [Xdl, Xab, hc, Xat, Xcc p 64 5000 (by omega) (by omega) (by omega) hb, Xab, Bool.not_true, Xab, Xao]
 cases hE : c.Exact with
 | true =>
  obtain ⟨o, e, h1, h2⟩ := Xgd 8 (Or.inr rfl) p 5000 (by omega) (by omega) hb
  rw [Xat, e, Xab]
  exact ⟨o, rfl, by omega, Xqq h2 (by omega)⟩
 | false =>
  rw [Xao]
  cases hL : c.Large with
  | true =>
   obtain ⟨w, ew, w1, w2⟩ := Xgd 8 (Or.inr rfl) p 5000 (by omega) (by omega) hb
   obtain ⟨l, el, l1, l2⟩ := Xnd (f := Xbs c) 64 (fun x => -5000 ≤ x ∧ x ≤ 5000) (fun x => -5760000 ≤ x ∧ x ≤ 5760000) (by
    intro i l hi hll hx
    obtain ⟨d, ed, d1, d2⟩ := Xse (l.getD i 0) c.Qp hx hq
    unfold Xbs
    simp only [Int.toNat_natCast]
    rw [syA, rqA, rqA, ed, Xab, rqA, rqA, wkA (e := (i : Int) + 1)]
    exact ⟨d, rfl, d1, d2⟩) (by intro s; unfold Xbs; rw [Xap (by simp)]) w (by omega) w2
   obtain ⟨o, e, h1, h2⟩ := Ycv l l1 l2
   rw [Xat, ew, Xab, el, Xab, e, Xab]
   exact ⟨o, rfl, h1, h2⟩
  | false =>
   obtain ⟨o, eo, o1, o2⟩ := Xd6 (f := Xdg p c) 4 (fun k s => s.length = 64 ∧ inB 10000000 s) (by
    intro k s hk ⟨g1, g2⟩
    have hcut : ((p.drop (16 * k)).take 16).length = 16 := by rw [List.length_take, List.length_drop]; omega
    obtain ⟨a, ea, a1, a2⟩ := Xgd 4 (Or.inl rfl) ((p.drop (16 * k)).take 16) 5000 (by omega) (by omega) (Ytk (Yti hb _) _)
    obtain ⟨l, el, l1, l2⟩ := Xnd (f := Xbm c) 16 (fun x => -5000 ≤ x ∧ x ≤ 5000) (fun x => -10000000 ≤ x ∧ x ≤ 10000000) (by
     intro i l hi hll hx
     obtain ⟨d, ed, d1, d2⟩ := Xsi (l.getD i 0) c.Qp i hx hq (by omega)
     unfold Xbm
     simp only [Int.toNat_natCast]
     rw [syA, rqA, rqA, ed, Xab, rqA, rqA, wkA (e := (i : Int) + 1)]
     exact ⟨d, rfl, d1, d2⟩) (by intro s; unfold Xbm; rw [Xap (by simp)]) a (by omega) a2
    obtain ⟨b, eb, b1, b2⟩ := Xtz l l1 l2
    obtain ⟨r, er, r1, r2⟩ := Xd6 (f := Xbv ((k : Int), s) b) 16 (fun i s => s.length = 64 ∧ inB 10000000 s) (by
     intro i s hi ⟨g1, g2⟩
     have ha := Xma b2 (i := i) (by omega)
     unfold Xbv
     simp only
     rw [syA, rqA, rqA, rqA, rqA, rqA, rqA, Xbn (a := (k : Int)) (by omega), Xbn (a := (i : Int)) (by omega), Xb2 (a := (k : Int)) (by omega), Xb2 (a := (i : Int)) (by omega), wkA (e := (k : Int) / 2), wkA (e := (k : Int) / 2 * 4), wkA (e := (i : Int) / 4), wkA (e := (k : Int) / 2 * 4 + (i : Int) / 4), wkA (e := 8 * ((k : Int) / 2 * 4 + (i : Int) / 4)), wkA (e := (k : Int) % 2 * 4), wkA (e := 8 * ((k : Int) / 2 * 4 + (i : Int) / 4) + (k : Int) % 2 * 4), wkA (e := 8 * ((k : Int) / 2 * 4 + (i : Int) / 4) + (k : Int) % 2 * 4 + (i : Int) % 4), rqA, rqA, wkA (e := (i : Int) + 1), Int.toNat_natCast]
     exact ⟨_, rfl, by rw [List.length_set]; exact g1, Ysg g2 _ ha⟩) (by intro s; unfold Xbv; rw [Xap (by simp)]) s ⟨g1, g2⟩
    unfold Xdg
    simp only
    rw [syA, wkA (e := 16 * (k : Int)), wkA (e := 16 * (k : Int) + 16), rqA, show (16 * (k : Int)).toNat = 16 * k by omega, show (16 * (k : Int) + 16).toNat - 16 * k = 16 by omega, ea, Xab, el, Xab, eb, Xab, er, Xab, wkA (e := (k : Int) + 1)]
    exact ⟨_, rfl, r1, r2⟩) (by intro s; unfold Xdg; rw [Xap (by simp)]) (List.replicate (64 : Int).toNat 0) ⟨by simp, Ysf _ (by omega)⟩
   rw [Xao, rqA, eo, Xab]
   exact ⟨o, rfl, o1, o2⟩
theorem Xe5 (l : List Int) (h : Xby l = true) : Xgm l = some true := by
 obtain ⟨h1, h2⟩ := Xbr h
 unfold Xgm
 rw [Xba (by simp only [bne_eq_false_iff_eq]; omega), Yaz l.length (f := Xet l) (by
  intro i hi
  have := h2 i (by omega)
  unfold Xet
  rw [syA, rqA, Xaj, Xab, Int.toNat_natCast, decide_eq_true this, Bool.not_true, Xao, wkA]
  rfl) (by unfold Xet; rw [snA]), Xab]
theorem Yqa {l : List Int} (h1 : l.length = 64) (h2 : ∀ x ∈ l, 0 ≤ x ∧ x ≤ 255) : Xby l = true := by
 unfold Xby
 rw [Bool.and_eq_true, decide_eq_true_eq, List.all_eq_true]
 exact ⟨h1, fun x hx => by unfold Yr9; rw [decide_eq_true_eq]; exact h2 x hx⟩
theorem Xxn (g b : List Int) (hg : Xby g = true) (hl : b.length = 64) (hb : inB 10000000 b) : ∃ o, Xid g b = some o ∧ Xby o = true := by
 have hm : maxLen = 9223372036854775807 := rfl
 obtain ⟨g1, g2⟩ := Xbr hg
 unfold Xid
 rw [Xe5 g hg, Xab, Xat, Xcc b 64 10000000 (by omega) (by omega) (by omega) hb, Xab, Bool.not_true, Xab, Xao]
 obtain ⟨o, e, h1, h2⟩ := Xd6 (f := Xdm g b) 64 (fun i s => s.length = i ∧ ∀ x ∈ s, 0 ≤ x ∧ x ≤ 255) (by
  intro i s hi ⟨k1, k2⟩
  have ha := Xma hb (i := i) (by omega)
  have hd := g2 i hi
  have br := Xfx (n := g.getD i 0 + b.getD i 0) (a := 0) (b := 255) (by omega)
  unfold Xdm
  simp only [Int.toNat_natCast]
  rw [syA, rqA, rqA, wkA (e := g.getD i 0 + b.getD i 0), Xeo, Xab, Xa2 (by simp only [List.length_singleton]; omega), wkA (e := (i : Int) + 1)]
  refine ⟨_, rfl, by simp; omega, fun x hx => ?_⟩
  rcases List.mem_append.1 hx with hx | hx
  ·
   exact k2 x hx
  ·
   rw [List.mem_singleton.1 hx]; exact br) (by intro s; unfold Xdm; rw [Xap (by simp)]) [] ⟨rfl, fun x hx => by simp at hx⟩
 exact ⟨o, (Xge e).trans rfl, Yqa h1 h2⟩
def Xtq (e : Xi9) : Prop := (e.Above.length = 0 ∨ e.Above.length = 8) ∧ (e.Left.length = 0 ∨ e.Left.length = 8) ∧ (∀ x ∈ e.Above, 0 ≤ x ∧ x ≤ 255) ∧ (∀ x ∈ e.Left, 0 ≤ x ∧ x ≤ 255) ∧ -1 ≤ e.Corner ∧ e.Corner ≤ 255
theorem Xt6 {p : Pic} (ok : Xbx p = true) (x y : Int) : Xfn p x y 8 8 = some (Xdr p x y) := by
 obtain ⟨k1, k2, k3⟩ := Xay ok
 unfold Xfn Xdr
 rw [Xc2, Xab, ok, Xat, Xaj, Xab, Xaj, Xab, wkA (e := p.Wide - 8), wkA (e := p.High - 8), Xaj, Xab, Xaj, Xab]
 simp only [Xdf, Xab]
 congr 1
 rw [Bool.eq_iff_iff]
 simp only [Bool.and_eq_true, decide_eq_true_eq]
 omega
theorem Xe6 {p : Pic} (ok : Xbx p = true) {x y : Int} (hx : x.tmod 8 = 0) (hy : y.tmod 8 = 0) (h : Xdr p x y = true) : Xkz p x y = some true := by
 unfold Xkz
 rw [rqA, hx, rqA, hy, Xt6 ok, Xab, h]
 rfl
theorem Xp0 {p : Pic} (ok : Xbx p = true) {x y : Int} (hx : x.tmod 8 = 0) (hy : y.tmod 8 = 0) (h : Xdr p x y = true) : ∃ e, Xgj p x y = some (e, true) ∧ Xtq e := by
 have hm : maxLen = 9223372036854775807 := rfl
 obtain ⟨k1, k2, k3⟩ := Xay ok
 have h' := h
 unfold Xdr at h'
 rw [decide_eq_true_eq] at h'
 unfold Xgj
 rw [Xe6 ok hx hy h, Xab, Bool.not_true, Xao]
 obtain ⟨o, e, o1, o2, o3, o4, o5, o6⟩ := Xd6 (f := Xga p x y) 8 (fun i s => (y > 0 → s.1.length = i) ∧ (¬ y > 0 → s.1.length = 0) ∧ (x > 0 → s.2.length = i) ∧ (¬ x > 0 → s.2.length = 0) ∧ (∀ z ∈ s.1, 0 ≤ z ∧ z ≤ 255) ∧ (∀ z ∈ s.2, 0 ≤ z ∧ z ≤ 255)) (by
  intro i s hi ⟨g1, g2, g3, g4, g5, g6⟩
  obtain ⟨a, b⟩ := s
  simp only at g1 g2 g3 g4 g5 g6
  have d1 := Xss p (x + i) (y - 1)
  have d2 := Xss p (x - 1) (y + i)
  have st1 : ∃ a', (sel (decide (y > 0)) (bnd (Xe3 p (Xaa .i64 (x + (i : Int))) (Xaa .i64 (y - 1))) fun q16 => req ((a.length + ([q16]).length) * 8 ≤ 140737488355328 ∧ a.length + ([q16]).length ≤ maxLen) <| some (a ++ ([q16]))) (some a)) = some a' ∧ (y > 0 → a'.length = i + 1) ∧ (¬ y > 0 → a'.length = 0) ∧ (∀ z ∈ a', 0 ≤ z ∧ z ≤ 255) := by
   by_cases c : y > 0
   ·
    rw [Xbh c, wkA (e := x + (i : Int)), wkA (e := y - 1), Xiw ok, Xab, Xa2 (by simp only [List.length_singleton]; have := g1 c; omega)]
    refine ⟨_, rfl, fun _ => by simp; exact g1 c, fun hn => absurd c hn, fun z hz => ?_⟩
    rcases List.mem_append.1 hz with hz | hz
    ·
     exact g5 z hz
    ·
     rw [List.mem_singleton.1 hz]; exact d1
   ·
    rw [Xap c]
    exact ⟨_, rfl, fun hn => absurd hn c, fun _ => g2 c, g5⟩
  obtain ⟨a', ea, a1, a2, a3⟩ := st1
  have st2 : ∃ b', (sel (decide (x > 0)) (bnd (Xe3 p (Xaa .i64 (x - 1)) (Xaa .i64 (y + (i : Int)))) fun q17 => req ((b.length + ([q17]).length) * 8 ≤ 140737488355328 ∧ b.length + ([q17]).length ≤ maxLen) <| some (a', (b ++ ([q17])))) (some (a', b))) = some (a', b') ∧ (x > 0 → b'.length = i + 1) ∧ (¬ x > 0 → b'.length = 0) ∧ (∀ z ∈ b', 0 ≤ z ∧ z ≤ 255) := by
   by_cases c : x > 0
   ·
    rw [Xbh c, wkA (e := y + (i : Int)), wkA (e := x - 1), Xiw ok, Xab, Xa2 (by simp only [List.length_singleton]; have := g3 c; omega)]
    refine ⟨_, rfl, fun _ => by simp; exact g3 c, fun hn => absurd c hn, fun z hz => ?_⟩
    rcases List.mem_append.1 hz with hz | hz
    ·
     exact g6 z hz
    ·
     rw [List.mem_singleton.1 hz]; exact d2
   ·
    rw [Xap c]
    exact ⟨_, rfl, fun hn => absurd hn c, fun _ => g4 c, g6⟩
  obtain ⟨b', eb, b1, b2, b3⟩ := st2
  unfold Xga
  simp only
  rw [syA, ea, Xab, eb, Xab, wkA (e := (i : Int) + 1)]
  exact ⟨(a', b'), rfl, a1, a2, b1, b2, a3, b3⟩) (by intro s; unfold Xga; rw [Xap (by simp)]) ([], []) ⟨fun _ => rfl, fun _ => rfl, fun _ => rfl, fun _ => rfl, fun z hz => by simp at hz, fun z hz => by simp at hz⟩
 rw [e, Xab, Xdf, Xab]
 have d3 := Xss p (x - 1) (y - 1)
 have ha : o.1.length = 0 ∨ o.1.length = 8 := by
  by_cases c : y > 0
  ·
   exact Or.inr (o1 c)
  ·
   exact Or.inl (o2 c)
 have hb : o.2.length = 0 ∨ o.2.length = 8 := by
  by_cases c : x > 0
  ·
   exact Or.inr (o3 c)
  ·
   exact Or.inl (o4 c)
 cases hc : (decide (x > 0) && decide (y > 0)) with
 | true =>
  rw [Xat, wkA (e := x - 1), wkA (e := y - 1), Xiw ok, Xab, Xab]
  exact ⟨_, rfl, ha, hb, o5, o6, by simp only; omega, by simp only; omega⟩
 | false =>
  rw [Xao, Xab]
  exact ⟨_, rfl, ha, hb, o5, o6, by simp only; omega, by simp only; omega⟩
theorem Xt7 (l : List Int) (hl : l.length = 0 ∨ l.length = 8) (h : ∀ x ∈ l, 0 ≤ x ∧ x ≤ 255) : Xqz l = some true := by
 unfold Xqz
 have hc : (sel ((l.length : Int) != 0) (some ((l.length : Int) != 8)) (some false)) = some false := by
  rcases hl with e | e
  ·
   rw [e]; rfl
  ·
   rw [e]; rfl
 rw [hc, Xab, Xao, Yaz l.length (f := Xl3 l) (by
  intro i hi
  have := h (l.getD i 0) (by rw [Xb4 l i hi]; exact List.getElem_mem _)
  unfold Xl3
  rw [syA, rqA, Xaj, Xab, Int.toNat_natCast, decide_eq_true this, Bool.not_true, Xao, wkA]
  rfl) (by unfold Xl3; rw [snA]), Xab]
theorem Xj2 {e : Xi9} (h : Xtq e) : Xqw e = some true := by
 obtain ⟨h1, h2, h3, h4, h5, h6⟩ := h
 unfold Xqw
 rw [Xt7 _ h1 h3, Xab, Xat, Xt7 _ h2 h4, Xab, Xat, Xaj, Xab, decide_eq_true ⟨h5, h6⟩, Xab]
theorem Xsm (l : List Int) (k : Nat) (hk : k < 8) (hl : l.length = 0 ∨ l.length = 8) (h : ∀ x ∈ l, 0 ≤ x ∧ x ≤ 255) : ∃ x, Xfo l k = some x ∧ 0 ≤ x ∧ x ≤ 255 := by
 unfold Xfo
 rcases hl with e | e
 ·
  rw [Xbp (by rw [e]; rfl)]; exact ⟨_, rfl, by omega, by omega⟩
 ·
  rw [Xba (by rw [e]; rfl), rqA, Int.toNat_natCast]
  exact ⟨_, rfl, h _ (by rw [Xb4 l k (by omega)]; exact List.getElem_mem _)⟩
theorem Xxu {e : Xi9} (h : Xtq e) : ∃ x, Xp7 e = some x ∧ 0 ≤ x ∧ x ≤ 255 := by
 obtain ⟨h1, h2, h3, h4, _, _⟩ := h
 unfold Xp7
 rw [wkA (e := (e.Above.length : Int) + (e.Left.length : Int))]
 by_cases hz : (e.Above.length : Int) + (e.Left.length : Int) = 0
 ·
  rw [Xbp (by simpa using hz)]; exact ⟨_, rfl, by omega, by omega⟩
 ·
  rw [Xba (by simpa using hz), rqA, Xbn (by omega), wkA (e := ((e.Above.length : Int) + (e.Left.length : Int)) / 2)]
  obtain ⟨a, ea, a1, a2⟩ := Xqh (f := Xjt e) e.Above.length (fun i s => 0 ≤ s ∧ s ≤ ((e.Above.length : Int) + (e.Left.length : Int)) / 2 + 255 * i) (by
   intro i s hi ⟨g1, g2⟩
   have := h3 (e.Above.getD i 0) (by rw [Xb4 _ i hi]; exact List.getElem_mem _)
   unfold Xjt
   simp only [Int.toNat_natCast]
   rw [syA, rqA, wkA (e := s + e.Above.getD i 0), wkA (e := (i : Int) + 1)]
   exact ⟨_, rfl, by omega, by omega⟩) (by intro s; unfold Xjt; rw [Xap (by simp)]) (((e.Above.length : Int) + (e.Left.length : Int)) / 2) ⟨by omega, by omega⟩
  obtain ⟨b, eb, b1, b2⟩ := Xqh (f := Xju e) e.Left.length (fun i s => 0 ≤ s ∧ s ≤ ((e.Above.length : Int) + (e.Left.length : Int)) / 2 + 255 * e.Above.length + 255 * i) (by
   intro i s hi ⟨g1, g2⟩
   have := h4 (e.Left.getD i 0) (by rw [Xb4 _ i hi]; exact List.getElem_mem _)
   unfold Xju
   simp only [Int.toNat_natCast]
   rw [syA, rqA, wkA (e := s + e.Left.getD i 0), wkA (e := (i : Int) + 1)]
   exact ⟨_, rfl, by omega, by omega⟩) (by intro s; unfold Xju; rw [Xap (by simp)]) a ⟨by omega, by omega⟩
  rw [ea, Xab, eb, Xab, Xa2 hz, Xbn b1]
  have hn : (e.Above.length : Int) + (e.Left.length : Int) = 8 ∨ (e.Above.length : Int) + (e.Left.length : Int) = 16 := by omega
  have hr : 0 ≤ b / ((e.Above.length : Int) + (e.Left.length : Int)) ∧ b / ((e.Above.length : Int) + (e.Left.length : Int)) ≤ 255 := by
   rcases hn with hn | hn <;> rw [hn] <;> omega
  rw [wkA]
  exact ⟨_, rfl, hr⟩
theorem Xic (m : Int) (hm0 : 0 ≤ m ∧ m ≤ 3) {e : Xi9} (h : Xtq e) : ∃ g, Xd9 m e = some g ∧ Xby g = true := by
 have hm : maxLen = 9223372036854775807 := rfl
 have h' := h
 obtain ⟨h1, h2, h3, h4, h5, h6⟩ := h'
 obtain ⟨mid, em, m1, m2⟩ := Xxu h
 unfold Xd9
 rw [Xj2 h, Xab, Xat, Xaj, Xab, decide_eq_true hm0, Bool.not_true, Xab, Xao]
 have hc : ∃ v, sel (decide (e.Corner < 0)) (some (128 : Int)) (some e.Corner) = some v ∧ 0 ≤ v ∧ v ≤ 255 := by
  by_cases c : e.Corner < 0
  ·
   rw [Xbh c]; exact ⟨_, rfl, by omega, by omega⟩
  ·
   rw [Xap c]; exact ⟨_, rfl, by omega, by omega⟩
 obtain ⟨v, ev, v1, v2⟩ := hc
 rw [ev, Xab]
 obtain ⟨o, eo, o1, o2⟩ := Xd6 (f := Xep m e v) 64 (fun i s => s.length = i ∧ ∀ x ∈ s, 0 ≤ x ∧ x ≤ 255) (by
  intro i s hi ⟨g1, g2⟩
  obtain ⟨a, ea, a1, a2⟩ := Xsm e.Above (i % 8) (by omega) h1 h3
  obtain ⟨b, eb, b1, b2⟩ := Xsm e.Left (i / 8) (by omega) h2 h4
  have br := Xfx (n := b + a - v) (a := 0) (b := 255) (by omega)
  have put : ∀ z : Int, 0 ≤ z ∧ z ≤ 255 → (s ++ [z]).length = i + 1 ∧ ∀ x ∈ s ++ [z], 0 ≤ x ∧ x ≤ 255 := by
   intro z hz
   refine ⟨by simp; omega, fun x hx => ?_⟩
   rcases List.mem_append.1 hx with hx | hx
   ·
    exact g2 x hx
   ·
    rw [List.mem_singleton.1 hx]; exact hz
  unfold Xep
  simp only
  rw [syA, rqA, Xb2 (by omega), show (i : Int) % 8 = ((i % 8 : Nat) : Int) by omega, ea, Xab, rqA, Xbn (by omega), wkA (e := (i : Int) / 8), show (i : Int) / 8 = ((i / 8 : Nat) : Int) by omega, eb, Xab, wkA (e := (i : Int) + 1), em]
  cases (m == 0) with
  | true =>
   rw [Xat, Xab, Xa2 (by simp only [List.length_singleton]; omega), Xab]
   exact ⟨_, rfl, put _ ⟨m1, m2⟩⟩
  | false =>
   rw [Xao]
   cases (m == 1) with
   | true =>
    rw [Xat, Xa2 (by simp only [List.length_singleton]; omega), Xab]
    exact ⟨_, rfl, put _ ⟨a1, a2⟩⟩
   | false =>
    rw [Xao]
    cases (m == 2) with
    | true =>
     rw [Xat, Xa2 (by simp only [List.length_singleton]; omega), Xab]
     exact ⟨_, rfl, put _ ⟨b1, b2⟩⟩
    | false =>
     rw [Xao, wkA (e := b + a), wkA (e := b + a - v), Xeo, Xab, Xa2 (by simp only [List.length_singleton]; omega), Xab]
     exact ⟨_, rfl, put _ br⟩) (by intro s; unfold Xep; rw [Xap (by simp)]) [] ⟨rfl, fun x hx => by simp at hx⟩
 exact ⟨o, (Xge eo).trans rfl, Yqa o1 o2⟩
theorem Yth {l : List Int} (h : Xby l = true) : l.length = 64 ∧ inB 1000 l := by
 simp only [Xby, Bool.and_eq_true, decide_eq_true_eq] at h
 refine ⟨h.1, fun x hx => ?_⟩
 have := List.all_eq_true.1 h.2 x hx
 simp only [Yr9, decide_eq_true_eq] at this
 omega
theorem Xtd {a b : List Int} (ha : Xby a = true) (hb : Xby b = true) : Xv5 a b = some (Xpi a b 64) := by
 have la := Yth ha
 have lb := Yth hb
 unfold Xv5
 rw [Xcc a 64 1000 (by omega) (by omega) (by omega) la.2, Xab, Xat, Xcc b 64 1000 (by omega) (by omega) (by omega) lb.2, Xab, Bool.not_true, Xab, Xao]
 have key : ∀ i : Nat, i ≤ 64 → loop (Xo3 a b) (Xpi a b i, (i : Int)) = some (Xpi a b 64) := by
  refine Xgp _ ?_ ?_
  ·
   exact Xf9 (by unfold Xo3; rw [Xap (by simp)])
  ·
   intro i hi ih
   refine lgo (y := (Xpi a b (i + 1), ((i + 1 : Nat) : Int))) ?_ ih
   have p := (Xbr ha).2 i hi
   have q := (Xbr hb).2 i hi
   have g := Xkg ha hb i (by omega)
   have ab : 0 ≤ Ydh (a.getD i 0 - b.getD i 0) ∧ Ydh (a.getD i 0 - b.getD i 0) ≤ 255 := by unfold Ydh; split <;> omega
   unfold Xo3
   simp only [Int.toNat_natCast]
   rw [syA, rqA, rqA, wkA (e := a.getD i 0 - b.getD i 0), Xon _ (by omega), Xab, wkA (e := Xpi a b i + Ydh (a.getD i 0 - b.getD i 0)), wkA (e := (i : Int) + 1)]
   rfl
 exact (Xge (key 0 (by omega))).trans rfl
theorem Yl6 (m : Int) (h : 0 ≤ m ∧ m ≤ 3) : ∃ s, Xm2 m = some s ∧ 0 ≤ s ∧ s ≤ 39 := by
 have := Xfq m.toNat (by omega)
 unfold Xm2 Yc2
 rw [Xaj, Xab, decide_eq_true (by omega), Bool.not_true, Xao, show m = ((m.toNat : Nat) : Int) by omega, Xtl _ (by omega), Xab, Xab]
 refine ⟨_, rfl, ?_⟩
 rw [strOfNums_size]; omega
theorem Ycs {w : List Int} (hw : Xby w = true) {e : Xi9} (h : Xtq e) : ∃ m c, Xjl w e = some (m, c) ∧ 0 ≤ m ∧ m ≤ 3 := by
 unfold Xjl
 rw [Xj2 h, Xab, Xat, Xe5 w hw, Xab, Bool.not_true, Xab, Xao]
 obtain ⟨o, eo, o1, o2⟩ := Xqt (f := Xed w e) (fun v => (0 ≤ v.1 ∧ v.1 ≤ 3) ∧ 0 ≤ v.2.2 ∧ v.2.2 ≤ 4) (fun v => (4 - v.2.2).toNat) (fun _ o => 0 ≤ o.1 ∧ o.1 ≤ 3) (by
  intro ⟨m, c, i⟩ ⟨g1, g2, g3⟩
  simp only at g1 g2 g3
  unfold Xed
  simp only
  by_cases hi : i < 4
  ·
   obtain ⟨g, eg, hg⟩ := Xic i ⟨g2, by omega⟩ h
   obtain ⟨s, es, s1, s2⟩ := Yl6 i ⟨g2, by omega⟩
   rw [Xbh hi, eg, Xab, Xtd hw hg, Xab, es, Xab, Ydx, Xab, wkA (e := i + 1)]
   cases (decide (c < 0) || decide (Xaa IntKind.i64 (Xpi w g 64 + s) < c)) with
   | true => exact .inr ⟨_, rfl, ⟨by simp only; omega, by simp only; omega, by simp only; omega⟩, by simp only; omega, fun _ h => h⟩
   | false => exact .inr ⟨_, rfl, ⟨by simp only; omega, by simp only; omega, by simp only; omega⟩, by simp only; omega, fun _ h => h⟩
  ·
   rw [Xap hi]
   exact .inl ⟨_, rfl, g1⟩) (0, -1, 0) ⟨by simp, by simp, by simp⟩
 exact ⟨o.1, o.2, (Xge eo).trans rfl, o1, o2⟩
theorem Xxo (d : Int) (h : -500000 ≤ d ∧ d ≤ 500000) : Xtg d = some (Yvv d) := by
 unfold Xtg Ym3 Yvv
 rw [Xaj, Xab, decide_eq_true h, Bool.not_true, Xao, Ype d h, Xab, Xab, strOfNums_size]
theorem Yvq {m : Int} {l : List Int} (hm : 0 ≤ m ∧ m ≤ 3) (hl : Yfh l = true) : Xuc ⟨2, m, 0, 0, l⟩ = true := by
 unfold Xuc
 simp only
 rw [if_neg (by omega), if_neg (by omega), if_pos trivial, hl, decide_eq_true hm]
 rfl
theorem Yxz {dx dy : Int} {l : List Int} (hx : -16 ≤ dx ∧ dx ≤ 16) (hy : -16 ≤ dy ∧ dy ≤ 16) (hl : Yfh l = true) : Xuc ⟨1, 0, dx, dy, l⟩ = true := by
 unfold Xuc
 simp only
 rw [if_neg (by omega), if_pos trivial, hl, decide_eq_true hx, decide_eq_true hy]
 rfl
def Yy4 (p q : Pic) : Bool := Xbx p && (Xbx q && ((p.Wide == q.Wide) && (p.High == q.High)))
theorem Yj0 (p q : Pic) : Xq1 p q = some (Yy4 p q) := by
 unfold Xq1 Yy4
 rw [Xc2, Xab, Xc2, Xab]
 simp only [Xdf, Xab]
theorem Yy5 {p q : Pic} (h1 : Xbx p = true) (h2 : Xbx q = true) (h3 : q.Wide = p.Wide) (h4 : q.High = p.High) : Yy4 p q = true := by
 unfold Yy4
 simp only [Bool.and_eq_true, beq_iff_eq]
 exact ⟨h1, h2, h3.symm, h4.symm⟩
theorem Xxv {p : Pic} {x y : Int} {d : List Int} (ok : Xbx p = true) (h0 : Xdr p x y = true) (hd : Xby d = true) : ∃ p', Xgy p x y d = some p' ∧ Xbx p' = true ∧ p'.Wide = p.Wide ∧ p'.High = p.High := by
 have hm : maxLen = 9223372036854775807 := rfl
 obtain ⟨k1, k2, k3⟩ := Xay ok
 have ar := Xda k1 k2
 unfold Xdr at h0
 rw [decide_eq_true_eq] at h0
 have hdl := (Xbr hd).1
 have hn := Xbf p.Dots
 unfold Xgy
 rw [rqA]
 obtain ⟨o, e, o1⟩ := Xd6 (f := Xdo p x y d) 64 (fun _ s => s.length = p.Dots.size) (by
  intro i s hi g1
  have b1 : 0 ≤ (y + (i : Int) / 8) * p.Wide := Int.mul_nonneg (by omega) (by omega)
  have b2 : (y + (i : Int) / 8) * p.Wide ≤ (p.High - 1) * p.Wide := Int.mul_le_mul_of_nonneg_right (by omega) (by omega)
  have b3 : (p.High - 1) * p.Wide = p.Wide * p.High - p.Wide := by rw [Int.sub_mul, Int.one_mul, Int.mul_comm]
  unfold Xdo
  simp only
  rw [syA, rqA, rqA, rqA, Xbn (by omega), Xb2 (by omega), wkA (e := (i : Int) / 8), wkA (e := y + (i : Int) / 8), wkA (e := (y + (i : Int) / 8) * p.Wide), wkA (e := (y + (i : Int) / 8) * p.Wide + x), wkA (e := (y + (i : Int) / 8) * p.Wide + x + (i : Int) % 8), rqA, rqA, wkA (e := (i : Int) + 1)]
  exact ⟨_, rfl, by rw [List.length_set]; exact g1⟩) (by intro s; unfold Xdo; rw [Xap (by simp)]) (Xaz p.Dots) hn
 refine ⟨_, (Xge e).trans rfl, Xvy k1 k2 ?_, rfl, rfl⟩
 simp only
 rw [strOfNums_size]; omega
def Xyu (n : Int) : Bool := decide (n.tmod 8 = 0) && decide (8 ≤ n ∧ n ≤ 64)
theorem Xyx (c : Xbw) (hc : Xpf c) : ∃ p c', Xha c = some (p, c') ∧ Xlm p = true ∧ Xpf c' := by
 unfold Xha
 obtain ⟨x, c1, e1, x0, x1, _, h1⟩ := Xa5 c 41 hc
 obtain ⟨b, c2, e2, h2⟩ := Xlx c1 4 h1
 obtain ⟨y, c3, e3, y0, y1, _, h3⟩ := Xa5 c2 3 h2
 have x1' := x1 (by omega)
 rw [e1, Xab]
 simp only
 rw [e2, Xab]
 simp only
 rw [e3, Xab]
 simp only
 have po : ∀ (l e f : Bool), (l && e) = false → Xlm ⟨x, l, e, f⟩ = true := by
  intro l e f h
  unfold Xlm
  rw [Bool.and_eq_true, decide_eq_true_eq]
  exact ⟨by simp only; omega, by simp only [h]; rfl⟩
 cases (y == 0) with
 | true => exact ⟨_, _, rfl, po _ _ _ rfl, h3⟩
 | false =>
  cases (y == 1) with
  | true => exact ⟨_, _, rfl, po _ _ _ rfl, h3⟩
  | false => exact ⟨_, _, rfl, po _ _ _ rfl, h3⟩
theorem Yw8 : ∀ c r b : Int, (c = 1 ∨ c = 2) → (r = 1 ∨ r = 2) → (b = 3 ∨ b = 4 ∨ b = 5) → Xb7 ⟨Xvw [c] [r], b, [c], [r]⟩ = 1 ∧ Xke ⟨Xvw [c] [r], b, [c], [r]⟩ = (8 * c, 8 * r) := by
 intro c r b hc hr hb
 rcases hc with rfl | rfl <;> rcases hr with rfl | rfl <;> rcases hb with rfl | rfl | rfl <;> decide +kernel
theorem Yaq (c r b : Int) (p : Par) (t : Rate) (e n : Int) (hc : c = 1 ∨ c = 2) (hr : r = 1 ∨ r = 2) (hb : b = 3 ∨ b = 4 ∨ b = 5) (hp : Xlm p = true) (ht : Xku t = true) (he : 1 ≤ e ∧ e ≤ 5) (hn : 0 ≤ n ∧ n ≤ 2) : Xb3 (Xpb c r b p t e n) = true := by
 have hm := (Yw8 c r b hc hr hb).1
 have hpow : (0 : Int) < 2 ^ b.toNat := by rcases hb with rfl | rfl | rfl <;> decide
 unfold Xb3 Xpb
 simp only
 rw [decide_eq_true hm, hp, ht, decide_eq_true ⟨by omega, hpow⟩, decide_eq_true (by omega)]
 rfl
theorem Ycx (c r b : Int) (p : Par) (t : Rate) (e n : Int) (hc : c = 1 ∨ c = 2) (hr : r = 1 ∨ r = 2) (hb : b = 3 ∨ b = 4 ∨ b = 5) (hp : Xlm p = true) (ht : Xku t = true) (he : 1 ≤ e ∧ e ≤ 5) (hn : 0 ≤ n ∧ n ≤ 2) : Xjq c r b p t e n = some (Xpb c r b p t e n, true) := by
 have hs := Yaq c r b p t e n hc hr hb hp ht he hn
 have hw : (Lit.int .i64 b).wf = true := by rcases hb with rfl | rfl | rfl <;> decide
 unfold Xjq
 rw [Yfo, Xab]
 have := Yfr (Xpb c r b p t e n) hw
 unfold Xpb at this hs ⊢
 rw [this, hs, Xab]
 rfl
theorem Yok {V O : Type} {f g : V → Option (Lp V O)} (I : V → Prop) (h : ∀ v, I v → f v = g v) (hI : ∀ v v', I v → g v = some (.go v') → I v') : ∀ (k : Nat) (v : V), I v → it f k v = it g k v
 | 0, _, _ => rfl
 | k + 1, v, hv => by
  rw [it, it, h v hv]
  cases e : g v with
  | none => rfl
  | some s =>
   cases s with
   | go y => exact Yok I h hI k y (hI v y hv e)
   | done o => rfl
theorem Xkt {V O : Type} {f g : V → Option (Lp V O)} (I : V → Prop) (h : ∀ v, I v → f v = g v) (hI : ∀ v v', I v → g v = some (.go v') → I v') {v : V} (hv : I v) : loop f v = loop g v := by
 apply Option.ext
 intro o
 rw [Xi5, Xi5]
 exact ⟨fun ⟨k, hk⟩ => ⟨k, by rw [← Yok I h hI k v hv]; exact hk⟩, fun ⟨k, hk⟩ => ⟨k, by rw [Yok I h hI k v hv]; exact hk⟩⟩
theorem Ysl {V O : Type} {f : V → Option (Lp V O)} {v : V} {o : O} (k : Nat) (h : it f k v = some o) : loop f v = some o := Xi5.2 ⟨k, h⟩
theorem Xrd {a b : List Int} {n : Nat} (ha : a.length = n) (hb : b.length = n) (h : ∀ i : Nat, i < n → a.getD i 0 = b.getD i 0) : a = b := by
 apply List.ext_getElem (by omega)
 intro i h1 h2
 have := h i (by omega)
 rwa [Xb4 a i h1, Xb4 b i h2] at this
theorem Xft {n : Nat} (g : Nat → Int) {i : Nat} (h : i < n) : ((List.range n).map g).getD i 0 = g i := by
 rw [Xb4 _ i (by simpa using h)]; simp
theorem Yf6 {α : Type} {f : Int × List α → Option (Lp (Int × List α) (List α))} (n : Nat) (g : Nat → α) (a : List α) (hs : ∀ i : Nat, i < n → f ((i : Int), a ++ (List.range i).map g) = some (.go (((i + 1 : Nat) : Int), a ++ (List.range i).map g ++ [g i]))) (he : f ((n : Int), a ++ (List.range n).map g) = some (.done (a ++ (List.range n).map g))) : loop f (0, a) = some (a ++ (List.range n).map g) := by
 have key : ∀ i : Nat, i ≤ n → loop f ((i : Int), a ++ (List.range i).map g) = some (a ++ (List.range n).map g) := by
  refine Xgp _ (Xf9 he) ?_
  intro i hi ih
  refine lgo (hs i hi) ?_
  rw [List.append_assoc, show (List.range i).map g ++ [g i] = (List.range (i + 1)).map g by simp [List.range_succ]]
  exact ih
 have := key 0 (by omega)
 simpa using this
theorem Xfh {S : Type} {f : Int × S → Option (Lp (Int × S) S)} (n : Nat) (I : Nat → S → Prop) (hs : ∀ (i : Nat) (l : S), i < n → I i l → ∃ l', f ((i : Int), l) = some (.go (((i + 1 : Nat) : Int), l')) ∧ I (i + 1) l') (he : ∀ l, I n l → f ((n : Int), l) = some (.done l)) (l0 : S) (h0 : I 0 l0) : ∃ o, loop f (0, l0) = some o ∧ I n o := by
 have key : ∀ i : Nat, i ≤ n → ∀ l, I i l → ∃ o, loop f ((i : Int), l) = some o ∧ I n o := by
  refine Xgp _ ?_ ?_
  ·
   intro l h; exact ⟨l, Xf9 (he l h), h⟩
  ·
   intro i hi ih l h
   obtain ⟨l', e, h'⟩ := hs i l hi h
   obtain ⟨o, e2, h2⟩ := ih l' h'
   exact ⟨o, lgo e e2, h2⟩
 exact key 0 (by omega) l0 h0
theorem Yve {f : Int × List Int → Option (Lp (Int × List Int) (List Int))} (n : Nat) (g : Nat → Int) (l : List Int) (hl : l.length = n) (hs : ∀ (i : Nat) (s : List Int), i < n → s.length = n → s.getD i 0 = l.getD i 0 → f ((i : Int), s) = some (.go (((i + 1 : Nat) : Int), s.set i (g i)))) (he : ∀ s : List Int, s.length = n → f ((n : Int), s) = some (.done s)) : loop f (0, l) = some ((List.range n).map g) := by
 obtain ⟨o, e, h1, h2, _⟩ := Xfh (f := f) n (fun i s => s.length = n ∧ (∀ j, j < i → s.getD j 0 = g j) ∧ ∀ j, i ≤ j → s.getD j 0 = l.getD j 0) (by
  intro i s hi ⟨g1, g2, g3⟩
  refine ⟨_, hs i s hi g1 (g3 i (Nat.le_refl _)), by rw [List.length_set]; exact g1, fun j hj => ?_, fun j hj => ?_⟩
  ·
   rw [Xeg s i j _ (by omega)]
   by_cases h : i = j
   ·
    rw [if_pos h, h]
   ·
    rw [if_neg h]; exact g2 j (by omega)
  ·
   rw [Xeg s i j _ (by omega), if_neg (by omega)]; exact g3 j (by omega)) (fun s hs => he s hs.1) l ⟨hl, fun j hj => by omega, fun _ _ => rfl⟩
 rw [e]
 congr 1
 exact Xrd h1 (by simp) fun i hi => by rw [h2 i hi, Xft g hi]
theorem Ysb : Xo9 = Xeb := rfl
theorem Yl5 (qp : Int) (h0 : 0 ≤ qp ∧ qp ≤ 40) : Xkf qp = some (Xqa qp) := by
 have h := Yx1 ⟨qp.toNat, by omega⟩
 simp only at h
 rw [show ((qp.toNat : Nat) : Int) = qp by omega] at h
 unfold Xkf
 rw [Xaj, Xab, decide_eq_true (by omega), Bool.not_true, Xao, rqA]
 have hb : (sel ((qp.tmod 6) == 0) (some (10 : Int)) (sel ((qp.tmod 6) == 1) (some 11) (sel ((qp.tmod 6) == 2) (some 13) (sel ((qp.tmod 6) == 3) (some 14) (sel ((qp.tmod 6) == 4) (some 16) (some 18)))))) = some (Xtn qp) := by
  unfold Xtn
  simp only [Yji, beq_iff_eq]
  repeat' split
  all_goals rfl
 rw [hb, Xab]
 unfold Xqa at h ⊢
 cases e : it (Xnj qp) 10 (Xtn qp, 0) with
 | none => rw [e] at h; simp only at h; omega
 | some q => rw [Xi5.2 ⟨10, e⟩, Xab]
theorem Yof : ∀ q : Fin 41, Xkb (q.val : Int) = some (Xqa (q.val : Int)) := by decide +kernel
theorem Ylb (qp : Int) (h0 : 0 ≤ qp ∧ qp ≤ 40) : Xkb qp = some (Xqa qp) := by
 have := Yof ⟨qp.toNat, by omega⟩
 simp only at this
 rwa [show ((qp.toNat : Nat) : Int) = qp by omega] at this
theorem Ydf (qp : Int) (h0 : 0 ≤ qp ∧ qp ≤ 40) : Xkb qp = Xkf qp := by rw [Ylb qp h0, Yl5 qp h0]
theorem Xxp (u v : Nat) (hu : u < 8) (hv : v < 8) : Xm0 u v = some (Xjk u v) := by
 have h := Yxs ⟨u, hu⟩ ⟨v, hv⟩
 simp only at h
 unfold Xm0
 rw [Xaj, Xab, decide_eq_true (by omega), Xat, Xaj, Xab, decide_eq_true (by omega), Bool.not_true, Xab, Xao]
 unfold Xjk at h ⊢
 cases e : it Xnh 10 (1, (IntKind.wrap .i64 (BitVec.ofInt (IntKind.bits .i64) (u : Int) &&& BitVec.ofInt (IntKind.bits .i64) (v : Int)).toNat)) with
 | none => rw [e] at h; simp only at h; omega
 | some q => rw [Xi5.2 ⟨10, e⟩, Xab]
theorem Yoa : ∀ u v : Fin 8, Xmk (u.val : Int) (v.val : Int) = some (Xjk (u.val : Int) (v.val : Int)) := by decide +kernel
theorem Yde (u v : Nat) (hu : u < 8) (hv : v < 8) : Xmk u v = some (Xjk u v) := Yoa ⟨u, hu⟩ ⟨v, hv⟩
def Yo5 (qp p : Int) : Option Int :=
 bnd (Xp1 p) fun q1 => bnd (Xbg q1 10 16 13) fun a1 => bnd (Xbg q1 11 18 14) fun a2 => bnd (Xbg q1 13 20 16) fun a3 => bnd (Xbg q1 14 23 18) fun a4 => bnd (Xbg q1 16 25 20) fun a5 => bnd (Xbg q1 18 29 23) fun a6 =>
 it (Xgc qp) 10 ((sel (qp.tmod 6 == 0) a1 (sel (qp.tmod 6 == 1) a2 (sel (qp.tmod 6 == 2) a3 (sel (qp.tmod 6 == 3) a4 (sel (qp.tmod 6 == 4) a5 (sel (qp.tmod 6 == 5) a6 0)))))), 0)
theorem Yxo : ∀ q : Fin 41, ∀ p : Fin 16, (Yo5 (q.val : Int) (p.val : Int)).isSome = true ∧ Xnu (q.val : Int) (p.val : Int) = Yo5 (q.val : Int) (p.val : Int) := by decide +kernel
theorem Yne (qp p : Int) (h0 : 0 ≤ qp ∧ qp ≤ 40) (hp : 0 ≤ p ∧ p ≤ 15) : Xnu qp p = Xn3 qp p := by
 have := Yxo ⟨qp.toNat, by omega⟩ ⟨p.toNat, by omega⟩
 simp only at this
 rw [show ((qp.toNat : Nat) : Int) = qp by omega, show ((p.toNat : Nat) : Int) = p by omega] at this
 obtain ⟨h1, h2⟩ := this
 rw [h2]
 cases e : Yo5 qp p with
 | none => rw [e] at h1; cases h1
 | some o =>
  unfold Yo5 at e
  unfold Xn3
  obtain ⟨k, ek, k0, k1⟩ := Xri p hp
  rw [ek, Xab] at e ⊢
  rw [Xaj, Xab, decide_eq_true h0, Xat, decide_eq_false (by omega), Xab, Xao, rqA]
  obtain ⟨a1, e1, b1⟩ := Xa7 k 10 16 13
  obtain ⟨a2, e2, b2⟩ := Xa7 k 11 18 14
  obtain ⟨a3, e3, b3⟩ := Xa7 k 13 20 16
  obtain ⟨a4, e4, b4⟩ := Xa7 k 14 23 18
  obtain ⟨a5, e5, b5⟩ := Xa7 k 16 25 20
  obtain ⟨a6, e6, b6⟩ := Xa7 k 18 29 23
  rw [e1, e2, e3, e4, e5, e6] at e ⊢
  simp only [Xab, Yt6] at e ⊢
  rw [Ysl 10 e, Xab]
def Xsc (n : Int) (v16 : Int × List Int) : Option (Lp (Int × List Int) (List Int)) :=
 sel (decide (v16.1 ≤ (Xaa .i64 ((Xaa .i64 (2 * n)) - 2)))) (
 bnd (it (Xlg n v16) 20 (0, v16.2)) fun v42 =>
 some (.go (Xaa .i64 (v16.1 + 1), v42))) (
 some (.done v16.2))
theorem Yro {n : Int} {v : Int × List Int} {x : Lp (Int × List Int) (List Int)} (h : Xsc n v = some x) : Xhk n v = some x := by
 unfold Xsc at h
 unfold Xhk
 rcases Xj1 h with ⟨hb, h⟩ | ⟨hb, h⟩
 ·
  rw [hb, Xat]
  obtain ⟨a, h1, h2⟩ := Xbc h
  rw [Xi5.2 ⟨20, h1⟩, Xab]
  exact h2
 ·
  rw [hb, Xao]; exact h
def Yfj (n : Int) : List Int := (it (Xsc n) 20 (0, [])).getD []
theorem Zbe : (it (Xsc 4) 20 (0, [])).isSome = true ∧ (Yfj 4).length = 16 := by decide +kernel
theorem Zbf : (it (Xsc 8) 20 (0, [])).isSome = true ∧ (Yfj 8).length = 64 := by decide +kernel
theorem Yxq : ∀ i : Fin 16, (Yfj 4).getD i.val 0 = Xcr 4 (i.val : Int) := by decide +kernel
theorem Yrn : ∀ i : Fin 64, (Yfj 8).getD i.val 0 = Xcr 8 (i.val : Int) := by decide +kernel
theorem Xr4 (n : Int) (hn : n = 4 ∨ n = 8) : Xhf n = some (Yfj n) ∧ ((Yfj n).length : Int) = n * n ∧ ∀ i : Nat, (i : Int) < n * n → (Yfj n).getD i 0 = Xcr n i := by
 have h : (it (Xsc n) 20 (0, [])).isSome = true ∧ ((Yfj n).length : Int) = n * n := by
  rcases hn with rfl | rfl
  ·
   have := Zbe; exact ⟨this.1, by omega⟩
  ·
   have := Zbf; exact ⟨this.1, by omega⟩
 refine ⟨?_, h.2, fun i hi => ?_⟩
 ·
  obtain ⟨o, ho⟩ := Option.isSome_iff_exists.1 h.1
  have hl := Ysl 20 (Yy1 (fun v y => Yro (n := n)) 20 _ ho)
  unfold Xhf
  rw [hl, Xab]
  unfold Yfj; rw [ho]; rfl
 ·
  rcases hn with rfl | rfl
  ·
   exact Yxq ⟨i, by omega⟩
  ·
   exact Yrn ⟨i, by omega⟩
theorem Xuf (n : Int) (hn : n = 4 ∨ n = 8) (l : List Int) (hl : (l.length : Int) = n * n) : Xfj n l = Xdn n l := by
 obtain ⟨e, h1, h2⟩ := Xr4 n hn
 have hw : Xaa .i64 (n * n) = n * n := by rcases hn with rfl | rfl <;> exact wkA
 have hn2 : n * n ≤ 64 := by rcases hn with rfl | rfl <;> omega
 unfold Xfj Xdn
 rw [e]
 have : loop (Xis l (Yfj n)) (0, List.replicate (l.length : Int).toNat 0) = loop (Xb0 n l) (0, List.replicate (l.length : Int).toNat 0) := by
  refine Xkt (fun v => (∃ i : Nat, v.1 = (i : Int) ∧ i ≤ l.length) ∧ v.2.length = l.length) ?_ ?_ ⟨⟨0, rfl, by omega⟩, by simp⟩
  ·
   intro ⟨i, s⟩ ⟨⟨k, ek, hk⟩, hs⟩
   simp only at hs ek
   subst ek
   unfold Xis Xb0
   simp only [Int.toNat_natCast]
   rw [hw]
   by_cases hi : (k : Int) < n * n
   ·
    have hp := Xfe n hn k hi
    have h3 := h2 k hi
    simp only [h3]
    rw [syA, Xbh hi, Xea n hn k hi, Xab, rqA, rqA]
   ·
    rw [snA, Xap hi]
  ·
   intro ⟨i, s⟩ v' ⟨⟨k, ek, hk⟩, hs⟩ he
   simp only at hs ek
   subst ek
   unfold Xb0 at he
   simp only [Int.toNat_natCast] at he
   rw [hw] at he
   by_cases hi : (k : Int) < n * n
   ·
    have hp := Xfe n hn k hi
    rw [Xbh hi, Xea n hn k hi, Xab, rqA, rqA, rqA, wkA] at he
    cases he
    exact ⟨⟨k + 1, rfl, by omega⟩, by rw [List.length_set]; exact hs⟩
   ·
    rw [Xap hi] at he; cases he
 simp only [Xab, this]
theorem Xsq (n : Int) (hn : n = 4 ∨ n = 8) (l : List Int) (hl : (l.length : Int) = n * n) : Xhv n l = Xfg n l := by
 have hm : maxLen = 9223372036854775807 := rfl
 obtain ⟨e, h1, h2⟩ := Xr4 n hn
 have hw : Xaa .i64 (n * n) = n * n := by rcases hn with rfl | rfl <;> exact wkA
 have hn2 : n * n ≤ 64 := by rcases hn with rfl | rfl <;> omega
 unfold Xhv Xfg
 rw [e]
 have : loop (Xla l (Yfj n)) (0, ([] : List Int)) = loop (Xci n l) (0, ([] : List Int)) := by
  refine Xkt (fun v => ∃ i : Nat, v.1 = (i : Int) ∧ i ≤ l.length) ?_ ?_ ⟨0, rfl, by omega⟩
  ·
   intro ⟨i, s⟩ ⟨k, ek, hk⟩
   simp only at ek
   subst ek
   unfold Xla Xci
   simp only [Int.toNat_natCast]
   rw [hw]
   by_cases hi : (k : Int) < n * n
   ·
    have hp := Xfe n hn k hi
    have h3 := h2 k hi
    simp only [h3]
    rw [syA, Xbh hi, Xea n hn k hi, Xab, rqA, rqA]
   ·
    rw [snA, Xap hi]
  ·
   intro ⟨i, s⟩ v' ⟨k, ek, hk⟩ he
   simp only at ek
   subst ek
   unfold Xci at he
   simp only [Int.toNat_natCast] at he
   rw [hw] at he
   by_cases hi : (k : Int) < n * n
   ·
    have hp := Xfe n hn k hi
    rw [Xbh hi, Xea n hn k hi, Xab, rqA] at he
    obtain ⟨_, he⟩ := Xax he
    rw [wkA] at he
    cases he
    exact ⟨k + 1, rfl, by omega⟩
   ·
    rw [Xap hi] at he; cases he
 simp only [Xab, this]
def Ypq (t : Nat → Int) : Nat → Int
 | 0 => 0
 | k + 1 => Xaa .i64 (Ypq t k + t k)
def Zbb (p : List Int) (i v k : Nat) : Int := Xaa .i64 (Xjk v k * p.getD (8 * i + k) 0)
def Zaw (p : List Int) (u v k : Nat) : Int := Xaa .i64 (Xjk u k * p.getD (8 * k + v) 0)
def Xuk (p : List Int) : List Int := (List.range 64).map fun j => Ypq (Zbb p (j / 8) (j % 8)) 8
def Yvt (p : List Int) : List Int := (List.range 64).map fun j => Ypq (Zaw (Xuk p) (j / 8) (j % 8)) 8
theorem Yqi (p : List Int) : (Xuk p).length = 64 := by simp [Xuk]
theorem Yx3 (p : List Int) : (Yvt p).length = 64 := by simp [Yvt]
theorem Yrt {f1 : Int × List Int → Option (Lp (Int × List Int) (List Int))} {f2 : Int × List Int → Int × List Int → Option (Lp (Int × List Int) (List Int))} {f3 : Int × List Int → Int × List Int → Int × List Int → Option (Lp (Int × List Int) (List Int))} (t : Nat → Nat → Nat → Int)
  (h1 : ∀ v, f1 v = sel (decide (v.1 < 8)) (bnd (loop (f2 v) (0, v.2)) fun w => some (.go (Xaa .i64 (v.1 + 1), w))) (some (.done v.2)))
  (h2 : ∀ v w, f2 v w = sel (decide (w.1 < 8)) (bnd (loop (f3 v w) (0, w.2)) fun x => some (.go (Xaa .i64 (w.1 + 1), x))) (some (.done w.2)))
  (h3 : ∀ (i v k : Nat) (a b s : List Int), i < 8 → v < 8 → k < 8 → s.length = 64 → f3 ((i : Int), a) ((v : Int), b) ((k : Int), s) = some (.go (((k + 1 : Nat) : Int), s.set (8 * i + v) (Xaa .i64 (s.getD (8 * i + v) 0 + t i v k)))))
  (h4 : ∀ (i v : Nat) (a b s : List Int), f3 ((i : Int), a) ((v : Int), b) (8, s) = some (.done s)) : loop f1 (0, List.replicate 64 0) = some ((List.range 64).map fun j => Ypq (t (j / 8) (j % 8)) 8) := by
 obtain ⟨o, e, o1, o2, _⟩ := Xfh (f := f1) 8 (fun i s => s.length = 64 ∧ (∀ j, j < 8 * i → s.getD j 0 = Ypq (t (j / 8) (j % 8)) 8) ∧ ∀ j, 8 * i ≤ j → s.getD j 0 = 0) (by
  intro i s hi ⟨g1, g2, g3⟩
  obtain ⟨r, er, r1, r2, r3⟩ := Xfh (f := f2 ((i : Int), s)) 8 (fun v s => s.length = 64 ∧ (∀ j, j < 8 * i + v → s.getD j 0 = Ypq (t (j / 8) (j % 8)) 8) ∧ ∀ j, 8 * i + v ≤ j → s.getD j 0 = 0) (by
   intro v s' hv ⟨k1, k2, k3⟩
   obtain ⟨q, eq, q1, q2, q3⟩ := Xfh (f := f3 ((i : Int), s) ((v : Int), s')) 8 (fun k s => s.length = 64 ∧ (∀ j, j ≠ 8 * i + v → s.getD j 0 = s'.getD j 0) ∧ s.getD (8 * i + v) 0 = Ypq (t i v) k) (by
    intro k s'' hk ⟨m1, m2, m3⟩
    refine ⟨_, h3 i v k s s' s'' hi hv hk m1, by rw [List.length_set]; exact m1, fun j hj => ?_, ?_⟩
    ·
     rw [Xeg _ _ _ _ (by omega), if_neg (fun h => hj h.symm)]; exact m2 j hj
    ·
     rw [Xeg _ _ _ _ (by omega), if_pos rfl, m3]; rfl) (fun z _ => h4 i v s s' z) s' ⟨k1, fun _ _ => rfl, by rw [k3 _ (Nat.le_refl _)]; rfl⟩
   refine ⟨q, by rw [h2, Xbh (by simp only; omega), eq, Xab, wk (by simp only; omega) (by simp only; omega)]; rfl, q1, fun j hj => ?_, fun j hj => ?_⟩
   ·
    by_cases h : j = 8 * i + v
    ·
     rw [h, q3, show (8 * i + v) / 8 = i by omega, show (8 * i + v) % 8 = v by omega]
    ·
     rw [q2 j h]; exact k2 j (by omega)
   ·
    rw [q2 j (by omega)]; exact k3 j (by omega)) (fun z _ => by rw [h2, Xap (by simp)]) s ⟨g1, g2, g3⟩
  refine ⟨r, by rw [h1, Xbh (by simp only; omega), er, Xab, wk (by simp only; omega) (by simp only; omega)]; rfl, r1, fun j hj => r2 j (by omega), fun j hj => r3 j (by omega)⟩) (fun z _ => by rw [h1, Xap (by simp)]) (List.replicate 64 0) ⟨by simp, fun j hj => by omega, fun j _ => by
   by_cases h : j < 64
   ·
    rw [Xb4 _ _ (by rw [List.length_replicate]; exact h)]; exact List.getElem_replicate ..
   ·
    rw [List.getD_eq_getElem?_getD, List.getElem?_eq_none (by rw [List.length_replicate]; omega)]; rfl⟩
 rw [e]
 congr 1
 exact Xrd o1 (by simp) fun j hj => by rw [o2 j (by omega), Xft (fun j => Ypq (t (j / 8) (j % 8)) 8) hj]
theorem Ydp (p : List Int) (hp : p.length = 64) : Xr8 p = some (Yvt p) := by
 unfold Xr8
 rw [rqA]
 have e1 : loop (Xs1 p) (0, List.replicate (64 : Int).toNat 0) = some (Xuk p) :=
  Yrt (f2 := Xs2 p) (f3 := Xlj p) (fun i v k => Zbb p i v k) (fun _ => rfl) (fun _ _ => rfl) (fun i v k a b s hi hv hk hs => by
   unfold Xlj
   simp only
   rw [syA, wkA (e := 8 * (i : Int)), wkA (e := 8 * (i : Int) + (v : Int)), wkA (e := 8 * (i : Int) + (k : Int)), rqA, rqA, Yde v k hv hk, Xab, rqA, rqA, rqA, wkA (e := (k : Int) + 1), show (8 * (i : Int) + (v : Int)).toNat = 8 * i + v by omega, show (8 * (i : Int) + (k : Int)).toNat = 8 * i + k by omega]
   rfl) (fun i v a b s => by unfold Xlj; rw [Xap (by simp)])
 have e2 : loop (Xra (Xuk p)) (0, List.replicate (64 : Int).toNat 0) = some (Yvt p) :=
  Yrt (f2 := Xrb (Xuk p)) (f3 := Xji (Xuk p)) (fun i v k => Zaw (Xuk p) i v k) (fun _ => rfl) (fun _ _ => rfl) (fun i v k a b s hi hv hk hs => by
   have hl := Yqi p
   unfold Xji
   simp only
   rw [syA, wkA (e := 8 * (i : Int)), wkA (e := 8 * (i : Int) + (v : Int)), wkA (e := 8 * (k : Int)), wkA (e := 8 * (k : Int) + (v : Int)), rqA, rqA, Yde i k hi hk, Xab, rqA, rqA, rqA, rqA, wkA (e := (k : Int) + 1), show (8 * (i : Int) + (v : Int)).toNat = 8 * i + v by omega, show (8 * (k : Int) + (v : Int)).toNat = 8 * k + v by omega]
   rfl) (fun i v a b s => by unfold Xji; rw [Xap (by simp)])
 rw [e1, Xab, rqA, e2, Xab]
theorem Ymc (p : List Int) (hp : p.length = 64) (i v : Nat) (hi : i < 8) (hv : v < 8) : Xp6 p i v = some (Ypq (Zbb p i v) 8) := by
 obtain ⟨o, e, h⟩ := Xqh (f := Xfm p i v) 8 (fun k s => s = Ypq (Zbb p i v) k) (by
  intro k s hk g
  subst g
  unfold Xfm
  simp only
  rw [syA, wkA (e := 8 * (i : Int)), wkA (e := 8 * (i : Int) + (k : Int)), rqA, Xxp v k hv hk, Xab, wkA (e := (k : Int) + 1), show (8 * (i : Int) + (k : Int)).toNat = 8 * i + k by omega, Int.mul_comm (p.getD _ _)]
  exact ⟨_, rfl, rfl⟩) (by intro s; unfold Xfm; rw [Xap (by simp)]) 0 rfl
 unfold Xp6
 rw [e, Xab, h]
theorem Xvg (p : List Int) (hp : p.length = 64) : Xky p = some (Yvt p) := by
 have hm : maxLen = 9223372036854775807 := rfl
 unfold Xky
 obtain ⟨o, e, ho⟩ := Xd6 (f := Xdz p) 8 (fun i s => s = (List.range (8 * i)).map fun j => Ypq (Zbb p (j / 8) (j % 8)) 8) (by
  intro i s hi g
  subst g
  obtain ⟨r, er, hr⟩ := Xd6 (f := Xd0 p ((i : Int), (List.range (8 * i)).map fun j => Ypq (Zbb p (j / 8) (j % 8)) 8)) 8 (fun v s => s = (List.range (8 * i + v)).map fun j => Ypq (Zbb p (j / 8) (j % 8)) 8) (by
   intro v s hv g
   subst g
   unfold Xd0
   simp only
   rw [syA, Ymc p hp i v hi hv, Xab, Xa2 (by simp only [List.length_singleton, List.length_map, List.length_range]; omega), wkA (e := (v : Int) + 1)]
   refine ⟨_, rfl, ?_⟩
   rw [show 8 * i + (v + 1) = (8 * i + v) + 1 by omega, List.range_succ, List.map_append, List.map_singleton, show (8 * i + v) / 8 = i by omega, show (8 * i + v) % 8 = v by omega]) (by intro s; unfold Xd0; rw [Xap (by simp)]) _ rfl
  rw [Nat.add_zero] at er
  unfold Xdz
  simp only
  rw [syA, er, Xab, wkA (e := (i : Int) + 1)]
  exact ⟨_, rfl, by rw [hr, show 8 * (i + 1) = 8 * i + 8 by omega]⟩) (by intro s; unfold Xdz; rw [Xap (by simp)]) [] rfl
 have ho' : o = Xuk p := by rw [ho]; rfl
 rw [e, Xab, ho']
 obtain ⟨o2, e2, ho2⟩ := Xd6 (f := Xdh (Xuk p)) 8 (fun i s => s = (List.range (8 * i)).map fun j => Ypq (Zaw (Xuk p) (j / 8) (j % 8)) 8) (by
  intro i s hi g
  subst g
  obtain ⟨r, er, hr⟩ := Xd6 (f := Xdi (Xuk p) ((i : Int), (List.range (8 * i)).map fun j => Ypq (Zaw (Xuk p) (j / 8) (j % 8)) 8)) 8 (fun v s => s = (List.range (8 * i + v)).map fun j => Ypq (Zaw (Xuk p) (j / 8) (j % 8)) 8) (by
   intro v s hv g
   obtain ⟨c, ec, hc⟩ := Xqh (f := Xdj (Xuk p) ((i : Int), (List.range (8 * i)).map fun j => Ypq (Zaw (Xuk p) (j / 8) (j % 8)) 8) ((v : Int), s)) 8 (fun k x => x = Ypq (Zaw (Xuk p) i v) k) (by
    intro k x hk g
    subst g
    have hl := Yqi p
    unfold Xdj
    simp only
    rw [syA, Xxp i k hi hk, Xab, wkA (e := 8 * (k : Int)), wkA (e := 8 * (k : Int) + (v : Int)), rqA, rqA, wkA (e := (k : Int) + 1), show (8 * (k : Int) + (v : Int)).toNat = 8 * k + v by omega]
    exact ⟨_, rfl, rfl⟩) (by intro s; unfold Xdj; rw [Xap (by simp)]) 0 rfl
   subst g
   unfold Xdi
   simp only
   rw [syA, ec, Xab, Xa2 (by simp only [List.length_singleton, List.length_map, List.length_range]; omega), wkA (e := (v : Int) + 1)]
   refine ⟨_, rfl, ?_⟩
   rw [hc, show 8 * i + (v + 1) = (8 * i + v) + 1 by omega, List.range_succ, List.map_append, List.map_singleton, show (8 * i + v) / 8 = i by omega, show (8 * i + v) % 8 = v by omega]) (by intro s; unfold Xdi; rw [Xap (by simp)]) _ rfl
  rw [Nat.add_zero] at er
  unfold Xdh
  simp only
  rw [syA, er, Xab, wkA (e := (i : Int) + 1)]
  exact ⟨_, rfl, by rw [hr, show 8 * (i + 1) = 8 * i + 8 by omega]⟩) (by intro s; unfold Xdh; rw [Xap (by simp)]) [] rfl
 rw [e2, Xab, ho2]
 rfl
theorem Xrn (l : List Int) (n B : Int) (hn : (l.length : Int) = n) (hn2 : n ≤ 1000000) (h : inB B l) : Xbu l n (-B) B = some true := by
 rw [Xld l n (-B) B (by omega), hn, beq_self_eq_true, Bool.and_true]
 congr 1
 rw [List.all_eq_true]
 intro x hx
 rw [decide_eq_true_eq]; exact h x hx
theorem Ya0 (o : List Int) {f : Int × List Int → Option (Lp (Int × List Int) (List Int))} (n : Nat) (hn : n ≤ 64) (hl : o.length = n) (hf : ∀ v : Int × List Int, f v = sel (decide (v.1 < (n : Int))) (req (0 ≤ v.1 ∧ v.1 < v.2.length) <| req (v.1.toNat < v.2.length) <| bnd (Xeb (Xaa .i64 ((v.2.getD v.1.toNat 0) + 32)) 64) fun q => req (0 ≤ v.1 ∧ v.1 < v.2.length) <| req (v.1.toNat < v.2.length) <| some (.go (Xaa .i64 (v.1 + 1), (v.2.set v.1.toNat q)))) (some (.done v.2))) : bnd (Xkq o) (fun q => some q.2) = bnd (loop f (0, o)) fun q => some q := by
 unfold Xkq
 have : Xpv o = f := by
  funext v
  rw [hf, ← hl]; rfl
 rw [this]
 cases loop f (0, o) <;> rfl
theorem Ygk (p : List Int) (hl : p.length = 64) (hb : inB 10000000 p) : Xjd p = Xjn p := by
 unfold Xjd Xjn
 rw [Xrn p 64 10000000 (by omega) (by omega) hb, Xcc p 64 10000000 (by omega) (by omega) (by omega) hb, Xab, Xab, Bool.not_true, Xao, Xao, Ydp p hl, Xvg p hl, Xab, Xab]
 exact Ya0 (Yvt p) 64 (by omega) (Yx3 p) (fun _ => rfl)
theorem Yrx (p : List Int) (hl : p.length = 64) (hb : inB 1000 p) : Xrr p = Xsd p := by
 unfold Xrr Xsd
 rw [Xrn p 64 1000 (by omega) (by omega) hb, Xcc p 64 1000 (by omega) (by omega) (by omega) hb, Xab, Xab, Bool.not_true, Xao, Xao, Ydp p hl, Xvg p hl, Xab]
def tgA (q : Int → Int → Int → Int → Option (Int × Int × Int × Int)) (v4 : (Int × (List Int))) : Option (Lp (Int × (List Int)) (List Int)) :=
 sel (decide (v4.1 < 16)) (
 req (0 ≤ v4.1 ∧ v4.1 < v4.2.length) <|
 req (v4.1.toNat < v4.2.length) <|
 req (0 ≤ (Xaa .i64 (v4.1 + 1)) ∧ (Xaa .i64 (v4.1 + 1)) < v4.2.length) <|
 req ((Xaa .i64 (v4.1 + 1)).toNat < v4.2.length) <|
 req (0 ≤ (Xaa .i64 (v4.1 + 2)) ∧ (Xaa .i64 (v4.1 + 2)) < v4.2.length) <|
 req ((Xaa .i64 (v4.1 + 2)).toNat < v4.2.length) <|
 req (0 ≤ (Xaa .i64 (v4.1 + 3)) ∧ (Xaa .i64 (v4.1 + 3)) < v4.2.length) <|
 req ((Xaa .i64 (v4.1 + 3)).toNat < v4.2.length) <|
 bnd (q (v4.2.getD v4.1.toNat 0) (v4.2.getD ((Xaa .i64 (v4.1 + 1)).toNat) 0) (v4.2.getD ((Xaa .i64 (v4.1 + 2)).toNat) 0) (v4.2.getD ((Xaa .i64 (v4.1 + 3)).toNat) 0)) fun q8 =>
 req (0 ≤ v4.1 ∧ v4.1 ≤ (Xaa .i64 (v4.1 + 4)) ∧ (Xaa .i64 (v4.1 + 4)) ≤ (v4.2.length : Int)) <|
 req ((v4.1.toNat + ((Xaa .i64 (v4.1 + 4)).toNat - v4.1.toNat) ≤ v4.2.length ∧ ([q8.1, q8.2.1, q8.2.2.1, q8.2.2.2]).length ≤ ((Xaa .i64 (v4.1 + 4)).toNat - v4.1.toNat))) <|
 some (.go (Xaa .i64 (v4.1 + 4), (over v4.2 v4.1.toNat ([q8.1, q8.2.1, q8.2.2.1, q8.2.2.2]))))) (
 some (.done v4.2))
def tgB (v17 : (Int × (List Int))) (q26 : (Int × Int × Int × Int)) (v28 : (Int × (List Int))) : Option (Lp (Int × (List Int)) (List Int)) :=
 sel (decide (v28.1 < 4)) (
 req (0 ≤ v28.1 ∧ v28.1 < ([q26.1, q26.2.1, q26.2.2.1, q26.2.2.2] : List Int).length) <|
 req (0 ≤ (Xaa .i64 (v17.1 + (Xaa .i64 (4 * v28.1)))) ∧ (Xaa .i64 (v17.1 + (Xaa .i64 (4 * v28.1)))) < v28.2.length) <|
 req ((Xaa .i64 (v17.1 + (Xaa .i64 (4 * v28.1)))).toNat < v28.2.length) <|
 some (.go (Xaa .i64 (v28.1 + 1), (v28.2.set ((Xaa .i64 (v17.1 + (Xaa .i64 (4 * v28.1)))).toNat) (([q26.1, q26.2.1, q26.2.2.1, q26.2.2.2] : List Int).getD v28.1.toNat 0))))) (
 some (.done v28.2))
noncomputable def tgC (q : Int → Int → Int → Int → Option (Int × Int × Int × Int)) (v17 : (Int × (List Int))) : Option (Lp (Int × (List Int)) (List Int)) :=
 sel (decide (v17.1 < 4)) (
 req (0 ≤ v17.1 ∧ v17.1 < v17.2.length) <|
 req (v17.1.toNat < v17.2.length) <|
 req (0 ≤ (Xaa .i64 (v17.1 + 4)) ∧ (Xaa .i64 (v17.1 + 4)) < v17.2.length) <|
 req ((Xaa .i64 (v17.1 + 4)).toNat < v17.2.length) <|
 req (0 ≤ (Xaa .i64 (v17.1 + 8)) ∧ (Xaa .i64 (v17.1 + 8)) < v17.2.length) <|
 req ((Xaa .i64 (v17.1 + 8)).toNat < v17.2.length) <|
 req (0 ≤ (Xaa .i64 (v17.1 + 12)) ∧ (Xaa .i64 (v17.1 + 12)) < v17.2.length) <|
 req ((Xaa .i64 (v17.1 + 12)).toNat < v17.2.length) <|
 bnd (q (v17.2.getD v17.1.toNat 0) (v17.2.getD ((Xaa .i64 (v17.1 + 4)).toNat) 0) (v17.2.getD ((Xaa .i64 (v17.1 + 8)).toNat) 0) (v17.2.getD ((Xaa .i64 (v17.1 + 12)).toNat) 0)) fun q26 =>
 bnd (loop (tgB v17 q26) (0, v17.2)) fun v30 =>
 some (.go (Xaa .i64 (v17.1 + 1), v30))) (
 some (.done v17.2))
noncomputable def Yz1 (q : Int → Int → Int → Int → Option (Int × Int × Int × Int)) (p0 : (List Int)) : Option (List Int) :=
 bnd (Xd3 p0) fun q1 =>
 bnd (loop (tgA q) (0, q1)) fun v7 =>
 bnd (loop (tgC q) (0, v7)) fun v25 =>
 some v25
theorem Yx5 : Xcy = Yz1 Xei := rfl
theorem Yx6 : Xd5 = Yz1 Xmd := rfl
abbrev Q4 := Int × Int × Int × Int
def Yra (q : Q4) (i : Nat) : Int := [q.1, q.2.1, q.2.2.1, q.2.2.2].getD i 0
def Xwm (t : Int → Int → Int → Int → Q4) (p : List Int) : List Int := (List.range 16).map fun j => Yra (t (p.getD (4 * (j / 4)) 0) (p.getD (4 * (j / 4) + 1) 0) (p.getD (4 * (j / 4) + 2) 0) (p.getD (4 * (j / 4) + 3) 0)) (j % 4)
def Xzc (p : List Int) : List Int := (List.range 16).map fun j => p.getD (j % 4 * 4 + j / 4) 0
theorem Xsb (t : Int → Int → Int → Int → Q4) (p : List Int) : (Xwm t p).length = 16 := by simp [Xwm]
theorem Xuj (p : List Int) : (Xzc p).length = 16 := by simp [Xzc]
theorem Yq8 {l m : List Int} {i : Nat} (h : i + m.length ≤ l.length) (j : Nat) : (over l i m).getD j 0 = if i ≤ j ∧ j < i + m.length then m.getD (j - i) 0 else l.getD j 0 := by
 rw [List.getD_eq_getElem?_getD, Ygd h]
 split <;> rw [List.getD_eq_getElem?_getD]
theorem Yug {q : Int → Int → Int → Int → Option Q4} {t : Int → Int → Int → Int → Q4} (hq : ∀ a b c d, q a b c d = some (t a b c d)) (p : List Int) (hp : p.length = 16) : Yz1 q p = some (Xzc (Xwm t (Xzc (Xwm t p)))) := by
 have hm : maxLen = 9223372036854775807 := rfl
 unfold Yz1 Xd3
 rw [Xa2 (by simp only [List.length_nil]; omega), Xab, List.nil_append]
 have hA : loop (tgA q) (0, p) = some (Xwm t p) := by
  have key : ∀ r : Nat, r ≤ 4 → ∀ s : List Int, s.length = 16 → (∀ j, j < 4 * r → s.getD j 0 = (Xwm t p).getD j 0) → (∀ j, 4 * r ≤ j → s.getD j 0 = p.getD j 0) → loop (tgA q) (((4 * r : Nat) : Int), s) = some (Xwm t p) := by
   refine Xgp _ ?_ ?_
   ·
    intro s h1 h2 _
    refine Xf9 ?_
    unfold tgA
    rw [Xap (by simp), Xrd h1 (Xsb t p) h2]
   ·
    intro r hr ih s h1 h2 h3
    refine lgo (y := (((4 * (r + 1) : Nat) : Int), over s (4 * r) [Yra (t (p.getD (4 * r) 0) (p.getD (4 * r + 1) 0) (p.getD (4 * r + 2) 0) (p.getD (4 * r + 3) 0)) 0, Yra (t (p.getD (4 * r) 0) (p.getD (4 * r + 1) 0) (p.getD (4 * r + 2) 0) (p.getD (4 * r + 3) 0)) 1, Yra (t (p.getD (4 * r) 0) (p.getD (4 * r + 1) 0) (p.getD (4 * r + 2) 0) (p.getD (4 * r + 3) 0)) 2, Yra (t (p.getD (4 * r) 0) (p.getD (4 * r + 1) 0) (p.getD (4 * r + 2) 0) (p.getD (4 * r + 3) 0)) 3])) ?_ (ih _ ?_ ?_ ?_)
    ·
     unfold tgA
     simp only
     rw [syA, wkA (e := ((4 * r : Nat) : Int) + 1), wkA (e := ((4 * r : Nat) : Int) + 2), wkA (e := ((4 * r : Nat) : Int) + 3), wkA (e := ((4 * r : Nat) : Int) + 4)]
     rw [rqA, rqA, rqA, rqA, rqA, rqA, rqA, rqA, hq, Xab, rqA, Xa2 (by simp only [List.length_cons, List.length_nil]; omega)]
     rw [show (((4 * r : Nat) : Int) + 1).toNat = 4 * r + 1 by omega, show (((4 * r : Nat) : Int) + 2).toNat = 4 * r + 2 by omega, show (((4 * r : Nat) : Int) + 3).toNat = 4 * r + 3 by omega, Int.toNat_natCast, h3 _ (by omega), h3 _ (by omega), h3 _ (by omega), h3 _ (by omega)]
     rfl
    ·
     rw [Xs8 (by simp only [List.length_cons, List.length_nil]; omega)]; exact h1
    ·
     intro j hj
     rw [Yq8 (by simp only [List.length_cons, List.length_nil]; omega)]
     simp only [List.length_cons, List.length_nil]
     by_cases h : 4 * r ≤ j
     ·
      rw [if_pos (by omega)]
      unfold Xwm
      rw [Xft _ (by omega), show 4 * (j / 4) = 4 * r by omega]
      obtain h | h | h | h : j = 4 * r ∨ j = 4 * r + 1 ∨ j = 4 * r + 2 ∨ j = 4 * r + 3 := by omega
      ·
       rw [h, show 4 * r - 4 * r = 0 by omega, show (4 * r) % 4 = 0 by omega]; rfl
      ·
       rw [h, show 4 * r + 1 - 4 * r = 1 by omega, show (4 * r + 1) % 4 = 1 by omega]; rfl
      ·
       rw [h, show 4 * r + 2 - 4 * r = 2 by omega, show (4 * r + 2) % 4 = 2 by omega]; rfl
      ·
       rw [h, show 4 * r + 3 - 4 * r = 3 by omega, show (4 * r + 3) % 4 = 3 by omega]; rfl
     ·
      rw [if_neg (by omega)]; exact h2 j (by omega)
    ·
     intro j hj
     rw [Yq8 (by simp only [List.length_cons, List.length_nil]; omega), if_neg (by simp only [List.length_cons, List.length_nil]; omega)]
     exact h3 j (by omega)
  exact key 0 (by omega) p hp (fun j hj => by omega) fun _ _ => rfl
 rw [hA, Xab]
 generalize hR : Xwm t p = R
 have hl : R.length = 16 := by rw [← hR]; exact Xsb t p
 have hC : loop (tgC q) (0, R) = some (Xzc (Xwm t (Xzc R))) := by
  have at4 : ∀ j : Nat, j < 16 → (Xzc (Xwm t (Xzc R))).getD j 0 = Yra (t (R.getD (j % 4) 0) (R.getD (j % 4 + 4) 0) (R.getD (j % 4 + 8) 0) (R.getD (j % 4 + 12) 0)) (j / 4) := by
   intro j hj
   rw [Xzc, Xft _ hj, Xwm, Xft _ (by omega), Xzc, Xft _ (by omega), Xft _ (by omega), Xft _ (by omega), Xft _ (by omega)]
   rw [show (j % 4 * 4 + j / 4) / 4 = j % 4 by omega, show (j % 4 * 4 + j / 4) % 4 = j / 4 by omega, show 4 * (j % 4) % 4 * 4 + 4 * (j % 4) / 4 = j % 4 by omega, show (4 * (j % 4) + 1) % 4 * 4 + (4 * (j % 4) + 1) / 4 = j % 4 + 4 by omega, show (4 * (j % 4) + 2) % 4 * 4 + (4 * (j % 4) + 2) / 4 = j % 4 + 8 by omega, show (4 * (j % 4) + 3) % 4 * 4 + (4 * (j % 4) + 3) / 4 = j % 4 + 12 by omega]
  obtain ⟨o, e, o1, o2, _⟩ := Xfh (f := tgC q) 4 (fun c s => s.length = 16 ∧ (∀ j, j < 16 → j % 4 < c → s.getD j 0 = (Xzc (Xwm t (Xzc R))).getD j 0) ∧ ∀ j, j < 16 → c ≤ j % 4 → s.getD j 0 = R.getD j 0) (by
   intro c s hc ⟨g1, g2, g3⟩
   obtain ⟨r, er, r1, r2, r3⟩ := Xfh (f := tgB ((c : Int), s) (t (R.getD c 0) (R.getD (c + 4) 0) (R.getD (c + 8) 0) (R.getD (c + 12) 0))) 4 (fun i s' => s'.length = 16 ∧ (∀ j, j < 16 → j % 4 ≠ c → s'.getD j 0 = s.getD j 0) ∧ ∀ j, j < 16 → j % 4 = c → j / 4 < i → s'.getD j 0 = Yra (t (R.getD c 0) (R.getD (c + 4) 0) (R.getD (c + 8) 0) (R.getD (c + 12) 0)) (j / 4)) (by
    intro i s' hi ⟨k1, k2, k3⟩
    unfold tgB
    simp only
    rw [syA, Xa2 (by simp only [List.length_cons, List.length_nil]; omega), wkA (e := 4 * (i : Int)), wkA (e := (c : Int) + 4 * (i : Int)), rqA, rqA, wkA (e := (i : Int) + 1), show ((c : Int) + 4 * (i : Int)).toNat = c + 4 * i by omega, Int.toNat_natCast]
    refine ⟨_, rfl, by rw [List.length_set]; exact k1, fun j hj hjc => ?_, fun j hj hjc hji => ?_⟩
    ·
     rw [Xeg _ _ _ _ (by omega), if_neg (by omega)]; exact k2 j hj hjc
    ·
     rw [Xeg _ _ _ _ (by omega)]
     by_cases h : c + 4 * i = j
     ·
      rw [if_pos h, show j / 4 = i by omega]; rfl
     ·
      rw [if_neg h]; exact k3 j hj hjc (by omega)) (fun z _ => by unfold tgB; rw [Xap (by simp)]) s ⟨g1, fun _ _ _ => rfl, fun j hj hjc hji => by omega⟩
   unfold tgC
   simp only
   rw [syA, wkA (e := (c : Int) + 4), wkA (e := (c : Int) + 8), wkA (e := (c : Int) + 12), rqA, rqA, rqA, rqA, rqA, rqA, rqA, rqA, hq, Xab, show ((c : Int) + 4).toNat = c + 4 by omega, show ((c : Int) + 8).toNat = c + 8 by omega, show ((c : Int) + 12).toNat = c + 12 by omega, Int.toNat_natCast, g3 c (by omega) (by omega), g3 (c + 4) (by omega) (by omega), g3 (c + 8) (by omega) (by omega), g3 (c + 12) (by omega) (by omega), er, Xab, wkA (e := (c : Int) + 1)]
   refine ⟨r, rfl, r1, fun j hj hjc => ?_, fun j hj hjc => ?_⟩
   ·
    by_cases h : j % 4 = c
    ·
     rw [r3 j hj h (by omega), at4 j hj, h]
    ·
     rw [r2 j hj h]; exact g2 j hj (by omega)
   ·
    rw [r2 j hj (by omega)]; exact g3 j hj (by omega)) (fun z _ => by unfold tgC; rw [Xap (by simp)]) R ⟨hl, fun j hj hjc => by omega, fun _ _ _ => rfl⟩
  rw [e]
  congr 1
  exact Xrd o1 (Xuj _) fun j hj => o2 j hj (by omega)
 rw [hC, Xab]
theorem Xl0 (p : List Int) (hl : p.length = 16) : Xgl p = some (Xzc p) := by
 unfold Xgl
 rw [rqA]
 obtain ⟨o, e, o1, o2⟩ := Xfh (f := Xer p) 16 (fun i s => s.length = 16 ∧ ∀ j, j < 16 → j % 4 * 4 + j / 4 < i → s.getD j 0 = p.getD (j % 4 * 4 + j / 4) 0) (by
  intro i s hi ⟨g1, g2⟩
  unfold Xer
  simp only
  rw [syA, rqA, rqA, rqA, Xb2 (by omega), Xbn (by omega), wkA (e := (i : Int) / 4), wkA (e := (i : Int) % 4 * 4), wkA (e := (i : Int) % 4 * 4 + (i : Int) / 4), rqA, rqA, wkA (e := (i : Int) + 1), Int.toNat_natCast, show ((i : Int) % 4 * 4 + (i : Int) / 4).toNat = i % 4 * 4 + i / 4 by omega]
  refine ⟨_, rfl, by rw [List.length_set]; exact g1, fun j hj hji => ?_⟩
  rw [Xeg _ _ _ _ (by omega)]
  by_cases h : i % 4 * 4 + i / 4 = j
  ·
   rw [if_pos h, show j % 4 * 4 + j / 4 = i by omega]
  ·
   rw [if_neg h]; exact g2 j hj (by omega)) (fun z _ => by unfold Xer; rw [Xap (by simp)]) (List.replicate (16 : Int).toNat 0) ⟨by simp, fun j hj h => by omega⟩
 rw [e, Xab]
 congr 1
 exact Xrd o1 (Xuj p) fun j hj => by rw [o2 j hj (by omega), Xzc, Xft _ hj]
theorem Yrg {f : Int × List Int → Option (Lp (Int × List Int) (List Int))} {t : Int → Int → Int → Int → Q4} (p : List Int) (h : ∀ (i : Nat) (s : List Int), i < 4 → s.length = 4 * i → f ((i : Int), s) = some (.go (((i + 1 : Nat) : Int), s ++ [(t (p.getD (4 * i) 0) (p.getD (4 * i + 1) 0) (p.getD (4 * i + 2) 0) (p.getD (4 * i + 3) 0)).1, (t (p.getD (4 * i) 0) (p.getD (4 * i + 1) 0) (p.getD (4 * i + 2) 0) (p.getD (4 * i + 3) 0)).2.1, (t (p.getD (4 * i) 0) (p.getD (4 * i + 1) 0) (p.getD (4 * i + 2) 0) (p.getD (4 * i + 3) 0)).2.2.1, (t (p.getD (4 * i) 0) (p.getD (4 * i + 1) 0) (p.getD (4 * i + 2) 0) (p.getD (4 * i + 3) 0)).2.2.2]))) (he : ∀ s, f (4, s) = some (.done s)) : loop f (0, []) = some (Xwm t p) := by
 obtain ⟨o, e, ho⟩ := Xfh (f := f) 4 (fun i s => s = (List.range (4 * i)).map fun j => Yra (t (p.getD (4 * (j / 4)) 0) (p.getD (4 * (j / 4) + 1) 0) (p.getD (4 * (j / 4) + 2) 0) (p.getD (4 * (j / 4) + 3) 0)) (j % 4)) (by
  intro i s hi g
  refine ⟨_, h i s hi (by rw [g]; simp), ?_⟩
  rw [g, show 4 * (i + 1) = 4 * i + 1 + 1 + 1 + 1 by omega]
  simp only [List.range_succ, List.map_append, List.map_singleton, List.append_assoc]
  rw [show (4 * i + 1 + 1 + 1) / 4 = i by omega, show (4 * i + 1 + 1) / 4 = i by omega, show (4 * i + 1) / 4 = i by omega, show 4 * i / 4 = i by omega, show (4 * i + 1 + 1 + 1) % 4 = 3 by omega, show (4 * i + 1 + 1) % 4 = 2 by omega, show (4 * i + 1) % 4 = 1 by omega, show 4 * i % 4 = 0 by omega]
  rfl) (fun z _ => he z) [] rfl
 rw [e, ho]; rfl
def t4F (a b c d : Int) : Q4 := (Xaa .i64 ((Xaa .i64 ((Xaa .i64 (a + b)) + c)) + d), Xaa .i64 ((Xaa .i64 ((Xaa .i64 ((Xaa .i64 (2 * a)) + b)) - c)) - (Xaa .i64 (2 * d))), Xaa .i64 ((Xaa .i64 ((Xaa .i64 (a - b)) - c)) + d), Xaa .i64 ((Xaa .i64 ((Xaa .i64 (a - (Xaa .i64 (2 * b)))) + (Xaa .i64 (2 * c)))) - d))
theorem Yku (a b c d : Int) : Xmd a b c d = some (t4F a b c d) := rfl
def Ymo (a b : Int) : Int := Xaa .i64 (if a.tmod b < 0 then Xaa .i64 (a.tdiv b) - 1 else a.tdiv b)
theorem Xvv (a b : Int) (hb : b ≠ 0) : Xeb a b = some (Ymo a b) := by
 unfold Xeb Ymo
 rw [Xa2 hb, Xa2 hb, Yst]
 split <;> rfl
def t4B (a b c d : Int) : Q4 := (Xaa .i64 ((Xaa .i64 (a + c)) + (Xaa .i64 (b + Ymo d 2))), Xaa .i64 ((Xaa .i64 (a - c)) + (Xaa .i64 (Ymo b 2 - d))), Xaa .i64 ((Xaa .i64 (a - c)) - (Xaa .i64 (Ymo b 2 - d))), Xaa .i64 ((Xaa .i64 (a + c)) - (Xaa .i64 (b + Ymo d 2))))
theorem Xzk (a b c d : Int) : Xei a b c d = some (t4B a b c d) := by
 unfold Xei
 rw [Ysb, Xvv b 2 (by omega), Xvv d 2 (by omega), Xab, Xab]; rfl
theorem Xt2 (p : List Int) (hl : p.length = 16) : Xi0 p = some (Xwm t4B p) := by
 have hm : maxLen = 9223372036854775807 := rfl
 unfold Xi0
 rw [Yrg (f := Xdy p) (t := t4B) p (by
  intro i s hi hs
  unfold Xdy
  simp only
  rw [syA, wkA (e := 4 * (i : Int)), wkA (e := 4 * (i : Int) + 1), wkA (e := 4 * (i : Int) + 2), wkA (e := 4 * (i : Int) + 3), rqA, rqA, rqA, rqA, show (4 * (i : Int)).toNat = 4 * i by omega, show (4 * (i : Int) + 1).toNat = 4 * i + 1 by omega, show (4 * (i : Int) + 2).toNat = 4 * i + 2 by omega, show (4 * (i : Int) + 3).toNat = 4 * i + 3 by omega, Xvv _ 2 (by omega), Xab, Xvv _ 2 (by omega), Xab, wkA (e := (i : Int) + 1), Xa2 (by simp only [List.length_cons, List.length_nil]; omega)]
  rfl) (by intro s; unfold Xdy; rw [Xap (by simp)]), Xab]
theorem Xve (p : List Int) (hl : p.length = 16) : Xkx p = some (Xwm t4F p) := by
 have hm : maxLen = 9223372036854775807 := rfl
 unfold Xkx
 rw [Yrg (f := Xes p) (t := t4F) p (by
  intro i s hi hs
  unfold Xes
  simp only
  rw [syA, wkA (e := 4 * (i : Int)), wkA (e := 4 * (i : Int) + 1), wkA (e := 4 * (i : Int) + 2), wkA (e := 4 * (i : Int) + 3), rqA, rqA, rqA, rqA, show (4 * (i : Int)).toNat = 4 * i by omega, show (4 * (i : Int) + 1).toNat = 4 * i + 1 by omega, show (4 * (i : Int) + 2).toNat = 4 * i + 2 by omega, show (4 * (i : Int) + 3).toNat = 4 * i + 3 by omega, wkA (e := (i : Int) + 1), Xa2 (by simp only [List.length_cons, List.length_nil]; omega)]
  rfl) (by intro s; unfold Xes; rw [Xap (by simp)]), Xab]
theorem Ykc (p : List Int) (hl : p.length = 16) (hb : inB 10000000 p) : Xk5 p = Xls p := by
 unfold Xk5 Xls
 rw [Xrn p 16 10000000 (by omega) (by omega) hb, Xcc p 16 10000000 (by omega) (by omega) (by omega) hb, Xab, Xab, Bool.not_true, Xao, Xao, Yx5, Yug Xzk p hl, Xt2 p hl, Xab, Xab, Xl0 _ (Xsb _ _), Xab, Xt2 _ (Xuj _), Xab, Xl0 _ (Xsb _ _), Xab]
 exact Ya0 _ 16 (by omega) (Xuj _) (fun _ => rfl)
theorem Yul (p : List Int) (hl : p.length = 16) (hb : inB 1000 p) : Xuo p = Xu6 p := by
 unfold Xuo Xu6
 rw [Xrn p 16 1000 (by omega) (by omega) hb, Xcc p 16 1000 (by omega) (by omega) (by omega) hb, Xab, Xab, Bool.not_true, Xao, Xao, Yx6, Yug Yku p hl, Xve p hl, Xab, Xab, Xl0 _ (Xsb _ _), Xab, Xve _ (Xuj _), Xab, Xl0 _ (Xsb _ _), Xab]
theorem Yvf {β : Type} {c : Prop} [Decidable c] {k k' : Option β} (h : c → k = k') : req c k = req c k' := by
 by_cases hc : c
 ·
  rw [Xa2 hc, Xa2 hc, h hc]
 ·
  unfold req; rw [if_neg hc, if_neg hc]
theorem Xmb {β : Type} {c : Prop} [Decidable c] {k k' : Option β} (h0 : c) (h : k = k') : req c k = k' := by rw [Xa2 h0, h]
theorem Yay {β : Type} {b : Bool} {x x' y y' : β} (h : b = true → x = x') (h2 : b = false → y = y') : sel b x y = sel b x' y' := by
 cases b
 ·
  exact h2 rfl
 ·
  exact h rfl
theorem Yus {α β : Type} {x x' : Option α} {f f' : α → Option β} (h : x = x') (h2 : ∀ a, x' = some a → f a = f' a) : bnd x f = bnd x' f' := by
 subst h
 cases x with
 | none => rfl
 | some a => exact h2 a rfl
theorem Yw6 {V O : Type} {f : V → Option (Lp V O)} (I : V → Prop) (J : O → Prop) (h1 : ∀ v v', I v → f v = some (.go v') → I v') (h2 : ∀ v o, I v → f v = some (.done o) → J o) {v : V} {o : O} (h : loop f v = some o) (hv : I v) : J o := by
 obtain ⟨k, hk⟩ := Xi5.1 h
 clear h
 induction k generalizing v with
 | zero => cases hk
 | succ k ih =>
  rw [it] at hk
  cases e : f v with
  | none => rw [e] at hk; cases hk
  | some s =>
   rw [e] at hk
   cases s with
   | go y => exact ih (h1 v y hv e) hk
   | done o' => cases hk; exact h2 v o hv e
theorem Ygm (l qp p : Int) (h0 : 0 ≤ qp ∧ qp ≤ 40) (hp : 0 ≤ p ∧ p ≤ 15) : Xjf l qp p = Xjp l qp p := by
 unfold Xjf Xjp
 rw [Xak, Xaj, Yne qp p h0 hp]
theorem Ygl (l qp : Int) (h0 : 0 ≤ qp ∧ qp ≤ 40) : Xje l qp = Xjo l qp := by
 unfold Xje Xjo
 rw [Xak, Xaj, Ydf qp h0]
theorem Yjk (x : Int) (h : -1000000000000 ≤ x ∧ x ≤ 1000000000000) : Xny x = Xgx x := by
 unfold Xny Xgx
 rw [wkA]
 by_cases hx : x < 0
 ·
  rw [Xbh hx, if_pos (by omega)]
 ·
  rw [Xap hx, if_neg (by omega)]
theorem Yxr : ∀ q : Fin 41, ∀ p : Fin 16, Xnv (q.val : Int) (p.val : Int) = Xn4 (q.val : Int) (p.val : Int) := by decide +kernel
theorem Ynf (qp p : Int) (h0 : 0 ≤ qp ∧ qp ≤ 40) (hp : 0 ≤ p ∧ p ≤ 15) : Xnv qp p = Xn4 qp p := by
 have := Yxr ⟨qp.toNat, by omega⟩ ⟨p.toNat, by omega⟩
 simp only at this
 rwa [show ((qp.toNat : Nat) : Int) = qp by omega, show ((p.toNat : Nat) : Int) = p by omega] at this
theorem Yrp (x w : Int) : Xpw x w = Xjs w x := rfl
theorem Yd1 (w qp : Int) (h0 : 0 ≤ qp ∧ qp ≤ 40) : Xht w qp = Xie w qp := by
 unfold Xht Xie
 rw [Xak, Xaj, Xak, Xaj, Ydf qp h0]
 by_cases hw : -20000 ≤ w ∧ w ≤ 20000
 ·
  rw [Yjk w (by omega)]; rfl
 ·
  rw [decide_eq_false hw]; rfl
theorem Zeb (qp : Int) (h0 : 0 ≤ qp ∧ qp ≤ 40) : Xaa .u64 (Xaa .i64 (15 + (Xaa .i64 (qp.tdiv 6)))) = Xaa .i64 (15 + (Xaa .i64 (qp.tdiv 6))) := by
 have h : ∀ q : Fin 41, Xaa .u64 (Xaa .i64 (15 + (Xaa .i64 ((q.val : Int).tdiv 6)))) = Xaa .i64 (15 + (Xaa .i64 ((q.val : Int).tdiv 6))) := by decide +kernel
 have := h ⟨qp.toNat, by omega⟩
 simp only at this
 rwa [show ((qp.toNat : Nat) : Int) = qp by omega] at this
theorem Yd2 (w qp p : Int) (h0 : 0 ≤ qp ∧ qp ≤ 40) (hp : 0 ≤ p ∧ p ≤ 15) : Xhx w qp p = Xif w qp p := by
 unfold Xhx Xif
 have h15 := Zeb qp h0
 simp only [Xak, Xaj, Ynf qp p h0 hp, h15, Yrp]
 by_cases hw : -20000 ≤ w ∧ w ≤ 20000
 ·
  simp only [Yjk w (by omega)]
 ·
  simp only [decide_eq_false hw, Xab, Xao, Xat]
def Yau (k : Int) (v7 : Int × List Int) : Option (Lp (Int × List Int) (List Int)) :=
 sel (decide (v7.1 < 4)) (
 bnd (it (Xoi k v7) 10 (0, v7.2)) fun v18 =>
 some (.go (Xaa .i64 (v7.1 + 1), v18))) (
 some (.done v7.2))
theorem Yrd {k : Int} {v : Int × List Int} {x : Lp (Int × List Int) (List Int)} (h : Yau k v = some x) : Xj0 k v = some x := by
 unfold Yau at h
 unfold Xj0
 rcases Xj1 h with ⟨hb, h⟩ | ⟨hb, h⟩
 ·
  rw [hb, Xat]
  obtain ⟨a, h1, h2⟩ := Xbc h
  rw [Xi5.2 ⟨10, h1⟩, Xab]
  exact h2
 ·
  rw [hb, Xao]; exact h
def Xln (k : Int) : List Int := (it (Yau k) 10 (0, [])).getD []
def Xn1 (k i : Int) : Int := (Xaa .i64 ((Xaa .i64 ((Xaa .i64 (8 * (Xaa .i64 ((Xaa .i64 ((Xaa .i64 (k.tdiv 2)) * 4)) + (Xaa .i64 (i.tdiv 4)))))) + (Xaa .i64 ((k.tmod 2) * 4)))) + (i.tmod 4)))
theorem Ysp : ∀ k : Fin 4, (it (Yau (k.val : Int)) 10 (0, [])).isSome = true ∧ (Xln (k.val : Int)).length = 16 ∧ ∀ i : Fin 16, (Xln (k.val : Int)).getD i.val 0 = Xn1 (k.val : Int) (i.val : Int) ∧ 0 ≤ Xn1 (k.val : Int) (i.val : Int) ∧ Xn1 (k.val : Int) (i.val : Int) < 64 := by decide +kernel
theorem Xpt (k : Nat) (hk : k < 4) : Xkn k = some (Xln k) ∧ (Xln k).length = 16 ∧ ∀ i : Nat, i < 16 → (Xln k).getD i 0 = Xn1 k i ∧ 0 ≤ Xn1 k i ∧ Xn1 k i < 64 := by
 obtain ⟨h1, h2, h3⟩ := Ysp ⟨k, hk⟩
 refine ⟨?_, h2, fun i hi => h3 ⟨i, hi⟩⟩
 obtain ⟨o, ho⟩ := Option.isSome_iff_exists.1 h1
 have hl := Ysl 10 (Yy1 (fun v y => Yrd (k := (k : Int))) 10 _ ho)
 unfold Xkn
 rw [hl, Xab]
 unfold Xln; simp only at ho; rw [ho]; rfl
theorem Xto (p : List Int) (c : Xeu) (hc : Xho c = true) (hp : Yfh p = true) : Xhu p c = Xcg p c := by
 have hq := Xy7 hc
 obtain ⟨hl, hb⟩ := Yco hp
 unfold Xhu Xcg
 rw [Xdl, Xdk, Xry p (by omega), hp, hc, Xcc p 64 5000 (by omega) (by omega) (by omega) hb]
 simp only [Xab, Xat, Bool.not_true, Xao]
 rw [Xuf 8 (Or.inr rfl) p (by omega)]
 refine Yay (fun _ => rfl) fun _ => Yay (fun _ => ?_) fun _ => ?_
 ·
  obtain ⟨w, ew, w1, w2⟩ := Xgd 8 (Or.inr rfl) p 5000 (by omega) (by omega) hb
  rw [ew, Xab, Xab]
  have hloop : loop (Xe7 c (w, true)) (0, (w, true).1) = loop (Xbs c) (0, (w, true).1) := by
   have : Xe7 c (w, true) = Xbs c := by
    funext v
    unfold Xe7 Xbs
    simp only [Ygl _ _ hq, w1, hl]
    rfl
   rw [this]
  rw [hloop]
  obtain ⟨l, el, l1, l2⟩ := Xnd (f := Xbs c) 64 (fun x => -5000 ≤ x ∧ x ≤ 5000) (fun x => -5760000 ≤ x ∧ x ≤ 5760000) (by
   intro i l hi hll hx
   obtain ⟨d, ed, d1, d2⟩ := Xse (l.getD i 0) c.Qp hx hq
   unfold Xbs
   simp only [Int.toNat_natCast]
   rw [syA, rqA, rqA, ed, Xab, rqA, rqA, wkA (e := (i : Int) + 1)]
   exact ⟨d, rfl, d1, d2⟩) (by intro s; unfold Xbs; rw [Xap (by simp)]) w (by omega) w2
  simp only [el, Xab]
  rw [Ygk l l1 (Xqq l2 (by omega))]
 ·
  refine Yvf fun _ => Yus ?_ fun _ _ => rfl
  refine Xkt (fun v => (∃ k : Nat, v.1 = (k : Int) ∧ k ≤ 4) ∧ v.2.length = 64) ?_ ?_ ⟨⟨0, rfl, by omega⟩, by simp⟩
  ·
   intro ⟨k0, s⟩ ⟨⟨k, ek, hk⟩, hs⟩
   simp only at ek hs
   subst ek
   unfold Xj8 Xdg
   simp only
   refine Yay (fun hk4 => ?_) fun _ => rfl
   have hk4 : k < 4 := by have := of_decide_eq_true hk4; omega
   rw [wkA (e := 16 * (k : Int)), wkA (e := 16 * (k : Int) + 16)]
   refine Yvf fun _ => ?_
   rw [show (16 * (k : Int)).toNat = 16 * k by omega, show (16 * (k : Int) + 16).toNat - 16 * k = 16 by omega]
   have hcut : ((p.drop (16 * k)).take 16).length = 16 := by rw [List.length_take, List.length_drop]; omega
   obtain ⟨a, ea, a1, a2⟩ := Xgd 4 (Or.inl rfl) ((p.drop (16 * k)).take 16) 5000 (by omega) (by omega) (Ytk (Yti hb _) _)
   rw [Xuf 4 (Or.inl rfl) _ (by omega), ea, Xab, Xab]
   have hloop : loop (Xej c (a, true)) (0, (a, true).1) = loop (Xbm c) (0, (a, true).1) := by
    have : Xej c (a, true) = Xbm c := by
     funext v
     unfold Xej Xbm
     simp only [show ((a.length : Nat) : Int) = 16 by omega]
     refine Yay (fun h16 => ?_) fun _ => rfl
     have := of_decide_eq_true h16
     refine Yvf fun h0 => Yvf fun _ => ?_
     rw [Ygm _ _ _ hq (by omega)]
    rw [this]
   rw [hloop]
   obtain ⟨l, el, l1, l2⟩ := Xnd (f := Xbm c) 16 (fun x => -5000 ≤ x ∧ x ≤ 5000) (fun x => -10000000 ≤ x ∧ x ≤ 10000000) (by
    intro i l hi hll hx
    obtain ⟨d, ed, d1, d2⟩ := Xsi (l.getD i 0) c.Qp i hx hq (by omega)
    unfold Xbm
    simp only [Int.toNat_natCast]
    rw [syA, rqA, rqA, ed, Xab, rqA, rqA, wkA (e := (i : Int) + 1)]
    exact ⟨d, rfl, d1, d2⟩) (by intro s; unfold Xbm; rw [Xap (by simp)]) a (by omega) a2
   obtain ⟨b, eb, b1, b2⟩ := Xtz l l1 l2
   obtain ⟨q1, q2, q3⟩ := Xpt k hk4
   simp only [el, Xab]
   rw [Ykc l l1 l2, eb, Xab, Xab, q1, Xab]
   refine Yus ?_ fun _ _ => rfl
   have : Xgq b (Xln k) = Xbv ((k : Int), s) b := by
    funext v
    unfold Xgq Xbv
    simp only [show (((Xln k).length : Nat) : Int) = 16 by omega]
    refine Yay (fun h16 => ?_) fun _ => rfl
    have h16 := of_decide_eq_true h16
    by_cases h0 : 0 ≤ v.1
    ·
     obtain ⟨i, hi⟩ : ∃ i : Nat, v.1 = (i : Int) := ⟨v.1.toNat, by omega⟩
     obtain ⟨v1, v2⟩ := v
     simp only at hi h0 h16
     subst hi
     obtain ⟨r1, r2, r3⟩ := q3 i (by omega)
     have e1 : (Xaa .i64 ((Xaa .i64 ((Xaa .i64 (8 * (Xaa .i64 ((Xaa .i64 ((Xaa .i64 ((k : Int).tdiv 2)) * 4)) + (Xaa .i64 ((i : Int).tdiv 4)))))) + (Xaa .i64 (((k : Int).tmod 2) * 4)))) + ((i : Int).tmod 4))) = Xn1 k i := rfl
     simp only [Int.toNat_natCast, r1, e1]
     refine Xmb (by omega) (Xmb (by omega) (Xmb (by omega) (Xmb (by omega) ?_)))
     refine (Xmb (by omega) (Xmb (by omega) (Xmb (by omega) (Xmb (by omega) (Xmb (by omega) (Xmb (by omega) ?_)))))).symm
     rfl
    ·
     unfold req
     rw [if_neg (by omega), if_pos (by omega), if_pos (by omega), if_pos (by omega), if_pos (by omega), if_neg (by omega)]
   rw [this]
  ·
   intro ⟨k0, s⟩ v' ⟨⟨k, ek, hk⟩, hs⟩ he
   simp only at ek hs
   subst ek
   unfold Xdg at he
   simp only at he
   rcases Xj1 he with ⟨hb4, he⟩ | ⟨_, he⟩
   ·
    have hk4 : k < 4 := by have := of_decide_eq_true hb4; omega
    obtain ⟨_, he⟩ := Xax he
    obtain ⟨a, _, he⟩ := Xbc he
    obtain ⟨l, _, he⟩ := Xbc he
    obtain ⟨b, _, he⟩ := Xbc he
    obtain ⟨r, hr, he⟩ := Xbc he
    rw [wkA (e := (k : Int) + 1)] at he
    cases he
    refine ⟨⟨k + 1, rfl, by omega⟩, ?_⟩
    refine Yw6 (f := Xbv ((k : Int), s) b) (fun v => v.2.length = 64) (fun o => o.length = 64) ?_ ?_ hr hs
    ·
     intro v v' hv he
     unfold Xbv at he
     rcases Xj1 he with ⟨_, he⟩ | ⟨_, he⟩
     ·
      obtain ⟨_, he⟩ := Xax he
      obtain ⟨_, he⟩ := Xax he
      obtain ⟨_, he⟩ := Xax he
      obtain ⟨_, he⟩ := Xax he
      obtain ⟨_, he⟩ := Xax he
      obtain ⟨_, he⟩ := Xax he
      obtain ⟨_, he⟩ := Xax he
      obtain ⟨_, he⟩ := Xax he
      cases he
      simp only [List.length_set]; exact hv
     ·
      cases he
    ·
     intro v o hv he
     unfold Xbv at he
     rcases Xj1 he with ⟨_, he⟩ | ⟨_, he⟩
     ·
      obtain ⟨_, he⟩ := Xax he
      obtain ⟨_, he⟩ := Xax he
      obtain ⟨_, he⟩ := Xax he
      obtain ⟨_, he⟩ := Xax he
      obtain ⟨_, he⟩ := Xax he
      obtain ⟨_, he⟩ := Xax he
      obtain ⟨_, he⟩ := Xax he
      obtain ⟨_, he⟩ := Xax he
      cases he
     ·
      cases he; exact hv
   ·
    cases he
theorem Yos {S O : Type} {f g : Int × S → Option (Lp (Int × S) O)} (n : Nat) (I : Nat → S → Prop) (h : ∀ (i : Nat) (s : S), i ≤ n → I i s → f ((i : Int), s) = g ((i : Int), s)) (hI : ∀ (i : Nat) (s : S) (v' : Int × S), i ≤ n → I i s → g ((i : Int), s) = some (.go v') → v'.1 = ((i + 1 : Nat) : Int) ∧ i + 1 ≤ n ∧ I (i + 1) v'.2) {s0 : S} (h0 : I 0 s0) : loop f (0, s0) = loop g (0, s0) := by
 refine Xkt (fun v => ∃ i : Nat, v.1 = (i : Int) ∧ i ≤ n ∧ I i v.2) ?_ ?_ ⟨0, rfl, by omega, h0⟩
 ·
  intro ⟨k, s⟩ ⟨i, e, hi, hs⟩
  simp only at e hs
  subst e
  exact h i s hi hs
 ·
  intro ⟨k, s⟩ v' ⟨i, e, hi, hs⟩ he
  simp only at e hs
  subst e
  obtain ⟨a, b, c⟩ := hI i s v' hi hs he
  exact ⟨i + 1, a, b, c⟩
theorem Yre (p : List Int) (hl : p.length = 64) (k : Nat) (hk : k < 4) : loop (Xf1 p (Xln k)) (0, ([] : List Int)) = Xih p k := by
 obtain ⟨q1, q2, q3⟩ := Xpt k hk
 unfold Xih
 rw [Yos (f := Xf1 p (Xln k)) (g := Xce p k) 16 (fun _ _ => True) ?_ ?_ trivial]
 ·
  cases loop (Xce p k) (0, ([] : List Int)) <;> rfl
 ·
  intro i s hi _
  unfold Xf1 Xce
  simp only [show (((Xln k).length : Nat) : Int) = 16 by omega]
  refine Yay (fun h16 => ?_) fun _ => rfl
  have h16 := of_decide_eq_true h16
  obtain ⟨r1, r2, r3⟩ := q3 i (by omega)
  have e1 : (Xaa .i64 ((Xaa .i64 ((Xaa .i64 (8 * (Xaa .i64 ((Xaa .i64 ((Xaa .i64 ((k : Int).tdiv 2)) * 4)) + (Xaa .i64 ((i : Int).tdiv 4)))))) + (Xaa .i64 (((k : Int).tmod 2) * 4)))) + ((i : Int).tmod 4))) = Xn1 k i := rfl
  simp only [Int.toNat_natCast, r1, e1]
  refine Xmb (by omega) (Xmb (by omega) (Xmb (by omega) ?_))
  refine (Xmb (by omega) (Xmb (by omega) (Xmb (by omega) (Xmb (by omega) (Xmb (by omega) ?_))))).symm
  rfl
 ·
  intro i s v' hi _ he
  unfold Xce at he
  rcases Xj1 he with ⟨hb, he⟩ | ⟨_, he⟩
  ·
   have h16 := of_decide_eq_true hb
   simp only at h16 he
   obtain ⟨_, he⟩ := Xax he
   obtain ⟨_, he⟩ := Xax he
   obtain ⟨_, he⟩ := Xax he
   obtain ⟨_, he⟩ := Xax he
   obtain ⟨_, he⟩ := Xax he
   obtain ⟨_, he⟩ := Xax he
   injection he with he
   injection he with he
   subst he
   exact ⟨wkA, by omega, trivial⟩
  ·
   cases he
theorem Xwt (p : List Int) (c : Xeu) (hc : Xho c = true) (hl : p.length = 64) (hb : inB 255 p) : Xgr p c = Xc1 p c := by
 have hq := Xy7 hc
 unfold Xgr Xc1
 rw [Xdl, Xdk, Xrn p 64 255 (by omega) (by omega) hb, hc, Xcc p 64 255 (by omega) (by omega) (by omega) hb]
 simp only [Xab, Xat, Bool.not_true, Xao]
 rw [Xsq 8 (Or.inr rfl) p (by omega)]
 refine Yay (fun _ => rfl) fun _ => Yay (fun _ => ?_) fun _ => ?_
 ·
  obtain ⟨w, ew, w1⟩ := Ya3 p hl hb
  rw [Yrx p hl (Xqq hb (by omega)), ew, Xab, Xab]
  have : Xjv c w = Xcj c := by
   funext v
   unfold Xjv Xcj
   simp only [Yd1 _ _ hq, w1]
   rfl
  rw [this]
  obtain ⟨l, el, l1, l2⟩ := Xnd (f := Xcj c) 64 (fun _ => True) (fun x => -5000 ≤ x ∧ x ≤ 5000) (by
   intro i l hi hll _
   obtain ⟨d, ed, d1, d2⟩ := Xqx (l.getD i 0) c.Qp hq
   unfold Xcj
   simp only [Int.toNat_natCast]
   rw [syA, rqA, rqA, ed, Xab, rqA, rqA, wkA (e := (i : Int) + 1)]
   exact ⟨d, rfl, d1, d2⟩) (by intro s; unfold Xcj; rw [Xap (by simp)]) w w1 (fun _ _ => trivial)
  rw [el, Xab, Xab, Xsq 8 (Or.inr rfl) l (by omega)]
 ·
  refine Yus ?_ fun _ _ => rfl
  refine Yos 4 (fun _ _ => True) ?_ ?_ trivial
  ·
   intro k s hk _
   unfold Xmh Xee
   refine Yay (fun h4 => ?_) fun _ => rfl
   have hk4 : k < 4 := by have := of_decide_eq_true h4; simp only at this; omega
   obtain ⟨q1, q2, q3⟩ := Xpt k hk4
   simp only [q1, Xab]
   rw [Yre p hl k hk4]
   obtain ⟨a, ea, a1, a2⟩ := Xq0 p k hk4 255 hl hb
   obtain ⟨b, eb, b1, b2⟩ := Ydy a a1 a2
   rw [ea, Xab, Xab, Yul a a1 (Xqq a2 (by omega)), eb, Xab, Xab]
   have : Xil c b = Xcd c := by
    funext v
    unfold Xil Xcd
    simp only [show ((b.length : Nat) : Int) = 16 by omega]
    refine Yay (fun h16 => ?_) fun _ => rfl
    have := of_decide_eq_true h16
    refine Yvf fun h0 => Yvf fun _ => ?_
    rw [Yd2 _ _ _ hq (by omega)]
   rw [this]
   obtain ⟨l, el, l1, l2⟩ := Xnd (f := Xcd c) 16 (fun x => -9180 ≤ x ∧ x ≤ 9180) (fun x => -5000 ≤ x ∧ x ≤ 5000) (by
    intro i l hi hll hx
    obtain ⟨d, ed, d1, d2⟩ := Xqy (l.getD i 0) c.Qp i hx hq (by omega)
    unfold Xcd
    simp only [Int.toNat_natCast]
    rw [syA, rqA, rqA, ed, Xab, rqA, rqA, wkA (e := (i : Int) + 1)]
    exact ⟨d, rfl, d1, d2⟩) (by intro s; unfold Xcd; rw [Xap (by simp)]) b b1 b2
   rw [el, Xab, Xab, Xsq 4 (Or.inl rfl) l (by omega)]
  ·
   intro k s v' hk _ he
   unfold Xee at he
   rcases Xj1 he with ⟨hb4, he⟩ | ⟨_, he⟩
   ·
    have hk4 := of_decide_eq_true hb4
    simp only at hk4 he
    obtain ⟨a, _, he⟩ := Xbc he
    obtain ⟨l, _, he⟩ := Xbc he
    obtain ⟨b, _, he⟩ := Xbc he
    obtain ⟨r, _, he⟩ := Xbc he
    obtain ⟨_, he⟩ := Xax he
    injection he with he
    injection he with he
    subst he
    exact ⟨wkA, by omega, trivial⟩
   ·
    cases he
theorem Yp8 {p : Pic} (ok : Xbx p = true) (x y : Int) : Xfa p x y = Xe3 p x y := by rw [Yik ok, Xiw ok]
theorem Xu1 {p : Pic} (ok : Xbx p = true) {x y : Int} (hx : x.tmod 8 = 0) (hy : y.tmod 8 = 0) (h : Xdr p x y = true) : Xca p x y = some true := Xoh ok x y hx hy h
theorem Xy0 {p : Pic} (ok : Xbx p = true) {x y : Int} (hx : x.tmod 8 = 0) (hy : y.tmod 8 = 0) (h : Xdr p x y = true) : Xkh p x y = Xgj p x y := by
 unfold Xkh Xgj
 rw [Xbj, ok, Xu1 ok hx hy h, Xe6 ok hx hy h]
 have : Xk4 p x y = Xga p x y := by
  funext v
  unfold Xk4 Xga
  simp only [Yp8 ok]
 simp only [Xab, Xat, Bool.not_true, Xao, this, Yp8 ok]
theorem Ygj {e : Xi9} (h : Xtq e) : Xki e = some true := by
 obtain ⟨h1, h2, h3, h4, h5, h6⟩ := h
 have side : ∀ l : List Int, (l.length = 0 ∨ l.length = 8) → (∀ x ∈ l, 0 ≤ x ∧ x ≤ 255) → bnd (sel (decide ((l.length : Int) > 0)) (bnd (Xbu l 8 0 255) fun q10 => some (!q10)) (some false)) (fun v9 => some v9) = some false := by
  intro l hl hb
  rcases hl with e | e
  ·
   rw [snA]; rfl
  ·
   rw [syA, Xld l 8 0 255 (by omega)]
   have : (l.all fun x => decide (0 ≤ x ∧ x ≤ 255)) = true := List.all_eq_true.2 fun x hx => decide_eq_true (hb x hx)
   rw [this, e]; rfl
 have go : ∀ (i : Nat) (l : List Int), i < 2 → ([e.Above, e.Left]).getD i Xgn = l → (l.length = 0 ∨ l.length = 8) → (∀ x ∈ l, 0 ≤ x ∧ x ≤ 255) → Xfz e (i : Int) = some (.go ((i + 1 : Nat) : Int)) := by
  intro i l hi hg hl hb
  unfold Xfz
  simp only [Int.toNat_natCast, hg]
  have hs := side l hl hb
  rw [Xbh (by simp only [List.length_cons, List.length_nil]; omega), Xa2 (by simp only [List.length_cons, List.length_nil]; omega), Xa2 (by simp only [List.length_cons, List.length_nil]; omega)]
  obtain ⟨a, ea, hs⟩ := Xbc hs
  injection hs with hs
  subst hs
  rw [ea, Xab, Xao, wkA]
  rfl
 unfold Xki
 have : loop (Xfz e) 0 = some (.out ()) := by
  refine lgo (go 0 e.Above (by omega) rfl h1 h3) (lgo (go 1 e.Left (by omega) rfl h2 h4) (Xf9 ?_))
  unfold Xfz
  rw [Xap (by simp)]
 rw [this, Xab, Xak, Xab, decide_eq_true ⟨h5, h6⟩]
def Yud (l : List Int) : Nat → Int
 | 0 => 0
 | n + 1 => Yud l n + l.getD n 0
theorem Xv7 {l : List Int} (h : ∀ x ∈ l, 0 ≤ x ∧ x ≤ 255) : ∀ n : Nat, n ≤ l.length → 0 ≤ Yud l n ∧ Yud l n ≤ 255 * n
 | 0, _ => by simp [Yud]
 | n + 1, hn => by
  have a := Xv7 h n (by omega)
  have b := h (l.getD n 0) (by rw [Xb4 l n (by omega)]; exact List.getElem_mem _)
  rw [Yud]; omega
theorem Ypj {f : Int × Int → Option (Lp (Int × Int) Int)} {l : List Int} (hl : l.length ≤ 64) (h : ∀ x ∈ l, 0 ≤ x ∧ x ≤ 255) (hf : ∀ v, f v = sel (decide (v.2 < (l.length : Int))) (req (0 ≤ v.2 ∧ v.2 < l.length) <| some (.go (Xaa .i64 (v.1 + (l.getD v.2.toNat 0)), Xaa .i64 (v.2 + 1)))) (some (.done v.1))) (a : Int) (ha : 0 ≤ a ∧ a ≤ 100000) : loop f (a, 0) = some (a + Yud l l.length) := by
 obtain ⟨o, e, ho⟩ := Xqh (f := f) l.length (fun i s => s = a + Yud l i) (by
  intro i s hi g
  have r := Xv7 h i (by omega)
  have b := h (l.getD i 0) (by rw [Xb4 l i (by omega)]; exact List.getElem_mem _)
  rw [hf]
  simp only [Int.toNat_natCast]
  rw [syA, rqA, wkA (e := s + l.getD i 0), wkA (e := (i : Int) + 1)]
  exact ⟨_, rfl, by rw [Yud]; omega⟩) (by intro s; rw [hf, Xap (by simp)]) a (by simp [Yud])
 rw [e, ho]
theorem Yak {l : List Int} (hl : l.length ≤ 64) (h : ∀ x ∈ l, 0 ≤ x ∧ x ≤ 255) : Xcp l = some (Yud l l.length) := by
 unfold Xcp
 rw [Ypj (f := Xd4 l) hl h (fun _ => rfl) 0 (by omega), Xab, Int.zero_add]
theorem Yxb {e : Xi9} (h : Xtq e) : (sel (decide ((Xaa .i64 ((e.Above.length : Int) + (e.Left.length : Int))) > 0)) (bnd (Xcp e.Above) fun q5 => bnd (Xcp e.Left) fun q6 => req ((2 : Int) ≠ 0) <| req ((Xaa .i64 ((e.Above.length : Int) + (e.Left.length : Int))) ≠ 0) <|
  some (Xaa .i64 ((Xaa .i64 ((Xaa .i64 (q5 + q6)) + (Xaa .i64 ((Xaa .i64 ((e.Above.length : Int) + (e.Left.length : Int))).tdiv 2)))).tdiv (Xaa .i64 ((e.Above.length : Int) + (e.Left.length : Int)))))) (some 128)) = Xp7 e := by
 obtain ⟨h1, h2, h3, h4, h5, h6⟩ := h
 unfold Xp7
 have r1 := Xv7 h3 e.Above.length (Nat.le_refl _)
 have r2 := Xv7 h4 e.Left.length (Nat.le_refl _)
 rw [wkA (e := (e.Above.length : Int) + (e.Left.length : Int))]
 by_cases hz : (e.Above.length : Int) + (e.Left.length : Int) = 0
 ·
  rw [snA, Xbp (by simpa using hz)]
 ·
  rw [syA, Xba (by simpa using hz), Yak (by omega) h3, Xab, Yak (by omega) h4, Xab, rqA, Xa2 hz, rqA, Xbn (a := (e.Above.length : Int) + (e.Left.length : Int)) (by omega), wkA (e := ((e.Above.length : Int) + (e.Left.length : Int)) / 2),
   Ypj (f := Xjt e) (by omega) h3 (fun _ => rfl) _ (by omega), Xab, Ypj (f := Xju e) (by omega) h4 (fun _ => rfl) _ (by omega), Xab, Xa2 hz, wkA (e := Yud e.Above e.Above.length + Yud e.Left e.Left.length), wkA (e := Yud e.Above e.Above.length + Yud e.Left e.Left.length + ((e.Above.length : Int) + (e.Left.length : Int)) / 2)]
  congr 3; omega
theorem Yq7 (l : List Int) (hl : l.length = 0 ∨ l.length = 8) : ∃ g, Xmp l = some g ∧ g.length = 8 ∧ ∀ k : Nat, k < 8 → Xfo l k = some (g.getD k 0) := by
 unfold Xmp
 rcases hl with e | e
 ·
  refine ⟨_, Xbp (by rw [e]; rfl), rfl, fun k hk => ?_⟩
  unfold Xfo
  rw [Xbp (by rw [e]; rfl)]
  congr 1
  obtain rfl | rfl | rfl | rfl | rfl | rfl | rfl | rfl : k = 0 ∨ k = 1 ∨ k = 2 ∨ k = 3 ∨ k = 4 ∨ k = 5 ∨ k = 6 ∨ k = 7 := by omega
  all_goals rfl
 ·
  refine ⟨l, Xba (by rw [e]; rfl), e, fun k hk => ?_⟩
  unfold Xfo
  rw [Xba (by rw [e]; rfl), rqA, Int.toNat_natCast]
theorem Ynm (n a b : Int) : Xc4 n a b = Xff n a b := by rw [Xhs, Xeo]
def Ybl (m mid v : Int) (A B : List Int) (i : Nat) : Int := sel (m == 0) mid (sel (m == 1) (A.getD (i % 8) 0) (sel (m == 2) (B.getD (i / 8) 0) (Xbo (Xaa .i64 (Xaa .i64 (B.getD (i / 8) 0 + A.getD (i % 8) 0) - v)) 0 255)))
theorem Yu8 {f1 : Int × List Int → Option (Lp (Int × List Int) (List Int))} {f2 : Int × List Int → Int × List Int → Option (Lp (Int × List Int) (List Int))} (g : Nat → Int)
  (h1 : ∀ v, f1 v = sel (decide (v.1 < 8)) (bnd (loop (f2 v) (0, v.2)) fun w => some (.go (Xaa .i64 (v.1 + 1), w))) (some (.done v.2)))
  (h2 : ∀ (r c : Nat) (a s : List Int), r < 8 → c < 8 → s.length = 8 * r + c → f2 ((r : Int), a) ((c : Int), s) = some (.go (((c + 1 : Nat) : Int), s ++ [g (8 * r + c)])))
  (h3 : ∀ (r : Nat) (a s : List Int), f2 ((r : Int), a) (8, s) = some (.done s)) : loop f1 (0, []) = some ((List.range 64).map g) := by
 obtain ⟨o, e, ho⟩ := Xd6 (f := f1) 8 (fun r s => s = (List.range (8 * r)).map g) (by
  intro r s hr hs
  obtain ⟨q, eq, hq⟩ := Xfh (f := f2 ((r : Int), s)) 8 (fun c s' => s' = (List.range (8 * r + c)).map g) (by
   intro c s' hc hs'
   exact ⟨_, h2 r c s s' hr hc (by rw [hs']; simp), by rw [hs', show 8 * r + (c + 1) = (8 * r + c) + 1 by omega, List.range_succ, List.map_append]; rfl⟩) (fun z _ => h3 r s z) s hs
  rw [h1]
  refine ⟨q, ?_, by rw [hq, show 8 * (r + 1) = 8 * r + 8 by omega]⟩
  simp only
  rw [syA, eq, Xab, wkA]
  rfl) (by intro s; rw [h1, Xap (by simp)]) [] rfl
 rw [e, ho]
theorem Ypv (m : Int) (hm0 : 0 ≤ m ∧ m ≤ 3) {e : Xi9} (h : Xtq e) : ∃ g, Xgg m e = some g ∧ Xd9 m e = some g := by
 have hm : maxLen = 9223372036854775807 := rfl
 obtain ⟨mid, em, m1, m2⟩ := Xxu h
 obtain ⟨A, eA, hA, fA⟩ := Yq7 e.Above h.1
 obtain ⟨B, eB, hB, fB⟩ := Yq7 e.Left h.2.1
 obtain ⟨v, ev⟩ : ∃ v, sel (decide (e.Corner < 0)) (some (128 : Int)) (some e.Corner) = some v := by rw [Yt6]; exact ⟨_, rfl⟩
 refine ⟨(List.range 64).map (Ybl m mid v A B), ?_, ?_⟩
 ·
  unfold Xgg
  rw [Ygj h, Xab, Xat, Xak, Xab, decide_eq_true hm0, Bool.not_true, Xab, Xao, Yxb h, em, Xab, eA, Xab, eB, Xab, ev, Xab, Yu8 (f1 := Xoc m mid A B v) (f2 := Xg2 m mid A B v) (Ybl m mid v A B) (fun _ => rfl) ?_ ?_, Xab]
  ·
   intro r c a s hr hc hs
   unfold Xg2 Ybl
   simp only [Int.toNat_natCast, Xhs, Xab]
   rw [syA, wkA (e := (c : Int) + 1), show (8 * r + c) % 8 = c by omega, show (8 * r + c) / 8 = r by omega]
   cases (m == 0) with
   | true => rw [Xat, Xa2 (by simp only [List.length_singleton]; omega), Xab]; rfl
   | false =>
    rw [Xao]
    cases (m == 1) with
    | true => rw [Xat, rqA, Xa2 (by simp only [List.length_singleton]; omega), Xab]; rfl
    | false =>
     rw [Xao]
     cases (m == 2) with
     | true => rw [Xat, rqA, Xa2 (by simp only [List.length_singleton]; omega), Xab]; rfl
     | false => rw [Xao, rqA, rqA, Xa2 (by simp only [List.length_singleton]; omega), Xab]; rfl
  ·
   intro r a s
   unfold Xg2
   rw [Xap (by simp)]
 ·
  unfold Xd9
  rw [Xj2 h, Xab, Xat, Xaj, Xab, decide_eq_true hm0, Bool.not_true, Xab, Xao, ev, Xab]
  obtain ⟨o, eo, ho⟩ := Xd6 (f := Xep m e v) 64 (fun i s => s = (List.range i).map (Ybl m mid v A B)) (by
   intro i s hi hs
   have hlen : s.length = i := by rw [hs]; simp
   refine ⟨s ++ [Ybl m mid v A B i], ?_, by rw [hs, List.range_succ, List.map_append]; rfl⟩
   unfold Xep Ybl
   simp only
   rw [syA, rqA, Xb2 (by omega), show (i : Int) % 8 = ((i % 8 : Nat) : Int) by omega, fA _ (by omega), Xab, rqA, Xbn (by omega), wkA (e := (i : Int) / 8), show (i : Int) / 8 = ((i / 8 : Nat) : Int) by omega, fB _ (by omega), Xab, wkA (e := (i : Int) + 1), em]
   cases (m == 0) with
   | true => rw [Xat, Xab, Xa2 (by simp only [List.length_singleton]; omega), Xab]; rfl
   | false =>
    rw [Xao]
    cases (m == 1) with
    | true => rw [Xat, Xa2 (by simp only [List.length_singleton]; omega), Xab]; rfl
    | false =>
     rw [Xao]
     cases (m == 2) with
     | true => rw [Xat, Xa2 (by simp only [List.length_singleton]; omega), Xab]; rfl
     | false => rw [Xao, Xeo, Xab, Xa2 (by simp only [List.length_singleton]; omega), Xab]; rfl) (by intro s; unfold Xep; rw [Xap (by simp)]) [] rfl
  rw [eo, Xab, ho]
theorem Xsp (m : Int) (hm0 : 0 ≤ m ∧ m ≤ 3) {e : Xi9} (h : Xtq e) : Xgg m e = Xd9 m e := by
 obtain ⟨g, h1, h2⟩ := Ypv m hm0 h
 rw [h1, h2]
theorem Ydd (g b : List Int) (hg : Xby g = true) (hl : b.length = 64) (hb : inB 10000000 b) : Xmf g b = Xid g b := by
 obtain ⟨g1, g2⟩ := Xbr hg
 unfold Xmf Xid
 rw [Xe5 g hg, Xh2 g (by omega), hg, Xrn b 64 10000000 (by omega) (by omega) hb, Xcc b 64 10000000 (by omega) (by omega) (by omega) hb]
 have : Xm7 g b = Xdm g b := by
  funext v
  unfold Xm7 Xdm
  simp only [Ynm, show ((g.length : Nat) : Int) = 64 by omega]
 simp only [Xab, Xat, Bool.not_true, Xao, this]
theorem Yj3 {s : Xam} (h : Xuc s = true) (h1 : s.Kind = 0) : s.Dx = 0 ∧ s.Dy = 0 := by
 unfold Xuc at h
 rw [h1] at h
 simp at h
 exact ⟨h.2.1, h.2.2.1⟩
theorem Yt9 {s : Xam} (h : Xuc s = true) : (-16 ≤ s.Dx ∧ s.Dx ≤ 16) ∧ (-16 ≤ s.Dy ∧ s.Dy ≤ 16) := by
 have hk := Xsn h
 obtain h1 | h1 | h1 : s.Kind = 0 ∨ s.Kind = 1 ∨ s.Kind = 2 := by omega
 ·
  obtain ⟨a, b⟩ := Yj3 h h1; omega
 ·
  obtain ⟨a, b, _⟩ := Xtm h h1; exact ⟨a, b⟩
 ·
  unfold Xuc at h
  rw [h1] at h
  simp at h
  omega
theorem Ysc (s : Xam) (c : Xeu) : Xel s c = some (Xqg s c) := by
 unfold Xel Xqg
 cases c.Key <;> rfl
structure Zdf (now ref : Pic) (l t x y : Int) (c : Xeu) (q : Xam) : Prop where
 ok : Xbx now = true
 hx : x.tmod 8 = 0
 hy : y.tmod 8 = 0
 h0 : Xdr now x y = true
 hl : 0 ≤ l ∧ l ≤ 256
 ht : 0 ≤ t ∧ t ≤ 256
 hc : Xho c = true
 hs : q.Levels.length ≤ 1048576
theorem Xpd {now ref : Pic} {l t x y : Int} {c : Xeu} {q : Xam} (h : Zdf now ref l t x y c q) (hq : Xuc q = true) (hL : Xqg q c = true) (hr : c.Key = false → Xbx ref = true) : ∃ d, Xbz now ref l t c x y q = some (d, true) ∧ Xc3 now ref l t c x y q = some (d, true) ∧ Xby d = true := by
 obtain ⟨ok, hx, hy, h0, hl, ht, hc, hs⟩ := h
 obtain ⟨k1, k2, k3⟩ := Xay ok
 have h0' := h0
 unfold Xdr at h0'
 rw [decide_eq_true_eq] at h0'
 have dxy := Yt9 hq
 unfold Xc3 Xbz
 rw [Xe6 ok hx hy h0, Xab, Xat, Xaj, Xab, decide_eq_true hl, Xat, Xaj, Xab, decide_eq_true ht, Xat, Xt1, Xab, hq, Xat, Xdl, Xab, hc, Bool.not_true, Xab, Xao]
 rw [Xbj, Xab, ok, Xat, Xu1 ok hx hy h0, Xab, Xat, Xak, Xab, decide_eq_true hl, Xat, Xak, Xab, decide_eq_true ht, Xat, Xoe q (by omega), Xab, hq, Xat, Xdk, Xab, hc, Xat, Ysc, Xab, hL, Xat]
 by_cases h2 : q.Kind = 2
 ·
  obtain ⟨hm, hlv⟩ := Xv6 hq h2
  obtain ⟨e, ee, he⟩ := Xp0 ok hx hy h0
  obtain ⟨b, eb, b1, b2⟩ := Xhm q.Levels c hc hlv
  obtain ⟨g, eg, hg⟩ := Xic q.Mode hm he
  obtain ⟨j, ej, hj⟩ := Xxn g b hg b1 b2
  refine ⟨j, ?_, ?_, hj⟩
  ·
   rw [Xba (b := q.Kind != 2) (by simpa using h2), Xab, Xao, Xba (by rw [h2]; rfl), Xto q.Levels c hc hlv, eb, Xab, Xba (by rw [h2]; rfl), Xy0 ok hx hy h0, ee, Xab, Xsp q.Mode hm he, eg, Xab, Ydd g b hg b1 b2, ej, Xab]
  ·
   rw [Xbp (by simpa using h2), ee, Xab, eb, Xab, eg, Xab, ej, Xab]
 ·
  have hK : c.Key = false := by
   unfold Xqg at hL
   cases hk : c.Key with
   | false => rfl
   | true => rw [hk] at hL; simp at hL; exact absurd hL h2
  have rok := hr hK
  rw [Xbp (b := q.Kind != 2) (by simpa using h2), Xbj, Xab, rok, Bool.not_true, Xab, Xao]
  rw [Xba (b := q.Kind == 2) (by simpa using h2), hK, Xao, Xc2, Xab, rok, Bool.not_true, Xab, Xao]
  rw [wkA (e := l + x), wkA (e := l + x + q.Dx), wkA (e := t + y), wkA (e := t + y + q.Dy), Xib rok _ _ (by omega) (by omega), Xab, Xgv rok _ _ (by omega) (by omega), Xab, Xgv rok _ _ (by omega) (by omega)]
  by_cases h3 : q.Kind = 0
  ·
   obtain ⟨z1, z2⟩ := Yj3 hq h3
   rw [Xbp (b := q.Kind == 0) (by simpa using h3), Xbp (b := q.Kind == 0) (by simpa using h3), z1, z2, Int.add_zero, Int.add_zero]
   exact ⟨_, rfl, rfl, Xg0 _ _ _⟩
  ·
   have h1 : q.Kind = 1 := by have := Xsn hq; omega
   obtain ⟨_, _, hlv⟩ := Xtm hq h1
   obtain ⟨b, eb, b1, b2⟩ := Xhm q.Levels c hc hlv
   obtain ⟨j, ej, hj⟩ := Xxn _ b (Xg0 ref (l + x + q.Dx) (t + y + q.Dy)) b1 b2
   rw [Xba (b := q.Kind == 0) (by simpa using h3), Xba (b := q.Kind == 0) (by simpa using h3), Xto q.Levels c hc hlv, eb, Xab, Xab, Xbp (b := q.Kind == 1) (by simpa using h1), Xab, Ydd _ b (Xg0 _ _ _) b1 b2, ej, Xab]
   exact ⟨_, rfl, rfl, hj⟩
theorem Yzd {β : Type} {a b c : Prop} [Decidable a] [Decidable b] [Decidable c] (hb : b) (hc : c) (k : Option β) : req a (req b (req c k)) = req b (req c (req a k)) := by
 rw [Xa2 hb, Xa2 hc, Xa2 hb, Xa2 hc]
theorem Xy9 {p : Pic} (ok : Xbx p = true) : p.Dots.size ≤ 65536 := by
 obtain ⟨k1, k2, k3⟩ := Xay ok
 have := Xda k1 k2
 omega
theorem Yrc {p : Pic} {x y : Int} {d : List Int} (hd : Xby d = true) (hp : p.Dots.size ≤ maxLen) : Xvt p x y d = Xgy p x y d := by
 obtain ⟨d1, d2⟩ := Xbr hd
 unfold Xvt Xgy Xrz
 rw [Xa2 hp, Xab, Xa2 hp]
 have : Xs0 p x y d = Xdo p x y d := by
  funext v
  unfold Xs0 Xdo
  simp only [show ((d.length : Nat) : Int) = 64 by omega]
  exact Yay (fun _ => Yzd (by omega) (by omega) _) fun _ => rfl
 rw [this]
theorem Yw9 (n : Nat) (x : Int) : ((List.range n).map fun _ => x) = List.replicate n x := by
 apply List.ext_getElem
 ·
  simp
 ·
  intro i h1 h2; simp
theorem Xql (w h : Int) (hw : 1 ≤ w ∧ w ≤ 256) (hh : 1 ≤ h ∧ h ≤ 256) : Xnp w h = some ⟨w, h, strOfNums (List.replicate (w * h).toNat 128)⟩ := by
 have ar := Xda hw hh
 unfold Xnp
 rw [Xak, Xab, decide_eq_true hw, Xat, Xak, Xab, decide_eq_true hh, Bool.not_true, Xab, Xao, wkA (e := w * h), rqA]
 rw [Yve (f := Xnq w h) (w * h).toNat (fun _ => 128) (List.replicate (w * h).toNat 0) (by simp) ?_ ?_, Xab, Yw9]
 ·
  intro i s hi hs _
  unfold Xnq
  simp only [List.length_replicate, Int.toNat_natCast]
  rw [wkA (e := w * h), syA, rqA, rqA, wkA]
  rfl
 ·
  intro s hs
  unfold Xnq
  simp only [List.length_replicate]
  rw [wkA (e := w * h), snA]
def Xno (p : Pic) (r : Xyz) : Bool := decide (1 ≤ r.Wide ∧ r.Wide ≤ p.Wide) && (decide (1 ≤ r.High ∧ r.High ≤ p.High) && (decide (0 ≤ r.Left ∧ r.Left ≤ p.Wide - r.Wide) && decide (0 ≤ r.Top ∧ r.Top ≤ p.High - r.High)))
theorem Xow {p : Pic} (ok : Xbx p = true) (r : Xyz) : Xb9 p r = some (Xno p r) := by
 obtain ⟨k1, k2, k3⟩ := Xay ok
 unfold Xb9 Xno
 rw [Xak, Xak, Xab, Xab]
 by_cases h1 : 1 ≤ r.Wide ∧ r.Wide ≤ p.Wide
 ·
  rw [decide_eq_true h1, Xat, Bool.true_and]
  by_cases h2 : 1 ≤ r.High ∧ r.High ≤ p.High
  ·
   rw [decide_eq_true h2, Xat, Bool.true_and, wkA (e := p.Wide - r.Wide), wkA (e := p.High - r.High), Xak, Xak, Xab, Xab, Xdf, Xab]
  ·
   rw [decide_eq_false h2, Xao, Bool.false_and]; rfl
 ·
  rw [decide_eq_false h1, Xao, Bool.false_and]; rfl
theorem Xsl (p : Pic) (r : Xyz) : Xfn p r.Left r.Top r.Wide r.High = some (Xbx p && Xno p r) := by
 unfold Xfn Xno
 rw [Xc2, Xab]
 cases ok : Xbx p with
 | false => rfl
 | true =>
  obtain ⟨k1, k2, k3⟩ := Xay ok
  rw [Xat, Xaj, Xaj, Xab, Xab]
  by_cases h1 : 1 ≤ r.Wide ∧ r.Wide ≤ p.Wide
  ·
   rw [decide_eq_true h1, Xat, Bool.true_and, Bool.true_and]
   by_cases h2 : 1 ≤ r.High ∧ r.High ≤ p.High
   ·
    rw [decide_eq_true h2, Xat, Bool.true_and, wkA (e := p.Wide - r.Wide), wkA (e := p.High - r.High), Xaj, Xaj, Xab, Xab, Xdf, Xab]
   ·
    rw [decide_eq_false h2, Xao, Bool.false_and]; rfl
  ·
   rw [decide_eq_false h1, Xao, Bool.false_and]; rfl
theorem Xhr {p : Pic} {r : Xyz} (h : Xno p r = true) : (1 ≤ r.Wide ∧ r.Wide ≤ p.Wide) ∧ (1 ≤ r.High ∧ r.High ≤ p.High) ∧ (0 ≤ r.Left ∧ r.Left ≤ p.Wide - r.Wide) ∧ (0 ≤ r.Top ∧ r.Top ≤ p.High - r.High) := by
 unfold Xno at h
 simp only [Bool.and_eq_true, decide_eq_true_eq] at h
 exact h
def Xhp (p : Pic) (r : Xyz) : Nat → List Int
 | 0 => []
 | n + 1 => Xhp p r n ++ Xaz (p.Dots.extract ((r.Top + n) * p.Wide + r.Left).toNat ((r.Top + n) * p.Wide + r.Left + r.Wide).toNat)
theorem Yr8 {p : Pic} {r : Xyz} (ok : Xbx p = true) (h : Xno p r = true) (n : Nat) (hn : (n : Int) < r.High) : 0 ≤ (r.Top + n) * p.Wide ∧ (r.Top + n) * p.Wide + r.Left + r.Wide ≤ p.Dots.size ∧ (r.Top + n) * p.Wide ≤ 65536 ∧ (Xaz (p.Dots.extract ((r.Top + n) * p.Wide + r.Left).toNat ((r.Top + n) * p.Wide + r.Left + r.Wide).toNat)).length = r.Wide.toNat := by
 obtain ⟨k1, k2, k3⟩ := Xay ok
 obtain ⟨a1, a2, a3, a4⟩ := Xhr h
 have ar := Xda k1 k2
 have b1 : 0 ≤ (r.Top + n) * p.Wide := Int.mul_nonneg (by omega) (by omega)
 have b2 : (r.Top + n) * p.Wide ≤ (p.High - 1) * p.Wide := Int.mul_le_mul_of_nonneg_right (by omega) (by omega)
 have b3 : (p.High - 1) * p.Wide = p.Wide * p.High - p.Wide := by rw [Int.sub_mul, Int.one_mul, Int.mul_comm]
 refine ⟨b1, by omega, by omega, ?_⟩
 rw [Xbf, ByteArray.size_extract]
 omega
theorem Xpg {p : Pic} {r : Xyz} (ok : Xbx p = true) (h : Xno p r = true) : ∀ n : Nat, (n : Int) ≤ r.High → ((Xhp p r n).length : Int) = n * r.Wide
 | 0, _ => by simp [Xhp]
 | n + 1, hn => by
  have a := Xhr h
  have b := Yr8 ok h n (by omega)
  rw [Xhp, List.length_append, Int.natCast_add, Xpg ok h n (by omega), b.2.2.2, Int.natCast_add, Int.add_mul]
  simp only [Int.natCast_one, Int.one_mul]
  omega
theorem Yys {p : Pic} {r : Xyz} {f : Int × List Int → Option (Lp (Int × List Int) (List Int))} (ok : Xbx p = true) (h : Xno p r = true) (hf : f = Xo2 p r) : loop f (r.Top, []) = some (Xhp p r r.High.toNat) := by
 have hm : maxLen = 9223372036854775807 := rfl
 obtain ⟨k1, k2, k3⟩ := Xay ok
 obtain ⟨a1, a2, a3, a4⟩ := Xhr h
 subst hf
 have key : ∀ n : Nat, n ≤ r.High.toNat → loop (Xo2 p r) (r.Top + n, Xhp p r n) = some (Xhp p r r.High.toNat) := by
  refine Xgp _ ?_ ?_
  ·
   refine Xf9 ?_
   unfold Xo2
   rw [wkA (e := r.Top + r.High), Xap (by simp only; omega)]
  ·
   intro n hn ih
   refine lgo (y := (r.Top + ((n + 1 : Nat) : Int), Xhp p r (n + 1))) ?_ ih
   obtain ⟨b1, b2, b3, b4⟩ := Yr8 ok h n (by omega)
   have cl := Xpg ok h n (by omega)
   have cw : (n : Int) * r.Wide ≤ 256 * r.Wide := Int.mul_le_mul_of_nonneg_right (by omega) (by omega)
   unfold Xo2
   simp only
   rw [wkA (e := r.Top + r.High), syA, wkA (e := (r.Top + n) * p.Wide), wkA (e := (r.Top + n) * p.Wide + r.Left), wkA (e := (r.Top + n) * p.Wide + r.Left + r.Wide), rqA, Xa2 (by rw [b4]; omega), wkA (e := r.Top + n + 1), show r.Top + ((n + 1 : Nat) : Int) = r.Top + n + 1 by omega]
   rfl
 have := key 0 (by omega)
 simpa [Xhp] using this
def Zb9 (p : Pic) (r : Xyz) : Pic := ⟨r.Wide, r.High, strOfNums (Xhp p r r.High.toNat)⟩
theorem Zax {p : Pic} {r : Xyz} (ok : Xbx p = true) (h : Xno p r = true) : Xbx (Zb9 p r) = true := by
 obtain ⟨k1, k2, k3⟩ := Xay ok
 obtain ⟨a1, a2, a3, a4⟩ := Xhr h
 refine Xvy (by show 1 ≤ r.Wide ∧ r.Wide ≤ 256; omega) (by show 1 ≤ r.High ∧ r.High ≤ 256; omega) ?_
 show ((strOfNums _).size : Int) = r.Wide * r.High
 rw [strOfNums_size, Xpg ok h _ (by omega), Int.mul_comm]
 congr 1; omega
theorem Ynv {p : Pic} {r : Xyz} (ok : Xbx p = true) (h : Xno p r = true) : Xo5 p r = some (Zb9 p r, true) := by
 obtain ⟨k1, k2, k3⟩ := Xay ok
 obtain ⟨a1, a2, a3, a4⟩ := Xhr h
 have ar := Xda (w := r.Wide) (h := r.High) (by omega) (by omega)
 unfold Xo5
 rw [Xbj, Xab, ok, Xat, Xow ok, Xab, h, Bool.not_true, Xab, Xao, wkA (e := r.Wide * r.High), rqA]
 have := Yys (f := Xsw p r) ok h rfl
 rw [show List.replicate (0 : Int).toNat (0 : Int) = [] from rfl, this, Xab]
 rfl
theorem Xhd (n : Int) : Xh3 n = some (Xyu n) := by
 unfold Xh3 Xyu
 rw [rqA, Xak, Xab, Xdf, Xab, Yr5]
theorem Ym5 {w h : Int} (hw : Xyu w = true) (hh : Xyu h = true) (i : Nat) (hi : (i : Int) < w / 8 * (h / 8)) : (8 ≤ w ∧ w ≤ 64) ∧ (8 ≤ h ∧ h ≤ 64) ∧ 1 ≤ w / 8 ∧ w / 8 ≤ 8 ∧ 1 ≤ h / 8 ∧ h / 8 ≤ 8 ∧ 0 ≤ (i : Int) % (w / 8) * 8 ∧ (i : Int) % (w / 8) * 8 ≤ w - 8 ∧ 0 ≤ (i : Int) / (w / 8) * 8 ∧ (i : Int) / (w / 8) * 8 ≤ h - 8 := by
 unfold Xyu at hw hh
 rw [Bool.and_eq_true, decide_eq_true_eq, decide_eq_true_eq] at hw hh
 rw [Xb2 (by omega)] at hw hh
 have h1 : 1 ≤ w / 8 ∧ w / 8 ≤ 8 := by omega
 have h2 : 1 ≤ h / 8 ∧ h / 8 ≤ 8 := by omega
 have m0 : 0 ≤ (i : Int) % (w / 8) := Int.emod_nonneg _ (by omega)
 have m1 : (i : Int) % (w / 8) < w / 8 := Int.emod_lt_of_pos _ (by omega)
 have d0 : 0 ≤ (i : Int) / (w / 8) := Int.ediv_nonneg (by omega) (by omega)
 have d1 : (i : Int) / (w / 8) < h / 8 := Int.ediv_lt_of_lt_mul (by omega) (by rw [Int.mul_comm]; exact hi)
 exact ⟨hw.2, hh.2, h1.1, h1.2, h2.1, h2.2, by omega, by omega, by omega, by omega⟩
theorem Xcm {w : Int} (hw : Xyu w = true) : w % 8 = 0 ∧ 8 ≤ w ∧ w ≤ 64 := by
 unfold Xyu at hw
 rw [Bool.and_eq_true, decide_eq_true_eq, decide_eq_true_eq] at hw
 rw [Xb2 (by omega)] at hw
 exact ⟨hw.1, hw.2⟩
theorem Yjz (l : List Int) : Xgm l = some (Xby l) := by
 unfold Xgm Xby
 by_cases h : l.length = 64
 ·
  rw [Xba (by simp only [bne_eq_false_iff_eq]; omega), Yf4 Yr9 l (Xet l) (by
   intro i hi
   unfold Xet
   rw [syA, rqA, Xaj, Xab, wkA, Int.toNat_natCast]
   rfl) (by unfold Xet; rw [snA]), Xab, decide_eq_true h, Bool.true_and]
  cases l.all Yr9 <;> rfl
 ·
  rw [Xbp (by simp only [bne_iff_ne, ne_eq]; omega), decide_eq_false h, Bool.false_and]
theorem Yz2 (m : Int) (h : 0 ≤ m ∧ m ≤ 3) : ∃ s, Xml m = some s ∧ Xm2 m = some s := by
 have e1 : Xm2 m = some (((strOfNums (ueL m.toNat)).size : Nat) : Int) := by
  unfold Xm2 Yc2
  rw [Xaj, Xab, decide_eq_true (by omega), Bool.not_true, Xao]
  have : Xsj m = some (strOfNums (ueL m.toNat)) := by
   have := Xtl m.toNat (by omega)
   rwa [show ((m.toNat : Nat) : Int) = m by omega] at this
  rw [this, Xab, Xab]
 have e2 : Xml m = some (((strOfNums (ueL m.toNat)).size : Nat) : Int) := by
  unfold Xml Xo8
  rw [Xak, Xab, decide_eq_true (by omega), Bool.not_true, Xao]
  have : Xi4 m = some (strOfNums (ueL m.toNat)) := by
   have := Xf8 m.toNat (by omega)
   rwa [show ((m.toNat : Nat) : Int) = m by omega] at this
  rw [this, Xab, Xab]
 exact ⟨_, e2, e1⟩
theorem Ygi {w : List Int} (hw : Xby w = true) {e : Xi9} (h : Xtq e) : Xjc w e = Xjl w e := by
 have hwl := (Xbr hw).1
 unfold Xjc Xjl
 rw [Ygj h, Xj2 h, Xh2 w (by omega), Yjz, hw]
 have : loop (Xik w e) (0, -1, 0) = loop (Xed w e) (0, -1, 0) := by
  refine Xkt (fun v => 0 ≤ v.2.2 ∧ v.2.2 ≤ 4) ?_ ?_ (by simp)
  ·
   intro ⟨m, c, i⟩ ⟨h1, h2⟩
   simp only at h1 h2
   unfold Xik Xed
   simp only
   by_cases hi : i < 4
   ·
    obtain ⟨g, eg, hg⟩ := Xic i ⟨h1, by omega⟩ h
    obtain ⟨s, e1, e2⟩ := Yz2 i ⟨h1, by omega⟩
    rw [Xbh (show i ≤ 3 by omega), Xbh hi, Xsp i ⟨h1, by omega⟩ h, eg, Xab, Xab, Xsz hw hg, Xtd hw hg, Xab, Xab, e1, e2]
   ·
    rw [Xap (show ¬ i ≤ 3 by omega), Xap hi]
  ·
   intro ⟨m, c, i⟩ v' ⟨h1, h2⟩ he
   simp only at h1 h2
   unfold Xed at he
   rcases Xj1 he with ⟨hb, he⟩ | ⟨_, he⟩
   ·
    have hi := of_decide_eq_true hb
    simp only at hi
    obtain ⟨q, _, he⟩ := Xbc he
    injection he with he
    injection he with he
    subst he
    simp only
    rw [wkA]; omega
   ·
    cases he
 simp only [Xab, Xat, Bool.not_true, Xao, this]
theorem Ykb {p : Pic} {w : List Int} {x y r : Int} (ok : Xbx p = true) (hw : Xby w = true) (hr : 0 ≤ r ∧ r ≤ 4) (hx : x.tmod 8 = 0) (hy : y.tmod 8 = 0) (h0 : Xdr p x y = true) : Xd2 p w x y r = Xo1 p w x y r := by
 obtain ⟨k1, k2, k3⟩ := Xay ok
 have hwl := (Xbr hw).1
 have h0' := h0
 unfold Xdr at h0'
 rw [decide_eq_true_eq] at h0'
 unfold Xd2 Xo1
 rw [Xbj, Xab, ok, Xat, Xh2 w (by omega), Xab, hw, Xat, Xak, Xab, decide_eq_true hr, Xat, Xoh ok x y hx hy h0, Xab, Bool.not_true, Xab, Xao]
 rw [Xe5 w hw, Xab, Xat, Xaj, Xab, decide_eq_true hr, Xat, Xe6 ok hx hy h0, Xab, Bool.not_true, Xab, Xao, wkA (e := 0 - r)]
 refine Yus ?_ fun _ _ => rfl
 refine Xkt (fun s => -r ≤ s.2.2.2 ∧ s.2.2.2 ≤ r + 1) ?_ ?_ (by simp only; omega)
 ·
  intro s ⟨g1, g2⟩
  unfold Xfy Xmw
  refine Yay (fun hs => ?_) fun _ => rfl
  have hs := of_decide_eq_true hs
  rw [wkA (e := 0 - r)]
  refine Yus ?_ fun _ _ => rfl
  refine Xkt (fun v => -r ≤ v.2.2.2 ∧ v.2.2.2 ≤ r + 1) ?_ ?_ (by simp only; omega)
  ·
   intro v ⟨f1, f2⟩
   unfold Xdb Xmx
   refine Yay (fun hv => ?_) fun _ => rfl
   have hv := of_decide_eq_true hv
   rw [wkA (e := x + v.2.2.2), wkA (e := y + s.2.2.2), Ydl ok, Xt6 ok, Xab, Xab]
   refine Yus ?_ fun _ _ => rfl
   refine Yay (fun _ => rfl) fun _ => ?_
   have hb := Xg0 p (x + v.2.2.2) (y + s.2.2.2)
   rw [Xib ok _ _ (by omega) (by omega), Xgv ok _ _ (by omega) (by omega), Xab, Xab, Xtd hw hb, Xsz hw hb, Xab, Xab, Xxo _ (by omega), Xm9 _ (by omega), Xab, Xab, Xxo _ (by omega), Xm9 _ (by omega), Xab]
  ·
   intro v v' ⟨f1, f2⟩ he
   unfold Xmx at he
   rcases Xj1 he with ⟨hb, he⟩ | ⟨_, he⟩
   ·
    have hi := of_decide_eq_true hb
    obtain ⟨q, _, he⟩ := Xbc he
    injection he with he
    injection he with he
    subst he
    simp only
    rw [wkA]; omega
   ·
    cases he
 ·
  intro s v' ⟨g1, g2⟩ he
  unfold Xmw at he
  rcases Xj1 he with ⟨hb, he⟩ | ⟨_, he⟩
  ·
   have hi := of_decide_eq_true hb
   obtain ⟨q, _, he⟩ := Xbc he
   injection he with he
   injection he with he
   subst he
   simp only
   rw [wkA]; omega
  ·
   cases he
def Xwj (a b : List Int) : List Int := (List.range 64).map fun i => a.getD i 0 - b.getD i 0
theorem Xjj (a b : List Int) : (Xwj a b).length = 64 := by simp [Xwj]
theorem Yao (a b : List Int) {i : Nat} (hi : i < 64) : (Xwj a b).getD i 0 = a.getD i 0 - b.getD i 0 := Xft _ hi
theorem Xs5 {a b : List Int} (ha : Xby a = true) (hb : Xby b = true) : inB 255 (Xwj a b) := by
 intro x hx
 obtain ⟨i, hi, rfl⟩ := List.mem_map.1 hx
 rw [List.mem_range] at hi
 have p := (Xbr ha).2 i hi
 have q := (Xbr hb).2 i hi
 omega
theorem Yqy {a b : List Int} (ha : Xby a = true) (hb : Xby b = true) {f : Int × List Int → Option (Lp (Int × List Int) (List Int))} (hf : ∀ v, f v = sel (decide (v.1 < 64)) (req (0 ≤ v.1 ∧ v.1 < a.length) <| req (0 ≤ v.1 ∧ v.1 < b.length) <| req ((v.2.length + ([Xaa .i64 ((a.getD v.1.toNat 0) - (b.getD v.1.toNat 0))]).length) * 8 ≤ 140737488355328 ∧ v.2.length + ([Xaa .i64 ((a.getD v.1.toNat 0) - (b.getD v.1.toNat 0))]).length ≤ maxLen) <| some (.go (Xaa .i64 (v.1 + 1), (v.2 ++ ([Xaa .i64 ((a.getD v.1.toNat 0) - (b.getD v.1.toNat 0))]))))) (some (.done v.2))) : loop f (0, []) = some (Xwj a b) := by
 have hm : maxLen = 9223372036854775807 := rfl
 obtain ⟨a1, a2⟩ := Xbr ha
 obtain ⟨b1, b2⟩ := Xbr hb
 have := Yf6 (f := f) 64 (fun i => a.getD i 0 - b.getD i 0) [] (by
  intro i hi
  have x := a2 i hi
  have y := b2 i hi
  rw [hf]
  simp only [Int.toNat_natCast]
  rw [syA, rqA, rqA, Xa2 (by simp only [List.length_append, List.length_nil, List.length_map, List.length_range, List.length_singleton]; omega), wkA (e := a.getD i 0 - b.getD i 0), wkA (e := (i : Int) + 1)]
  rfl) (by rw [hf, Xap (by simp)])
 rw [List.nil_append] at this
 exact this
theorem Xty {a b : List Int} (ha : Xby a = true) (hb : Xby b = true) : Xgw a b = some (Xwj a b) := by
 have a1 := (Xbr ha).1
 unfold Xgw
 rw [Yqy ha hb (f := Xjz a b) (fun v => by unfold Xjz; rw [show ((a.length : Nat) : Int) = 64 by omega]), Xab]
theorem Xl4 {a b : List Int} (ha : Xby a = true) (hb : Xby b = true) : Xn6 a b = some (Xwj a b) := by
 have a1 := (Xbr ha).1
 unfold Xn6
 rw [Yqy ha hb (f := Xp8 a b) (fun v => by unfold Xp8; rw [show ((a.length : Nat) : Int) = 64 by omega]), Xab]
theorem Xvi (l : List Int) (hl : l.length ≤ 1000000) : Xq2 l = some (l.all fun x => x == 0) := by
 unfold Xq2
 rw [Yf4 (fun x => x == 0) l (Xl7 l) (by
  intro i hi
  unfold Xl7
  rw [syA, rqA, Int.toNat_natCast, wkA]
  rfl) (by unfold Xl7; rw [snA]), Xab]
 cases l.all (fun x => x == 0) <;> rfl
theorem Yy0 {a b : List Int} (ha : Xby a = true) (hb : Xby b = true) : (Xpi a b 64 == 0) = ((Xwj a b).all fun x => x == 0) := by
 have key : ∀ n : Nat, n ≤ 64 → (Xpi a b n = 0 ↔ ∀ i, i < n → a.getD i 0 - b.getD i 0 = 0) := by
  intro n
  induction n with
  | zero => intro _; exact ⟨fun _ i hi => by omega, fun _ => rfl⟩
  | succ n ih =>
   intro hn
   have g := Xkg ha hb n (by omega)
   have e : Xpi a b (n + 1) = Xpi a b n + Ydh (a.getD n 0 - b.getD n 0) := rfl
   have ab : 0 ≤ Ydh (a.getD n 0 - b.getD n 0) ∧ (Ydh (a.getD n 0 - b.getD n 0) = 0 ↔ a.getD n 0 - b.getD n 0 = 0) := by unfold Ydh; split <;> omega
   rw [e]
   constructor
   ·
    intro h i hi
    rcases Nat.lt_or_ge i n with h1 | h1
    ·
     exact (ih (by omega)).1 (by omega) i h1
    ·
     have : i = n := by omega
     subst this
     exact ab.2.1 (by omega)
   ·
    intro h
    have h1 := (ih (by omega)).2 fun i hi => h i (by omega)
    have h2 := ab.2.2 (h n (by omega))
    omega
 rw [Bool.eq_iff_iff, beq_iff_eq, List.all_eq_true, key 64 (by omega)]
 constructor
 ·
  intro h x hx
  obtain ⟨i, hi, rfl⟩ := List.mem_map.1 hx
  rw [List.mem_range] at hi
  rw [beq_iff_eq]; exact h i hi
 ·
  intro h i hi
  have := h ((Xwj a b).getD i 0) (by rw [Xb4 _ i (by rw [Xjj]; exact hi)]; exact List.getElem_mem _)
  rw [beq_iff_eq, Yao a b hi] at this
  exact this
theorem Yun (l : List Int) (hl : l.length = 64) : Xbu l 64 0 0 = some (l.all fun x => x == 0) := by
 rw [Xld l 64 0 0 (by omega), show ((l.length : Int) == 64) = true by rw [beq_iff_eq]; omega, Bool.and_true]
 congr 2
 funext x
 rw [Bool.eq_iff_iff, decide_eq_true_eq, beq_iff_eq]; omega
structure Zb0 (now ref : Pic) (w : List Int) (x y : Int) (c : Xeu) (r : Int) : Prop where
 ok : Xbx now = true
 hx : x.tmod 8 = 0
 hy : y.tmod 8 = 0
 h0 : Xdr now x y = true
 hw : Xby w = true
 hc : Xho c = true
 hr : 0 ≤ r ∧ r ≤ 4
 hk : c.Key = false → Xbx ref = true ∧ ref.Wide = now.Wide ∧ ref.High = now.High
inductive Xrm (now ref : Pic) (w : List Int) (x y : Int) (c : Xeu) (r : Int) : Xam → Prop
 | same (hK : c.Key = false) (h : ∀ i : Nat, i < 64 → w.getD i 0 = (Xqi ref x y 64).getD i 0) : Xrm now ref w x y c r ⟨0, 0, 0, 0, []⟩
 | still (hK : c.Key = false) (l : List Int) (h : Xc1 (Xwj w (Xqi ref x y 64)) c = some (l, true)) (hl : Yfh l = true) (hz : ∀ i : Nat, i < 64 → l.getD i 0 = 0) : Xrm now ref w x y c r ⟨0, 0, 0, 0, []⟩
 | move (hK : c.Key = false) (dx dy : Int) (hdx : -r ≤ dx ∧ dx ≤ r) (hdy : -r ≤ dy ∧ dy ≤ r) (hh : Xdr ref (x + dx) (y + dy) = true) (l : List Int) (h : Xc1 (Xwj w (Xqi ref (x + dx) (y + dy) 64)) c = some (l, true)) (hl : Yfh l = true) (hn : ¬ ∀ i : Nat, i < 64 → w.getD i 0 = (Xqi ref x y 64).getD i 0) : Xrm now ref w x y c r ⟨1, 0, dx, dy, l⟩
 | guess (e : Xi9) (he : Xgj now x y = some (e, true)) (hp : Xtq e) (m : Int) (hm : 0 ≤ m ∧ m ≤ 3) (g : List Int) (hg : Xd9 m e = some g) (hd : Xby g = true) (l : List Int) (h : Xc1 (Xwj w g) c = some (l, true)) (hl : Yfh l = true) (hn : c.Key = false → ¬ ∀ i : Nat, i < 64 → w.getD i 0 = (Xqi ref x y 64).getD i 0) : Xrm now ref w x y c r ⟨2, m, 0, 0, l⟩
theorem Xrm.ok {now ref : Pic} {w : List Int} {x y : Int} {c : Xeu} {r : Int} {q : Xam} (hr : 0 ≤ r ∧ r ≤ 4) (h : Xrm now ref w x y c r q) : Xuc q = true ∧ Xqg q c = true ∧ q.Levels.length ≤ 64 := by
 cases h with
 | same hK _ => exact ⟨rfl, by unfold Xqg; rw [hK]; rfl, by simp⟩
 | still hK l _ _ _ => exact ⟨rfl, by unfold Xqg; rw [hK]; rfl, by simp⟩
 | move hK dx dy hdx hdy hh l h hl hn => exact ⟨Yxz (by omega) (by omega) hl, by unfold Xqg; rw [hK]; rfl, by simp only; have := (Yco hl).1; omega⟩
 | guess e he hp m hm g hg hd l h hl hn => exact ⟨Yvq hm hl, by unfold Xqg; simp, by simp only; have := (Yco hl).1; omega⟩
theorem Yuk {l : List Int} (hl : l.length = 64) : (l.all fun x => x == 0) = true ↔ ∀ i : Nat, i < 64 → l.getD i 0 = 0 := by
 rw [List.all_eq_true]
 constructor
 ·
  intro h i hi
  have := h (l.getD i 0) (by rw [Xb4 l i (by omega)]; exact List.getElem_mem _)
  rwa [beq_iff_eq] at this
 ·
  intro h x hx
  obtain ⟨i, hi, rfl⟩ := List.getElem_of_mem hx
  rw [beq_iff_eq, ← Xb4 l i hi 0]
  exact h i (by omega)
theorem Ym9 {p : Pic} {w : List Int} {x y r : Int} (ok : Xbx p = true) (hw : Xby w = true) (hr : 0 ≤ r ∧ r ≤ 4) (hx : x.tmod 8 = 0) (hy : y.tmod 8 = 0) (h0 : Xdr p x y = true) :
  ∃ b, Xd2 p w x y r = some b ∧ Xo1 p w x y r = some b ∧ (-r ≤ b.1 ∧ b.1 ≤ r) ∧ (-r ≤ b.2.1 ∧ b.2.1 ≤ r) ∧ Xdr p (x + b.1) (y + b.2.1) = true := by
 obtain ⟨b, e, h1, h2, h3, _⟩ := Yd5 ok hw hr hx hy h0
 exact ⟨b, e, by rw [← Ykb ok hw hr hx hy h0]; exact e, h1, h2, h3⟩
theorem Xor {now ref : Pic} {w : List Int} {x y : Int} {c : Xeu} {r : Int} (H : Zb0 now ref w x y c r) : ∃ q d, Xfi now ref w x y c r = some (q, d, true) ∧ Xni now ref w x y c r = some (q, d, true) ∧ Xrm now ref w x y c r q ∧ Xbz now ref 0 0 c x y q = some (d, true) ∧ Xby d = true := by
 obtain ⟨ok, hx, hy, h0, hw, hc, hr, hk⟩ := H
 have hwl := (Xbr hw).1
 obtain ⟨e, ee, he⟩ := Xp0 ok hx hy h0
 obtain ⟨m, co, eb, hm⟩ := Ycs hw he
 obtain ⟨g, eg, hg⟩ := Xic m hm he
 obtain ⟨l, el, hl⟩ := Xt0 (Xwj w g) c hc (Xjj w g) (Xs5 hw hg)
 have hh := h0
 unfold Xdr at hh
 rw [decide_eq_true_eq] at hh
 obtain ⟨k1, k2, k3⟩ := Xay ok
 -- the square
 have main : ∃ q, Xrm now ref w x y c r q ∧ Xrk now ref w x y c r = some q ∧
   (sel (!c.Key) (bnd (Xb8 ref x y) fun q15 => bnd (Xqp w q15) fun q16 => sel (q16 == 0) (some ((0 : Int), (0 : Int), (0 : Int), (0 : Int), ([] : List Int))) (bnd (Xd2 ref w x y r) fun q17 => sel (decide (q17.2.2 ≤ co)) (bnd (Xb8 ref (Xaa .i64 (x + q17.1)) (Xaa .i64 (y + q17.2.1))) fun q18 => bnd (Xgw w q18) fun q19 => bnd (Xgr q19 c) fun q20 =>
    bnd (sel (q17.1 == 0) (sel (q17.2.1 == 0) (bnd (Xbu q20.1 64 0 0) fun q22 => some q22) (some false)) (some false)) fun v21 => sel v21 (some (0, 0, 0, 0, [])) (some (1, 0, q17.1, q17.2.1, q20.1))) (some (2, m, 0, 0, l)))) (some (2, m, 0, 0, l))) = some (q.Kind, q.Mode, q.Dx, q.Dy, q.Levels) := by
  unfold Xrk
  cases hK : c.Key with
  | true =>
   refine ⟨⟨2, m, 0, 0, l⟩, .guess e ee he m hm g eg hg l el hl (fun h => by rw [hK] at h; cases h), ?_, rfl⟩
   rw [Xat, Xab, Xao, ee, Xab, eb, Xab, Bool.not_true]
   simp only [Yy2, Xao, eg, Xab, Xl4 hw hg, el]
  | false =>
   obtain ⟨rok, rw', rh⟩ := hk hK
   have hb := Xg0 ref x y
   have r0 : Xdr ref x y = true := by unfold Xdr; rw [decide_eq_true_eq, rw', rh]; exact hh
   have gz := Yy0 hw hb
   have lz := Yuk (Xjj w (Xqi ref x y 64))
   rw [Bool.not_false, Xat, Xao, Xgv rok x y (by omega) (by omega), Xab, Xsz hw hb, Xab, Xib rok x y (by omega) (by omega), Xab, Xl4 hw hb, Xab, Xvi _ (by rw [Xjj]; omega), Xab, Xab, gz]
   cases hz : ((Xwj w (Xqi ref x y 64)).all fun x => x == 0) with
   | true =>
    refine ⟨⟨0, 0, 0, 0, []⟩, .same hK fun i hi => ?_, rfl, rfl⟩
    have := lz.1 hz i hi
    rw [Yao _ _ hi] at this; omega
   | false =>
    have hne : ¬ ∀ i : Nat, i < 64 → w.getD i 0 = (Xqi ref x y 64).getD i 0 := fun hall => by
     have := lz.2 fun i hi => by rw [Yao _ _ hi, hall i hi]; omega
     rw [hz] at this; cases this
    obtain ⟨b, bi, bs, b1, b2, b3⟩ := Ym9 rok hw hr hx hy r0
    rw [Xao, Xao, ee, Xab, eb, Xab, bi, Xab]
    simp only [Yy2, Xat, bs, Xab]
    by_cases hco : b.2.2 ≤ co
    ·
     have hb2 := Xg0 ref (x + b.1) (y + b.2.1)
     obtain ⟨l2, el2, hl2⟩ := Xt0 (Xwj w (Xqi ref (x + b.1) (y + b.2.1) 64)) c hc (Xjj _ _) (Xs5 hw hb2)
     have hl2n := (Yco hl2).1
     rw [Xbh hco, Xbh hco, wkA (e := x + b.1), wkA (e := y + b.2.1), Xib rok _ _ (by omega) (by omega), Xgv rok _ _ (by omega) (by omega), Xab, Xab, Xty hw hb2, Xl4 hw hb2, Xab, Xab, Xwt _ c hc (Xjj _ _) (Xs5 hw hb2), el2, Xab, Xab, Yun l2 hl2n, Xab, Xvi l2 (by omega), Xab]
     simp only [Xdf, Xab]
     cases hst : (b.1 == 0 && (b.2.1 == 0 && l2.all fun x => x == 0)) with
     | true =>
      simp only [Bool.and_eq_true, beq_iff_eq] at hst
      obtain ⟨z1, z2, z3⟩ := hst
      rw [z1, z2, Int.add_zero, Int.add_zero] at el2
      exact ⟨⟨0, 0, 0, 0, []⟩, .still hK l2 el2 hl2 ((Yuk hl2n).1 z3), rfl, rfl⟩
     | false => exact ⟨⟨1, 0, b.1, b.2.1, l2⟩, .move hK b.1 b.2.1 b1 b2 b3 l2 el2 hl2 hne, rfl, rfl⟩
    ·
     rw [Xap hco, Xap hco]
     refine ⟨⟨2, m, 0, 0, l⟩, .guess e ee he m hm g eg hg l el hl (fun _ => hne), ?_, rfl⟩
     simp only [eg, Xab, Xl4 hw hg, el]
 obtain ⟨q, hq, es, ei⟩ := main
 obtain ⟨q1, q2, q3⟩ := hq.ok hr
 obtain ⟨d, di, ds, hd⟩ := Xpd (now := now) (ref := ref) (l := 0) (t := 0) (x := x) (y := y) (c := c) (q := q) ⟨ok, hx, hy, h0, by omega, by omega, hc, by omega⟩ q1 q2 (fun h => (hk h).1)
 refine ⟨q, d, ?_, ?_, hq, di, hd⟩
 ·
  unfold Xfi
  have hl7 : (sel c.Key (some false) (bnd (Xbt ref) fun q8 => sel q8 (sel (ref.Wide != now.Wide) (some true) (some (ref.High != now.High))) (some true))) = some false := by
   cases hK : c.Key with
   | true => rfl
   | false =>
    obtain ⟨a1, a2, a3⟩ := hk hK
    rw [Xao, Xbj, Xab, a1, a2, a3, Xat, bne_self_eq_false, Xao, bne_self_eq_false]
  rw [Xbj, Xab, ok, Xat, Xu1 ok hx hy h0, Xab, Xat, Xh2 w (by omega), Xab, hw, Xat, Xdk, Xab, hc, Xat, Xak, Xab, decide_eq_true hr, Bool.not_true, Xab, Xao, hl7, Xab, Xao, Xy0 ok hx hy h0, ee, Xab, Ygi hw he, eb, Xab, Xsp m hm he, eg, Xab, Xty hw hg, Xab, Xwt _ c hc (Xjj _ _) (Xs5 hw hg), el, Xab]
  simp only
  rw [ei, Xab]
  simp only
  rw [show (⟨q.Kind, q.Mode, q.Dx, q.Dy, q.Levels⟩ : Xam) = q from rfl, di, Xab]
  rfl
 ·
  unfold Xni
  have hl7 : (sel c.Key (some false) (bnd (Xq1 now ref) fun q6 => some (!q6))) = some false := by
   cases hK : c.Key with
   | true => rfl
   | false =>
    obtain ⟨a1, a2, a3⟩ := hk hK
    rw [Xao, Yj0, Xab, Yy5 ok a1 a2 a3]; rfl
  rw [Xe6 ok hx hy h0, Xab, Xat, Xe5 w hw, Xab, Xat, Xdl, Xab, hc, Xat, Xaj, Xab, decide_eq_true hr, Xat, hl7, Xab, Xao, es, Xab, ds, Xab]
theorem Yxp : ∀ j : Fin 64, ∃ i : Fin 64, (Yfj 8).getD i.val 0 = (j.val : Int) := by decide +kernel
theorem Yrl (j : Nat) (hj : j < 64) : ∃ i : Nat, i < 64 ∧ Xcr 8 i = (j : Int) := by
 obtain ⟨i, hi⟩ := Yxp ⟨j, hj⟩
 refine ⟨i.val, i.isLt, ?_⟩
 rw [← Yrn i]; exact hi
def Xlq (l : List Int) : List Int := (List.range 64).map fun (i : Nat) => l.getD (Xcr 8 i).toNat 0
theorem Yl2 (l : List Int) (hl : l.length = 64) : Xfg 8 l = some (Xlq l, true) := by
 have hm : maxLen = 9223372036854775807 := rfl
 have hw : Xaa .i64 (8 * 8) = 64 := wkA
 unfold Xfg
 have hc : (sel ((8 : Int) != 4) (sel ((8 : Int) != 8) (some true) (some ((l.length : Int) != (Xaa .i64 (8 * 8))))) (some ((l.length : Int) != (Xaa .i64 (8 * 8))))) = some false := by
  rw [hw, hl]; rfl
 have := Yf6 (f := Xci 8 l) 64 (fun i => l.getD (Xcr 8 i).toNat 0) [] (by
  intro i hi
  have hp := Xfe 8 (Or.inr rfl) i (by omega)
  unfold Xci
  simp only
  rw [hw, syA, Xea 8 (Or.inr rfl) i (by omega), Xab, rqA, Xa2 (by simp only [List.length_append, List.length_nil, List.length_map, List.length_range, List.length_singleton]; omega), wkA]
  rfl) (by unfold Xci; rw [hw, Xap (by simp)])
 rw [List.nil_append] at this
 rw [hc, Xab, Xao, this, Xab]
 rfl
theorem Yjh (l : List Int) {i : Nat} (hi : i < 64) : (Xlq l).getD i 0 = l.getD (Xcr 8 i).toNat 0 := Xft _ hi
end Go.Proofs.YtnhflbeahbcklaaGreat.A.Pure
