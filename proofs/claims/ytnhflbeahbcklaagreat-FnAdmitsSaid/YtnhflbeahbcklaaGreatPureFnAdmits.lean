/- The pure statement of the law FnAdmits, part 2: over numbers, texts and lists alone, what the law computes is true. Conditions: the sizes of what a machine holds. -/
import Derived.Test.YtnhflbeahbcklaaGreatPureFnAdmitsx0
namespace Go.Proofs.YtnhflbeahbcklaaGreat.A.Pure
open Go Go.Proofs Go.Proofs.YtnhflbeahbcklaaGreatAL Go.RowKit
set_option linter.unusedVariables false
set_option linter.unusedSimpArgs false
set_option maxHeartbeats 1000000
theorem Yrn {n : Int} {v : Int × List Int} {x : Lp (Int × List Int) (List Int)} (h : Xr7 n v = some x) : Xhh n v = some x := by
 unfold Xr7 at h
 unfold Xhh
 rcases Xjy h with ⟨hb, h⟩ | ⟨hb, h⟩
 ·
  rw [hb, Xau]
  obtain ⟨a, h1, h2⟩ := Xbd h
  rw [Xi4.2 ⟨20, h1⟩, Xab]
  exact h2
 ·
  rw [hb, Xao]; exact h
def Yjr (n : Int) : List Int := (it (Xr7 n) 20 (0, [])).getD []
theorem Zbq : (it (Xr7 4) 20 (0, [])).isSome = true ∧ (Yjr 4).length = 16 := by decide +kernel
theorem Zbr : (it (Xr7 8) 20 (0, [])).isSome = true ∧ (Yjr 8).length = 64 := by decide +kernel
theorem Yxo : ∀ i : Fin 16, (Yjr 4).getD i.val 0 = Xgw 4 (i.val : Int) := by decide +kernel
theorem Yxp : ∀ i : Fin 64, (Yjr 8).getD i.val 0 = Xgw 8 (i.val : Int) := by decide +kernel
theorem Xrx (n : Int) (hn : n = 4 ∨ n = 8) : Xg6 n = some (Yjr n) ∧ ((Yjr n).length : Int) = n * n ∧ ∀ i : Nat, (i : Int) < n * n → (Yjr n).getD i 0 = Xgw n i := by
 have h : (it (Xr7 n) 20 (0, [])).isSome = true ∧ ((Yjr n).length : Int) = n * n := by
  rcases hn with rfl | rfl
  ·
   have := Zbq; exact ⟨this.1, by omega⟩
  ·
   have := Zbr; exact ⟨this.1, by omega⟩
 refine ⟨?_, h.2, fun i hi => ?_⟩
 ·
  obtain ⟨o, ho⟩ := Option.isSome_iff_exists.1 h.1
  have hl := Ysm 20 (Yy3 (fun v y => Yrn (n := n)) 20 _ ho)
  unfold Xg6
  rw [hl, Xab]
  unfold Yjr; rw [ho]; rfl
 ·
  rcases hn with rfl | rfl
  ·
   exact Yxo ⟨i, by omega⟩
  ·
   exact Yxp ⟨i, by omega⟩
theorem Xt6 (n : Int) (hn : n = 4 ∨ n = 8) (l : List Int) (hl : (l.length : Int) = n * n) : Xfa n l = Xfd n l := by
 obtain ⟨e, h1, h2⟩ := Xrx n hn
 have hw : Xaa .i64 (n * n) = n * n := by rcases hn with rfl | rfl <;> exact wkA
 have hn2 : n * n ≤ 64 := by rcases hn with rfl | rfl <;> omega
 unfold Xfa Xfd
 rw [e]
 have : loop (Xir l (Yjr n)) (0, List.replicate (l.length : Int).toNat 0) = loop (Xc9 n l) (0, List.replicate (l.length : Int).toNat 0) := by
  refine Xmz (fun v => (∃ i : Nat, v.1 = (i : Int) ∧ i ≤ l.length) ∧ v.2.length = l.length) ?_ ?_ ⟨⟨0, rfl, by omega⟩, by simp⟩
  ·
   intro ⟨i, s⟩ ⟨⟨k, ek, hk⟩, hs⟩
   simp only at hs ek
   subst ek
   unfold Xir Xc9
   simp only [Int.toNat_natCast]
   rw [hw]
   by_cases hi : (k : Int) < n * n
   ·
    have hp := Xib n hn k hi
    have h3 := h2 k hi
    simp only [h3]
    rw [syA, Xbk hi, Xhc n hn k hi, Xab, rqA, rqA]
   ·
    rw [snA, Xar hi]
  ·
   intro ⟨i, s⟩ v' ⟨⟨k, ek, hk⟩, hs⟩ he
   simp only at hs ek
   subst ek
   unfold Xc9 at he
   simp only [Int.toNat_natCast] at he
   rw [hw] at he
   by_cases hi : (k : Int) < n * n
   ·
    have hp := Xib n hn k hi
    rw [Xbk hi, Xhc n hn k hi, Xab, rqA, rqA, rqA, wkA] at he
    cases he
    exact ⟨⟨k + 1, rfl, by omega⟩, by rw [List.length_set]; exact hs⟩
   ·
    rw [Xar hi] at he; cases he
 simp only [Xab, this]
theorem Xsi (n : Int) (hn : n = 4 ∨ n = 8) (l : List Int) (hl : (l.length : Int) = n * n) : Xhw n l = Xig n l := by
 have hm : maxLen = 9223372036854775807 := rfl
 obtain ⟨e, h1, h2⟩ := Xrx n hn
 have hw : Xaa .i64 (n * n) = n * n := by rcases hn with rfl | rfl <;> exact wkA
 have hn2 : n * n ≤ 64 := by rcases hn with rfl | rfl <;> omega
 unfold Xhw Xig
 rw [e]
 have : loop (Xlc l (Yjr n)) (0, ([] : List Int)) = loop (Xej n l) (0, ([] : List Int)) := by
  refine Xmz (fun v => ∃ i : Nat, v.1 = (i : Int) ∧ i ≤ l.length) ?_ ?_ ⟨0, rfl, by omega⟩
  ·
   intro ⟨i, s⟩ ⟨k, ek, hk⟩
   simp only at ek
   subst ek
   unfold Xlc Xej
   simp only [Int.toNat_natCast]
   rw [hw]
   by_cases hi : (k : Int) < n * n
   ·
    have hp := Xib n hn k hi
    have h3 := h2 k hi
    simp only [h3]
    rw [syA, Xbk hi, Xhc n hn k hi, Xab, rqA, rqA]
   ·
    rw [snA, Xar hi]
  ·
   intro ⟨i, s⟩ v' ⟨k, ek, hk⟩ he
   simp only at ek
   subst ek
   unfold Xej at he
   simp only [Int.toNat_natCast] at he
   rw [hw] at he
   by_cases hi : (k : Int) < n * n
   ·
    have hp := Xib n hn k hi
    rw [Xbk hi, Xhc n hn k hi, Xab, rqA] at he
    obtain ⟨_, he⟩ := Xaw he
    rw [wkA] at he
    cases he
    exact ⟨k + 1, rfl, by omega⟩
   ·
    rw [Xar hi] at he; cases he
 simp only [Xab, this]
def Ypm (t : Nat → Int) : Nat → Int
 | 0 => 0
 | k + 1 => Xaa .i64 (Ypm t k + t k)
def Zbn (p : List Int) (i v k : Nat) : Int := Xaa .i64 (Xjj v k * p.getD (8 * i + k) 0)
def Za4 (p : List Int) (u v k : Nat) : Int := Xaa .i64 (Xjj u k * p.getD (8 * k + v) 0)
def Xub (p : List Int) : List Int := (List.range 64).map fun j => Ypm (Zbn p (j / 8) (j % 8)) 8
def Yvw (p : List Int) : List Int := (List.range 64).map fun j => Ypm (Za4 (Xub p) (j / 8) (j % 8)) 8
theorem Yqf (p : List Int) : (Xub p).length = 64 := by simp [Xub]
theorem Yx2 (p : List Int) : (Yvw p).length = 64 := by simp [Yvw]
theorem Yru {f1 : Int × List Int → Option (Lp (Int × List Int) (List Int))} {f2 : Int × List Int → Int × List Int → Option (Lp (Int × List Int) (List Int))} {f3 : Int × List Int → Int × List Int → Int × List Int → Option (Lp (Int × List Int) (List Int))} (t : Nat → Nat → Nat → Int)
  (h1 : ∀ v, f1 v = sel (decide (v.1 < 8)) (bnd (loop (f2 v) (0, v.2)) fun w => some (.go (Xaa .i64 (v.1 + 1), w))) (some (.done v.2)))
  (h2 : ∀ v w, f2 v w = sel (decide (w.1 < 8)) (bnd (loop (f3 v w) (0, w.2)) fun x => some (.go (Xaa .i64 (w.1 + 1), x))) (some (.done w.2)))
  (h3 : ∀ (i v k : Nat) (a b s : List Int), i < 8 → v < 8 → k < 8 → s.length = 64 → f3 ((i : Int), a) ((v : Int), b) ((k : Int), s) = some (.go (((k + 1 : Nat) : Int), s.set (8 * i + v) (Xaa .i64 (s.getD (8 * i + v) 0 + t i v k)))))
  (h4 : ∀ (i v : Nat) (a b s : List Int), f3 ((i : Int), a) ((v : Int), b) (8, s) = some (.done s)) : loop f1 (0, List.replicate 64 0) = some ((List.range 64).map fun j => Ypm (t (j / 8) (j % 8)) 8) := by
 obtain ⟨o, e, o1, o2, _⟩ := Xnu (f := f1) 8 (fun i s => s.length = 64 ∧ (∀ j, j < 8 * i → s.getD j 0 = Ypm (t (j / 8) (j % 8)) 8) ∧ ∀ j, 8 * i ≤ j → s.getD j 0 = 0) (by
  intro i s hi ⟨g1, g2, g3⟩
  obtain ⟨r, er, r1, r2, r3⟩ := Xnu (f := f2 ((i : Int), s)) 8 (fun v s => s.length = 64 ∧ (∀ j, j < 8 * i + v → s.getD j 0 = Ypm (t (j / 8) (j % 8)) 8) ∧ ∀ j, 8 * i + v ≤ j → s.getD j 0 = 0) (by
   intro v s' hv ⟨k1, k2, k3⟩
   obtain ⟨q, eq, q1, q2, q3⟩ := Xnu (f := f3 ((i : Int), s) ((v : Int), s')) 8 (fun k s => s.length = 64 ∧ (∀ j, j ≠ 8 * i + v → s.getD j 0 = s'.getD j 0) ∧ s.getD (8 * i + v) 0 = Ypm (t i v) k) (by
    intro k s'' hk ⟨m1, m2, m3⟩
    refine ⟨_, h3 i v k s s' s'' hi hv hk m1, by rw [List.length_set]; exact m1, fun j hj => ?_, ?_⟩
    ·
     rw [Xe8 _ _ _ _ (by omega), if_neg (fun h => hj h.symm)]; exact m2 j hj
    ·
     rw [Xe8 _ _ _ _ (by omega), if_pos rfl, m3]; rfl) (fun z _ => h4 i v s s' z) s' ⟨k1, fun _ _ => rfl, by rw [k3 _ (Nat.le_refl _)]; rfl⟩
   refine ⟨q, by rw [h2, Xbk (by simp only; omega), eq, Xab, wk (by simp only; omega) (by simp only; omega)]; rfl, q1, fun j hj => ?_, fun j hj => ?_⟩
   ·
    by_cases h : j = 8 * i + v
    ·
     rw [h, q3, show (8 * i + v) / 8 = i by omega, show (8 * i + v) % 8 = v by omega]
    ·
     rw [q2 j h]; exact k2 j (by omega)
   ·
    rw [q2 j (by omega)]; exact k3 j (by omega)) (fun z _ => by rw [h2, Xar (by simp)]) s ⟨g1, g2, g3⟩
  refine ⟨r, by rw [h1, Xbk (by simp only; omega), er, Xab, wk (by simp only; omega) (by simp only; omega)]; rfl, r1, fun j hj => r2 j (by omega), fun j hj => r3 j (by omega)⟩) (fun z _ => by rw [h1, Xar (by simp)]) (List.replicate 64 0) ⟨by simp, fun j hj => by omega, fun j _ => by
   by_cases h : j < 64
   ·
    rw [Xcm _ _ (by rw [List.length_replicate]; exact h)]; exact List.getElem_replicate ..
   ·
    rw [List.getD_eq_getElem?_getD, List.getElem?_eq_none (by rw [List.length_replicate]; omega)]; rfl⟩
 rw [e]
 congr 1
 exact Ycx o1 (by simp) fun j hj => by rw [o2 j (by omega), Xhg (fun j => Ypm (t (j / 8) (j % 8)) 8) hj]
theorem Ydz (p : List Int) (hp : p.length = 64) : Xr1 p = some (Yvw p) := by
 unfold Xr1
 rw [rqA]
 have e1 : loop (Xsu p) (0, List.replicate (64 : Int).toNat 0) = some (Xub p) :=
  Yru (f2 := Xsv p) (f3 := Xlm p) (fun i v k => Zbn p i v k) (fun _ => rfl) (fun _ _ => rfl) (fun i v k a b s hi hv hk hs => by
   unfold Xlm
   simp only
   rw [syA, wkA (e := 8 * (i : Int)), wkA (e := 8 * (i : Int) + (v : Int)), wkA (e := 8 * (i : Int) + (k : Int)), rqA, rqA, Ydm v k hv hk, Xab, rqA, rqA, rqA, wkA (e := (k : Int) + 1), show (8 * (i : Int) + (v : Int)).toNat = 8 * i + v by omega, show (8 * (i : Int) + (k : Int)).toNat = 8 * i + k by omega]
   rfl) (fun i v a b s => by unfold Xlm; rw [Xar (by simp)])
 have e2 : loop (Xq1 (Xub p)) (0, List.replicate (64 : Int).toNat 0) = some (Yvw p) :=
  Yru (f2 := Xq2 (Xub p)) (f3 := Xji (Xub p)) (fun i v k => Za4 (Xub p) i v k) (fun _ => rfl) (fun _ _ => rfl) (fun i v k a b s hi hv hk hs => by
   have hl := Yqf p
   unfold Xji
   simp only
   rw [syA, wkA (e := 8 * (i : Int)), wkA (e := 8 * (i : Int) + (v : Int)), wkA (e := 8 * (k : Int)), wkA (e := 8 * (k : Int) + (v : Int)), rqA, rqA, Ydm i k hi hk, Xab, rqA, rqA, rqA, rqA, wkA (e := (k : Int) + 1), show (8 * (i : Int) + (v : Int)).toNat = 8 * i + v by omega, show (8 * (k : Int) + (v : Int)).toNat = 8 * k + v by omega]
   rfl) (fun i v a b s => by unfold Xji; rw [Xar (by simp)])
 rw [e1, Xab, rqA, e2, Xab]
theorem Yme (p : List Int) (hp : p.length = 64) (i v : Nat) (hi : i < 8) (hv : v < 8) : Xp6 p i v = some (Ypm (Zbn p i v) 8) := by
 obtain ⟨o, e, h⟩ := Xqe (f := Xff p i v) 8 (fun k s => s = Ypm (Zbn p i v) k) (by
  intro k s hk g
  subst g
  unfold Xff
  simp only
  rw [syA, wkA (e := 8 * (i : Int)), wkA (e := 8 * (i : Int) + (k : Int)), rqA, Xxe v k hv hk, Xab, wkA (e := (k : Int) + 1), show (8 * (i : Int) + (k : Int)).toNat = 8 * i + k by omega, Int.mul_comm (p.getD _ _)]
  exact ⟨_, rfl, rfl⟩) (by intro s; unfold Xff; rw [Xar (by simp)]) 0 rfl
 unfold Xp6
 rw [e, Xab, h]
theorem Xu9 (p : List Int) (hp : p.length = 64) : Xky p = some (Yvw p) := by
 have hm : maxLen = 9223372036854775807 := rfl
 unfold Xky
 obtain ⟨o, e, ho⟩ := Xdz (f := Xdq p) 8 (fun i s => s = (List.range (8 * i)).map fun j => Ypm (Zbn p (j / 8) (j % 8)) 8) (by
  intro i s hi g
  subst g
  obtain ⟨r, er, hr⟩ := Xdz (f := Xdr p ((i : Int), (List.range (8 * i)).map fun j => Ypm (Zbn p (j / 8) (j % 8)) 8)) 8 (fun v s => s = (List.range (8 * i + v)).map fun j => Ypm (Zbn p (j / 8) (j % 8)) 8) (by
   intro v s hv g
   subst g
   unfold Xdr
   simp only
   rw [syA, Yme p hp i v hi hv, Xab, Xa2 (by simp only [List.length_singleton, List.length_map, List.length_range]; omega), wkA (e := (v : Int) + 1)]
   refine ⟨_, rfl, ?_⟩
   rw [show 8 * i + (v + 1) = (8 * i + v) + 1 by omega, List.range_succ, List.map_append, List.map_singleton, show (8 * i + v) / 8 = i by omega, show (8 * i + v) % 8 = v by omega]) (by intro s; unfold Xdr; rw [Xar (by simp)]) _ rfl
  rw [Nat.add_zero] at er
  unfold Xdq
  simp only
  rw [syA, er, Xab, wkA (e := (i : Int) + 1)]
  exact ⟨_, rfl, by rw [hr, show 8 * (i + 1) = 8 * i + 8 by omega]⟩) (by intro s; unfold Xdq; rw [Xar (by simp)]) [] rfl
 have ho' : o = Xub p := by rw [ho]; rfl
 rw [e, Xab, ho']
 obtain ⟨o2, e2, ho2⟩ := Xdz (f := Xda (Xub p)) 8 (fun i s => s = (List.range (8 * i)).map fun j => Ypm (Za4 (Xub p) (j / 8) (j % 8)) 8) (by
  intro i s hi g
  subst g
  obtain ⟨r, er, hr⟩ := Xdz (f := Xdb (Xub p) ((i : Int), (List.range (8 * i)).map fun j => Ypm (Za4 (Xub p) (j / 8) (j % 8)) 8)) 8 (fun v s => s = (List.range (8 * i + v)).map fun j => Ypm (Za4 (Xub p) (j / 8) (j % 8)) 8) (by
   intro v s hv g
   obtain ⟨c, ec, hc⟩ := Xqe (f := Xdc (Xub p) ((i : Int), (List.range (8 * i)).map fun j => Ypm (Za4 (Xub p) (j / 8) (j % 8)) 8) ((v : Int), s)) 8 (fun k x => x = Ypm (Za4 (Xub p) i v) k) (by
    intro k x hk g
    subst g
    have hl := Yqf p
    unfold Xdc
    simp only
    rw [syA, Xxe i k hi hk, Xab, wkA (e := 8 * (k : Int)), wkA (e := 8 * (k : Int) + (v : Int)), rqA, rqA, wkA (e := (k : Int) + 1), show (8 * (k : Int) + (v : Int)).toNat = 8 * k + v by omega]
    exact ⟨_, rfl, rfl⟩) (by intro s; unfold Xdc; rw [Xar (by simp)]) 0 rfl
   subst g
   unfold Xdb
   simp only
   rw [syA, ec, Xab, Xa2 (by simp only [List.length_singleton, List.length_map, List.length_range]; omega), wkA (e := (v : Int) + 1)]
   refine ⟨_, rfl, ?_⟩
   rw [hc, show 8 * i + (v + 1) = (8 * i + v) + 1 by omega, List.range_succ, List.map_append, List.map_singleton, show (8 * i + v) / 8 = i by omega, show (8 * i + v) % 8 = v by omega]) (by intro s; unfold Xdb; rw [Xar (by simp)]) _ rfl
  rw [Nat.add_zero] at er
  unfold Xda
  simp only
  rw [syA, er, Xab, wkA (e := (i : Int) + 1)]
  exact ⟨_, rfl, by rw [hr, show 8 * (i + 1) = 8 * i + 8 by omega]⟩) (by intro s; unfold Xda; rw [Xar (by simp)]) [] rfl
 rw [e2, Xab, ho2]
 rfl
theorem Xrd (l : List Int) (n B : Int) (hn : (l.length : Int) = n) (hn2 : n ≤ 1000000) (h : inB B l) : Xbm l n (-B) B = some true := by
 rw [Xlg l n (-B) B (by omega), hn, beq_self_eq_true, Bool.and_true]
 congr 1
 rw [List.all_eq_true]
 intro x hx
 rw [decide_eq_true_eq]; exact h x hx
theorem Ya5 (o : List Int) {f : Int × List Int → Option (Lp (Int × List Int) (List Int))} (n : Nat) (hn : n ≤ 64) (hl : o.length = n) (hf : ∀ v : Int × List Int, f v = sel (decide (v.1 < (n : Int))) (req (0 ≤ v.1 ∧ v.1 < v.2.length) <| req (v.1.toNat < v.2.length) <| bnd (Xd5 (Xaa .i64 ((v.2.getD v.1.toNat 0) + 32)) 64) fun q => req (0 ≤ v.1 ∧ v.1 < v.2.length) <| req (v.1.toNat < v.2.length) <| some (.go (Xaa .i64 (v.1 + 1), (v.2.set v.1.toNat q)))) (some (.done v.2))) : bnd (Xkr o) (fun q => some q.2) = bnd (loop f (0, o)) fun q => some q := by
 unfold Xkr
 have : Xpx o = f := by
  funext v
  rw [hf, ← hl]; rfl
 rw [this]
 cases loop f (0, o) <;> rfl
theorem Yg0 (p : List Int) (hl : p.length = 64) (hb : inB 10000000 p) : Xjd p = Xjm p := by
 unfold Xjd Xjm
 rw [Xrd p 64 10000000 (by omega) (by omega) hb, Xcx p 64 10000000 (by omega) (by omega) (by omega) hb, Xab, Xab, Bool.not_true, Xao, Xao, Ydz p hl, Xu9 p hl, Xab, Xab]
 exact Ya5 (Yvw p) 64 (by omega) (Yx2 p) (fun _ => rfl)
theorem Yrw (p : List Int) (hl : p.length = 64) (hb : inB 1000 p) : Xrh p = Xr8 p := by
 unfold Xrh Xr8
 rw [Xrd p 64 1000 (by omega) (by omega) hb, Xcx p 64 1000 (by omega) (by omega) (by omega) hb, Xab, Xab, Bool.not_true, Xao, Xao, Ydz p hl, Xu9 p hl, Xab]
def tgA (q : Int → Int → Int → Int → Option (Int × Int × Int × Int)) (v4 : (Int × (List Int))) : Option (Lp (Int × (List Int)) (List Int)) :=
 sel (decide (v4.1 < 16)) (
 req (0 ≤ v4.1 ∧ v4.1 < v4.2.length) <|
 req (v4.1.toNat < v4.2.length) <|
 req (0 ≤ (Xaa .i64 (v4.1 + 1)) ∧ (Xaa .i64 (v4.1 + 1)) < v4.2.length) <|
 req ((Xaa .i64 (v4.1 + 1)).toNat < v4.2.length) <|
 req (0 ≤ (Xaa .i64 (v4.1 + 2)) ∧ (Xaa .i64 (v4.1 + 2)) < v4.2.length) <|
 req ((Xaa .i64 (v4.1 + 2)).toNat < v4.2.length) <|
 req (0 ≤ (Xaa .i64 (v4.1 + 3)) ∧ (Xaa .i64 (v4.1 + 3)) < v4.2.length) <|
 req ((Xaa .i64 (v4.1 + 3)).toNat < v4.2.length) <|
 bnd (q (v4.2.getD v4.1.toNat 0) (v4.2.getD ((Xaa .i64 (v4.1 + 1)).toNat) 0) (v4.2.getD ((Xaa .i64 (v4.1 + 2)).toNat) 0) (v4.2.getD ((Xaa .i64 (v4.1 + 3)).toNat) 0)) fun q8 =>
 req (0 ≤ v4.1 ∧ v4.1 ≤ (Xaa .i64 (v4.1 + 4)) ∧ (Xaa .i64 (v4.1 + 4)) ≤ (v4.2.length : Int)) <|
 req ((v4.1.toNat + ((Xaa .i64 (v4.1 + 4)).toNat - v4.1.toNat) ≤ v4.2.length ∧ ([q8.1, q8.2.1, q8.2.2.1, q8.2.2.2]).length ≤ ((Xaa .i64 (v4.1 + 4)).toNat - v4.1.toNat))) <|
 some (.go (Xaa .i64 (v4.1 + 4), (over v4.2 v4.1.toNat ([q8.1, q8.2.1, q8.2.2.1, q8.2.2.2]))))) (
 some (.done v4.2))
def tgB (v17 : (Int × (List Int))) (q26 : (Int × Int × Int × Int)) (v28 : (Int × (List Int))) : Option (Lp (Int × (List Int)) (List Int)) :=
 sel (decide (v28.1 < 4)) (
 req (0 ≤ v28.1 ∧ v28.1 < ([q26.1, q26.2.1, q26.2.2.1, q26.2.2.2] : List Int).length) <|
 req (0 ≤ (Xaa .i64 (v17.1 + (Xaa .i64 (4 * v28.1)))) ∧ (Xaa .i64 (v17.1 + (Xaa .i64 (4 * v28.1)))) < v28.2.length) <|
 req ((Xaa .i64 (v17.1 + (Xaa .i64 (4 * v28.1)))).toNat < v28.2.length) <|
 some (.go (Xaa .i64 (v28.1 + 1), (v28.2.set ((Xaa .i64 (v17.1 + (Xaa .i64 (4 * v28.1)))).toNat) (([q26.1, q26.2.1, q26.2.2.1, q26.2.2.2] : List Int).getD v28.1.toNat 0))))) (
 some (.done v28.2))
noncomputable def tgC (q : Int → Int → Int → Int → Option (Int × Int × Int × Int)) (v17 : (Int × (List Int))) : Option (Lp (Int × (List Int)) (List Int)) :=
 sel (decide (v17.1 < 4)) (
 req (0 ≤ v17.1 ∧ v17.1 < v17.2.length) <|
 req (v17.1.toNat < v17.2.length) <|
 req (0 ≤ (Xaa .i64 (v17.1 + 4)) ∧ (Xaa .i64 (v17.1 + 4)) < v17.2.length) <|
 req ((Xaa .i64 (v17.1 + 4)).toNat < v17.2.length) <|
 req (0 ≤ (Xaa .i64 (v17.1 + 8)) ∧ (Xaa .i64 (v17.1 + 8)) < v17.2.length) <|
 req ((Xaa .i64 (v17.1 + 8)).toNat < v17.2.length) <|
 req (0 ≤ (Xaa .i64 (v17.1 + 12)) ∧ (Xaa .i64 (v17.1 + 12)) < v17.2.length) <|
 req ((Xaa .i64 (v17.1 + 12)).toNat < v17.2.length) <|
 bnd (q (v17.2.getD v17.1.toNat 0) (v17.2.getD ((Xaa .i64 (v17.1 + 4)).toNat) 0) (v17.2.getD ((Xaa .i64 (v17.1 + 8)).toNat) 0) (v17.2.getD ((Xaa .i64 (v17.1 + 12)).toNat) 0)) fun q26 =>
 bnd (loop (tgB v17 q26) (0, v17.2)) fun v30 =>
 some (.go (Xaa .i64 (v17.1 + 1), v30))) (
 some (.done v17.2))
noncomputable def Yz4 (q : Int → Int → Int → Int → Option (Int × Int × Int × Int)) (p0 : (List Int)) : Option (List Int) :=
 bnd (Xdu p0) fun q1 =>
 bnd (loop (tgA q) (0, q1)) fun v7 =>
 bnd (loop (tgC q) (0, v7)) fun v25 =>
 some v25
theorem Yx4 : Xcs = Yz4 Xec := rfl
theorem Yx5 : Xdw = Yz4 Xmg := rfl
abbrev Q4 := Int × Int × Int × Int
def Yrb (q : Q4) (i : Nat) : Int := [q.1, q.2.1, q.2.2.1, q.2.2.2].getD i 0
def Xwf (t : Int → Int → Int → Int → Q4) (p : List Int) : List Int := (List.range 16).map fun j => Yrb (t (p.getD (4 * (j / 4)) 0) (p.getD (4 * (j / 4) + 1) 0) (p.getD (4 * (j / 4) + 2) 0) (p.getD (4 * (j / 4) + 3) 0)) (j % 4)
def Xy9 (p : List Int) : List Int := (List.range 16).map fun j => p.getD (j % 4 * 4 + j / 4) 0
theorem Xr6 (t : Int → Int → Int → Int → Q4) (p : List Int) : (Xwf t p).length = 16 := by simp [Xwf]
theorem Xua (p : List Int) : (Xy9 p).length = 16 := by simp [Xy9]
theorem Yq9 {l m : List Int} {i : Nat} (h : i + m.length ≤ l.length) (j : Nat) : (over l i m).getD j 0 = if i ≤ j ∧ j < i + m.length then m.getD (j - i) 0 else l.getD j 0 := by
 rw [List.getD_eq_getElem?_getD, Yt2 h]
 split <;> rw [List.getD_eq_getElem?_getD]
theorem Yuk {q : Int → Int → Int → Int → Option Q4} {t : Int → Int → Int → Int → Q4} (hq : ∀ a b c d, q a b c d = some (t a b c d)) (p : List Int) (hp : p.length = 16) : Yz4 q p = some (Xy9 (Xwf t (Xy9 (Xwf t p)))) := by
 have hm : maxLen = 9223372036854775807 := rfl
 unfold Yz4 Xdu
 rw [Xa2 (by simp only [List.length_nil]; omega), Xab, List.nil_append]
 have hA : loop (tgA q) (0, p) = some (Xwf t p) := by
  have key : ∀ r : Nat, r ≤ 4 → ∀ s : List Int, s.length = 16 → (∀ j, j < 4 * r → s.getD j 0 = (Xwf t p).getD j 0) → (∀ j, 4 * r ≤ j → s.getD j 0 = p.getD j 0) → loop (tgA q) (((4 * r : Nat) : Int), s) = some (Xwf t p) := by
   refine Xhe _ ?_ ?_
   ·
    intro s h1 h2 _
    refine Xfv ?_
    unfold tgA
    rw [Xar (by simp), Ycx h1 (Xr6 t p) h2]
   ·
    intro r hr ih s h1 h2 h3
    refine lgo (y := (((4 * (r + 1) : Nat) : Int), over s (4 * r) [Yrb (t (p.getD (4 * r) 0) (p.getD (4 * r + 1) 0) (p.getD (4 * r + 2) 0) (p.getD (4 * r + 3) 0)) 0, Yrb (t (p.getD (4 * r) 0) (p.getD (4 * r + 1) 0) (p.getD (4 * r + 2) 0) (p.getD (4 * r + 3) 0)) 1, Yrb (t (p.getD (4 * r) 0) (p.getD (4 * r + 1) 0) (p.getD (4 * r + 2) 0) (p.getD (4 * r + 3) 0)) 2, Yrb (t (p.getD (4 * r) 0) (p.getD (4 * r + 1) 0) (p.getD (4 * r + 2) 0) (p.getD (4 * r + 3) 0)) 3])) ?_ (ih _ ?_ ?_ ?_)
    ·
     unfold tgA
     simp only
     rw [syA, wkA (e := ((4 * r : Nat) : Int) + 1), wkA (e := ((4 * r : Nat) : Int) + 2), wkA (e := ((4 * r : Nat) : Int) + 3), wkA (e := ((4 * r : Nat) : Int) + 4)]
     rw [rqA, rqA, rqA, rqA, rqA, rqA, rqA, rqA, hq, Xab, rqA, Xa2 (by simp only [List.length_cons, List.length_nil]; omega)]
     rw [show (((4 * r : Nat) : Int) + 1).toNat = 4 * r + 1 by omega, show (((4 * r : Nat) : Int) + 2).toNat = 4 * r + 2 by omega, show (((4 * r : Nat) : Int) + 3).toNat = 4 * r + 3 by omega, Int.toNat_natCast, h3 _ (by omega), h3 _ (by omega), h3 _ (by omega), h3 _ (by omega)]
     rfl
    ·
     rw [Yjf (by simp only [List.length_cons, List.length_nil]; omega)]; exact h1
    ·
     intro j hj
     rw [Yq9 (by simp only [List.length_cons, List.length_nil]; omega)]
     simp only [List.length_cons, List.length_nil]
     by_cases h : 4 * r ≤ j
     ·
      rw [if_pos (by omega)]
      unfold Xwf
      rw [Xhg _ (by omega), show 4 * (j / 4) = 4 * r by omega]
      obtain h | h | h | h : j = 4 * r ∨ j = 4 * r + 1 ∨ j = 4 * r + 2 ∨ j = 4 * r + 3 := by omega
      ·
       rw [h, show 4 * r - 4 * r = 0 by omega, show (4 * r) % 4 = 0 by omega]; rfl
      ·
       rw [h, show 4 * r + 1 - 4 * r = 1 by omega, show (4 * r + 1) % 4 = 1 by omega]; rfl
      ·
       rw [h, show 4 * r + 2 - 4 * r = 2 by omega, show (4 * r + 2) % 4 = 2 by omega]; rfl
      ·
       rw [h, show 4 * r + 3 - 4 * r = 3 by omega, show (4 * r + 3) % 4 = 3 by omega]; rfl
     ·
      rw [if_neg (by omega)]; exact h2 j (by omega)
    ·
     intro j hj
     rw [Yq9 (by simp only [List.length_cons, List.length_nil]; omega), if_neg (by simp only [List.length_cons, List.length_nil]; omega)]
     exact h3 j (by omega)
  exact key 0 (by omega) p hp (fun j hj => by omega) fun _ _ => rfl
 rw [hA, Xab]
 generalize hR : Xwf t p = R
 have hl : R.length = 16 := by rw [← hR]; exact Xr6 t p
 have hC : loop (tgC q) (0, R) = some (Xy9 (Xwf t (Xy9 R))) := by
  have at4 : ∀ j : Nat, j < 16 → (Xy9 (Xwf t (Xy9 R))).getD j 0 = Yrb (t (R.getD (j % 4) 0) (R.getD (j % 4 + 4) 0) (R.getD (j % 4 + 8) 0) (R.getD (j % 4 + 12) 0)) (j / 4) := by
   intro j hj
   rw [Xy9, Xhg _ hj, Xwf, Xhg _ (by omega), Xy9, Xhg _ (by omega), Xhg _ (by omega), Xhg _ (by omega), Xhg _ (by omega)]
   rw [show (j % 4 * 4 + j / 4) / 4 = j % 4 by omega, show (j % 4 * 4 + j / 4) % 4 = j / 4 by omega, show 4 * (j % 4) % 4 * 4 + 4 * (j % 4) / 4 = j % 4 by omega, show (4 * (j % 4) + 1) % 4 * 4 + (4 * (j % 4) + 1) / 4 = j % 4 + 4 by omega, show (4 * (j % 4) + 2) % 4 * 4 + (4 * (j % 4) + 2) / 4 = j % 4 + 8 by omega, show (4 * (j % 4) + 3) % 4 * 4 + (4 * (j % 4) + 3) / 4 = j % 4 + 12 by omega]
  obtain ⟨o, e, o1, o2, _⟩ := Xnu (f := tgC q) 4 (fun c s => s.length = 16 ∧ (∀ j, j < 16 → j % 4 < c → s.getD j 0 = (Xy9 (Xwf t (Xy9 R))).getD j 0) ∧ ∀ j, j < 16 → c ≤ j % 4 → s.getD j 0 = R.getD j 0) (by
   intro c s hc ⟨g1, g2, g3⟩
   obtain ⟨r, er, r1, r2, r3⟩ := Xnu (f := tgB ((c : Int), s) (t (R.getD c 0) (R.getD (c + 4) 0) (R.getD (c + 8) 0) (R.getD (c + 12) 0))) 4 (fun i s' => s'.length = 16 ∧ (∀ j, j < 16 → j % 4 ≠ c → s'.getD j 0 = s.getD j 0) ∧ ∀ j, j < 16 → j % 4 = c → j / 4 < i → s'.getD j 0 = Yrb (t (R.getD c 0) (R.getD (c + 4) 0) (R.getD (c + 8) 0) (R.getD (c + 12) 0)) (j / 4)) (by
    intro i s' hi ⟨k1, k2, k3⟩
    unfold tgB
    simp only
    rw [syA, Xa2 (by simp only [List.length_cons, List.length_nil]; omega), wkA (e := 4 * (i : Int)), wkA (e := (c : Int) + 4 * (i : Int)), rqA, rqA, wkA (e := (i : Int) + 1), show ((c : Int) + 4 * (i : Int)).toNat = c + 4 * i by omega, Int.toNat_natCast]
    refine ⟨_, rfl, by rw [List.length_set]; exact k1, fun j hj hjc => ?_, fun j hj hjc hji => ?_⟩
    ·
     rw [Xe8 _ _ _ _ (by omega), if_neg (by omega)]; exact k2 j hj hjc
    ·
     rw [Xe8 _ _ _ _ (by omega)]
     by_cases h : c + 4 * i = j
     ·
      rw [if_pos h, show j / 4 = i by omega]; rfl
     ·
      rw [if_neg h]; exact k3 j hj hjc (by omega)) (fun z _ => by unfold tgB; rw [Xar (by simp)]) s ⟨g1, fun _ _ _ => rfl, fun j hj hjc hji => by omega⟩
   unfold tgC
   simp only
   rw [syA, wkA (e := (c : Int) + 4), wkA (e := (c : Int) + 8), wkA (e := (c : Int) + 12), rqA, rqA, rqA, rqA, rqA, rqA, rqA, rqA, hq, Xab, show ((c : Int) + 4).toNat = c + 4 by omega, show ((c : Int) + 8).toNat = c + 8 by omega, show ((c : Int) + 12).toNat = c + 12 by omega, Int.toNat_natCast, g3 c (by omega) (by omega), g3 (c + 4) (by omega) (by omega), g3 (c + 8) (by omega) (by omega), g3 (c + 12) (by omega) (by omega), er, Xab, wkA (e := (c : Int) + 1)]
   refine ⟨r, rfl, r1, fun j hj hjc => ?_, fun j hj hjc => ?_⟩
   ·
    by_cases h : j % 4 = c
    ·
     rw [r3 j hj h (by omega), at4 j hj, h]
    ·
     rw [r2 j hj h]; exact g2 j hj (by omega)
   ·
    rw [r2 j hj (by omega)]; exact g3 j hj (by omega)) (fun z _ => by unfold tgC; rw [Xar (by simp)]) R ⟨hl, fun j hj hjc => by omega, fun _ _ _ => rfl⟩
  rw [e]
  congr 1
  exact Ycx o1 (Xua _) fun j hj => o2 j hj (by omega)
 rw [hC, Xab]
theorem Xl3 (p : List Int) (hl : p.length = 16) : Xf9 p = some (Xy9 p) := by
 unfold Xf9
 rw [rqA]
 obtain ⟨o, e, o1, o2⟩ := Xnu (f := Xek p) 16 (fun i s => s.length = 16 ∧ ∀ j, j < 16 → j % 4 * 4 + j / 4 < i → s.getD j 0 = p.getD (j % 4 * 4 + j / 4) 0) (by
  intro i s hi ⟨g1, g2⟩
  unfold Xek
  simp only
  rw [syA, rqA, rqA, rqA, Xbr (by omega), Xbg (by omega), wkA (e := (i : Int) / 4), wkA (e := (i : Int) % 4 * 4), wkA (e := (i : Int) % 4 * 4 + (i : Int) / 4), rqA, rqA, wkA (e := (i : Int) + 1), Int.toNat_natCast, show ((i : Int) % 4 * 4 + (i : Int) / 4).toNat = i % 4 * 4 + i / 4 by omega]
  refine ⟨_, rfl, by rw [List.length_set]; exact g1, fun j hj hji => ?_⟩
  rw [Xe8 _ _ _ _ (by omega)]
  by_cases h : i % 4 * 4 + i / 4 = j
  ·
   rw [if_pos h, show j % 4 * 4 + j / 4 = i by omega]
  ·
   rw [if_neg h]; exact g2 j hj (by omega)) (fun z _ => by unfold Xek; rw [Xar (by simp)]) (List.replicate (16 : Int).toNat 0) ⟨by simp, fun j hj h => by omega⟩
 rw [e, Xab]
 congr 1
 exact Ycx o1 (Xua p) fun j hj => by rw [o2 j hj (by omega), Xy9, Xhg _ hj]
theorem Yrh {f : Int × List Int → Option (Lp (Int × List Int) (List Int))} {t : Int → Int → Int → Int → Q4} (p : List Int) (h : ∀ (i : Nat) (s : List Int), i < 4 → s.length = 4 * i → f ((i : Int), s) = some (.go (((i + 1 : Nat) : Int), s ++ [(t (p.getD (4 * i) 0) (p.getD (4 * i + 1) 0) (p.getD (4 * i + 2) 0) (p.getD (4 * i + 3) 0)).1, (t (p.getD (4 * i) 0) (p.getD (4 * i + 1) 0) (p.getD (4 * i + 2) 0) (p.getD (4 * i + 3) 0)).2.1, (t (p.getD (4 * i) 0) (p.getD (4 * i + 1) 0) (p.getD (4 * i + 2) 0) (p.getD (4 * i + 3) 0)).2.2.1, (t (p.getD (4 * i) 0) (p.getD (4 * i + 1) 0) (p.getD (4 * i + 2) 0) (p.getD (4 * i + 3) 0)).2.2.2]))) (he : ∀ s, f (4, s) = some (.done s)) : loop f (0, []) = some (Xwf t p) := by
 obtain ⟨o, e, ho⟩ := Xnu (f := f) 4 (fun i s => s = (List.range (4 * i)).map fun j => Yrb (t (p.getD (4 * (j / 4)) 0) (p.getD (4 * (j / 4) + 1) 0) (p.getD (4 * (j / 4) + 2) 0) (p.getD (4 * (j / 4) + 3) 0)) (j % 4)) (by
  intro i s hi g
  refine ⟨_, h i s hi (by rw [g]; simp), ?_⟩
  rw [g, show 4 * (i + 1) = 4 * i + 1 + 1 + 1 + 1 by omega]
  simp only [List.range_succ, List.map_append, List.map_singleton, List.append_assoc]
  rw [show (4 * i + 1 + 1 + 1) / 4 = i by omega, show (4 * i + 1 + 1) / 4 = i by omega, show (4 * i + 1) / 4 = i by omega, show 4 * i / 4 = i by omega, show (4 * i + 1 + 1 + 1) % 4 = 3 by omega, show (4 * i + 1 + 1) % 4 = 2 by omega, show (4 * i + 1) % 4 = 1 by omega, show 4 * i % 4 = 0 by omega]
  rfl) (fun z _ => he z) [] rfl
 rw [e, ho]; rfl
def t4F (a b c d : Int) : Q4 := (Xaa .i64 ((Xaa .i64 ((Xaa .i64 (a + b)) + c)) + d), Xaa .i64 ((Xaa .i64 ((Xaa .i64 ((Xaa .i64 (2 * a)) + b)) - c)) - (Xaa .i64 (2 * d))), Xaa .i64 ((Xaa .i64 ((Xaa .i64 (a - b)) - c)) + d), Xaa .i64 ((Xaa .i64 ((Xaa .i64 (a - (Xaa .i64 (2 * b)))) + (Xaa .i64 (2 * c)))) - d))
theorem Ykx (a b c d : Int) : Xmg a b c d = some (t4F a b c d) := rfl
def Ymr (a b : Int) : Int := Xaa .i64 (if a.tmod b < 0 then Xaa .i64 (a.tdiv b) - 1 else a.tdiv b)
theorem Xvq (a b : Int) (hb : b ≠ 0) : Xd5 a b = some (Ymr a b) := by
 unfold Xd5 Ymr
 rw [Xa2 hb, Xa2 hb, Ysv]
 split <;> rfl
def t4B (a b c d : Int) : Q4 := (Xaa .i64 ((Xaa .i64 (a + c)) + (Xaa .i64 (b + Ymr d 2))), Xaa .i64 ((Xaa .i64 (a - c)) + (Xaa .i64 (Ymr b 2 - d))), Xaa .i64 ((Xaa .i64 (a - c)) - (Xaa .i64 (Ymr b 2 - d))), Xaa .i64 ((Xaa .i64 (a + c)) - (Xaa .i64 (b + Ymr d 2))))
theorem Xzm (a b c d : Int) : Xec a b c d = some (t4B a b c d) := by
 unfold Xec
 rw [Ysb, Xvq b 2 (by omega), Xvq d 2 (by omega), Xab, Xab]; rfl
theorem Xtv (p : List Int) (hl : p.length = 16) : Xiz p = some (Xwf t4B p) := by
 have hm : maxLen = 9223372036854775807 := rfl
 unfold Xiz
 rw [Yrh (f := Xdp p) (t := t4B) p (by
  intro i s hi hs
  unfold Xdp
  simp only
  rw [syA, wkA (e := 4 * (i : Int)), wkA (e := 4 * (i : Int) + 1), wkA (e := 4 * (i : Int) + 2), wkA (e := 4 * (i : Int) + 3), rqA, rqA, rqA, rqA, show (4 * (i : Int)).toNat = 4 * i by omega, show (4 * (i : Int) + 1).toNat = 4 * i + 1 by omega, show (4 * (i : Int) + 2).toNat = 4 * i + 2 by omega, show (4 * (i : Int) + 3).toNat = 4 * i + 3 by omega, Xvq _ 2 (by omega), Xab, Xvq _ 2 (by omega), Xab, wkA (e := (i : Int) + 1), Xa2 (by simp only [List.length_cons, List.length_nil]; omega)]
  rfl) (by intro s; unfold Xdp; rw [Xar (by simp)]), Xab]
theorem Xu7 (p : List Int) (hl : p.length = 16) : Xkx p = some (Xwf t4F p) := by
 have hm : maxLen = 9223372036854775807 := rfl
 unfold Xkx
 rw [Yrh (f := Xel p) (t := t4F) p (by
  intro i s hi hs
  unfold Xel
  simp only
  rw [syA, wkA (e := 4 * (i : Int)), wkA (e := 4 * (i : Int) + 1), wkA (e := 4 * (i : Int) + 2), wkA (e := 4 * (i : Int) + 3), rqA, rqA, rqA, rqA, show (4 * (i : Int)).toNat = 4 * i by omega, show (4 * (i : Int) + 1).toNat = 4 * i + 1 by omega, show (4 * (i : Int) + 2).toNat = 4 * i + 2 by omega, show (4 * (i : Int) + 3).toNat = 4 * i + 3 by omega, wkA (e := (i : Int) + 1), Xa2 (by simp only [List.length_cons, List.length_nil]; omega)]
  rfl) (by intro s; unfold Xel; rw [Xar (by simp)]), Xab]
theorem Ykk (p : List Int) (hl : p.length = 16) (hb : inB 10000000 p) : Xk7 p = Xlu p := by
 unfold Xk7 Xlu
 rw [Xrd p 16 10000000 (by omega) (by omega) hb, Xcx p 16 10000000 (by omega) (by omega) (by omega) hb, Xab, Xab, Bool.not_true, Xao, Xao, Yx4, Yuk Xzm p hl, Xtv p hl, Xab, Xab, Xl3 _ (Xr6 _ _), Xab, Xtv _ (Xua _), Xab, Xl3 _ (Xr6 _ _), Xab]
 exact Ya5 _ 16 (by omega) (Xua _) (fun _ => rfl)
theorem Yuq (p : List Int) (hl : p.length = 16) (hb : inB 1000 p) : Xug p = Xuz p := by
 unfold Xug Xuz
 rw [Xrd p 16 1000 (by omega) (by omega) hb, Xcx p 16 1000 (by omega) (by omega) (by omega) hb, Xab, Xab, Bool.not_true, Xao, Xao, Yx5, Yuk Ykx p hl, Xu7 p hl, Xab, Xab, Xl3 _ (Xr6 _ _), Xab, Xu7 _ (Xua _), Xab, Xl3 _ (Xr6 _ _), Xab]
theorem Yvh {β : Type} {c : Prop} [Decidable c] {k k' : Option β} (h : c → k = k') : req c k = req c k' := by
 by_cases hc : c
 ·
  rw [Xa2 hc, Xa2 hc, h hc]
 ·
  unfold req; rw [if_neg hc, if_neg hc]
theorem Xmd {β : Type} {c : Prop} [Decidable c] {k k' : Option β} (h0 : c) (h : k = k') : req c k = k' := by rw [Xa2 h0, h]
theorem Ya3 {β : Type} {b : Bool} {x x' y y' : β} (h : b = true → x = x') (h2 : b = false → y = y') : sel b x y = sel b x' y' := by
 cases b
 ·
  exact h2 rfl
 ·
  exact h rfl
theorem Yuz {α β : Type} {x x' : Option α} {f f' : α → Option β} (h : x = x') (h2 : ∀ a, x' = some a → f a = f' a) : bnd x f = bnd x' f' := by
 subst h
 cases x with
 | none => rfl
 | some a => exact h2 a rfl
theorem Yw5 {V O : Type} {f : V → Option (Lp V O)} (I : V → Prop) (J : O → Prop) (h1 : ∀ v v', I v → f v = some (.go v') → I v') (h2 : ∀ v o, I v → f v = some (.done o) → J o) {v : V} {o : O} (h : loop f v = some o) (hv : I v) : J o := by
 obtain ⟨k, hk⟩ := Xi4.1 h
 clear h
 induction k generalizing v with
 | zero => cases hk
 | succ k ih =>
  rw [it] at hk
  cases e : f v with
  | none => rw [e] at hk; cases hk
  | some s =>
   rw [e] at hk
   cases s with
   | go y => exact ih (h1 v y hv e) hk
   | done o' => cases hk; exact h2 v o hv e
theorem Yg2 (l qp p : Int) (h0 : 0 ≤ qp ∧ qp ≤ 40) (hp : 0 ≤ p ∧ p ≤ 15) : Xjg l qp p = Xjo l qp p := by
 unfold Xjg Xjo
 rw [Xaj, Xal, Ync qp p h0 hp]
theorem Yg1 (l qp : Int) (h0 : 0 ≤ qp ∧ qp ≤ 40) : Xje l qp = Xjn l qp := by
 unfold Xje Xjn
 rw [Xaj, Xal, Ydn qp h0]
theorem Yju (x : Int) (h : -1000000000000 ≤ x ∧ x ≤ 1000000000000) : Xn3 x = Xgm x := by
 unfold Xn3 Xgm
 rw [wkA]
 by_cases hx : x < 0
 ·
  rw [Xbk hx, if_pos (by omega)]
 ·
  rw [Xar hx, if_neg (by omega)]
theorem Yxq : ∀ q : Fin 41, ∀ p : Fin 16, Xn1 (q.val : Int) (p.val : Int) = Xoa (q.val : Int) (p.val : Int) := by decide +kernel
theorem Ynd (qp p : Int) (h0 : 0 ≤ qp ∧ qp ≤ 40) (hp : 0 ≤ p ∧ p ≤ 15) : Xn1 qp p = Xoa qp p := by
 have := Yxq ⟨qp.toNat, by omega⟩ ⟨p.toNat, by omega⟩
 simp only at this
 rwa [show ((qp.toNat : Nat) : Int) = qp by omega, show ((p.toNat : Nat) : Int) = p by omega] at this
theorem Yro (x w : Int) : Xpy x w = Xjr w x := rfl
theorem Yed (w qp : Int) (h0 : 0 ≤ qp ∧ qp ≤ 40) : Xhu w qp = Xif w qp := by
 unfold Xhu Xif
 rw [Xaj, Xal, Xaj, Xal, Ydn qp h0]
 by_cases hw : -20000 ≤ w ∧ w ≤ 20000
 ·
  rw [Yju w (by omega)]; rfl
 ·
  rw [decide_eq_false hw]; rfl
theorem Zen (qp : Int) (h0 : 0 ≤ qp ∧ qp ≤ 40) : Xaa .u64 (Xaa .i64 (15 + (Xaa .i64 (qp.tdiv 6)))) = Xaa .i64 (15 + (Xaa .i64 (qp.tdiv 6))) := by
 have h : ∀ q : Fin 41, Xaa .u64 (Xaa .i64 (15 + (Xaa .i64 ((q.val : Int).tdiv 6)))) = Xaa .i64 (15 + (Xaa .i64 ((q.val : Int).tdiv 6))) := by decide +kernel
 have := h ⟨qp.toNat, by omega⟩
 simp only at this
 rwa [show ((qp.toNat : Nat) : Int) = qp by omega] at this
theorem Yee (w qp p : Int) (h0 : 0 ≤ qp ∧ qp ≤ 40) (hp : 0 ≤ p ∧ p ≤ 15) : Xhy w qp p = Xih w qp p := by
 unfold Xhy Xih
 have h15 := Zen qp h0
 simp only [Xaj, Xal, Ynd qp p h0 hp, h15, Yro]
 by_cases hw : -20000 ≤ w ∧ w ≤ 20000
 ·
  simp only [Yju w (by omega)]
 ·
  simp only [decide_eq_false hw, Xab, Xao, Xau]
def Yaz (k : Int) (v7 : Int × List Int) : Option (Lp (Int × List Int) (List Int)) :=
 sel (decide (v7.1 < 4)) (
 bnd (it (Xor k v7) 10 (0, v7.2)) fun v18 =>
 some (.go (Xaa .i64 (v7.1 + 1), v18))) (
 some (.done v7.2))
theorem Yre {k : Int} {v : Int × List Int} {x : Lp (Int × List Int) (List Int)} (h : Yaz k v = some x) : Xjx k v = some x := by
 unfold Yaz at h
 unfold Xjx
 rcases Xjy h with ⟨hb, h⟩ | ⟨hb, h⟩
 ·
  rw [hb, Xau]
  obtain ⟨a, h1, h2⟩ := Xbd h
  rw [Xi4.2 ⟨10, h1⟩, Xab]
  exact h2
 ·
  rw [hb, Xao]; exact h
def Xlp (k : Int) : List Int := (it (Yaz k) 10 (0, [])).getD []
def Xn7 (k i : Int) : Int := (Xaa .i64 ((Xaa .i64 ((Xaa .i64 (8 * (Xaa .i64 ((Xaa .i64 ((Xaa .i64 (k.tdiv 2)) * 4)) + (Xaa .i64 (i.tdiv 4)))))) + (Xaa .i64 ((k.tmod 2) * 4)))) + (i.tmod 4)))
theorem Ysr : ∀ k : Fin 4, (it (Yaz (k.val : Int)) 10 (0, [])).isSome = true ∧ (Xlp (k.val : Int)).length = 16 ∧ ∀ i : Fin 16, (Xlp (k.val : Int)).getD i.val 0 = Xn7 (k.val : Int) (i.val : Int) ∧ 0 ≤ Xn7 (k.val : Int) (i.val : Int) ∧ Xn7 (k.val : Int) (i.val : Int) < 64 := by decide +kernel
theorem Xpv (k : Nat) (hk : k < 4) : Xko k = some (Xlp k) ∧ (Xlp k).length = 16 ∧ ∀ i : Nat, i < 16 → (Xlp k).getD i 0 = Xn7 k i ∧ 0 ≤ Xn7 k i ∧ Xn7 k i < 64 := by
 obtain ⟨h1, h2, h3⟩ := Ysr ⟨k, hk⟩
 refine ⟨?_, h2, fun i hi => h3 ⟨i, hi⟩⟩
 obtain ⟨o, ho⟩ := Option.isSome_iff_exists.1 h1
 have hl := Ysm 10 (Yy3 (fun v y => Yre (k := (k : Int))) 10 _ ho)
 unfold Xko
 rw [hl, Xab]
 unfold Xlp; simp only at ho; rw [ho]; rfl
theorem Xtj (p : List Int) (c : Xer) (hc : Xi1 c = true) (hp : Ygr p = true) : Xhv p c = Xfz p c := by
 have hq := Xy5 hc
 obtain ⟨hl, hb⟩ := Yjb hp
 unfold Xhv Xfz
 rw [Xha, Xdd, Xrq p (by omega), hp, hc, Xcx p 64 5000 (by omega) (by omega) (by omega) hb]
 simp only [Xab, Xau, Bool.not_true, Xao]
 rw [Xt6 8 (Or.inr rfl) p (by omega)]
 refine Ya3 (fun _ => rfl) fun _ => Ya3 (fun _ => ?_) fun _ => ?_
 ·
  obtain ⟨w, ew, w1, w2⟩ := Xf3 8 (Or.inr rfl) p 5000 (by omega) (by omega) hb
  rw [ew, Xab, Xab]
  have hloop : loop (Xez c (w, true)) (0, (w, true).1) = loop (Xbj c) (0, (w, true).1) := by
   have : Xez c (w, true) = Xbj c := by
    funext v
    unfold Xez Xbj
    simp only [Yg1 _ _ hq, w1, hl]
    rfl
   rw [this]
  rw [hloop]
  obtain ⟨l, el, l1, l2⟩ := Xnj (f := Xbj c) 64 (fun x => -5000 ≤ x ∧ x ≤ 5000) (fun x => -5760000 ≤ x ∧ x ≤ 5760000) (by
   intro i l hi hll hx
   obtain ⟨d, ed, d1, d2⟩ := Xr9 (l.getD i 0) c.Qp hx hq
   unfold Xbj
   simp only [Int.toNat_natCast]
   rw [syA, rqA, rqA, ed, Xab, rqA, rqA, wkA (e := (i : Int) + 1)]
   exact ⟨d, rfl, d1, d2⟩) (by intro s; unfold Xbj; rw [Xar (by simp)]) w (by omega) w2
  simp only [el, Xab]
  rw [Yg0 l l1 (Xqk l2 (by omega))]
 ·
  refine Yvh fun _ => Yuz ?_ fun _ _ => rfl
  refine Xmz (fun v => (∃ k : Nat, v.1 = (k : Int) ∧ k ≤ 4) ∧ v.2.length = 64) ?_ ?_ ⟨⟨0, rfl, by omega⟩, by simp⟩
  ·
   intro ⟨k0, s⟩ ⟨⟨k, ek, hk⟩, hs⟩
   simp only at ek hs
   subst ek
   unfold Xj5 Xc8
   simp only
   refine Ya3 (fun hk4 => ?_) fun _ => rfl
   have hk4 : k < 4 := by have := of_decide_eq_true hk4; omega
   rw [wkA (e := 16 * (k : Int)), wkA (e := 16 * (k : Int) + 16)]
   refine Yvh fun _ => ?_
   rw [show (16 * (k : Int)).toNat = 16 * k by omega, show (16 * (k : Int) + 16).toNat - 16 * k = 16 by omega]
   have hcut : ((p.drop (16 * k)).take 16).length = 16 := by rw [List.length_take, List.length_drop]; omega
   obtain ⟨a, ea, a1, a2⟩ := Xf3 4 (Or.inl rfl) ((p.drop (16 * k)).take 16) 5000 (by omega) (by omega) (Ytm (Ytk hb _) _)
   rw [Xt6 4 (Or.inl rfl) _ (by omega), ea, Xab, Xab]
   have hloop : loop (Xed c (a, true)) (0, (a, true).1) = loop (Xbh c) (0, (a, true).1) := by
    have : Xed c (a, true) = Xbh c := by
     funext v
     unfold Xed Xbh
     simp only [show ((a.length : Nat) : Int) = 16 by omega]
     refine Ya3 (fun h16 => ?_) fun _ => rfl
     have := of_decide_eq_true h16
     refine Yvh fun h0 => Yvh fun _ => ?_
     rw [Yg2 _ _ _ hq (by omega)]
    rw [this]
   rw [hloop]
   obtain ⟨l, el, l1, l2⟩ := Xnj (f := Xbh c) 16 (fun x => -5000 ≤ x ∧ x ≤ 5000) (fun x => -10000000 ≤ x ∧ x ≤ 10000000) (by
    intro i l hi hll hx
    obtain ⟨d, ed, d1, d2⟩ := Xsd (l.getD i 0) c.Qp i hx hq (by omega)
    unfold Xbh
    simp only [Int.toNat_natCast]
    rw [syA, rqA, rqA, ed, Xab, rqA, rqA, wkA (e := (i : Int) + 1)]
    exact ⟨d, rfl, d1, d2⟩) (by intro s; unfold Xbh; rw [Xar (by simp)]) a (by omega) a2
   obtain ⟨b, eb, b1, b2⟩ := Xtt l l1 l2
   obtain ⟨q1, q2, q3⟩ := Xpv k hk4
   simp only [el, Xab]
   rw [Ykk l l1 l2, eb, Xab, Xab, q1, Xab]
   refine Yuz ?_ fun _ _ => rfl
   have : Xgd b (Xlp k) = Xbn ((k : Int), s) b := by
    funext v
    unfold Xgd Xbn
    simp only [show (((Xlp k).length : Nat) : Int) = 16 by omega]
    refine Ya3 (fun h16 => ?_) fun _ => rfl
    have h16 := of_decide_eq_true h16
    by_cases h0 : 0 ≤ v.1
    ·
     obtain ⟨i, hi⟩ : ∃ i : Nat, v.1 = (i : Int) := ⟨v.1.toNat, by omega⟩
     obtain ⟨v1, v2⟩ := v
     simp only at hi h0 h16
     subst hi
     obtain ⟨r1, r2, r3⟩ := q3 i (by omega)
     have e1 : (Xaa .i64 ((Xaa .i64 ((Xaa .i64 (8 * (Xaa .i64 ((Xaa .i64 ((Xaa .i64 ((k : Int).tdiv 2)) * 4)) + (Xaa .i64 ((i : Int).tdiv 4)))))) + (Xaa .i64 (((k : Int).tmod 2) * 4)))) + ((i : Int).tmod 4))) = Xn7 k i := rfl
     simp only [Int.toNat_natCast, r1, e1]
     refine Xmd (by omega) (Xmd (by omega) (Xmd (by omega) (Xmd (by omega) ?_)))
     refine (Xmd (by omega) (Xmd (by omega) (Xmd (by omega) (Xmd (by omega) (Xmd (by omega) (Xmd (by omega) ?_)))))).symm
     rfl
    ·
     unfold req
     rw [if_neg (by omega), if_pos (by omega), if_pos (by omega), if_pos (by omega), if_pos (by omega), if_neg (by omega)]
   rw [this]
  ·
   intro ⟨k0, s⟩ v' ⟨⟨k, ek, hk⟩, hs⟩ he
   simp only at ek hs
   subst ek
   unfold Xc8 at he
   simp only at he
   rcases Xjy he with ⟨hb4, he⟩ | ⟨_, he⟩
   ·
    have hk4 : k < 4 := by have := of_decide_eq_true hb4; omega
    obtain ⟨_, he⟩ := Xaw he
    obtain ⟨a, _, he⟩ := Xbd he
    obtain ⟨l, _, he⟩ := Xbd he
    obtain ⟨b, _, he⟩ := Xbd he
    obtain ⟨r, hr, he⟩ := Xbd he
    rw [wkA (e := (k : Int) + 1)] at he
    cases he
    refine ⟨⟨k + 1, rfl, by omega⟩, ?_⟩
    refine Yw5 (f := Xbn ((k : Int), s) b) (fun v => v.2.length = 64) (fun o => o.length = 64) ?_ ?_ hr hs
    ·
     intro v v' hv he
     unfold Xbn at he
     rcases Xjy he with ⟨_, he⟩ | ⟨_, he⟩
     ·
      obtain ⟨_, he⟩ := Xaw he
      obtain ⟨_, he⟩ := Xaw he
      obtain ⟨_, he⟩ := Xaw he
      obtain ⟨_, he⟩ := Xaw he
      obtain ⟨_, he⟩ := Xaw he
      obtain ⟨_, he⟩ := Xaw he
      obtain ⟨_, he⟩ := Xaw he
      obtain ⟨_, he⟩ := Xaw he
      cases he
      simp only [List.length_set]; exact hv
     ·
      cases he
    ·
     intro v o hv he
     unfold Xbn at he
     rcases Xjy he with ⟨_, he⟩ | ⟨_, he⟩
     ·
      obtain ⟨_, he⟩ := Xaw he
      obtain ⟨_, he⟩ := Xaw he
      obtain ⟨_, he⟩ := Xaw he
      obtain ⟨_, he⟩ := Xaw he
      obtain ⟨_, he⟩ := Xaw he
      obtain ⟨_, he⟩ := Xaw he
      obtain ⟨_, he⟩ := Xaw he
      obtain ⟨_, he⟩ := Xaw he
      cases he
     ·
      cases he; exact hv
   ·
    cases he
theorem Ytx {S O : Type} {f g : Int × S → Option (Lp (Int × S) O)} (n : Nat) (I : Nat → S → Prop) (h : ∀ (i : Nat) (s : S), i ≤ n → I i s → f ((i : Int), s) = g ((i : Int), s)) (hI : ∀ (i : Nat) (s : S) (v' : Int × S), i ≤ n → I i s → g ((i : Int), s) = some (.go v') → v'.1 = ((i + 1 : Nat) : Int) ∧ i + 1 ≤ n ∧ I (i + 1) v'.2) {s0 : S} (h0 : I 0 s0) : loop f (0, s0) = loop g (0, s0) := by
 refine Xmz (fun v => ∃ i : Nat, v.1 = (i : Int) ∧ i ≤ n ∧ I i v.2) ?_ ?_ ⟨0, rfl, by omega, h0⟩
 ·
  intro ⟨k, s⟩ ⟨i, e, hi, hs⟩
  simp only at e hs
  subst e
  exact h i s hi hs
 ·
  intro ⟨k, s⟩ v' ⟨i, e, hi, hs⟩ he
  simp only at e hs
  subst e
  obtain ⟨a, b, c⟩ := hI i s v' hi hs he
  exact ⟨i + 1, a, b, c⟩
theorem Yrf (p : List Int) (hl : p.length = 64) (k : Nat) (hk : k < 4) : loop (Xfo p (Xlp k)) (0, ([] : List Int)) = Xij p k := by
 obtain ⟨q1, q2, q3⟩ := Xpv k hk
 unfold Xij
 rw [Ytx (f := Xfo p (Xlp k)) (g := Xcb p k) 16 (fun _ _ => True) ?_ ?_ trivial]
 ·
  cases loop (Xcb p k) (0, ([] : List Int)) <;> rfl
 ·
  intro i s hi _
  unfold Xfo Xcb
  simp only [show (((Xlp k).length : Nat) : Int) = 16 by omega]
  refine Ya3 (fun h16 => ?_) fun _ => rfl
  have h16 := of_decide_eq_true h16
  obtain ⟨r1, r2, r3⟩ := q3 i (by omega)
  have e1 : (Xaa .i64 ((Xaa .i64 ((Xaa .i64 (8 * (Xaa .i64 ((Xaa .i64 ((Xaa .i64 ((k : Int).tdiv 2)) * 4)) + (Xaa .i64 ((i : Int).tdiv 4)))))) + (Xaa .i64 (((k : Int).tmod 2) * 4)))) + ((i : Int).tmod 4))) = Xn7 k i := rfl
  simp only [Int.toNat_natCast, r1, e1]
  refine Xmd (by omega) (Xmd (by omega) (Xmd (by omega) ?_))
  refine (Xmd (by omega) (Xmd (by omega) (Xmd (by omega) (Xmd (by omega) (Xmd (by omega) ?_))))).symm
  rfl
 ·
  intro i s v' hi _ he
  unfold Xcb at he
  rcases Xjy he with ⟨hb, he⟩ | ⟨_, he⟩
  ·
   have h16 := of_decide_eq_true hb
   simp only at h16 he
   obtain ⟨_, he⟩ := Xaw he
   obtain ⟨_, he⟩ := Xaw he
   obtain ⟨_, he⟩ := Xaw he
   obtain ⟨_, he⟩ := Xaw he
   obtain ⟨_, he⟩ := Xaw he
   obtain ⟨_, he⟩ := Xaw he
   injection he with he
   injection he with he
   subst he
   exact ⟨wkA, by omega, trivial⟩
  ·
   cases he
theorem Xwl (p : List Int) (c : Xer) (hc : Xi1 c = true) (hl : p.length = 64) (hb : inB 255 p) : Xge p c = Xdx p c := by
 have hq := Xy5 hc
 unfold Xge Xdx
 rw [Xha, Xdd, Xrd p 64 255 (by omega) (by omega) hb, hc, Xcx p 64 255 (by omega) (by omega) (by omega) hb]
 simp only [Xab, Xau, Bool.not_true, Xao]
 rw [Xsi 8 (Or.inr rfl) p (by omega)]
 refine Ya3 (fun _ => rfl) fun _ => Ya3 (fun _ => ?_) fun _ => ?_
 ·
  obtain ⟨w, ew, w1⟩ := Yba p hl hb
  rw [Yrw p hl (Xqk hb (by omega)), ew, Xab, Xab]
  have : Xju c w = Xch c := by
   funext v
   unfold Xju Xch
   simp only [Yed _ _ hq, w1]
   rfl
  rw [this]
  obtain ⟨l, el, l1, l2⟩ := Xnj (f := Xch c) 64 (fun _ => True) (fun x => -5000 ≤ x ∧ x ≤ 5000) (by
   intro i l hi hll _
   obtain ⟨d, ed, d1, d2⟩ := Xqp (l.getD i 0) c.Qp hq
   unfold Xch
   simp only [Int.toNat_natCast]
   rw [syA, rqA, rqA, ed, Xab, rqA, rqA, wkA (e := (i : Int) + 1)]
   exact ⟨d, rfl, d1, d2⟩) (by intro s; unfold Xch; rw [Xar (by simp)]) w w1 (fun _ _ => trivial)
  rw [el, Xab, Xab, Xsi 8 (Or.inr rfl) l (by omega)]
 ·
  refine Yuz ?_ fun _ _ => rfl
  refine Ytx 4 (fun _ _ => True) ?_ ?_ trivial
  ·
   intro k s hk _
   unfold Xmj Xd9
   refine Ya3 (fun h4 => ?_) fun _ => rfl
   have hk4 : k < 4 := by have := of_decide_eq_true h4; simp only at this; omega
   obtain ⟨q1, q2, q3⟩ := Xpv k hk4
   simp only [q1, Xab]
   rw [Yrf p hl k hk4]
   obtain ⟨a, ea, a1, a2⟩ := Xqt p k hk4 255 hl hb
   obtain ⟨b, eb, b1, b2⟩ := Yea a a1 a2
   rw [ea, Xab, Xab, Yuq a a1 (Xqk a2 (by omega)), eb, Xab, Xab]
   have : Xio c b = Xb7 c := by
    funext v
    unfold Xio Xb7
    simp only [show ((b.length : Nat) : Int) = 16 by omega]
    refine Ya3 (fun h16 => ?_) fun _ => rfl
    have := of_decide_eq_true h16
    refine Yvh fun h0 => Yvh fun _ => ?_
    rw [Yee _ _ _ hq (by omega)]
   rw [this]
   obtain ⟨l, el, l1, l2⟩ := Xnj (f := Xb7 c) 16 (fun x => -9180 ≤ x ∧ x ≤ 9180) (fun x => -5000 ≤ x ∧ x ≤ 5000) (by
    intro i l hi hll hx
    obtain ⟨d, ed, d1, d2⟩ := Xqr (l.getD i 0) c.Qp i hx hq (by omega)
    unfold Xb7
    simp only [Int.toNat_natCast]
    rw [syA, rqA, rqA, ed, Xab, rqA, rqA, wkA (e := (i : Int) + 1)]
    exact ⟨d, rfl, d1, d2⟩) (by intro s; unfold Xb7; rw [Xar (by simp)]) b b1 b2
   rw [el, Xab, Xab, Xsi 4 (Or.inl rfl) l (by omega)]
  ·
   intro k s v' hk _ he
   unfold Xd9 at he
   rcases Xjy he with ⟨hb4, he⟩ | ⟨_, he⟩
   ·
    have hk4 := of_decide_eq_true hb4
    simp only at hk4 he
    obtain ⟨a, _, he⟩ := Xbd he
    obtain ⟨l, _, he⟩ := Xbd he
    obtain ⟨b, _, he⟩ := Xbd he
    obtain ⟨r, _, he⟩ := Xbd he
    obtain ⟨_, he⟩ := Xaw he
    injection he with he
    injection he with he
    subst he
    exact ⟨wkA, by omega, trivial⟩
   ·
    cases he
theorem Yp4 {p : Pic} (ok : Xcg p = true) (x y : Int) : Xe2 p x y = Xey p x y := by rw [Yit ok, Xiv ok]
theorem Xut {p : Pic} (ok : Xcg p = true) {x y : Int} (hx : x.tmod 8 = 0) (hy : y.tmod 8 = 0) (h : Xdk p x y = true) : Xb4 p x y = some true := Xoq ok x y hx hy h
theorem Xyv {p : Pic} (ok : Xcg p = true) {x y : Int} (hx : x.tmod 8 = 0) (hy : y.tmod 8 = 0) (h : Xdk p x y = true) : Xkg p x y = Xie p x y := by
 unfold Xkg Xie
 rw [Xb3, ok, Xut ok hx hy h, Xg0 ok hx hy h]
 have : Xk6 p x y = Xfx p x y := by
  funext v
  unfold Xk6 Xfx
  simp only [Yp4 ok]
 simp only [Xab, Xau, Bool.not_true, Xao, this, Yp4 ok]
theorem Ygz {e : Xi8} (h : Xt8 e) : Xkh e = some true := by
 obtain ⟨h1, h2, h3, h4, h5, h6⟩ := h
 have side : ∀ l : List Int, (l.length = 0 ∨ l.length = 8) → (∀ x ∈ l, 0 ≤ x ∧ x ≤ 255) → bnd (sel (decide ((l.length : Int) > 0)) (bnd (Xbm l 8 0 255) fun q10 => some (!q10)) (some false)) (fun v9 => some v9) = some false := by
  intro l hl hb
  rcases hl with e | e
  ·
   rw [snA]; rfl
  ·
   rw [syA, Xlg l 8 0 255 (by omega)]
   have : (l.all fun x => decide (0 ≤ x ∧ x ≤ 255)) = true := List.all_eq_true.2 fun x hx => decide_eq_true (hb x hx)
   rw [this, e]; rfl
 have go : ∀ (i : Nat) (l : List Int), i < 2 → ([e.Above, e.Left]).getD i Xgc = l → (l.length = 0 ∨ l.length = 8) → (∀ x ∈ l, 0 ≤ x ∧ x ≤ 255) → Xfm e (i : Int) = some (.go ((i + 1 : Nat) : Int)) := by
  intro i l hi hg hl hb
  unfold Xfm
  simp only [Int.toNat_natCast, hg]
  have hs := side l hl hb
  rw [Xbk (by simp only [List.length_cons, List.length_nil]; omega), Xa2 (by simp only [List.length_cons, List.length_nil]; omega), Xa2 (by simp only [List.length_cons, List.length_nil]; omega)]
  obtain ⟨a, ea, hs⟩ := Xbd hs
  injection hs with hs
  subst hs
  rw [ea, Xab, Xao, wkA]
  rfl
 unfold Xkh
 have : loop (Xfm e) 0 = some (.out ()) := by
  refine lgo (go 0 e.Above (by omega) rfl h1 h3) (lgo (go 1 e.Left (by omega) rfl h2 h4) (Xfv ?_))
  unfold Xfm
  rw [Xar (by simp)]
 rw [this, Xab, Xaj, Xab, decide_eq_true ⟨h5, h6⟩]
def Yuh (l : List Int) : Nat → Int
 | 0 => 0
 | n + 1 => Yuh l n + l.getD n 0
theorem Xv3 {l : List Int} (h : ∀ x ∈ l, 0 ≤ x ∧ x ≤ 255) : ∀ n : Nat, n ≤ l.length → 0 ≤ Yuh l n ∧ Yuh l n ≤ 255 * n
 | 0, _ => by simp [Yuh]
 | n + 1, hn => by
  have a := Xv3 h n (by omega)
  have b := h (l.getD n 0) (by rw [Xcm l n (by omega)]; exact List.getElem_mem _)
  rw [Yuh]; omega
theorem Ype {f : Int × Int → Option (Lp (Int × Int) Int)} {l : List Int} (hl : l.length ≤ 64) (h : ∀ x ∈ l, 0 ≤ x ∧ x ≤ 255) (hf : ∀ v, f v = sel (decide (v.2 < (l.length : Int))) (req (0 ≤ v.2 ∧ v.2 < l.length) <| some (.go (Xaa .i64 (v.1 + (l.getD v.2.toNat 0)), Xaa .i64 (v.2 + 1)))) (some (.done v.1))) (a : Int) (ha : 0 ≤ a ∧ a ≤ 100000) : loop f (a, 0) = some (a + Yuh l l.length) := by
 obtain ⟨o, e, ho⟩ := Xqe (f := f) l.length (fun i s => s = a + Yuh l i) (by
  intro i s hi g
  have r := Xv3 h i (by omega)
  have b := h (l.getD i 0) (by rw [Xcm l i (by omega)]; exact List.getElem_mem _)
  rw [hf]
  simp only [Int.toNat_natCast]
  rw [syA, rqA, wkA (e := s + l.getD i 0), wkA (e := (i : Int) + 1)]
  exact ⟨_, rfl, by rw [Yuh]; omega⟩) (by intro s; rw [hf, Xar (by simp)]) a (by simp [Yuh])
 rw [e, ho]
theorem Yar {l : List Int} (hl : l.length ≤ 64) (h : ∀ x ∈ l, 0 ≤ x ∧ x ≤ 255) : Xcl l = some (Yuh l l.length) := by
 unfold Xcl
 rw [Ype (f := Xdv l) hl h (fun _ => rfl) 0 (by omega), Xab, Int.zero_add]
theorem Yxb {e : Xi8} (h : Xt8 e) : (sel (decide ((Xaa .i64 ((e.Above.length : Int) + (e.Left.length : Int))) > 0)) (bnd (Xcl e.Above) fun q5 => bnd (Xcl e.Left) fun q6 => req ((2 : Int) ≠ 0) <| req ((Xaa .i64 ((e.Above.length : Int) + (e.Left.length : Int))) ≠ 0) <|
  some (Xaa .i64 ((Xaa .i64 ((Xaa .i64 (q5 + q6)) + (Xaa .i64 ((Xaa .i64 ((e.Above.length : Int) + (e.Left.length : Int))).tdiv 2)))).tdiv (Xaa .i64 ((e.Above.length : Int) + (e.Left.length : Int)))))) (some 128)) = Xp7 e := by
 obtain ⟨h1, h2, h3, h4, h5, h6⟩ := h
 unfold Xp7
 have r1 := Xv3 h3 e.Above.length (Nat.le_refl _)
 have r2 := Xv3 h4 e.Left.length (Nat.le_refl _)
 rw [wkA (e := (e.Above.length : Int) + (e.Left.length : Int))]
 by_cases hz : (e.Above.length : Int) + (e.Left.length : Int) = 0
 ·
  rw [snA, Xbw (by simpa using hz)]
 ·
  rw [syA, Xbi (by simpa using hz), Yar (by omega) h3, Xab, Yar (by omega) h4, Xab, rqA, Xa2 hz, rqA, Xbg (a := (e.Above.length : Int) + (e.Left.length : Int)) (by omega), wkA (e := ((e.Above.length : Int) + (e.Left.length : Int)) / 2),
   Ype (f := Xjs e) (by omega) h3 (fun _ => rfl) _ (by omega), Xab, Ype (f := Xjt e) (by omega) h4 (fun _ => rfl) _ (by omega), Xab, Xa2 hz, wkA (e := Yuh e.Above e.Above.length + Yuh e.Left e.Left.length), wkA (e := Yuh e.Above e.Above.length + Yuh e.Left e.Left.length + ((e.Above.length : Int) + (e.Left.length : Int)) / 2)]
  congr 3; omega
theorem Yq8 (l : List Int) (hl : l.length = 0 ∨ l.length = 8) : ∃ g, Xmv l = some g ∧ g.length = 8 ∧ ∀ k : Nat, k < 8 → Xfg l k = some (g.getD k 0) := by
 unfold Xmv
 rcases hl with e | e
 ·
  refine ⟨_, Xbw (by rw [e]; rfl), rfl, fun k hk => ?_⟩
  unfold Xfg
  rw [Xbw (by rw [e]; rfl)]
  congr 1
  obtain rfl | rfl | rfl | rfl | rfl | rfl | rfl | rfl : k = 0 ∨ k = 1 ∨ k = 2 ∨ k = 3 ∨ k = 4 ∨ k = 5 ∨ k = 6 ∨ k = 7 := by omega
  all_goals rfl
 ·
  refine ⟨l, Xbi (by rw [e]; rfl), e, fun k hk => ?_⟩
  unfold Xfg
  rw [Xbi (by rw [e]; rfl), rqA, Int.toNat_natCast]
theorem Ynk (n a b : Int) : Xcy n a b = Xe5 n a b := by rw [Xhs, Xfw]
def Ybs (m mid v : Int) (A B : List Int) (i : Nat) : Int := sel (m == 0) mid (sel (m == 1) (A.getD (i % 8) 0) (sel (m == 2) (B.getD (i / 8) 0) (Xbo (Xaa .i64 (Xaa .i64 (B.getD (i / 8) 0 + A.getD (i % 8) 0) - v)) 0 255)))
theorem Yu9 {f1 : Int × List Int → Option (Lp (Int × List Int) (List Int))} {f2 : Int × List Int → Int × List Int → Option (Lp (Int × List Int) (List Int))} (g : Nat → Int)
  (h1 : ∀ v, f1 v = sel (decide (v.1 < 8)) (bnd (loop (f2 v) (0, v.2)) fun w => some (.go (Xaa .i64 (v.1 + 1), w))) (some (.done v.2)))
  (h2 : ∀ (r c : Nat) (a s : List Int), r < 8 → c < 8 → s.length = 8 * r + c → f2 ((r : Int), a) ((c : Int), s) = some (.go (((c + 1 : Nat) : Int), s ++ [g (8 * r + c)])))
  (h3 : ∀ (r : Nat) (a s : List Int), f2 ((r : Int), a) (8, s) = some (.done s)) : loop f1 (0, []) = some ((List.range 64).map g) := by
 obtain ⟨o, e, ho⟩ := Xdz (f := f1) 8 (fun r s => s = (List.range (8 * r)).map g) (by
  intro r s hr hs
  obtain ⟨q, eq, hq⟩ := Xnu (f := f2 ((r : Int), s)) 8 (fun c s' => s' = (List.range (8 * r + c)).map g) (by
   intro c s' hc hs'
   exact ⟨_, h2 r c s s' hr hc (by rw [hs']; simp), by rw [hs', show 8 * r + (c + 1) = (8 * r + c) + 1 by omega, List.range_succ, List.map_append]; rfl⟩) (fun z _ => h3 r s z) s hs
  rw [h1]
  refine ⟨q, ?_, by rw [hq, show 8 * (r + 1) = 8 * r + 8 by omega]⟩
  simp only
  rw [syA, eq, Xab, wkA]
  rfl) (by intro s; rw [h1, Xar (by simp)]) [] rfl
 rw [e, ho]
theorem Ypr (m : Int) (hm0 : 0 ≤ m ∧ m ≤ 3) {e : Xi8} (h : Xt8 e) : ∃ g, Xf6 m e = some g ∧ Xe6 m e = some g := by
 have hm : maxLen = 9223372036854775807 := rfl
 obtain ⟨mid, em, m1, m2⟩ := Xxl h
 obtain ⟨A, eA, hA, fA⟩ := Yq8 e.Above h.1
 obtain ⟨B, eB, hB, fB⟩ := Yq8 e.Left h.2.1
 obtain ⟨v, ev⟩ : ∃ v, sel (decide (e.Corner < 0)) (some (128 : Int)) (some e.Corner) = some v := by rw [Yub]; exact ⟨_, rfl⟩
 refine ⟨(List.range 64).map (Ybs m mid v A B), ?_, ?_⟩
 ·
  unfold Xf6
  rw [Ygz h, Xab, Xau, Xaj, Xab, decide_eq_true hm0, Bool.not_true, Xab, Xao, Yxb h, em, Xab, eA, Xab, eB, Xab, ev, Xab, Yu9 (f1 := Xoj m mid A B v) (f2 := Xgr m mid A B v) (Ybs m mid v A B) (fun _ => rfl) ?_ ?_, Xab]
  ·
   intro r c a s hr hc hs
   unfold Xgr Ybs
   simp only [Int.toNat_natCast, Xhs, Xab]
   rw [syA, wkA (e := (c : Int) + 1), show (8 * r + c) % 8 = c by omega, show (8 * r + c) / 8 = r by omega]
   cases (m == 0) with
   | true => rw [Xau, Xa2 (by simp only [List.length_singleton]; omega), Xab]; rfl
   | false =>
    rw [Xao]
    cases (m == 1) with
    | true => rw [Xau, rqA, Xa2 (by simp only [List.length_singleton]; omega), Xab]; rfl
    | false =>
     rw [Xao]
     cases (m == 2) with
     | true => rw [Xau, rqA, Xa2 (by simp only [List.length_singleton]; omega), Xab]; rfl
     | false => rw [Xao, rqA, rqA, Xa2 (by simp only [List.length_singleton]; omega), Xab]; rfl
  ·
   intro r a s
   unfold Xgr
   rw [Xar (by simp)]
 ·
  unfold Xe6
  rw [Xjz h, Xab, Xau, Xal, Xab, decide_eq_true hm0, Bool.not_true, Xab, Xao, ev, Xab]
  obtain ⟨o, eo, ho⟩ := Xdz (f := Xei m e v) 64 (fun i s => s = (List.range i).map (Ybs m mid v A B)) (by
   intro i s hi hs
   have hlen : s.length = i := by rw [hs]; simp
   refine ⟨s ++ [Ybs m mid v A B i], ?_, by rw [hs, List.range_succ, List.map_append]; rfl⟩
   unfold Xei Ybs
   simp only
   rw [syA, rqA, Xbr (by omega), show (i : Int) % 8 = ((i % 8 : Nat) : Int) by omega, fA _ (by omega), Xab, rqA, Xbg (by omega), wkA (e := (i : Int) / 8), show (i : Int) / 8 = ((i / 8 : Nat) : Int) by omega, fB _ (by omega), Xab, wkA (e := (i : Int) + 1), em]
   cases (m == 0) with
   | true => rw [Xau, Xab, Xa2 (by simp only [List.length_singleton]; omega), Xab]; rfl
   | false =>
    rw [Xao]
    cases (m == 1) with
    | true => rw [Xau, Xa2 (by simp only [List.length_singleton]; omega), Xab]; rfl
    | false =>
     rw [Xao]
     cases (m == 2) with
     | true => rw [Xau, Xa2 (by simp only [List.length_singleton]; omega), Xab]; rfl
     | false => rw [Xao, Xfw, Xab, Xa2 (by simp only [List.length_singleton]; omega), Xab]; rfl) (by intro s; unfold Xei; rw [Xar (by simp)]) [] rfl
  rw [eo, Xab, ho]
theorem Xsh (m : Int) (hm0 : 0 ≤ m ∧ m ≤ 3) {e : Xi8} (h : Xt8 e) : Xf6 m e = Xe6 m e := by
 obtain ⟨g, h1, h2⟩ := Ypr m hm0 h
 rw [h1, h2]
theorem Ydk (g b : List Int) (hg : Xbt g = true) (hl : b.length = 64) (hb : inB 10000000 b) : Xmi g b = Xm5 g b := by
 obtain ⟨g1, g2⟩ := Xbq hg
 unfold Xmi Xm5
 rw [Xgz g hg, Xh3 g (by omega), hg, Xrd b 64 10000000 (by omega) (by omega) hb, Xcx b 64 10000000 (by omega) (by omega) (by omega) hb]
 have : Xnf g b = Xhb g b := by
  funext v
  unfold Xnf Xhb
  simp only [Ynk, show ((g.length : Nat) : Int) = 64 by omega]
 simp only [Xab, Xau, Bool.not_true, Xao, this]
theorem Yrq {s : Xam} (h : Xvc s = true) (h1 : s.Kind = 0) : s.Dx = 0 ∧ s.Dy = 0 := by
 unfold Xvc at h
 rw [h1] at h
 simp at h
 exact ⟨h.2.1, h.2.2.1⟩
theorem Yzp {s : Xam} (h : Xvc s = true) : (-16 ≤ s.Dx ∧ s.Dx ≤ 16) ∧ (-16 ≤ s.Dy ∧ s.Dy ≤ 16) := by
 have hk := Xvd h
 obtain h1 | h1 | h1 : s.Kind = 0 ∨ s.Kind = 1 ∨ s.Kind = 2 := by omega
 ·
  obtain ⟨a, b⟩ := Yrq h h1; omega
 ·
  obtain ⟨a, b, _⟩ := Xv1 h h1; exact ⟨a, b⟩
 ·
  unfold Xvc at h
  rw [h1] at h
  simp at h
  omega
theorem Ysc (s : Xam) (c : Xer) : Xef s c = some (Xtf s c) := by
 unfold Xef Xtf
 cases c.Key <;> rfl
structure Zek (now ref : Pic) (l t x y : Int) (c : Xer) (q : Xam) : Prop where
 ok : Xcg now = true
 hx : x.tmod 8 = 0
 hy : y.tmod 8 = 0
 h0 : Xdk now x y = true
 hl : 0 ≤ l ∧ l ≤ 256
 ht : 0 ≤ t ∧ t ≤ 256
 hc : Xi1 c = true
 hs : q.Levels.length ≤ 1048576
theorem Xt4 {now ref : Pic} {l t x y : Int} {c : Xer} {q : Xam} (h : Zek now ref l t x y c q) (hq : Xvc q = true) (hL : Xtf q c = true) (hr : c.Key = false → Xcg ref = true) : ∃ d, Xco now ref l t c x y q = some (d, true) ∧ Xf2 now ref l t c x y q = some (d, true) ∧ Xbt d = true := by
 obtain ⟨ok, hx, hy, h0, hl, ht, hc, hs⟩ := h
 obtain ⟨k1, k2, k3⟩ := Xa7 ok
 have h0' := h0
 unfold Xdk at h0'
 rw [decide_eq_true_eq] at h0'
 have dxy := Yzp hq
 unfold Xf2 Xco
 rw [Xg0 ok hx hy h0, Xab, Xau, Xal, Xab, decide_eq_true hl, Xau, Xal, Xab, decide_eq_true ht, Xau, Yf5, Xab, hq, Xau, Xha, Xab, hc, Bool.not_true, Xab, Xao]
 rw [Xb3, Xab, ok, Xau, Xut ok hx hy h0, Xab, Xau, Xaj, Xab, decide_eq_true hl, Xau, Xaj, Xab, decide_eq_true ht, Xau, Xon q (by omega), Xab, hq, Xau, Xdd, Xab, hc, Xau, Ysc, Xab, hL, Xau]
 by_cases h2 : q.Kind = 2
 ·
  obtain ⟨hm, hlv⟩ := Ybg hq h2
  obtain ⟨e, ee, he⟩ := Xuy ok hx hy h0
  obtain ⟨b, eb, b1, b2⟩ := Xqq q.Levels c hc hlv
  obtain ⟨g, eg, hg⟩ := Xlv q.Mode hm he
  obtain ⟨j, ej, hj⟩ := Xxc g b hg b1 b2
  refine ⟨j, ?_, ?_, hj⟩
  ·
   rw [Xbi (b := q.Kind != 2) (by simpa using h2), Xab, Xao, Xbi (by rw [h2]; rfl), Xtj q.Levels c hc hlv, eb, Xab, Xbi (by rw [h2]; rfl), Xyv ok hx hy h0, ee, Xab, Xsh q.Mode hm he, eg, Xab, Ydk g b hg b1 b2, ej, Xab]
  ·
   rw [Xbw (by simpa using h2), ee, Xab, eb, Xab, eg, Xab, ej, Xab]
 ·
  have hK : c.Key = false := by
   unfold Xtf at hL
   cases hk : c.Key with
   | false => rfl
   | true => rw [hk] at hL; simp at hL; exact absurd hL h2
  have rok := hr hK
  rw [Xbw (b := q.Kind != 2) (by simpa using h2), Xb3, Xab, rok, Bool.not_true, Xab, Xao]
  rw [Xbi (b := q.Kind == 2) (by simpa using h2), hK, Xao, Xgl, Xab, rok, Bool.not_true, Xab, Xao]
  rw [wkA (e := l + x), wkA (e := l + x + q.Dx), wkA (e := t + y), wkA (e := t + y + q.Dy), Xls rok _ _ (by omega) (by omega), Xab, Xgj rok _ _ (by omega) (by omega), Xab, Xgj rok _ _ (by omega) (by omega)]
  by_cases h3 : q.Kind = 0
  ·
   obtain ⟨z1, z2⟩ := Yrq hq h3
   rw [Xbw (b := q.Kind == 0) (by simpa using h3), Xbw (b := q.Kind == 0) (by simpa using h3), z1, z2, Int.add_zero, Int.add_zero]
   exact ⟨_, rfl, rfl, Xk3 _ _ _⟩
  ·
   have h1 : q.Kind = 1 := by have := Xvd hq; omega
   obtain ⟨_, _, hlv⟩ := Xv1 hq h1
   obtain ⟨b, eb, b1, b2⟩ := Xqq q.Levels c hc hlv
   obtain ⟨j, ej, hj⟩ := Xxc _ b (Xk3 ref (l + x + q.Dx) (t + y + q.Dy)) b1 b2
   rw [Xbi (b := q.Kind == 0) (by simpa using h3), Xbi (b := q.Kind == 0) (by simpa using h3), Xtj q.Levels c hc hlv, eb, Xab, Xab, Xbw (b := q.Kind == 1) (by simpa using h1), Xab, Ydk _ b (Xk3 _ _ _) b1 b2, ej, Xab]
   exact ⟨_, rfl, rfl, hj⟩
theorem Yze {β : Type} {a b c : Prop} [Decidable a] [Decidable b] [Decidable c] (hb : b) (hc : c) (k : Option β) : req a (req b (req c k)) = req b (req c (req a k)) := by
 rw [Xa2 hb, Xa2 hc, Xa2 hb, Xa2 hc]
theorem Ytf {p : Pic} (ok : Xcg p = true) : p.Dots.size ≤ 65536 := by
 obtain ⟨k1, k2, k3⟩ := Xa7 ok
 have := Xes k1 k2
 omega
theorem Yrd {p : Pic} {x y : Int} {d : List Int} (hd : Xbt d = true) (hp : p.Dots.size ≤ maxLen) : Xvn p x y d = Xgn p x y d := by
 obtain ⟨d1, d2⟩ := Xbq hd
 unfold Xvn Xgn Yag
 rw [Xa2 hp, Xab, Xa2 hp]
 have : Xst p x y d = Xdf p x y d := by
  funext v
  unfold Xst Xdf
  simp only [show ((d.length : Nat) : Int) = 64 by omega]
  exact Ya3 (fun _ => Yze (by omega) (by omega) _) fun _ => rfl
 rw [this]
theorem Yw8 (n : Nat) (x : Int) : ((List.range n).map fun _ => x) = List.replicate n x := by
 apply List.ext_getElem
 ·
  simp
 ·
  intro i h1 h2; simp
theorem Xuh (w h : Int) (hw : 1 ≤ w ∧ w ≤ 256) (hh : 1 ≤ h ∧ h ≤ 256) : Xri w h = some ⟨w, h, strOfNums (List.replicate (w * h).toNat 128)⟩ := by
 have ar := Xes hw hh
 unfold Xri
 rw [Xaj, Xab, decide_eq_true hw, Xau, Xaj, Xab, decide_eq_true hh, Bool.not_true, Xab, Xao, wkA (e := w * h), rqA]
 rw [Yvg (f := Xny w h) (w * h).toNat (fun _ => 128) (List.replicate (w * h).toNat 0) (by simp) ?_ ?_, Xab, Yw8]
 ·
  intro i s hi hs _
  unfold Xny
  simp only [List.length_replicate, Int.toNat_natCast]
  rw [wkA (e := w * h), syA, rqA, rqA, wkA]
  rfl
 ·
  intro s hs
  unfold Xny
  simp only [List.length_replicate]
  rw [wkA (e := w * h), snA]
def Xrg (p : Pic) (r : Xyw) : Bool := decide (1 ≤ r.Wide ∧ r.Wide ≤ p.Wide) && (decide (1 ≤ r.High ∧ r.High ≤ p.High) && (decide (0 ≤ r.Left ∧ r.Left ≤ p.Wide - r.Wide) && decide (0 ≤ r.Top ∧ r.Top ≤ p.High - r.High)))
theorem Xss {p : Pic} (ok : Xcg p = true) (r : Xyw) : Xcc p r = some (Xrg p r) := by
 obtain ⟨k1, k2, k3⟩ := Xa7 ok
 unfold Xcc Xrg
 rw [Xaj, Xaj, Xab, Xab]
 by_cases h1 : 1 ≤ r.Wide ∧ r.Wide ≤ p.Wide
 ·
  rw [decide_eq_true h1, Xau, Bool.true_and]
  by_cases h2 : 1 ≤ r.High ∧ r.High ≤ p.High
  ·
   rw [decide_eq_true h2, Xau, Bool.true_and, wkA (e := p.Wide - r.Wide), wkA (e := p.High - r.High), Xaj, Xaj, Xab, Xab, Xdi, Xab]
  ·
   rw [decide_eq_false h2, Xao, Bool.false_and]; rfl
 ·
  rw [decide_eq_false h1, Xao, Bool.false_and]; rfl
theorem Xkf {p : Pic} {r : Xyw} (h : Xrg p r = true) : (1 ≤ r.Wide ∧ r.Wide ≤ p.Wide) ∧ (1 ≤ r.High ∧ r.High ≤ p.High) ∧ (0 ≤ r.Left ∧ r.Left ≤ p.Wide - r.Wide) ∧ (0 ≤ r.Top ∧ r.Top ≤ p.High - r.High) := by
 unfold Xrg at h
 simp only [Bool.and_eq_true, decide_eq_true_eq] at h
 exact h
def Xhp (p : Pic) (r : Xyw) : Nat → List Int
 | 0 => []
 | n + 1 => Xhp p r n ++ Xa6 (p.Dots.extract ((r.Top + n) * p.Wide + r.Left).toNat ((r.Top + n) * p.Wide + r.Left + r.Wide).toNat)
theorem Yr8 {p : Pic} {r : Xyw} (ok : Xcg p = true) (h : Xrg p r = true) (n : Nat) (hn : (n : Int) < r.High) : 0 ≤ (r.Top + n) * p.Wide ∧ (r.Top + n) * p.Wide + r.Left + r.Wide ≤ p.Dots.size ∧ (r.Top + n) * p.Wide ≤ 65536 ∧ (Xa6 (p.Dots.extract ((r.Top + n) * p.Wide + r.Left).toNat ((r.Top + n) * p.Wide + r.Left + r.Wide).toNat)).length = r.Wide.toNat := by
 obtain ⟨k1, k2, k3⟩ := Xa7 ok
 obtain ⟨a1, a2, a3, a4⟩ := Xkf h
 have ar := Xes k1 k2
 have b1 : 0 ≤ (r.Top + n) * p.Wide := Int.mul_nonneg (by omega) (by omega)
 have b2 : (r.Top + n) * p.Wide ≤ (p.High - 1) * p.Wide := Int.mul_le_mul_of_nonneg_right (by omega) (by omega)
 have b3 : (p.High - 1) * p.Wide = p.Wide * p.High - p.Wide := by rw [Int.sub_mul, Int.one_mul, Int.mul_comm]
 refine ⟨b1, by omega, by omega, ?_⟩
 rw [Xb6, ByteArray.size_extract]
 omega
theorem Xpl {p : Pic} {r : Xyw} (ok : Xcg p = true) (h : Xrg p r = true) : ∀ n : Nat, (n : Int) ≤ r.High → ((Xhp p r n).length : Int) = n * r.Wide
 | 0, _ => by simp [Xhp]
 | n + 1, hn => by
  have a := Xkf h
  have b := Yr8 ok h n (by omega)
  rw [Xhp, List.length_append, Int.natCast_add, Xpl ok h n (by omega), b.2.2.2, Int.natCast_add, Int.add_mul]
  simp only [Int.natCast_one, Int.one_mul]
  omega
theorem Yyu {p : Pic} {r : Xyw} {f : Int × List Int → Option (Lp (Int × List Int) (List Int))} (ok : Xcg p = true) (h : Xrg p r = true) (hf : f = Xo9 p r) : loop f (r.Top, []) = some (Xhp p r r.High.toNat) := by
 have hm : maxLen = 9223372036854775807 := rfl
 obtain ⟨k1, k2, k3⟩ := Xa7 ok
 obtain ⟨a1, a2, a3, a4⟩ := Xkf h
 subst hf
 have key : ∀ n : Nat, n ≤ r.High.toNat → loop (Xo9 p r) (r.Top + n, Xhp p r n) = some (Xhp p r r.High.toNat) := by
  refine Xhe _ ?_ ?_
  ·
   refine Xfv ?_
   unfold Xo9
   rw [wkA (e := r.Top + r.High), Xar (by simp only; omega)]
  ·
   intro n hn ih
   refine lgo (y := (r.Top + ((n + 1 : Nat) : Int), Xhp p r (n + 1))) ?_ ih
   obtain ⟨b1, b2, b3, b4⟩ := Yr8 ok h n (by omega)
   have cl := Xpl ok h n (by omega)
   have cw : (n : Int) * r.Wide ≤ 256 * r.Wide := Int.mul_le_mul_of_nonneg_right (by omega) (by omega)
   unfold Xo9
   simp only
   rw [wkA (e := r.Top + r.High), syA, wkA (e := (r.Top + n) * p.Wide), wkA (e := (r.Top + n) * p.Wide + r.Left), wkA (e := (r.Top + n) * p.Wide + r.Left + r.Wide), rqA, Xa2 (by rw [b4]; omega), wkA (e := r.Top + n + 1), show r.Top + ((n + 1 : Nat) : Int) = r.Top + n + 1 by omega]
   rfl
 have := key 0 (by omega)
 simpa [Xhp] using this
def Zcm (p : Pic) (r : Xyw) : Pic := ⟨r.Wide, r.High, strOfNums (Xhp p r r.High.toNat)⟩
theorem Za5 {p : Pic} {r : Xyw} (ok : Xcg p = true) (h : Xrg p r = true) : Xcg (Zcm p r) = true := by
 obtain ⟨k1, k2, k3⟩ := Xa7 ok
 obtain ⟨a1, a2, a3, a4⟩ := Xkf h
 refine Xvt (by show 1 ≤ r.Wide ∧ r.Wide ≤ 256; omega) (by show 1 ≤ r.High ∧ r.High ≤ 256; omega) ?_
 show ((strOfNums _).size : Int) = r.Wide * r.High
 rw [strOfNums_size, Xpl ok h _ (by omega), Int.mul_comm]
 congr 1; omega
theorem Yns {p : Pic} {r : Xyw} (ok : Xcg p = true) (h : Xrg p r = true) : Xpc p r = some (Zcm p r, true) := by
 obtain ⟨k1, k2, k3⟩ := Xa7 ok
 obtain ⟨a1, a2, a3, a4⟩ := Xkf h
 have ar := Xes (w := r.Wide) (h := r.High) (by omega) (by omega)
 unfold Xpc
 rw [Xb3, Xab, ok, Xau, Xss ok, Xab, h, Bool.not_true, Xab, Xao, wkA (e := r.Wide * r.High), rqA]
 have := Yyu (f := Xso p r) ok h rfl
 rw [show List.replicate (0 : Int).toNat (0 : Int) = [] from rfl, this, Xab]
 rfl
theorem Xd3 (n : Int) : Xfc n = some (Xyp n) := by
 unfold Xfc Xyp
 rw [rqA, Xaj, Xab, Xdi, Xab, Yr4]
theorem Ym6 {w h : Int} (hw : Xyp w = true) (hh : Xyp h = true) (i : Nat) (hi : (i : Int) < w / 8 * (h / 8)) : (8 ≤ w ∧ w ≤ 64) ∧ (8 ≤ h ∧ h ≤ 64) ∧ 1 ≤ w / 8 ∧ w / 8 ≤ 8 ∧ 1 ≤ h / 8 ∧ h / 8 ≤ 8 ∧ 0 ≤ (i : Int) % (w / 8) * 8 ∧ (i : Int) % (w / 8) * 8 ≤ w - 8 ∧ 0 ≤ (i : Int) / (w / 8) * 8 ∧ (i : Int) / (w / 8) * 8 ≤ h - 8 := by
 unfold Xyp at hw hh
 rw [Bool.and_eq_true, decide_eq_true_eq, decide_eq_true_eq] at hw hh
 rw [Xbr (by omega)] at hw hh
 have h1 : 1 ≤ w / 8 ∧ w / 8 ≤ 8 := by omega
 have h2 : 1 ≤ h / 8 ∧ h / 8 ≤ 8 := by omega
 have m0 : 0 ≤ (i : Int) % (w / 8) := Int.emod_nonneg _ (by omega)
 have m1 : (i : Int) % (w / 8) < w / 8 := Int.emod_lt_of_pos _ (by omega)
 have d0 : 0 ≤ (i : Int) / (w / 8) := Int.ediv_nonneg (by omega) (by omega)
 have d1 : (i : Int) / (w / 8) < h / 8 := Int.ediv_lt_of_lt_mul (by omega) (by rw [Int.mul_comm]; exact hi)
 exact ⟨hw.2, hh.2, h1.1, h1.2, h2.1, h2.2, by omega, by omega, by omega, by omega⟩
theorem Xbx {w : Int} (hw : Xyp w = true) : w % 8 = 0 ∧ 8 ≤ w ∧ w ≤ 64 := by
 unfold Xyp at hw
 rw [Bool.and_eq_true, decide_eq_true_eq, decide_eq_true_eq] at hw
 rw [Xbr (by omega)] at hw
 exact ⟨hw.1, hw.2⟩
theorem Yj9 (l : List Int) : Xga l = some (Xbt l) := by
 unfold Xga Xbt
 by_cases h : l.length = 64
 ·
  rw [Xbi (by simp only [bne_eq_false_iff_eq]; omega), Ygi Yr9 l (Xem l) (by
   intro i hi
   unfold Xem
   rw [syA, rqA, Xal, Xab, wkA, Int.toNat_natCast]
   rfl) (by unfold Xem; rw [snA]), Xab, decide_eq_true h, Bool.true_and]
  cases l.all Yr9 <;> rfl
 ·
  rw [Xbw (by simp only [bne_iff_ne, ne_eq]; omega), decide_eq_false h, Bool.false_and]
theorem Yz5 (m : Int) (h : 0 ≤ m ∧ m ≤ 3) : ∃ s, Xmp m = some s ∧ Xm9 m = some s := by
 have e1 : Xm9 m = some (((strOfNums (ueL m.toNat)).size : Nat) : Int) := by
  unfold Xm9 Ydb
  rw [Xal, Xab, decide_eq_true (by omega), Bool.not_true, Xao]
  have : Xse m = some (strOfNums (ueL m.toNat)) := by
   have := Xte m.toNat (by omega)
   rwa [show ((m.toNat : Nat) : Int) = m by omega] at this
  rw [this, Xab, Xab]
 have e2 : Xmp m = some (((strOfNums (ueL m.toNat)).size : Nat) : Int) := by
  unfold Xmp Xpe
  rw [Xaj, Xab, decide_eq_true (by omega), Bool.not_true, Xao]
  have : Xi3 m = some (strOfNums (ueL m.toNat)) := by
   have := Xfu m.toNat (by omega)
   rwa [show ((m.toNat : Nat) : Int) = m by omega] at this
  rw [this, Xab, Xab]
 exact ⟨_, e2, e1⟩
theorem Ygy {w : List Int} (hw : Xbt w = true) {e : Xi8} (h : Xt8 e) : Xjc w e = Xjk w e := by
 have hwl := (Xbq hw).1
 unfold Xjc Xjk
 rw [Ygz h, Xjz h, Xh3 w (by omega), Yj9, hw]
 have : loop (Xin w e) (0, -1, 0) = loop (Xd8 w e) (0, -1, 0) := by
  refine Xmz (fun v => 0 ≤ v.2.2 ∧ v.2.2 ≤ 4) ?_ ?_ (by simp)
  ·
   intro ⟨m, c, i⟩ ⟨h1, h2⟩
   simp only at h1 h2
   unfold Xin Xd8
   simp only
   by_cases hi : i < 4
   ·
    obtain ⟨g, eg, hg⟩ := Xlv i ⟨h1, by omega⟩ h
    obtain ⟨s, e1, e2⟩ := Yz5 i ⟨h1, by omega⟩
    rw [Xbk (show i ≤ 3 by omega), Xbk hi, Xsh i ⟨h1, by omega⟩ h, eg, Xab, Xab, Xsr hw hg, Xs7 hw hg, Xab, Xab, e1, e2]
   ·
    rw [Xar (show ¬ i ≤ 3 by omega), Xar hi]
  ·
   intro ⟨m, c, i⟩ v' ⟨h1, h2⟩ he
   simp only at h1 h2
   unfold Xd8 at he
   rcases Xjy he with ⟨hb, he⟩ | ⟨_, he⟩
   ·
    have hi := of_decide_eq_true hb
    simp only at hi
    obtain ⟨q, _, he⟩ := Xbd he
    injection he with he
    injection he with he
    subst he
    simp only
    rw [wkA]; omega
   ·
    cases he
 simp only [Xab, Xau, Bool.not_true, Xao, this]
theorem Ykj {p : Pic} {w : List Int} {x y r : Int} (ok : Xcg p = true) (hw : Xbt w = true) (hr : 0 ≤ r ∧ r ≤ 4) (hx : x.tmod 8 = 0) (hy : y.tmod 8 = 0) (h0 : Xdk p x y = true) : Xds p w x y r = Xo8 p w x y r := by
 obtain ⟨k1, k2, k3⟩ := Xa7 ok
 have hwl := (Xbq hw).1
 have h0' := h0
 unfold Xdk at h0'
 rw [decide_eq_true_eq] at h0'
 unfold Xds Xo8
 rw [Xb3, Xab, ok, Xau, Xh3 w (by omega), Xab, hw, Xau, Xaj, Xab, decide_eq_true hr, Xau, Xoq ok x y hx hy h0, Xab, Bool.not_true, Xab, Xao]
 rw [Xgz w hw, Xab, Xau, Xal, Xab, decide_eq_true hr, Xau, Xg0 ok hx hy h0, Xab, Bool.not_true, Xab, Xao, wkA (e := 0 - r)]
 refine Yuz ?_ fun _ _ => rfl
 refine Xmz (fun s => -r ≤ s.2.2.2 ∧ s.2.2.2 ≤ r + 1) ?_ ?_ (by simp only; omega)
 ·
  intro s ⟨g1, g2⟩
  unfold Xfl Xm2
  refine Ya3 (fun hs => ?_) fun _ => rfl
  have hs := of_decide_eq_true hs
  rw [wkA (e := 0 - r)]
  refine Yuz ?_ fun _ _ => rfl
  refine Xmz (fun v => -r ≤ v.2.2.2 ∧ v.2.2.2 ≤ r + 1) ?_ ?_ (by simp only; omega)
  ·
   intro v ⟨f1, f2⟩
   unfold Xc4 Xm3
   refine Ya3 (fun hv => ?_) fun _ => rfl
   have hv := of_decide_eq_true hv
   rw [wkA (e := x + v.2.2.2), wkA (e := y + s.2.2.2), Ydv ok, Xtz ok, Xab, Xab]
   refine Yuz ?_ fun _ _ => rfl
   refine Ya3 (fun _ => rfl) fun _ => ?_
   have hb := Xk3 p (x + v.2.2.2) (y + s.2.2.2)
   rw [Xls ok _ _ (by omega) (by omega), Xgj ok _ _ (by omega) (by omega), Xab, Xab, Xs7 hw hb, Xsr hw hb, Xab, Xab, Xxd _ (by omega), Xng _ (by omega), Xab, Xab, Xxd _ (by omega), Xng _ (by omega), Xab]
  ·
   intro v v' ⟨f1, f2⟩ he
   unfold Xm3 at he
   rcases Xjy he with ⟨hb, he⟩ | ⟨_, he⟩
   ·
    have hi := of_decide_eq_true hb
    obtain ⟨q, _, he⟩ := Xbd he
    injection he with he
    injection he with he
    subst he
    simp only
    rw [wkA]; omega
   ·
    cases he
 ·
  intro s v' ⟨g1, g2⟩ he
  unfold Xm2 at he
  rcases Xjy he with ⟨hb, he⟩ | ⟨_, he⟩
  ·
   have hi := of_decide_eq_true hb
   obtain ⟨q, _, he⟩ := Xbd he
   injection he with he
   injection he with he
   subst he
   simp only
   rw [wkA]; omega
  ·
   cases he
def Xyi (a b : List Int) : List Int := (List.range 64).map fun i => a.getD i 0 - b.getD i 0
theorem Xp1 (a b : List Int) : (Xyi a b).length = 64 := by simp [Xyi]
theorem Yol (a b : List Int) {i : Nat} (hi : i < 64) : (Xyi a b).getD i 0 = a.getD i 0 - b.getD i 0 := Xhg _ hi
theorem Ygp {a b : List Int} (ha : Xbt a = true) (hb : Xbt b = true) : inB 255 (Xyi a b) := by
 intro x hx
 obtain ⟨i, hi, rfl⟩ := List.mem_map.1 hx
 rw [List.mem_range] at hi
 have p := (Xbq ha).2 i hi
 have q := (Xbq hb).2 i hi
 omega
theorem Yq0 {a b : List Int} (ha : Xbt a = true) (hb : Xbt b = true) {f : Int × List Int → Option (Lp (Int × List Int) (List Int))} (hf : ∀ v, f v = sel (decide (v.1 < 64)) (req (0 ≤ v.1 ∧ v.1 < a.length) <| req (0 ≤ v.1 ∧ v.1 < b.length) <| req ((v.2.length + ([Xaa .i64 ((a.getD v.1.toNat 0) - (b.getD v.1.toNat 0))]).length) * 8 ≤ 140737488355328 ∧ v.2.length + ([Xaa .i64 ((a.getD v.1.toNat 0) - (b.getD v.1.toNat 0))]).length ≤ maxLen) <| some (.go (Xaa .i64 (v.1 + 1), (v.2 ++ ([Xaa .i64 ((a.getD v.1.toNat 0) - (b.getD v.1.toNat 0))]))))) (some (.done v.2))) : loop f (0, []) = some (Xyi a b) := by
 have hm : maxLen = 9223372036854775807 := rfl
 obtain ⟨a1, a2⟩ := Xbq ha
 obtain ⟨b1, b2⟩ := Xbq hb
 have := Ys7 (f := f) 64 (fun i => a.getD i 0 - b.getD i 0) [] (by
  intro i hi
  have x := a2 i hi
  have y := b2 i hi
  rw [hf]
  simp only [Int.toNat_natCast]
  rw [syA, rqA, rqA, Xa2 (by simp only [List.length_append, List.length_nil, List.length_map, List.length_range, List.length_singleton]; omega), wkA (e := a.getD i 0 - b.getD i 0), wkA (e := (i : Int) + 1)]
  rfl) (by rw [hf, Xar (by simp)])
 rw [List.nil_append] at this
 exact this
theorem Xts {a b : List Int} (ha : Xbt a = true) (hb : Xbt b = true) : Xgk a b = some (Xyi a b) := by
 have a1 := (Xbq ha).1
 unfold Xgk
 rw [Yq0 ha hb (f := Xjw a b) (fun v => by unfold Xjw; rw [show ((a.length : Nat) : Int) = 64 by omega]), Xab]
theorem Xl7 {a b : List Int} (ha : Xbt a = true) (hb : Xbt b = true) : Xoc a b = some (Xyi a b) := by
 have a1 := (Xbq ha).1
 unfold Xoc
 rw [Yq0 ha hb (f := Xp8 a b) (fun v => by unfold Xp8; rw [show ((a.length : Nat) : Int) = 64 by omega]), Xab]
theorem Xvb (l : List Int) (hl : l.length ≤ 1000000) : Xqv l = some (l.all fun x => x == 0) := by
 unfold Xqv
 rw [Ygi (fun x => x == 0) l (Xma l) (by
  intro i hi
  unfold Xma
  rw [syA, rqA, Int.toNat_natCast, wkA]
  rfl) (by unfold Xma; rw [snA]), Xab]
 cases l.all (fun x => x == 0) <;> rfl
theorem Yy2 {a b : List Int} (ha : Xbt a = true) (hb : Xbt b = true) : (Xpm a b 64 == 0) = ((Xyi a b).all fun x => x == 0) := by
 have key : ∀ n : Nat, n ≤ 64 → (Xpm a b n = 0 ↔ ∀ i, i < n → a.getD i 0 - b.getD i 0 = 0) := by
  intro n
  induction n with
  | zero => intro _; exact ⟨fun _ i hi => by omega, fun _ => rfl⟩
  | succ n ih =>
   intro hn
   have g := Xke ha hb n (by omega)
   have e : Xpm a b (n + 1) = Xpm a b n + Ydp (a.getD n 0 - b.getD n 0) := rfl
   have ab : 0 ≤ Ydp (a.getD n 0 - b.getD n 0) ∧ (Ydp (a.getD n 0 - b.getD n 0) = 0 ↔ a.getD n 0 - b.getD n 0 = 0) := by unfold Ydp; split <;> omega
   rw [e]
   constructor
   ·
    intro h i hi
    rcases Nat.lt_or_ge i n with h1 | h1
    ·
     exact (ih (by omega)).1 (by omega) i h1
    ·
     have : i = n := by omega
     subst this
     exact ab.2.1 (by omega)
   ·
    intro h
    have h1 := (ih (by omega)).2 fun i hi => h i (by omega)
    have h2 := ab.2.2 (h n (by omega))
    omega
 rw [Bool.eq_iff_iff, beq_iff_eq, List.all_eq_true, key 64 (by omega)]
 constructor
 ·
  intro h x hx
  obtain ⟨i, hi, rfl⟩ := List.mem_map.1 hx
  rw [List.mem_range] at hi
  rw [beq_iff_eq]; exact h i hi
 ·
  intro h i hi
  have := h ((Xyi a b).getD i 0) (by rw [Xcm _ i (by rw [Xp1]; exact hi)]; exact List.getElem_mem _)
  rw [beq_iff_eq, Yol a b hi] at this
  exact this
theorem Yuu (l : List Int) (hl : l.length = 64) : Xbm l 64 0 0 = some (l.all fun x => x == 0) := by
 rw [Xlg l 64 0 0 (by omega), show ((l.length : Int) == 64) = true by rw [beq_iff_eq]; omega, Bool.and_true]
 congr 2
 funext x
 rw [Bool.eq_iff_iff, decide_eq_true_eq, beq_iff_eq]; omega
structure Zce (now ref : Pic) (w : List Int) (x y : Int) (c : Xer) (r : Int) : Prop where
 ok : Xcg now = true
 hx : x.tmod 8 = 0
 hy : y.tmod 8 = 0
 h0 : Xdk now x y = true
 hw : Xbt w = true
 hc : Xi1 c = true
 hr : 0 ≤ r ∧ r ≤ 4
 hk : c.Key = false → Xcg ref = true ∧ ref.Wide = now.Wide ∧ ref.High = now.High
inductive Xti (now ref : Pic) (w : List Int) (x y : Int) (c : Xer) (r : Int) : Xam → Prop
 | same (hK : c.Key = false) (h : ∀ i : Nat, i < 64 → w.getD i 0 = (Xrc ref x y 64).getD i 0) : Xti now ref w x y c r ⟨0, 0, 0, 0, []⟩
 | still (hK : c.Key = false) (l : List Int) (h : Xdx (Xyi w (Xrc ref x y 64)) c = some (l, true)) (hl : Ygr l = true) (hz : ∀ i : Nat, i < 64 → l.getD i 0 = 0) : Xti now ref w x y c r ⟨0, 0, 0, 0, []⟩
 | move (hK : c.Key = false) (dx dy : Int) (hdx : -r ≤ dx ∧ dx ≤ r) (hdy : -r ≤ dy ∧ dy ≤ r) (hh : Xdk ref (x + dx) (y + dy) = true) (l : List Int) (h : Xdx (Xyi w (Xrc ref (x + dx) (y + dy) 64)) c = some (l, true)) (hl : Ygr l = true) (hn : ¬ ∀ i : Nat, i < 64 → w.getD i 0 = (Xrc ref x y 64).getD i 0) : Xti now ref w x y c r ⟨1, 0, dx, dy, l⟩
 | guess (e : Xi8) (he : Xie now x y = some (e, true)) (hp : Xt8 e) (m : Int) (hm : 0 ≤ m ∧ m ≤ 3) (g : List Int) (hg : Xe6 m e = some g) (hd : Xbt g = true) (l : List Int) (h : Xdx (Xyi w g) c = some (l, true)) (hl : Ygr l = true) (hn : c.Key = false → ¬ ∀ i : Nat, i < 64 → w.getD i 0 = (Xrc ref x y 64).getD i 0) : Xti now ref w x y c r ⟨2, m, 0, 0, l⟩
theorem Xti.ok {now ref : Pic} {w : List Int} {x y : Int} {c : Xer} {r : Int} {q : Xam} (hr : 0 ≤ r ∧ r ≤ 4) (h : Xti now ref w x y c r q) : Xvc q = true ∧ Xtf q c = true ∧ q.Levels.length ≤ 64 := by
 cases h with
 | same hK _ => exact ⟨rfl, by unfold Xtf; rw [hK]; rfl, by simp⟩
 | still hK l _ _ _ => exact ⟨rfl, by unfold Xtf; rw [hK]; rfl, by simp⟩
 | move hK dx dy hdx hdy hh l h hl hn => exact ⟨Yxy (by omega) (by omega) hl, by unfold Xtf; rw [hK]; rfl, by simp only; have := (Yjb hl).1; omega⟩
 | guess e he hp m hm g hg hd l h hl hn => exact ⟨Yvt hm hl, by unfold Xtf; simp, by simp only; have := (Yjb hl).1; omega⟩
theorem Yup {l : List Int} (hl : l.length = 64) : (l.all fun x => x == 0) = true ↔ ∀ i : Nat, i < 64 → l.getD i 0 = 0 := by
 rw [List.all_eq_true]
 constructor
 ·
  intro h i hi
  have := h (l.getD i 0) (by rw [Xcm l i (by omega)]; exact List.getElem_mem _)
  rwa [beq_iff_eq] at this
 ·
  intro h x hx
  obtain ⟨i, hi, rfl⟩ := List.getElem_of_mem hx
  rw [beq_iff_eq, ← Xcm l i hi 0]
  exact h i (by omega)
theorem Ym8 {p : Pic} {w : List Int} {x y r : Int} (ok : Xcg p = true) (hw : Xbt w = true) (hr : 0 ≤ r ∧ r ≤ 4) (hx : x.tmod 8 = 0) (hy : y.tmod 8 = 0) (h0 : Xdk p x y = true) :
  ∃ b, Xds p w x y r = some b ∧ Xo8 p w x y r = some b ∧ (-r ≤ b.1 ∧ b.1 ≤ r) ∧ (-r ≤ b.2.1 ∧ b.2.1 ≤ r) ∧ Xdk p (x + b.1) (y + b.2.1) = true := by
 obtain ⟨b, e, h1, h2, h3, _⟩ := Yei ok hw hr hx hy h0
 exact ⟨b, e, by rw [← Ykj ok hw hr hx hy h0]; exact e, h1, h2, h3⟩
theorem Xoy {now ref : Pic} {w : List Int} {x y : Int} {c : Xer} {r : Int} (H : Zce now ref w x y c r) : ∃ q d, Xe9 now ref w x y c r = some (q, d, true) ∧ Xno now ref w x y c r = some (q, d, true) ∧ Xti now ref w x y c r q ∧ Xco now ref 0 0 c x y q = some (d, true) ∧ Xbt d = true := by
 obtain ⟨ok, hx, hy, h0, hw, hc, hr, hk⟩ := H
 have hwl := (Xbq hw).1
 obtain ⟨e, ee, he⟩ := Xuy ok hx hy h0
 obtain ⟨m, co, eb, hm⟩ := Yc1 hw he
 obtain ⟨g, eg, hg⟩ := Xlv m hm he
 obtain ⟨l, el, hl⟩ := Xtu (Xyi w g) c hc (Xp1 w g) (Ygp hw hg)
 have hh := h0
 unfold Xdk at hh
 rw [decide_eq_true_eq] at hh
 obtain ⟨k1, k2, k3⟩ := Xa7 ok
 -- the square
 have main : ∃ q, Xti now ref w x y c r q ∧ Xq9 now ref w x y c r = some q ∧
   (sel (!c.Key) (bnd (Xbz ref x y) fun q15 => bnd (Xqj w q15) fun q16 => sel (q16 == 0) (some ((0 : Int), (0 : Int), (0 : Int), (0 : Int), ([] : List Int))) (bnd (Xds ref w x y r) fun q17 => sel (decide (q17.2.2 ≤ co)) (bnd (Xbz ref (Xaa .i64 (x + q17.1)) (Xaa .i64 (y + q17.2.1))) fun q18 => bnd (Xgk w q18) fun q19 => bnd (Xge q19 c) fun q20 =>
    bnd (sel (q17.1 == 0) (sel (q17.2.1 == 0) (bnd (Xbm q20.1 64 0 0) fun q22 => some q22) (some false)) (some false)) fun v21 => sel v21 (some (0, 0, 0, 0, [])) (some (1, 0, q17.1, q17.2.1, q20.1))) (some (2, m, 0, 0, l)))) (some (2, m, 0, 0, l))) = some (q.Kind, q.Mode, q.Dx, q.Dy, q.Levels) := by
  unfold Xq9
  cases hK : c.Key with
  | true =>
   refine ⟨⟨2, m, 0, 0, l⟩, .guess e ee he m hm g eg hg l el hl (fun h => by rw [hK] at h; cases h), ?_, rfl⟩
   rw [Xau, Xab, Xao, ee, Xab, eb, Xab, Bool.not_true]
   simp only [Yqv, Xao, eg, Xab, Xl7 hw hg, el]
  | false =>
   obtain ⟨rok, rw', rh⟩ := hk hK
   have hb := Xk3 ref x y
   have r0 : Xdk ref x y = true := by unfold Xdk; rw [decide_eq_true_eq, rw', rh]; exact hh
   have gz := Yy2 hw hb
   have lz := Yup (Xp1 w (Xrc ref x y 64))
   rw [Bool.not_false, Xau, Xao, Xgj rok x y (by omega) (by omega), Xab, Xsr hw hb, Xab, Xls rok x y (by omega) (by omega), Xab, Xl7 hw hb, Xab, Xvb _ (by rw [Xp1]; omega), Xab, Xab, gz]
   cases hz : ((Xyi w (Xrc ref x y 64)).all fun x => x == 0) with
   | true =>
    refine ⟨⟨0, 0, 0, 0, []⟩, .same hK fun i hi => ?_, rfl, rfl⟩
    have := lz.1 hz i hi
    rw [Yol _ _ hi] at this; omega
   | false =>
    have hne : ¬ ∀ i : Nat, i < 64 → w.getD i 0 = (Xrc ref x y 64).getD i 0 := fun hall => by
     have := lz.2 fun i hi => by rw [Yol _ _ hi, hall i hi]; omega
     rw [hz] at this; cases this
    obtain ⟨b, bi, bs, b1, b2, b3⟩ := Ym8 rok hw hr hx hy r0
    rw [Xao, Xao, ee, Xab, eb, Xab, bi, Xab]
    simp only [Yqv, Xau, bs, Xab]
    by_cases hco : b.2.2 ≤ co
    ·
     have hb2 := Xk3 ref (x + b.1) (y + b.2.1)
     obtain ⟨l2, el2, hl2⟩ := Xtu (Xyi w (Xrc ref (x + b.1) (y + b.2.1) 64)) c hc (Xp1 _ _) (Ygp hw hb2)
     have hl2n := (Yjb hl2).1
     rw [Xbk hco, Xbk hco, wkA (e := x + b.1), wkA (e := y + b.2.1), Xls rok _ _ (by omega) (by omega), Xgj rok _ _ (by omega) (by omega), Xab, Xab, Xts hw hb2, Xl7 hw hb2, Xab, Xab, Xwl _ c hc (Xp1 _ _) (Ygp hw hb2), el2, Xab, Xab, Yuu l2 hl2n, Xab, Xvb l2 (by omega), Xab]
     simp only [Xdi, Xab]
     cases hst : (b.1 == 0 && (b.2.1 == 0 && l2.all fun x => x == 0)) with
     | true =>
      simp only [Bool.and_eq_true, beq_iff_eq] at hst
      obtain ⟨z1, z2, z3⟩ := hst
      rw [z1, z2, Int.add_zero, Int.add_zero] at el2
      exact ⟨⟨0, 0, 0, 0, []⟩, .still hK l2 el2 hl2 ((Yup hl2n).1 z3), rfl, rfl⟩
     | false => exact ⟨⟨1, 0, b.1, b.2.1, l2⟩, .move hK b.1 b.2.1 b1 b2 b3 l2 el2 hl2 hne, rfl, rfl⟩
    ·
     rw [Xar hco, Xar hco]
     refine ⟨⟨2, m, 0, 0, l⟩, .guess e ee he m hm g eg hg l el hl (fun _ => hne), ?_, rfl⟩
     simp only [eg, Xab, Xl7 hw hg, el]
 obtain ⟨q, hq, es, ei⟩ := main
 obtain ⟨q1, q2, q3⟩ := hq.ok hr
 obtain ⟨d, di, ds, hd⟩ := Xt4 (now := now) (ref := ref) (l := 0) (t := 0) (x := x) (y := y) (c := c) (q := q) ⟨ok, hx, hy, h0, by omega, by omega, hc, by omega⟩ q1 q2 (fun h => (hk h).1)
 refine ⟨q, d, ?_, ?_, hq, di, hd⟩
 ·
  unfold Xe9
  have hl7 : (sel c.Key (some false) (bnd (Xb2 ref) fun q8 => sel q8 (sel (ref.Wide != now.Wide) (some true) (some (ref.High != now.High))) (some true))) = some false := by
   cases hK : c.Key with
   | true => rfl
   | false =>
    obtain ⟨a1, a2, a3⟩ := hk hK
    rw [Xao, Xb3, Xab, a1, a2, a3, Xau, bne_self_eq_false, Xao, bne_self_eq_false]
  rw [Xb3, Xab, ok, Xau, Xut ok hx hy h0, Xab, Xau, Xh3 w (by omega), Xab, hw, Xau, Xdd, Xab, hc, Xau, Xaj, Xab, decide_eq_true hr, Bool.not_true, Xab, Xao, hl7, Xab, Xao, Xyv ok hx hy h0, ee, Xab, Ygy hw he, eb, Xab, Xsh m hm he, eg, Xab, Xts hw hg, Xab, Xwl _ c hc (Xp1 _ _) (Ygp hw hg), el, Xab]
  simp only
  rw [ei, Xab]
  simp only
  rw [show (⟨q.Kind, q.Mode, q.Dx, q.Dy, q.Levels⟩ : Xam) = q from rfl, di, Xab]
  rfl
 ·
  unfold Xno
  have hl7 : (sel c.Key (some false) (bnd (Xqu now ref) fun q6 => some (!q6))) = some false := by
   cases hK : c.Key with
   | true => rfl
   | false =>
    obtain ⟨a1, a2, a3⟩ := hk hK
    rw [Xao, Yka, Xab, Yy5 ok a1 a2 a3]; rfl
  rw [Xg0 ok hx hy h0, Xab, Xau, Xgz w hw, Xab, Xau, Xha, Xab, hc, Xau, Xal, Xab, decide_eq_true hr, Xau, hl7, Xab, Xao, es, Xab, ds, Xab]
theorem Yay {W x y : Int} (hx : 0 ≤ x ∧ x < W) : (y * W + x) / W = y ∧ (y * W + x) % W = x := by
 have hW : 0 < W := by omega
 constructor
 ·
  rw [Int.add_comm, Int.add_mul_ediv_right _ _ (by omega), Int.ediv_eq_zero_of_lt hx.1 hx.2, Int.zero_add]
 ·
  rw [Int.add_comm, Int.add_mul_emod_self_right, Int.emod_eq_of_lt hx.1 hx.2]
theorem Xqn {W H x y : Int} (hx : 0 ≤ x ∧ x < W) (hy : 0 ≤ y ∧ y < H) : 0 ≤ y * W + x ∧ y * W + x < W * H := by
 have a : 0 ≤ y * W := Int.mul_nonneg hy.1 (by omega)
 have b : y * W ≤ (H - 1) * W := Int.mul_le_mul_of_nonneg_right (by omega) (by omega)
 have c : (H - 1) * W = W * H - W := by rw [Int.sub_mul, Int.one_mul, Int.mul_comm]
 omega
theorem Ymp {n m : Int} (h : 0 ≤ n ∧ n ≤ m) : Xbo n 0 m = n := by
 unfold Xbo
 repeat' split
 all_goals omega
theorem Xvj {p : Pic} {x y : Int} (hx : 0 ≤ x ∧ x < p.Wide) (hy : 0 ≤ y ∧ y < p.High) : Xqb p x y = Xwm p.Dots (y * p.Wide + x) := by
 unfold Xqb
 rw [Ymp (by omega), Ymp (by omega)]
theorem Xsy (s : ByteArray) (k : Nat) (hk : k < s.size) : (Xa6 s).getD k 0 = Xwm s k := by
 have := Xwn (Xa6 s) (by intro x hx; obtain ⟨b, _, rfl⟩ := List.mem_map.1 hx; have := b.toNat_lt; omega) k (by rw [Xb6]; exact hk)
 rw [Xv2] at this
 exact this.symm
theorem Ymq (s : ByteArray) : Ykp (Xa6 s) := fun x hx => by
 obtain ⟨b, _, rfl⟩ := List.mem_map.1 hx
 have := b.toNat_lt
 omega
theorem Ywd {l : List Int} (h : Ykp l) (i : Nat) {y : Int} (hy : 0 ≤ y ∧ y ≤ 255) : Ykp (l.set i y) := fun x hx => by
 rcases List.mem_or_eq_of_mem_set hx with hx | hx
 ·
  exact h x hx
 ·
  rw [hx]; exact hy
theorem Zam {p q : Pic} (hp : Xcg p = true) (hq : Xcg q = true) (hw : p.Wide = q.Wide) (hh : p.High = q.High) (h : ∀ x y : Int, 0 ≤ x ∧ x < p.Wide → 0 ≤ y ∧ y < p.High → Xqb p x y = Xqb q x y) : p = q := by
 obtain ⟨p1, p2, p3⟩ := Xa7 hp
 obtain ⟨q1, q2, q3⟩ := Xa7 hq
 have hd : p.Dots = q.Dots := by
  rw [← Xv2 p.Dots, ← Xv2 q.Dots]
  congr 1
  have hsz : p.Dots.size = q.Dots.size := by
   have : (p.Dots.size : Int) = q.Dots.size := by rw [p3, q3, hw, hh]
   omega
  refine Ycx (n := p.Dots.size) (Xb6 _) ((Xb6 _).trans hsz.symm) fun k hk => ?_
  have hkW : (k : Int) < p.Wide * p.High := by omega
  have m0 := Int.emod_nonneg (k : Int) (show p.Wide ≠ 0 by omega)
  have m1 := Int.emod_lt_of_pos (k : Int) (show 0 < p.Wide by omega)
  have d0 : 0 ≤ (k : Int) / p.Wide := Int.ediv_nonneg (by omega) (by omega)
  have d1 : (k : Int) / p.Wide < p.High := Int.ediv_lt_of_lt_mul (by omega) (by rw [Int.mul_comm]; exact hkW)
  have e := h ((k : Int) % p.Wide) ((k : Int) / p.Wide) ⟨m0, m1⟩ ⟨d0, d1⟩
  rw [Xvj ⟨m0, m1⟩ ⟨d0, d1⟩, Xvj (by rw [← hw]; exact ⟨m0, m1⟩) (by rw [← hh]; exact ⟨d0, d1⟩), ← hw, Int.ediv_mul_add_emod] at e
  rw [Xsy _ k hk, Xsy _ k (by omega)]
  exact e
 cases p; cases q
 simp only at hw hh hd
 rw [hw, hh, hd]
def Ywv (x y X Y : Int) : Bool := decide (x ≤ X ∧ X < x + 8 ∧ y ≤ Y ∧ Y < y + 8)
theorem Yzc {p : Pic} {x y : Int} {d : List Int} (ok : Xcg p = true) (h0 : Xdk p x y = true) (hd : Xbt d = true) : ∃ p', Xgn p x y d = some p' ∧ Xcg p' = true ∧ p'.Wide = p.Wide ∧ p'.High = p.High ∧ ∀ X Y : Int, 0 ≤ X ∧ X < p.Wide → 0 ≤ Y ∧ Y < p.High → Xqb p' X Y = if Ywv x y X Y = true then d.getD ((Y - y) * 8 + (X - x)).toNat 0 else Xqb p X Y := by
 obtain ⟨k1, k2, k3⟩ := Xa7 ok
 have ar := Xes k1 k2
 have hm : maxLen = 9223372036854775807 := rfl
 obtain ⟨d1, d2⟩ := Xbq hd
 have h0' := h0
 unfold Xdk at h0'
 rw [decide_eq_true_eq] at h0'
 have hn := Xb6 p.Dots
 unfold Xgn
 rw [rqA]
 obtain ⟨o, e, o1, o2, o3⟩ := Xnu (f := Xdf p x y d) 64 (fun i s => s.length = p.Dots.size ∧ Ykp s ∧ ∀ X Y : Int, 0 ≤ X ∧ X < p.Wide → 0 ≤ Y ∧ Y < p.High → s.getD (Y * p.Wide + X).toNat 0 = if Ywv x y X Y = true ∧ ((Y - y) * 8 + (X - x)).toNat < i then d.getD ((Y - y) * 8 + (X - x)).toNat 0 else (Xa6 p.Dots).getD (Y * p.Wide + X).toNat 0) (by
  intro i s hi ⟨g1, g2, g3⟩
  have di := d2 i hi
  have hxx : 0 ≤ x + (i : Int) % 8 ∧ x + (i : Int) % 8 < p.Wide := by omega
  have hyy : 0 ≤ y + (i : Int) / 8 ∧ y + (i : Int) / 8 < p.High := by omega
  have pin := Xqn hxx hyy
  have b1 : 0 ≤ (y + (i : Int) / 8) * p.Wide := Int.mul_nonneg (by omega) (by omega)
  have b2 : (y + (i : Int) / 8) * p.Wide ≤ (p.High - 1) * p.Wide := Int.mul_le_mul_of_nonneg_right (by omega) (by omega)
  have b3 : (p.High - 1) * p.Wide = p.Wide * p.High - p.Wide := by rw [Int.sub_mul, Int.one_mul, Int.mul_comm]
  unfold Xdf
  simp only
  rw [syA, rqA, rqA, rqA, Xbg (by omega), Xbr (by omega), wkA (e := (i : Int) / 8), wkA (e := y + (i : Int) / 8), wkA (e := (y + (i : Int) / 8) * p.Wide), wkA (e := (y + (i : Int) / 8) * p.Wide + x), wkA (e := (y + (i : Int) / 8) * p.Wide + x + (i : Int) % 8), rqA, rqA, wkA (e := (i : Int) + 1), Int.toNat_natCast, w8 di.1 di.2]
  refine ⟨_, rfl, by rw [List.length_set]; exact g1, Ywd g2 _ di, fun X Y hX hY => ?_⟩
  have pXY := Xqn hX hY
  rw [Xe8 _ _ _ _ (by omega)]
  by_cases heq : ((y + (i : Int) / 8) * p.Wide + x + (i : Int) % 8).toNat = (Y * p.Wide + X).toNat
  ·
   rw [if_pos heq]
   have heq' : (y + (i : Int) / 8) * p.Wide + (x + (i : Int) % 8) = Y * p.Wide + X := by omega
   have q1 := Yay (y := y + (i : Int) / 8) hxx
   have q2 := Yay (y := Y) hX
   rw [heq'] at q1
   have eY : Y = y + (i : Int) / 8 := q2.1.symm.trans q1.1
   have eX : X = x + (i : Int) % 8 := q2.2.symm.trans q1.2
   have hin : Ywv x y X Y = true := by unfold Ywv; rw [decide_eq_true_eq]; omega
   have hpl : ((Y - y) * 8 + (X - x)).toNat = i := by omega
   rw [if_pos ⟨hin, by omega⟩, hpl]
  ·
   rw [if_neg heq, g3 X Y hX hY]
   by_cases hin : Ywv x y X Y = true
   ·
    have hin' := hin
    unfold Ywv at hin'
    rw [decide_eq_true_eq] at hin'
    by_cases hlt : ((Y - y) * 8 + (X - x)).toNat < i
    ·
     rw [if_pos ⟨hin, hlt⟩, if_pos ⟨hin, by omega⟩]
    ·
     have hne : ((Y - y) * 8 + (X - x)).toNat ≠ i := fun h => heq (by
      have eY : Y = y + (i : Int) / 8 := by omega
      have eX : X = x + (i : Int) % 8 := by omega
      rw [eY, eX]; congr 1; omega)
     rw [if_neg (fun h => hlt h.2), if_neg (fun h => by omega)]
   ·
    rw [if_neg (fun h => hin h.1), if_neg (fun h => hin h.1)]) (fun s _ => by unfold Xdf; rw [Xar (by simp)]) (Xa6 p.Dots) ⟨hn, Ymq _, fun X Y hX hY => by rw [if_neg (fun h => by omega)]⟩
 refine ⟨_, (Xgb e).trans rfl, Xvt k1 k2 (by simp only; rw [strOfNums_size]; omega), rfl, rfl, fun X Y hX hY => ?_⟩
 have pXY := Xqn hX hY
 rw [Xvj (p := ⟨p.Wide, p.High, strOfNums o⟩) hX hY, Xvj hX hY]
 simp only
 have e1 : Xwm (strOfNums o) (Y * p.Wide + X) = o.getD (Y * p.Wide + X).toNat 0 := by
  have := Xwn o o2 (Y * p.Wide + X).toNat (by omega)
  rwa [show (((Y * p.Wide + X).toNat : Nat) : Int) = Y * p.Wide + X by omega] at this
 have e2 : Xwm p.Dots (Y * p.Wide + X) = (Xa6 p.Dots).getD (Y * p.Wide + X).toNat 0 := by
  rw [Xsy _ _ (by omega), show (((Y * p.Wide + X).toNat : Nat) : Int) = Y * p.Wide + X by omega]
 rw [e1, e2, o3 X Y hX hY]
 by_cases hin : Ywv x y X Y = true
 ·
  have hin' := hin
  unfold Ywv at hin'
  rw [decide_eq_true_eq] at hin'
  rw [if_pos ⟨hin, by omega⟩, if_pos hin]
 ·
  rw [if_neg (fun h => hin h.1), if_neg hin]
theorem Ywj {p : Pic} {r : Xyw} (ok : Xcg p = true) (h : Xrg p r = true) (X Y : Int) (hX : 0 ≤ X ∧ X < r.Wide) (hY : 0 ≤ Y ∧ Y < r.High) : Xqb (Zcm p r) X Y = Xqb p (r.Left + X) (r.Top + Y) := by
 obtain ⟨k1, k2, k3⟩ := Xa7 ok
 obtain ⟨a1, a2, a3, a4⟩ := Xkf h
 have key : ∀ n : Nat, (n : Int) ≤ r.High → Ykp (Xhp p r n) ∧ ∀ X Y : Int, 0 ≤ X ∧ X < r.Wide → 0 ≤ Y ∧ Y < n → (Xhp p r n).getD (Y * r.Wide + X).toNat 0 = Xqb p (r.Left + X) (r.Top + Y) := by
  intro n
  induction n with
  | zero => intro _; exact ⟨fun x hx => by simp [Xhp] at hx, fun X Y hX hY => by omega⟩
  | succ n ih =>
   intro hn
   obtain ⟨i1, i2⟩ := ih (by omega)
   obtain ⟨b1, b2, b3, b4⟩ := Yr8 ok h n (by omega)
   have cl := Xpl ok h n (by omega)
   refine ⟨fun x hx => ?_, fun X Y hX hY => ?_⟩
   ·
    rw [Xhp] at hx
    rcases List.mem_append.1 hx with hx | hx
    ·
     exact i1 x hx
    ·
     exact Ymq _ x hx
   ·
    have pXY := Xqn (H := (n : Int) + 1) (y := Y) hX (by omega)
    rw [Xhp, List.getD_eq_getElem?_getD, List.getElem?_append]
    by_cases hlt : Y < n
    ·
     have := Xqn (H := n) hX (y := Y) (by omega)
     have h2 : r.Wide * n = n * r.Wide := Int.mul_comm _ _
     rw [if_pos (by omega), ← List.getD_eq_getElem?_getD]
     exact i2 X Y hX (by omega)
    ·
     have eY : Y = n := by omega
     subst eY
     rw [if_neg (by omega), ← List.getD_eq_getElem?_getD]
     have hk : ((n : Int) * r.Wide + X).toNat - (Xhp p r n).length = X.toNat := by omega
     rw [hk, Xsy _ _ (by rw [Xb6] at b4; omega), Xvj (p := p) (x := r.Left + X) (y := r.Top + n) (by omega) (by omega)]
     unfold Xwm
     have hs : (p.Dots.extract ((r.Top + n) * p.Wide + r.Left).toNat ((r.Top + n) * p.Wide + r.Left + r.Wide).toNat).size = r.Wide.toNat := by rw [← Xb6]; exact b4
     rw [dif_pos (by rw [hs]; omega), dif_pos (show ((r.Top + (n : Int)) * p.Wide + (r.Left + X)).toNat < p.Dots.size by omega)]
     rw [ByteArray.getElem_extract]
     congr 2
     congr 1
     omega
 obtain ⟨c1, c2⟩ := key r.High.toNat (by omega)
 have cl := Xpl ok h r.High.toNat (by omega)
 have pXY := Xqn hX hY
 have cm : ((r.High.toNat : Nat) : Int) * r.Wide = r.Wide * r.High := by rw [Int.mul_comm]; congr 1; omega
 rw [Xvj (p := Zcm p r) hX hY]
 show Xwm (strOfNums (Xhp p r r.High.toNat)) (Y * r.Wide + X) = _
 have := Xwn _ c1 (Y * r.Wide + X).toNat (by omega)
 rw [show (((Y * r.Wide + X).toNat : Nat) : Int) = Y * r.Wide + X by omega] at this
 rw [this]
 exact c2 X Y hX (by omega)
theorem Yp3 {p : Pic} (ok : Xcg p = true) : Xrg p ⟨0, 0, p.Wide, p.High⟩ = true ∧ Zcm p ⟨0, 0, p.Wide, p.High⟩ = p := by
 obtain ⟨k1, k2, k3⟩ := Xa7 ok
 have hh : Xrg p ⟨0, 0, p.Wide, p.High⟩ = true := by
  unfold Xrg
  simp only [Bool.and_eq_true, decide_eq_true_eq]
  omega
 refine ⟨hh, Zam (Za5 ok hh) ok rfl rfl fun X Y hX hY => ?_⟩
 rw [Ywj ok hh X Y hX hY]
 simp only [Int.zero_add]
def tX (W : Int) (i : Nat) : Int := (i : Int) % (W / 8) * 8
def tY (W : Int) (i : Nat) : Int := (i : Int) / (W / 8) * 8
structure Yus (src ref : Pic) (c : Xer) (r : Int) : Prop where
 ok : Xcg src = true
 hw : Xyp src.Wide = true
 hh : Xyp src.High = true
 hc : Xi1 c = true
 hr : 0 ≤ r ∧ r ≤ 4
 hk : c.Key = false → Xcg ref = true ∧ ref.Wide = src.Wide ∧ ref.High = src.High
inductive Xk0 (src ref : Pic) (c : Xer) (r : Int) : Nat → List Xam → Pic → Prop
 | zero : Xk0 src ref c r 0 [] ⟨src.Wide, src.High, strOfNums (List.replicate (src.Wide * src.High).toNat 128)⟩
 | succ {n : Nat} {l : List Xam} {now : Pic} (h : Xk0 src ref c r n l now) (hn : (n : Int) < src.Wide / 8 * (src.High / 8)) (q : Xam) (d : List Int) (now' : Pic)
   (hi : Xe9 now ref (Xrc src (tX src.Wide n) (tY src.Wide n) 64) (tX src.Wide n) (tY src.Wide n) c r = some (q, d, true)) (hs : Xno now ref (Xrc src (tX src.Wide n) (tY src.Wide n) 64) (tX src.Wide n) (tY src.Wide n) c r = some (q, d, true)) (hq : Xti now ref (Xrc src (tX src.Wide n) (tY src.Wide n) 64) (tX src.Wide n) (tY src.Wide n) c r q)
   (hd : Xco now ref 0 0 c (tX src.Wide n) (tY src.Wide n) q = some (d, true)) (hp : Xgn now (tX src.Wide n) (tY src.Wide n) d = some now') : Xk0 src ref c r (n + 1) (l ++ [q]) now'
theorem Zbb {w h : Int} (hw : 1 ≤ w ∧ w ≤ 256) (hh : 1 ≤ h ∧ h ≤ 256) : Xcg ⟨w, h, strOfNums (List.replicate (w * h).toNat 128)⟩ = true := by
 have ar := Xes hw hh
 refine Xvt hw hh ?_
 simp only
 rw [strOfNums_size, List.length_replicate]; omega
theorem Yo2 {src ref now : Pic} {c : Xer} {r : Int} (H : Yus src ref c r) {n : Nat} (hn : (n : Int) < src.Wide / 8 * (src.High / 8)) (ok : Xcg now = true) (hw : now.Wide = src.Wide) (hh : now.High = src.High) : Zce now ref (Xrc src (tX src.Wide n) (tY src.Wide n) 64) (tX src.Wide n) (tY src.Wide n) c r := by
 obtain ⟨p1, p2, p3, p4, p5, p6, p7, p8, p9, p10⟩ := Ym6 H.hw H.hh n hn
 refine ⟨ok, by unfold tX; rw [Xbr p7]; omega, by unfold tY; rw [Xbr p9]; omega, by unfold Xdk tX tY; rw [decide_eq_true_eq, hw, hh]; exact ⟨p7, p8, p9, p10⟩, Xk3 _ _ _, H.hc, H.hr, fun hK => ?_⟩
 obtain ⟨a, b, c⟩ := H.hk hK
 exact ⟨a, by rw [b, hw], by rw [c, hh]⟩
theorem Xk0.pic {src ref : Pic} {c : Xer} {r : Int} (H : Yus src ref c r) {n : Nat} {l : List Xam} {now : Pic} (h : Xk0 src ref c r n l now) : Xcg now = true ∧ now.Wide = src.Wide ∧ now.High = src.High ∧ l.length = n ∧ (∀ q ∈ l, Xvc q = true ∧ Xtf q c = true ∧ q.Levels.length ≤ 64) := by
 induction h with
 | zero =>
  obtain ⟨k1, k2, k3⟩ := Xa7 H.ok
  exact ⟨Zbb k1 k2, rfl, rfl, rfl, fun q hq => by simp at hq⟩
 | succ h hn q d now' hi hs hq hd hp ih =>
  obtain ⟨ok, w, hh, hl, hall⟩ := ih
  have SF := Yo2 H hn ok w hh
  obtain ⟨q2, d2, e2, _, _, _, hd64⟩ := Xoy SF
  rw [hi] at e2
  injection e2 with e2
  injection e2 with e2 e3
  injection e3 with e3 _
  subst e2; subst e3
  obtain ⟨p', ep, p1, p2, p3⟩ := Xxm ok SF.h0 hd64
  rw [hp] at ep
  injection ep with ep
  subst ep
  refine ⟨p1, by rw [p2, w], by rw [p3, hh], by rw [List.length_append, hl]; rfl, fun x hx => ?_⟩
  rcases List.mem_append.1 hx with hx | hx
  ·
   exact hall x hx
  ·
   rw [List.mem_singleton.1 hx]; exact hq.ok H.hr
theorem Xk0.step {src ref : Pic} {c : Xer} {r : Int} (H : Yus src ref c r) {n : Nat} {l : List Xam} {now : Pic} (h : Xk0 src ref c r n l now) (hn : (n : Int) < src.Wide / 8 * (src.High / 8)) : ∃ q d now', Xe9 now ref (Xrc src (tX src.Wide n) (tY src.Wide n) 64) (tX src.Wide n) (tY src.Wide n) c r = some (q, d, true) ∧ Xno now ref (Xrc src (tX src.Wide n) (tY src.Wide n) 64) (tX src.Wide n) (tY src.Wide n) c r = some (q, d, true) ∧ Xbt d = true ∧ Xgn now (tX src.Wide n) (tY src.Wide n) d = some now' ∧ Xk0 src ref c r (n + 1) (l ++ [q]) now' := by
 obtain ⟨ok, w, hh, hl, _⟩ := h.pic H
 have SF := Yo2 H hn ok w hh
 obtain ⟨q, d, e1, e2, hq, ed, hd64⟩ := Xoy SF
 obtain ⟨p', ep, p1, p2, p3⟩ := Xxm ok SF.h0 hd64
 exact ⟨q, d, p', e1, e2, hd64, ep, .succ h hn q d p' e1 e2 hq ed ep⟩
theorem Zdg {W : Int} (hW : Xyp W = true) (a b : Nat) (hb : (b : Int) < W / 8) : tX W ((W / 8).toNat * a + b) = 8 * b ∧ tY W ((W / 8).toNat * a + b) = 8 * a := by
 have s := Xbx hW
 have e : (((W / 8).toNat * a + b : Nat) : Int) = (a : Int) * (W / 8) + b := by
  rw [Int.natCast_add, Int.natCast_mul, show (((W / 8).toNat : Nat) : Int) = W / 8 by omega, Int.mul_comm]
 have d := Yay (W := W / 8) (x := b) (y := a) ⟨by omega, hb⟩
 unfold tX tY
 rw [e, d.1, d.2]
 omega
theorem Zaq {W H : Int} (hW : Xyp W = true) (a b : Nat) (hb : (b : Int) < W / 8) (ha : (a : Int) < H / 8) : (((W / 8).toNat * a + b : Nat) : Int) < W / 8 * (H / 8) := by
 have s := Xbx hW
 have p := Xqn (W := W / 8) (H := H / 8) (x := b) (y := a) ⟨by omega, hb⟩ ⟨by omega, ha⟩
 rw [Int.natCast_add, Int.natCast_mul, show (((W / 8).toNat : Nat) : Int) = W / 8 by omega, Int.mul_comm (W / 8)]
 exact p.2
theorem Yfe {src ref : Pic} {c : Xer} {r : Int} (H : Yus src ref c r) : ∃ l now, Xkl src ref c r = some (l, now, true) ∧ Xk0 src ref c r ((src.Wide / 8).toNat * (src.High / 8).toNat) l now := by
 have hm : maxLen = 9223372036854775807 := rfl
 have sw := Xbx H.hw
 have sh := Xbx H.hh
 obtain ⟨k1, k2, k3⟩ := Xa7 H.ok
 -- one row
 have row : ∀ a : Nat, (a : Int) < src.High / 8 → ∀ (l : List Xam) (now : Pic), Xk0 src ref c r ((src.Wide / 8).toNat * a) l now → ∃ l' now', loop (Xew src ref c r ((8 * a : Nat), l, now.Wide, now.High, now.Dots)) (0, l, now.Wide, now.High, now.Dots) = some (.out (l', now'.Wide, now'.High, now'.Dots)) ∧ Xk0 src ref c r ((src.Wide / 8).toNat * (a + 1)) l' now' := by
  intro a ha l now hT
  have key : ∀ b : Nat, b ≤ (src.Wide / 8).toNat → ∀ (l2 : List Xam) (now2 : Pic), Xk0 src ref c r ((src.Wide / 8).toNat * a + b) l2 now2 → ∃ l' now', loop (Xew src ref c r ((8 * a : Nat), l, now.Wide, now.High, now.Dots)) (((8 * b : Nat) : Int), l2, now2.Wide, now2.High, now2.Dots) = some (.out (l', now'.Wide, now'.High, now'.Dots)) ∧ Xk0 src ref c r ((src.Wide / 8).toNat * (a + 1)) l' now' := by
   refine Xhe _ ?_ ?_
   ·
    intro l2 now2 h2
    refine ⟨l2, now2, Xfv ?_, by rw [Nat.mul_add, Nat.mul_one]; exact h2⟩
    unfold Xew
    rw [Xar (by simp only; omega)]
   ·
    intro b hb ih l2 now2 h2
    have hbI : (b : Int) < src.Wide / 8 := by omega
    obtain ⟨eX, eY⟩ := Zdg H.hw a b hbI
    obtain ⟨q, d, now', e1, _, hd, ep, hT'⟩ := h2.step H (Zaq H.hw a b hbI ha)
    rw [eX, eY] at e1 ep
    obtain ⟨ok2, w2, hh2, hl2, _⟩ := h2.pic H
    obtain ⟨l', n', el, hT2⟩ := ih (l2 ++ [q]) now' hT'
    refine ⟨l', n', lgo (y := (((8 * (b + 1) : Nat) : Int), l2 ++ [q], now'.Wide, now'.High, now'.Dots)) ?_ el, hT2⟩
    have lb : l2.length ≤ 1000 := by
     have := Zaq H.hw a b hbI ha
     have : src.Wide / 8 * (src.High / 8) ≤ 8 * 8 := Int.mul_le_mul (by omega) (by omega) (by omega) (by omega)
     omega
    unfold Xew
    simp only
    rw [show ((8 * a : Nat) : Int) = 8 * (a : Int) by omega, show ((8 * b : Nat) : Int) = 8 * (b : Int) by omega, syA, Xgj H.ok _ _ (by omega) (by omega), Xab, show (⟨now2.Wide, now2.High, now2.Dots⟩ : Pic) = now2 from rfl, e1, Xab]
    simp only
    rw [Bool.not_true, Xao, Xa2 (by simp only [List.length_singleton]; omega), Yrd hd (by have := Ytf ok2; omega), ep, Xab, wkA, show ((8 * (b + 1) : Nat) : Int) = 8 * (b : Int) + 8 by omega]
  exact key 0 (by omega) l now hT
 have rows : ∀ a : Nat, a ≤ (src.High / 8).toNat → ∀ (l : List Xam) (now : Pic), Xk0 src ref c r ((src.Wide / 8).toNat * a) l now → ∃ l' now', loop (Xev src ref c r) (((8 * a : Nat) : Int), l, now.Wide, now.High, now.Dots) = some (.out (l', now'.Wide, now'.High, now'.Dots)) ∧ Xk0 src ref c r ((src.Wide / 8).toNat * (src.High / 8).toNat) l' now' := by
  refine Xhe _ ?_ ?_
  ·
   intro l now h
   refine ⟨l, now, Xfv ?_, h⟩
   unfold Xev
   rw [Xar (by simp only; omega)]
  ·
   intro a ha ih l now h
   obtain ⟨l', n', el, hT⟩ := row a (by omega) l now h
   obtain ⟨l2, n2, el2, hT2⟩ := ih l' n' hT
   refine ⟨l2, n2, lgo (y := (((8 * (a + 1) : Nat) : Int), l', n'.Wide, n'.High, n'.Dots)) ?_ el2, hT2⟩
   unfold Xev
   rw [Xbk (by simp only; omega)]
   simp only
   rw [el, Xab]
   simp only
   rw [wkA, show ((8 * (a + 1) : Nat) : Int) = ((8 * a : Nat) : Int) + 8 by omega]
 obtain ⟨l, now, e, hT⟩ := rows 0 (by omega) [] ⟨src.Wide, src.High, strOfNums (List.replicate (src.Wide * src.High).toNat 128)⟩ (by rw [Nat.mul_zero]; exact .zero)
 refine ⟨l, now, ?_, hT⟩
 unfold Xkl
 have hl7 : (sel c.Key (some false) (bnd (Xb2 ref) fun q8 => sel q8 (sel (ref.Wide != src.Wide) (some true) (some (ref.High != src.High))) (some true))) = some false := by
  cases hK : c.Key with
  | true => rfl
  | false =>
   obtain ⟨a1, a2, a3⟩ := H.hk hK
   rw [Xao, Xb3, Xab, a1, a2, a3, Xau, bne_self_eq_false, Xao, bne_self_eq_false]
 rw [Xb3, Xab, H.ok, Xau, Xd3, Xab, H.hw, Xau, Xd3, Xab, H.hh, Xau, Xdd, Xab, H.hc, Xau, Xaj, Xab, decide_eq_true H.hr, Bool.not_true, Xab, Xao, hl7, Xab, Xao, Xuh _ _ k1 k2, Xab]
 have e' : loop (Xev src ref c r) (0, [], src.Wide, src.High, strOfNums (List.replicate (src.Wide * src.High).toNat 128)) = some (.out (l, now.Wide, now.High, now.Dots)) := e
 rw [e', Xab]
theorem Xk0.dots {src ref : Pic} {c : Xer} {r : Int} (H : Yus src ref c r) (P : Int → Int → Int → Prop)
  (hP : ∀ (n : Nat) (now : Pic) (q : Xam) (d : List Int), (n : Int) < src.Wide / 8 * (src.High / 8) → Zce now ref (Xrc src (tX src.Wide n) (tY src.Wide n) 64) (tX src.Wide n) (tY src.Wide n) c r → Xti now ref (Xrc src (tX src.Wide n) (tY src.Wide n) 64) (tX src.Wide n) (tY src.Wide n) c r q → Xf2 now ref 0 0 c (tX src.Wide n) (tY src.Wide n) q = some (d, true) → ∀ i : Nat, i < 64 → P (tX src.Wide n + ((i % 8 : Nat) : Int)) (tY src.Wide n + ((i / 8 : Nat) : Int)) (d.getD i 0))
  {n : Nat} {l : List Xam} {now : Pic} (h : Xk0 src ref c r n l now) : ∀ X Y : Int, 0 ≤ X ∧ X < src.Wide → 0 ≤ Y ∧ Y < src.High → Y / 8 * (src.Wide / 8) + X / 8 < n → P X Y (Xqb now X Y) := by
 induction h with
 | zero =>
  intro X Y hX hY hlt
  have := Int.mul_nonneg (show 0 ≤ Y / 8 by omega) (show 0 ≤ src.Wide / 8 by omega)
  omega
 | succ h hn q d now' hi hs hq hd hp ih =>
  rename_i n0 l0 now0
  obtain ⟨ok, w, hh, hl, hall⟩ := h.pic H
  have SF := Yo2 H hn ok w hh
  obtain ⟨q2, d2, e2, _, _, _, hd64⟩ := Xoy SF
  rw [hi] at e2
  injection e2 with e2
  injection e2 with e2 e3
  injection e3 with e3 _
  subst e2; subst e3
  obtain ⟨p', ep, p1, p2, p3, p4⟩ := Yzc ok SF.h0 hd64
  rw [hp] at ep
  injection ep with ep
  subst ep
  obtain ⟨q1, q2', q3⟩ := hq.ok H.hr
  obtain ⟨d', ei', es', _⟩ := Xt4 (now := now0) (ref := ref) (l := 0) (t := 0) (x := tX src.Wide n0) (y := tY src.Wide n0) (c := c) (q := q) ⟨ok, SF.hx, SF.hy, SF.h0, by omega, by omega, H.hc, by omega⟩ q1 q2' (fun hK => (H.hk hK).1)
  rw [hd] at ei'
  injection ei' with ei'
  injection ei' with ei' _
  subst ei'
  have hPd := hP n0 now0 q d hn SF hq es'
  intro X Y hX hY hlt
  rw [p4 X Y (by rw [w]; exact hX) (by rw [hh]; exact hY)]
  have sw := Xbx H.hw
  have dv := Yay (W := src.Wide / 8) (x := X / 8) (y := Y / 8) ⟨by omega, by omega⟩
  by_cases hin : Ywv (tX src.Wide n0) (tY src.Wide n0) X Y = true
  ·
   rw [if_pos hin]
   unfold Ywv at hin
   rw [decide_eq_true_eq] at hin
   have := hPd ((Y - tY src.Wide n0) * 8 + (X - tX src.Wide n0)).toNat (by omega)
   have e1 : tX src.Wide n0 + (((((Y - tY src.Wide n0) * 8 + (X - tX src.Wide n0)).toNat % 8 : Nat)) : Int) = X := by omega
   have e2 : tY src.Wide n0 + (((((Y - tY src.Wide n0) * 8 + (X - tX src.Wide n0)).toNat / 8 : Nat)) : Int) = Y := by omega
   rw [e1, e2] at this
   exact this
  ·
   rw [if_neg hin]
   refine ih X Y hX hY ?_
   have hne : Y / 8 * (src.Wide / 8) + X / 8 ≠ n0 := fun e => hin (by
    rw [e] at dv
    unfold Ywv tX tY
    rw [dv.1, dv.2, decide_eq_true_eq]
    omega)
   omega
theorem Xk0.all {src ref : Pic} {c : Xer} {r : Int} (H : Yus src ref c r) (P : Int → Int → Int → Prop)
  (hP : ∀ (n : Nat) (now : Pic) (q : Xam) (d : List Int), (n : Int) < src.Wide / 8 * (src.High / 8) → Zce now ref (Xrc src (tX src.Wide n) (tY src.Wide n) 64) (tX src.Wide n) (tY src.Wide n) c r → Xti now ref (Xrc src (tX src.Wide n) (tY src.Wide n) 64) (tX src.Wide n) (tY src.Wide n) c r q → Xf2 now ref 0 0 c (tX src.Wide n) (tY src.Wide n) q = some (d, true) → ∀ i : Nat, i < 64 → P (tX src.Wide n + ((i % 8 : Nat) : Int)) (tY src.Wide n + ((i / 8 : Nat) : Int)) (d.getD i 0))
  {l : List Xam} {now : Pic} (h : Xk0 src ref c r ((src.Wide / 8).toNat * (src.High / 8).toNat) l now) : ∀ X Y : Int, 0 ≤ X ∧ X < src.Wide → 0 ≤ Y ∧ Y < src.High → P X Y (Xqb now X Y) := by
 intro X Y hX hY
 refine h.dots H P hP X Y hX hY ?_
 have sw := Xbx H.hw
 have sh := Xbx H.hh
 have p := Xqn (W := src.Wide / 8) (H := src.High / 8) (x := X / 8) (y := Y / 8) ⟨by omega, by omega⟩ ⟨by omega, by omega⟩
 rw [Int.natCast_mul, show (((src.Wide / 8).toNat : Nat) : Int) = src.Wide / 8 by omega, show (((src.High / 8).toNat : Nat) : Int) = src.High / 8 by omega]
 exact p.2
theorem Za0 (p : Pic) (x y : Int) {i : Nat} (hi : i < 64) : (Xrc p x y 64).getD i 0 = Xqb p (x + ((i % 8 : Nat) : Int)) (y + ((i / 8 : Nat) : Int)) := Xhg _ hi
theorem Xk0.same {src ref : Pic} {c : Xer} {r : Int} (H : Yus src ref c r) (hd : ∀ (now : Pic) (w : List Int) (x y : Int) (q : Xam) (d : List Int), Zce now ref w x y c r → w = Xrc src x y 64 → Xti now ref w x y c r q → Xf2 now ref 0 0 c x y q = some (d, true) → d = w) {l : List Xam} {now : Pic} (h : Xk0 src ref c r ((src.Wide / 8).toNat * (src.High / 8).toNat) l now) : now = src := by
 obtain ⟨ok, w, hh, _, _⟩ := h.pic H
 refine Zam ok H.ok w hh fun X Y hX hY => ?_
 rw [w] at hX
 rw [hh] at hY
 refine h.all H (fun X Y v => v = Xqb src X Y) (fun n now q d hn SF hq hs i hi => ?_) X Y hX hY
 rw [hd now _ _ _ q d SF rfl hq hs]
 exact Za0 _ _ _ hi
theorem Xv4 {src : Pic} (hw : Xyp src.Wide = true) (hh : Xyp src.High = true) : (((src.Wide / 8).toNat * (src.High / 8).toNat : Nat) : Int) = src.Wide / 8 * (src.High / 8) ∧ 1 ≤ src.Wide / 8 * (src.High / 8) ∧ src.Wide / 8 * (src.High / 8) ≤ 64 := by
 have a := Xbx hw
 have b := Xbx hh
 have m1 : src.Wide / 8 * (src.High / 8) ≤ 8 * 8 := Int.mul_le_mul (by omega) (by omega) (by omega) (by omega)
 have m2 : 1 * 1 ≤ src.Wide / 8 * (src.High / 8) := Int.mul_le_mul (by omega) (by omega) (by omega) (by omega)
 rw [Int.natCast_mul, show (((src.Wide / 8).toNat : Nat) : Int) = src.Wide / 8 by omega, show (((src.High / 8).toNat : Nat) : Int) = src.High / 8 by omega]
 exact ⟨rfl, by omega, by omega⟩
theorem Xk0.still {src : Pic} {c : Xer} {r : Int} (H : Yus src src c r) (hK : c.Key = false) {n : Nat} {l : List Xam} {now : Pic} (h : Xk0 src src c r n l now) : l = List.replicate n ⟨0, 0, 0, 0, []⟩ := by
 induction h with
 | zero => rfl
 | succ h hn q d now' hi hs hq hd hp ih =>
  have : q = ⟨0, 0, 0, 0, []⟩ := by
   cases hq with
   | same => rfl
   | still => rfl
   | move _ _ _ _ _ _ _ _ _ hn => exact absurd (fun _ _ => rfl) hn
   | guess _ _ _ _ _ _ _ _ _ _ _ hn => exact absurd (fun _ _ => rfl) (hn hK)
  rw [ih, this, List.replicate_succ']
theorem Yqd (a b : List Int) (i : Nat) : (a ++ b).getD (a.length + i) 0 = b.getD i 0 := by
 rw [List.getD_eq_getElem?_getD, List.getD_eq_getElem?_getD, List.getElem?_append_right (by omega)]
 congr 2; omega
theorem Ywo (a b : List Int) (i : Nat) (hi : i < a.length) : (a ++ b).getD i 0 = a.getD i 0 := by
 rw [List.getD_eq_getElem?_getD, List.getD_eq_getElem?_getD, List.getElem?_append_left hi]
theorem Zcx (v x : Int) (h0 : 0 ≤ v) (h1 : v ≤ 1000000000000000000) (hx : x = 0 ∨ x = 1) : IntKind.wrap .i64 (BitVec.ofInt (IntKind.bits .i64) (v * 2) ||| BitVec.ofInt (IntKind.bits .i64) x).toNat = v * 2 + x := by
 obtain ⟨a, rfl⟩ : ∃ a : Nat, v = a := ⟨v.toNat, by omega⟩
 obtain ⟨b, rfl⟩ : ∃ b : Nat, x = b := ⟨x.toNat, by omega⟩
 have h : (BitVec.ofInt 64 ((a : Int) * 2) ||| BitVec.ofInt 64 (b : Int)).toNat = a * 2 + b := by
  rw [BitVec.toNat_or, BitVec.toNat_ofInt, BitVec.toNat_ofInt]
  have e1 : (((a : Int) * 2) % ((2 ^ 64 : Nat) : Int)).toNat = a * 2 := by omega
  have e2 : ((b : Int) % ((2 ^ 64 : Nat) : Int)).toNat = b := by omega
  rw [e1, e2]
  have := Nat.two_pow_add_eq_or_of_lt (i := 1) (b := b) (by omega) a
  rw [show 2 ^ 1 * a = a * 2 by omega] at this
  exact this.symm
 show IntKind.wrap .i64 ((BitVec.ofInt 64 ((a : Int) * 2) ||| BitVec.ofInt 64 (b : Int)).toNat : Int) = _
 rw [h, ← Xqw, wkA]
 omega
theorem Yxh {i : Nat} (h : i ≤ 40) : (2 : Int) ^ i ≤ 1099511627776 := by
 have h2 : (2 : Nat) ^ i ≤ 1099511627776 := Nat.pow_le_pow_right (n := 2) (by omega) h
 have := Int.ofNat_le.2 h2
 rw [Int.natCast_pow] at this
 exact this
theorem Xj9 {L a f b : List Int} (hL : L = a ++ (f ++ b)) (hb : Xov L) (hl : L.length ≤ 400000) (hf : f.length ≤ 41) : Xcq ⟨strOfNums L, (a.length : Int), false⟩ (f.length : Int) = some (Xqa f, ⟨strOfNums L, ((a.length + f.length : Nat) : Int), false⟩) := by
 have hLl : L.length = a.length + (f.length + b.length) := by rw [hL]; simp only [List.length_append]
 have hfb : Xov f := fun x hx => hb x (by rw [hL]; simp [hx])
 unfold Xcq
 simp only
 rw [Xao, strOfNums_size, wkA, Xab, snA]
 have key : ∀ i : Nat, i ≤ f.length → loop (Xgu ⟨strOfNums L, (a.length : Int), false⟩ (f.length : Int)) (Xqa (f.take i), (i : Int)) = some (Xqa f) := by
  refine Xhe _ ?_ ?_
  ·
   refine Xfv ?_
   unfold Xgu
   simp only
   rw [snA, List.take_length]
  ·
   intro i hi ih
   refine lgo ?_ ih
   have hx : L.getD (a.length + i) 0 = f.getD i 0 := by rw [hL, Yqd, Ywo _ _ _ hi]
   have hbt : Xwm (strOfNums L) ((a.length : Int) + i) = f.getD i 0 := by
    rw [show (a.length : Int) + i = ((a.length + i : Nat) : Int) by omega, Xwn L (Xfj hb) _ (by omega), hx]
   have h2 : f.getD i 0 = 48 ∨ f.getD i 0 = 49 := hfb _ (by rw [Xcm f i hi]; exact List.getElem_mem hi)
   have ht : Xov (f.take i) := fun x hx => hfb x (List.mem_of_mem_take hx)
   have hr := Ybi ht
   have hp : (2 : Int) ^ (f.take i).length ≤ 1099511627776 := Yxh (by rw [List.length_take]; omega)
   have hv : Xqa (f.take (i + 1)) = Xqa (f.take i) * 2 + (f.getD i 0 - 48) := by
    rw [List.take_add_one, Xrb, Xcm f i hi, List.getElem?_eq_getElem hi]
    simp [Xqa]
   unfold Xgu
   simp only
   rw [syA, rqA, wkA (e := (a.length : Int) + i), Xa2 (by rw [strOfNums_size]; omega), hbt, w8 (by omega) (by omega), wkA (e := f.getD i 0 - 48), show (2 : Int) ^ min (1 : Int).toNat (IntKind.bits .i64) = 2 from rfl, wkA (e := Xqa (f.take i) * 2), Zcx _ _ (by omega) (by omega) (by omega), wkA, hv]
   rfl
 have := key 0 (by omega)
 rw [List.take_zero] at this
 refine (Xgb this).trans ?_
 rw [wkA]
 rfl
theorem Ywb (m : Nat) (h : m ≠ 0) : ∃ r, Ypn m = 49 :: r := by
 induction m using Nat.strongRecOn with
 | _ m ih =>
  rw [Ypn, dif_neg h]
  by_cases h1 : m / 2 = 0
  ·
   have : m = 1 := by omega
   subst this
   rw [Ypn, dif_pos h1]
   exact ⟨[], rfl⟩
  ·
   obtain ⟨r, e⟩ := ih (m / 2) (by omega) h1
   rw [e]
   exact ⟨r ++ [48 + ((m % 2 : Nat) : Int)], rfl⟩
theorem Zcb (m : Nat) : Xqa (Ypn m) = m := by
 induction m using Nat.strongRecOn with
 | _ m ih =>
  rw [Ypn]
  by_cases h : m = 0
  ·
   rw [dif_pos h, h]; rfl
  ·
   rw [dif_neg h, Xrb, ih (m / 2) (by omega)]
   simp [Xqa]
   omega
theorem Xiu {L a b : List Int} {n : Nat} (hL : L = a ++ (ueL n ++ b)) (hb : Xov L) (hl : L.length ≤ 400000) (hn : n ≤ 1000000) : Xbu ⟨strOfNums L, (a.length : Int), false⟩ = some ((n : Int), ⟨strOfNums L, ((a.length + (ueL n).length : Nat) : Int), false⟩) := by
 have hLl : L.length = a.length + ((ueL n).length + b.length) := by rw [hL]; simp only [List.length_append]
 have f1 := Ynp (m := n + 1) (j := 20) (by omega)
 have f2 := Ygk (m := n + 1) (by omega)
 have ul : (ueL n).length = Xt9 (n + 1) - 1 + Xt9 (n + 1) := by unfold ueL; rw [List.length_append, List.length_replicate, Yni]
 obtain ⟨r, er⟩ := Ywb (n + 1) (by omega)
 have hc : ∀ i : Nat, i < (ueL n).length → L.getD (a.length + i) 0 = (ueL n).getD i 0 := fun i hi => by rw [hL, Yqd, Ywo _ _ _ hi]
 have key : ∀ i : Nat, i ≤ Xt9 (n + 1) - 1 → loop (Xh6 ⟨strOfNums L, (a.length : Int), false⟩) (i : Int) = some ((Xt9 (n + 1) - 1 : Nat) : Int) := by
  refine Xhe _ ?_ ?_
  ·
   refine Xfv ?_
   have hx : (ueL n).getD (Xt9 (n + 1) - 1) 0 = 49 := by
    have := Yqd (List.replicate (Xt9 (n + 1) - 1) 48) (Ypn (n + 1)) 0
    rw [List.length_replicate] at this
    unfold ueL
    exact this.trans (by rw [er]; rfl)
   unfold Xh6
   simp only
   rw [Xao, wkA, strOfNums_size, syA, rqA, show (a.length : Int) + ((Xt9 (n + 1) - 1 : Nat) : Int) = ((a.length + (Xt9 (n + 1) - 1) : Nat) : Int) by omega, Xwn L (Xfj hb) _ (by omega), hc _ (by omega), hx, Xab]
   rfl
  ·
   intro i hi ih
   refine lgo ?_ ih
   have hx : (ueL n).getD i 0 = 48 := by
    unfold ueL
    rw [Ywo _ _ _ (by rw [List.length_replicate]; exact hi), Xcm _ i (by rw [List.length_replicate]; exact hi), List.getElem_replicate]
   unfold Xh6
   simp only
   rw [Xao, wkA (e := (a.length : Int) + i), strOfNums_size, syA, rqA, show (a.length : Int) + (i : Int) = ((a.length + i : Nat) : Int) by omega, Xwn L (Xfj hb) _ (by omega), hc _ (by omega), hx, Xab, wkA]
   rfl
 have hf := Xj9 hL hb hl (by omega)
 have hv : Xqa (ueL n) = (n : Int) + 1 := by unfold ueL; rw [Xrb, Ypi, Zcb, Int.zero_mul, Int.zero_add]; omega
 unfold Xbu
 refine (Xgb (key 0 (by omega))).trans ?_
 simp only
 rw [snA, Xab, wkA (e := 2 * ((Xt9 (n + 1) - 1 : Nat) : Int)), wkA (e := 2 * ((Xt9 (n + 1) - 1 : Nat) : Int) + 1), show 2 * ((Xt9 (n + 1) - 1 : Nat) : Int) + 1 = ((ueL n).length : Int) by omega, hf, Xab]
 simp only
 rw [Xao, hv, wkA, Xab, snA, show (n : Int) + 1 - 1 = n by omega]
theorem Xvx {L a b : List Int} {n : Int} (hL : L = a ++ (seL n ++ b)) (hb : Xov L) (hl : L.length ≤ 400000) (hn : -500000 ≤ n ∧ n ≤ 500000) : Xd4 ⟨strOfNums L, (a.length : Int), false⟩ = some (n, ⟨strOfNums L, ((a.length + (seL n).length : Nat) : Int), false⟩) := by
 have hf := Xvl n hn
 unfold Xd4
 rw [Xiu hL hb hl hf, Xab]
 have ho : Xpp ((Yhd n : Nat) : Int) = some (n, true) := by
  unfold Xpp
  rw [Xaj, Xab, decide_eq_true (by omega), Bool.not_true, Xao, rqA, Xbr (by omega)]
  unfold Yhd
  split
  ·
   rw [Xbw (by rw [beq_iff_eq]; omega), rqA, wkA (e := (((2 * n - 1).toNat : Nat) : Int) + 1), Xbg (by omega), wkA]
   congr 2; omega
  ·
   rw [Xbi (by rw [beq_eq_false_iff_ne]; omega), rqA, wkA (e := 0 - _)]
   have : (0 - (((-2 * n).toNat : Nat) : Int)).tdiv 2 = n := by
    rw [show (0 - (((-2 * n).toNat : Nat) : Int)) = n * 2 by omega]
    exact Int.mul_tdiv_cancel n (by omega)
   rw [this, wkA]
 simp only
 rw [ho, Xab]
 rfl
theorem Zbh (l : List Int) (hl : l.length ≤ 64) : nz l ≤ 64 := by have := Yxf l; omega
theorem Yd8 {L a b l : List Int} (hL : L = a ++ (Xi6 l ++ b)) (hb : Xov L) (hl : L.length ≤ 400000) (hall : l.all Ypp = true) (h64 : l.length ≤ 64) : Xg8 ⟨strOfNums L, (a.length : Int), false⟩ (l.length : Int) = some (l, ⟨strOfNums L, ((a.length + (Xi6 l).length : Nat) : Int), false⟩) := by
 have key : ∀ (r pre : List Int) (g : Nat) (a' b' : List Int), l = pre ++ r → g ≤ pre.length → L = a' ++ (Xo7 g r ++ b') → loop (Xfr (l.length : Int)) (((pre.length - g : Nat) : Int), (nz r : Int), strOfNums L, (a'.length : Int), false, pre ++ List.replicate r.length 0) = some (l, strOfNums L, ((a'.length + (Xo7 g r).length : Nat) : Int), false) := by
  intro r
  induction r with
  | nil =>
   intro pre g a' b' h1 h2 h3
   refine Xfv ?_
   unfold Xfr
   simp only
   rw [Xar (by rw [nz]; omega), Xab, Xao, h1]
   simp only [Xo7, List.length_nil, List.replicate_zero, Nat.add_zero]
  | cons x r ih =>
   intro pre g a' b' h1 h2 h3
   have hlen : l.length = pre.length + (r.length + 1) := by rw [h1]; simp
   have hx : -5000 ≤ x ∧ x ≤ 5000 := Yop.1 (List.all_eq_true.1 hall x (by rw [h1]; simp))
   by_cases e : x = 0
   ·
    rw [Xo7, if_pos e] at h3
    have := ih (pre ++ [x]) (g + 1) a' b' (by rw [h1]; simp) (by simp; omega) h3
    rw [nz, if_pos e, Xo7, if_pos e, ← this, List.length_append, List.length_singleton, show pre.length + 1 - (g + 1) = pre.length - g by omega, List.append_assoc, List.length_cons, List.replicate_succ, e]
    rfl
   ·
    rw [Xo7, if_neg e] at h3
    have u1 := Xfh g (by omega)
    have u2 := Xs5 x (by omega)
    have u3 := Yxf r
    have e1 := Xiu (L := L) (a := a') (b := seL x ++ Xo7 0 r ++ b') (n := g) (by rw [h3]; simp only [List.append_assoc]) hb hl (by omega)
    have e2 := Xvx (L := L) (a := a' ++ ueL g) (b := Xo7 0 r ++ b') (n := x) (by rw [h3]; simp only [List.append_assoc]) hb hl (by omega)
    have := ih (pre ++ [x]) 0 (a' ++ ueL g ++ seL x) b' (by rw [h1]; simp) (by simp) (by rw [h3]; simp only [List.append_assoc])
    rw [List.length_append] at e2
    simp only [List.length_append, List.length_singleton] at this
    rw [nz, if_neg e, Xo7, if_neg e]
    refine lgo ?_ (this.trans ?_)
    ·
     unfold Xfr
     simp only
     rw [syA, Bool.not_false, Xab, Xau, e1, Xab]
     simp only
     rw [e2, Xab]
     simp only
     have hp : ((pre.length - g : Nat) : Int) + (g : Int) = (pre.length : Int) := by omega
     rw [hp, wkA (e := (pre.length : Int)), snA, Xbi (by rw [beq_eq_false_iff_ne]; exact e), Xaj, Xab, decide_eq_true (by omega), Bool.not_true, Xab, Xao, Int.toNat_natCast, Xa2 (by simp only [List.length_append, List.length_replicate, List.length_cons]; omega), Xa2 (by simp only [List.length_append, List.length_replicate, List.length_cons]; omega), wkA, wkA, List.length_cons, List.replicate_succ, Ysw]
     rw [show ((nz r + 1 : Nat) : Int) - 1 = (nz r : Int) by omega, show pre ++ [x] ++ List.replicate r.length 0 = pre ++ x :: List.replicate r.length 0 by simp, show ((pre.length + 1 - 0 : Nat) : Int) = (pre.length : Int) + 1 by omega]
    ·
     simp only [List.length_append]
     rw [show a'.length + (ueL g).length + (seL x).length + (Xo7 0 r).length = a'.length + ((ueL g).length + (seL x).length + (Xo7 0 r).length) by omega]
 have hz := Zbh l h64
 have e0 := Xiu (L := L) (a := a) (b := Xo7 0 l ++ b) (n := nz l) (by rw [hL]; unfold Xi6; simp only [List.append_assoc]) hb hl (by omega)
 have := key l [] 0 (a ++ ueL (nz l)) b rfl (by simp) (by rw [hL]; unfold Xi6; simp only [List.append_assoc])
 unfold Xg8
 rw [rqA, e0, Xab]
 simp only
 rw [List.length_append] at this
 simp only [List.nil_append, List.length_nil] at this
 rw [Int.toNat_natCast]
 refine (Xgb this).trans ?_
 simp only
 unfold Xi6
 rw [List.length_append, Nat.add_assoc]
theorem Xxb {L a b l : List Int} {c : Xer} (hL : L = a ++ (Ypo l c ++ b)) (hb : Xov L) (hl : L.length ≤ 400000) (h : Ygr l = true) : Xcz ⟨strOfNums L, (a.length : Int), false⟩ c = some (l, ⟨strOfNums L, ((a.length + (Ypo l c).length : Nat) : Int), false⟩) := by
 have hm : maxLen = 9223372036854775807 := rfl
 obtain ⟨h1, h2⟩ := Xpi h
 unfold Xcz
 rw [Yd9, Xab]
 unfold Ypo at hL ⊢
 by_cases e : (c.Large || c.Exact) = true
 ·
  rw [if_pos e] at hL
  rw [Xbw e, if_pos e]
  have := Yd8 hL hb hl h2 (by omega)
  rw [h1] at this
  exact (Xgb this).trans rfl
 ·
  rw [if_neg e] at hL
  rw [Xbi (by simpa using e), if_neg e]
  have step : ∀ (n : Nat) (s q : List Int) (a' b' : List Int), n < 4 → q.length = 16 → q.all Ypp = true → s.length ≤ 64 → L = a' ++ (Xi6 q ++ b') → Xcj ((n : Int), strOfNums L, (a'.length : Int), false, s) = some (.go (((n + 1 : Nat) : Int), strOfNums L, (((a' ++ Xi6 q).length : Nat) : Int), false, s ++ q)) := by
   intro n s q a' b' hn hq hqa hs hLL
   have := Yd8 hLL hb hl hqa (by omega)
   rw [hq] at this
   unfold Xcj
   simp only
   rw [syA]
   refine (Xgb this).trans ?_
   simp only
   rw [rqA, wkA, List.length_append]
   rfl
  have q0 : (l.take 16).length = 16 := by rw [List.length_take]; omega
  have q1 : ((l.drop 16).take 16).length = 16 := by rw [List.length_take, List.length_drop]; omega
  have q2 : ((l.drop 32).take 16).length = 16 := by rw [List.length_take, List.length_drop]; omega
  have q3 : (l.drop 48).length = 16 := by rw [List.length_drop]; omega
  have hcat : l.take 16 ++ (l.drop 16).take 16 ++ (l.drop 32).take 16 ++ l.drop 48 = l := by
   have e1 : (l.drop 32).take 16 ++ l.drop 48 = l.drop 32 := by
    have := List.take_append_drop 16 (l.drop 32)
    rwa [List.drop_drop] at this
   have e2 : (l.drop 16).take 16 ++ l.drop 32 = l.drop 16 := by
    have := List.take_append_drop 16 (l.drop 16)
    rwa [List.drop_drop] at this
   rw [List.append_assoc, e1, List.append_assoc, e2, List.take_append_drop]
  have g0 := step 0 [] _ a (Xi6 ((l.drop 16).take 16) ++ Xi6 ((l.drop 32).take 16) ++ Xi6 (l.drop 48) ++ b) (by omega) q0 (Xk2 h2 _) (by simp) (by rw [hL]; simp only [List.append_assoc])
  have g1 := step 1 ([] ++ l.take 16) _ (a ++ Xi6 (l.take 16)) (Xi6 ((l.drop 32).take 16) ++ Xi6 (l.drop 48) ++ b) (by omega) q1 (Xk2 (Xk1 h2 _) _) (by simp only [List.length_append, List.length_nil]; omega) (by rw [hL]; simp only [List.append_assoc])
  have g2 := step 2 ([] ++ l.take 16 ++ (l.drop 16).take 16) _ (a ++ Xi6 (l.take 16) ++ Xi6 ((l.drop 16).take 16)) (Xi6 (l.drop 48) ++ b) (by omega) q2 (Xk2 (Xk1 h2 _) _) (by simp only [List.length_append, List.length_nil]; omega) (by rw [hL]; simp only [List.append_assoc])
  have g3 := step 3 ([] ++ l.take 16 ++ (l.drop 16).take 16 ++ (l.drop 32).take 16) _ (a ++ Xi6 (l.take 16) ++ Xi6 ((l.drop 16).take 16) ++ Xi6 ((l.drop 32).take 16)) b (by omega) q3 (Xk1 h2 _) (by simp only [List.length_append, List.length_nil]; omega) (by rw [hL]; simp only [List.append_assoc])
  have l4 : ∀ s, Xcj (((4 : Nat) : Int), s) = some (.done (s.2.2.2, s.1, s.2.1, s.2.2.1)) := by intro s; unfold Xcj; simp only; rw [snA]
  have e : loop Xcj (((0 : Nat) : Int), strOfNums L, (a.length : Int), false, []) = _ := (Xcu g0).trans ((Xcu g1).trans ((Xcu g2).trans ((Xcu g3).trans (Xc3 (l4 _)))))
  refine (Xgb e).trans ?_
  simp only [List.nil_append, hcat]
  simp only [List.length_append, Nat.add_assoc]
theorem Yxx {s : Xam} (h : Xvc s = true) (h1 : s.Kind = 0) : s = ⟨0, 0, 0, 0, []⟩ := by
 unfold Xvc at h
 rw [if_pos h1, decide_eq_true_eq] at h
 obtain ⟨k, m, x, y, l⟩ := s
 simp only at h h1
 obtain ⟨a, b, c, d⟩ := h
 rw [h1, a, b, c, List.length_eq_zero_iff.1 d]
theorem Ylu {L a b : List Int} {s : Xam} {c : Xer} (hL : L = a ++ (sqL s c ++ b)) (hb : Xov L) (hl : L.length ≤ 400000) (h : Xvc s = true) (hlet : Xtf s c = true) : Xgv ⟨strOfNums L, (a.length : Int), false⟩ c = some (s, ⟨strOfNums L, ((a.length + (sqL s c).length : Nat) : Int), false⟩) := by
 have hk := Xvd h
 have hl6 : s.Levels.length ≤ 64 := by
  by_cases h0 : s.Kind = 0
  ·
   rw [Yxx h h0]; simp
  ·
   by_cases h1 : s.Kind = 1
   ·
    have := Xpi (Xv1 h h1).2.2; omega
   ·
    have := Xpi (Ybg h (by omega)).2; omega
 have hok := Xon s (by omega)
 rw [h] at hok
 unfold Xgv
 simp only
 obtain ⟨p, hp, hL2, e1⟩ : ∃ p : List Int, p = (if c.Key = true then [] else ueL s.Kind.toNat) ∧ L = (a ++ p) ++ ((if s.Kind = 1 then seL s.Dx ++ seL s.Dy ++ Ypo s.Levels c else if s.Kind = 2 then ueL s.Mode.toNat ++ Ypo s.Levels c else []) ++ b) ∧ (sel (!c.Key) (bnd (Xbu ⟨strOfNums L, (a.length : Int), false⟩) fun q2 => some (q2.2.row_, q2.2.at_, q2.2.bad_, q2.1)) (some (strOfNums L, (a.length : Int), false, 2))) = some (strOfNums L, (((a ++ p).length : Nat) : Int), false, s.Kind) := by
  refine ⟨_, rfl, by rw [hL]; unfold sqL; simp only [List.append_assoc], ?_⟩
  cases hK : c.Key with
  | true =>
   unfold Xtf at hlet
   rw [hK, Bool.not_true, Bool.false_or, beq_iff_eq] at hlet
   rw [Bool.not_true, Xao, if_pos rfl, List.append_nil, hlet]
  | false =>
   have := Xiu (L := L) (a := a) (n := s.Kind.toNat) (b := (if s.Kind = 1 then seL s.Dx ++ seL s.Dy ++ Ypo s.Levels c else if s.Kind = 2 then ueL s.Mode.toNat ++ Ypo s.Levels c else []) ++ b) (by rw [hL]; unfold sqL; rw [hK, if_neg (by decide)]; simp only [List.append_assoc]) hb hl (by omega)
   rw [Bool.not_false, Xau, this, Xab, if_neg (by decide), List.length_append]
   simp only
   rw [show ((s.Kind.toNat : Nat) : Int) = s.Kind by omega]
 rw [e1, Xab]
 simp only
 have e2 : (sel false (some (strOfNums L, (((a ++ p).length : Nat) : Int), false, (0 : Int), (0 : Int), (0 : Int), ([] : List Int))) (
   sel (s.Kind == 1) (
   bnd (Xd4 (⟨strOfNums L, (((a ++ p).length : Nat) : Int), false⟩ : Xnv)) fun q4 =>
   bnd (Xd4 q4.2) fun q5 =>
   bnd (Xcz q5.2 c) fun q6 =>
   some (q6.2.row_, q6.2.at_, q6.2.bad_, 0, q4.1, q5.1, q6.1)) (
   sel (s.Kind == 2) (
   bnd (Xbu (⟨strOfNums L, (((a ++ p).length : Nat) : Int), false⟩ : Xnv)) fun q7 =>
   bnd (Xcz q7.2 c) fun q8 =>
   some (q8.2.row_, q8.2.at_, q8.2.bad_, q7.1, 0, 0, q8.1)) (
   some (strOfNums L, (((a ++ p).length : Nat) : Int), false, 0, 0, 0, []))))) = some (strOfNums L, ((a.length + (sqL s c).length : Nat) : Int), false, s.Mode, s.Dx, s.Dy, s.Levels) := by
  rw [Xao]
  unfold sqL
  rw [← hp]
  by_cases h1 : s.Kind = 1
  ·
   obtain ⟨x1, x2, x3⟩ := Xv1 h h1
   have hm0 : s.Mode = 0 := by
    unfold Xvc at h
    rw [if_neg (by omega), if_pos h1] at h
    simp only [Bool.and_eq_true, decide_eq_true_eq] at h
    exact h.1
   rw [if_pos h1] at hL2
   have y1 := Xvx (L := L) (a := a ++ p) (b := seL s.Dy ++ Ypo s.Levels c ++ b) (n := s.Dx) (by rw [hL2]; simp only [List.append_assoc]) hb hl (by omega)
   have y2 := Xvx (L := L) (a := a ++ p ++ seL s.Dx) (b := Ypo s.Levels c ++ b) (n := s.Dy) (by rw [hL2]; simp only [List.append_assoc]) hb hl (by omega)
   have y3 := Xxb (L := L) (a := a ++ p ++ seL s.Dx ++ seL s.Dy) (b := b) (l := s.Levels) (c := c) (by rw [hL2]; simp only [List.append_assoc]) hb hl x3
   rw [List.length_append (as := a ++ p)] at y2
   rw [List.length_append (as := a ++ p ++ seL s.Dx), List.length_append (as := a ++ p)] at y3
   rw [Xbw (by rw [beq_iff_eq]; exact h1), y1, Xab]
   simp only
   rw [y2, Xab]
   simp only
   rw [y3, Xab, if_pos h1, hm0]
   simp only [List.length_append, Nat.add_assoc]
  ·
   rw [Xbi (by rw [beq_eq_false_iff_ne]; exact h1), if_neg h1]
   rw [if_neg h1] at hL2
   by_cases h2 : s.Kind = 2
   ·
    obtain ⟨x1, x3⟩ := Ybg h h2
    have hd0 : s.Dx = 0 ∧ s.Dy = 0 := by
     unfold Xvc at h
     rw [if_neg (by omega), if_neg (by omega), if_pos h2] at h
     simp only [Bool.and_eq_true, decide_eq_true_eq] at h
     exact ⟨h.2.1, h.2.2.1⟩
    rw [if_pos h2] at hL2
    have y1 := Xiu (L := L) (a := a ++ p) (b := Ypo s.Levels c ++ b) (n := s.Mode.toNat) (by rw [hL2]; simp only [List.append_assoc]) hb hl (by omega)
    have y3 := Xxb (L := L) (a := a ++ p ++ ueL s.Mode.toNat) (b := b) (l := s.Levels) (c := c) (by rw [hL2]; simp only [List.append_assoc]) hb hl x3
    rw [List.length_append (as := a ++ p)] at y3
    rw [Xbw (by rw [beq_iff_eq]; exact h2), y1, Xab]
    simp only
    rw [y3, Xab, if_pos h2, hd0.1, hd0.2, show ((s.Mode.toNat : Nat) : Int) = s.Mode by omega]
    simp only [List.length_append, Nat.add_assoc]
   ·
    have h0 := Yxx h (by omega)
    rw [Xbi (by rw [beq_eq_false_iff_ne]; exact h2), if_neg h2, List.append_nil, List.length_append]
    rw [h0]
 rw [e2, Xab]
 simp only
 rw [Xao, show (⟨s.Kind, s.Mode, s.Dx, s.Dy, s.Levels⟩ : Xam) = s from rfl, hok, Xab, Xab]
 rfl
theorem Xk0.back {src ref : Pic} {c : Xer} {r : Int} (H : Yus src ref c r) {n : Nat} {l : List Xam} {now : Pic} (h : Xk0 src ref c r n l now) : ∀ rest : List Xam, (l ++ rest).length ≤ 64 → loop (Xcf ⟨0, 0, src.Wide, src.High⟩ c (l ++ rest) (0, 0, ref.Wide, ref.High, ref.Dots)) (0, src.Wide, src.High, strOfNums (List.replicate (src.Wide * src.High).toNat 128)) = loop (Xcf ⟨0, 0, src.Wide, src.High⟩ c (l ++ rest) (0, 0, ref.Wide, ref.High, ref.Dots)) ((n : Int), now.Wide, now.High, now.Dots) := by
 induction h with
 | zero => intro rest _; rfl
 | succ h hn q d now' hi hs hq hd hp ih =>
  rename_i n0 l0 now0
  intro rest hlen
  rw [List.append_assoc] at hlen ⊢
  rw [ih ([q] ++ rest) hlen]
  obtain ⟨ok, w, hh, hl, hall⟩ := h.pic H
  have SF := Yo2 H hn ok w hh
  obtain ⟨q2, d2, e2, _, _, _, hd64⟩ := Xoy SF
  rw [hi] at e2
  injection e2 with e2
  injection e2 with e2 e3
  injection e3 with e3 _
  subst e2; subst e3
  have sw := Xbx H.hw
  have sh := Xbx H.hh
  obtain ⟨p1, p2, p3, p4, p5, p6, p7, p8, p9, p10⟩ := Ym6 H.hw H.hh n0 hn
  have hx : (l0 ++ ([q] ++ rest)).getD n0 Xme = q := by rw [← hl]; exact Xne l0 q _ rest
  have hn2 : (l0 ++ ([q] ++ rest)).length = n0 + 1 + rest.length := by simp only [List.length_append, List.length_singleton, hl]; omega
  refine Xcu ?_
  unfold Xcf
  simp only [Int.toNat_natCast, hx]
  rw [syA, rqA, rqA, Xbg (a := src.Wide) (by omega), wkA (e := src.Wide / 8), rqA, rqA, rqA, Xbr (a := (n0 : Int)) (by omega), Xbg (a := (n0 : Int)) (by omega), wkA (e := (n0 : Int) % (src.Wide / 8) * 8), wkA (e := (n0 : Int) / (src.Wide / 8)), wkA (e := (n0 : Int) / (src.Wide / 8) * 8), wkA (e := (n0 : Int) + 1), show (⟨now0.Wide, now0.High, now0.Dots⟩ : Pic) = now0 from rfl, show (⟨ref.Wide, ref.High, ref.Dots⟩ : Pic) = ref from rfl, show (⟨q.Kind, q.Mode, q.Dx, q.Dy, q.Levels⟩ : Xam) = q from rfl]
  have hd' : Xco now0 ref 0 0 c ((n0 : Int) % (src.Wide / 8) * 8) ((n0 : Int) / (src.Wide / 8) * 8) q = some (d, true) := hd
  have hp' : Xgn now0 ((n0 : Int) % (src.Wide / 8) * 8) ((n0 : Int) / (src.Wide / 8) * 8) d = some now' := hp
  rw [hd', Xab]
  simp only
  rw [Bool.not_true, Xao, Yrd hd64 (by have := Ytf ok; have hm : maxLen = 9223372036854775807 := rfl; omega), hp', Xab]
  rfl
theorem Yfd {src ref : Pic} {c : Xer} {r : Int} (H : Yus src ref c r) {l : List Xam} {now : Pic} (h : Xk0 src ref c r ((src.Wide / 8).toNat * (src.High / 8).toNat) l now) : Xgi ref ⟨0, 0, src.Wide, src.High⟩ c true l = some (now, true) := by
 obtain ⟨ok, w, hh, hl, hall⟩ := h.pic H
 obtain ⟨t1, t2, t3⟩ := Xv4 H.hw H.hh
 have sw := Xbx H.hw
 have sh := Xbx H.hh
 have hb := h.back H [] (by rw [List.append_nil]; omega)
 rw [List.append_nil] at hb
 have hend : loop (Xcf ⟨0, 0, src.Wide, src.High⟩ c l (0, 0, ref.Wide, ref.High, ref.Dots)) ((((src.Wide / 8).toNat * (src.High / 8).toNat : Nat) : Int), now.Wide, now.High, now.Dots) = some (.out (now.Wide, now.High, now.Dots)) := by
  refine Xfv ?_
  unfold Xcf
  rw [Xar (by simp only; omega)]
 unfold Xgi
 simp only
 rw [Xd3, Xab, H.hw, Xau, Xd3, Xab, H.hh, Xau, Xaj, Xab, decide_eq_true (by omega), Xau, Xab, Xau, Xdd, Xab, H.hc, Xau, rqA, rqA, Xbg (a := src.Wide) (by omega), Xbg (a := src.High) (by omega), wkA (e := src.Wide / 8), wkA (e := src.High / 8), wkA (e := src.Wide / 8 * (src.High / 8)), show (((l.length : Nat) : Int) != src.Wide / 8 * (src.High / 8)) = false by rw [bne_eq_false_iff_eq]; omega, Xab, Xao]
 have e1 : (sel c.Key (some false) (bnd (Xb2 ref) fun q8 => sel q8 (bnd (Xcc ref ⟨0, 0, src.Wide, src.High⟩) fun q9 => some (!q9)) (some true))) = some false ∧ (sel true (sel (!c.Key) (bnd (Xpc ref ⟨0, 0, src.Wide, src.High⟩) fun q11 => some ((0 : Int), (0 : Int), q11.1.Wide, q11.1.High, q11.1.Dots)) (some (0, 0, ref.Wide, ref.High, ref.Dots))) (some (0, 0, ref.Wide, ref.High, ref.Dots))) = some (0, 0, ref.Wide, ref.High, ref.Dots) := by
  cases hK : c.Key with
  | true => exact ⟨rfl, rfl⟩
  | false =>
   obtain ⟨a1, a2, a3⟩ := H.hk hK
   obtain ⟨b1, b2⟩ := Yp3 a1
   rw [a2, a3] at b1 b2
   refine ⟨?_, ?_⟩
   ·
    rw [Xao, Xb3, Xab, a1, Xau, Xss a1, Xab, b1]; rfl
   ·
    rw [Xau, Bool.not_false, Xau, Yns a1 b1, Xab, b2]
 rw [e1.1, Xab, Xao, e1.2, Xab, Xuh _ _ (by omega) (by omega), Xab]
 simp only
 rw [hb, hend, Xab]
def Zd4 (t : Nat → Int) : Nat → Int
 | 0 => 0
 | k + 1 => Zd4 t k + t k
def eT (f : Nat → Int) (u : Nat) : Int := Zd4 (fun k => Xjj (u : Int) (k : Int) * f k) 8
def eS (X : Nat → Nat → Int) (u v : Nat) : Int := eT (fun i => eT (X i) v) u
def Yuw (s : ByteArray) (i : Nat) : Int := 48 + (Xwm s ((i / 8 : Nat) : Int) / 2 ^ (7 - i % 8)) % 2
def Xtk (s : ByteArray) : List Int := (List.range (8 * s.size)).map (Yuw s)
theorem Yyw : ∀ b : Fin 256, Xvk 8 (b.val : Int) = (List.range 8).map fun k => 48 + ((b.val : Int) / 2 ^ (7 - k)) % 2 := by decide +kernel
theorem Zel (b : Int) (h : 0 ≤ b ∧ b ≤ 255) : Xvk 8 b = (List.range 8).map fun k => 48 + (b / 2 ^ (7 - k)) % 2 := by
 have := Yyw ⟨b.toNat, by omega⟩
 simp only at this
 rwa [show ((b.toNat : Nat) : Int) = b by omega] at this
theorem Xvh (s : ByteArray) : (Xtk s).length = 8 * s.size := by simp [Xtk]
theorem Ypy (s : ByteArray) {i : Nat} (h : i < 8 * s.size) : (Xtk s).getD i 0 = Yuw s i := Xhg _ h
theorem Yux : ∀ b : Fin 256, ∀ k : Fin 8, Xaa .u8 (48 + (IntKind.wrap .u8 (BitVec.ofInt (IntKind.bits .u8) ((b.val : Int) / 2 ^ min (k.val) (IntKind.bits .u8)) &&& BitVec.ofInt (IntKind.bits .u8) 1).toNat)) = 48 + ((b.val : Int) / 2 ^ k.val) % 2 := by decide +kernel
theorem Zck (b : Int) (h : 0 ≤ b ∧ b ≤ 255) (k : Nat) (hk : k < 8) : Xaa .u8 (48 + (IntKind.wrap .u8 (BitVec.ofInt (IntKind.bits .u8) (b / 2 ^ min k (IntKind.bits .u8)) &&& BitVec.ofInt (IntKind.bits .u8) 1).toNat)) = 48 + (b / 2 ^ k) % 2 := by
 have := Yux ⟨b.toNat, by omega⟩ ⟨k, hk⟩
 simp only at this
 rwa [show ((b.toNat : Nat) : Int) = b by omega] at this
theorem Xy4 (s : ByteArray) (hs : s.size ≤ 50001) : loop (Xet s) (0, []) = some (Xtk s) := by
 have hm : maxLen = 9223372036854775807 := rfl
 have := Ys7 (f := Xet s) (8 * s.size) (Yuw s) [] (by
  intro i hi
  have hb := Xy3 s ((i / 8 : Nat) : Int)
  unfold Xet
  simp only
  rw [wkA (e := 8 * (s.size : Int)), syA, rqA, Xbg (by omega), wkA (e := (i : Int) / 8), rqA, rqA, Xbr (by omega), wkA (e := 7 - (i : Int) % 8), rqA, show (7 - (i : Int) % 8).toNat = 7 - i % 8 by omega, show (i : Int) / 8 = ((i / 8 : Nat) : Int) by omega, Zck _ hb (7 - i % 8) (by omega), Xa2 (by simp only [List.length_append, List.length_nil, List.length_map, List.length_range, List.length_singleton]; omega), wkA (e := (i : Int) + 1)]
  rfl) (by unfold Xet; rw [wkA (e := 8 * (s.size : Int)), Xar (by simp)])
 rw [List.nil_append] at this
 exact this
theorem Yaw {L : List Int} (hb : Xov L) (hl : L.length ≤ 400000) (i : Nat) (hi : i ≤ L.length) : Xh5 (strOfNums L) (i : Int) = some ⟨strOfNums L, (i : Int), false⟩ := by
 unfold Xh5
 rw [Xzy L hb hl, Xab, Xau, Xaj, Xab, strOfNums_size, decide_eq_true (by omega), Xab]
 rfl
theorem Xkd (b : Int) (h : 3 ≤ b ∧ b ≤ 8) : 0 ≤ Xaa .u64 b ∧ Xaa .i64 (1 * 2 ^ min (Xaa .u64 b).toNat (IntKind.bits .i64)) = 2 ^ b.toNat ∧ Xaa .i64 (1 * 2 ^ min b.toNat (IntKind.bits .i64)) = 2 ^ b.toNat ∧ (2 : Int) ^ b.toNat ≤ 256 ∧ 8 ≤ (2 : Int) ^ b.toNat := by
 obtain h | h | h | h | h | h : b = 3 ∨ b = 4 ∨ b = 5 ∨ b = 6 ∨ b = 7 ∨ b = 8 := by omega
 all_goals (subst h; decide +kernel)
def Xzb (q : Seq) (p : Par) (h : Xve) : Bool := Xhl q && (Xi5 p && (decide (0 ≤ h.Tile ∧ h.Tile < Xce q) && (decide (0 ≤ h.Frame ∧ h.Frame < 2 ^ q.Bits.toNat) && decide (0 ≤ h.Qp ∧ h.Qp ≤ 40))))
theorem Xmc {q : Seq} (h : Xhl q = true) : 0 ≤ Xce q ∧ Xce q ≤ 1000000 := by
 obtain ⟨h1, h2, _⟩ := Xbb h
 unfold Xce
 rw [if_pos h]
 have a := Xbc h1
 have b := Xbc h2
 have : (q.Cols.length : Int) * q.Rows.length ≤ 4 * 4 := Int.mul_le_mul (by omega) (by omega) (by omega) (by omega)
 exact ⟨Int.mul_nonneg (by omega) (by omega), by omega⟩
theorem Xws (q : Seq) (p : Par) (h : Xve) (h1 : q.Cols.length ≤ maxLen) (h2 : q.Rows.length ≤ maxLen) : Xmh q p h = some (Xzb q p h) := by
 unfold Xmh Xzb
 rw [Xiq q h1 h2, Xab]
 cases hs : Xhl q with
 | false => rfl
 | true =>
  rw [Xau, Xde, Xab, Bool.true_and]
  cases hp : Xi5 p with
  | false => rfl
  | true =>
   obtain ⟨_, _, b1, b2⟩ := Xbb hs
   obtain ⟨s1, s2, s3, s4, s5⟩ := Xkd q.Bits ⟨b1, b2⟩
   have ht := Xmc hs
   rw [Xau, Xh2 q h1 h2, Xab, Xaj, Xab, wkA (e := Xce q - 1), Bool.true_and, rqA, s3, wkA (e := (2 : Int) ^ q.Bits.toNat - 1), Xaj, Xab, Xaj, Xab]
   have e1 : decide (0 ≤ h.Tile ∧ h.Tile ≤ Xce q - 1) = decide (0 ≤ h.Tile ∧ h.Tile < Xce q) := by rw [decide_eq_decide]; omega
   have e2 : decide (0 ≤ h.Frame ∧ h.Frame ≤ 2 ^ q.Bits.toNat - 1) = decide (0 ≤ h.Frame ∧ h.Frame < 2 ^ q.Bits.toNat) := by rw [decide_eq_decide]; omega
   rw [e1, e2, Xdi, Xdi, Xab]
theorem Yqt : ∀ (a : List Int) (x : Int), Xph (a ++ [x]) = Xph a + x
 | [], x => by simp [Xph]
 | y :: a, x => by rw [List.cons_append, Xph, Xph, Yqt a x, Int.add_assoc]
theorem Yqu {l : List Int} : ∀ k : Nat, k < l.length → Xph (l.take (k + 1)) = Xph (l.take k) + l.getD k 0 := by
 intro k hk
 rw [List.take_add_one, List.getElem?_eq_getElem hk, Xcm l k hk]
 exact Yqt _ _
theorem Xvg {l : List Int} (h : l.all Xep = true) {i : Nat} (hi : i < l.length) : 1 ≤ l.getD i 0 ∧ l.getD i 0 ≤ 8 := by
 have := List.all_eq_true.1 h (l.getD i 0) (by rw [Xcm l i hi]; exact List.getElem_mem _)
 unfold Xep at this
 rwa [decide_eq_true_eq] at this
theorem Xql {l : List Int} (h : l.all Xep = true) (hl : l.length ≤ 4) (i : Nat) : 0 ≤ Xph (l.take i) ∧ Xph (l.take i) ≤ 32 := by
 have := Xsx (l := l.take i) (List.all_eq_true.2 fun x hx => List.all_eq_true.1 h x (List.mem_of_mem_take hx))
 rw [List.length_take] at this
 omega
theorem Ypx {l : List Int} (h : l.all Xep = true) (hl : l.length ≤ 4) (k : Nat) (hk : k ≤ l.length) : Xq8 l (k : Int) = some (Xph (l.take k)) := by
 have key : ∀ i : Nat, i ≤ k → loop (Xiy l (k : Int)) (Xph (l.take i), (i : Int)) = some (Xph (l.take k)) := by
  refine Xhe _ (Xfv (by unfold Xiy; rw [Xar (by simp)])) ?_
  intro i hi ih
  refine lgo ?_ ih
  have a := Xvg h (i := i) (by omega)
  have b := Xql h hl i
  unfold Xiy
  simp only [Int.toNat_natCast]
  rw [syA, rqA, wkA (e := Xph (l.take i) + l.getD i 0), wkA (e := (i : Int) + 1), Yqu i (by omega)]
  rfl
 exact Xgb (key 0 (by omega))
theorem Yui {l : List Int} (h : l.all Xep = true) (hl : l.length ≤ 4) : Xcl l = some (Xph l) := by
 have key : ∀ i : Nat, i ≤ l.length → loop (Xdv l) (Xph (l.take i), (i : Int)) = some (Xph l) := by
  refine Xhe _ (Xfv (by unfold Xdv; rw [Xar (by simp), List.take_length])) ?_
  intro i hi ih
  refine lgo ?_ ih
  have a := Xvg h (i := i) (by omega)
  have b := Xql h hl i
  unfold Xdv
  simp only [Int.toNat_natCast]
  rw [syA, rqA, wkA (e := Xph (l.take i) + l.getD i 0), wkA (e := (i : Int) + 1), Yqu i (by omega)]
  rfl
 exact Xgb (key 0 (by omega))
def Yt1 (s : Seq) : Bool := (s.Level == 0) && ((s.Bits == 0) && (((s.Cols.length : Int) == 0) && ((s.Rows.length : Int) == 0)))
theorem Yix (s : Seq) : Xn2 s = some (Yt1 s) := by
 unfold Xn2 Yt1
 cases (s.Level == 0) with
 | false => rfl
 | true =>
  cases (s.Bits == 0) with
  | false => rfl
  | true => cases ((s.Cols.length : Int) == 0) <;> rfl
def Yxd (p : Par) : Bool := (p.Qp == 0) && ((p.Large == false) && ((p.Exact == false) && (p.Confined == false)))
theorem Ynn (s : Seq) (h1 : s.Cols.length ≤ 1048576) (h2 : s.Rows.length ≤ 1048576) : Yeb s = some s ∧ Xh4 s = some s := by
 have hm : maxLen = 9223372036854775807 := rfl
 constructor
 ·
  unfold Yeb
  rw [Xa2 (by simp only [List.length_nil]; omega), Xa2 (by simp only [List.length_nil]; omega)]
  rfl
 ·
  unfold Xh4 Xdu
  rw [Xa2 (by simp only [List.length_nil]; omega), Xa2 (by simp only [List.length_nil]; omega), Xab, Xab]
  rfl
theorem Ywn : ∀ n : Nat, ∀ c : List Int, c.length = n → Xov c → Xvk n (Xqa c) = c
 | 0, c, h, _ => by rw [List.length_eq_zero_iff.1 h]; rfl
 | n + 1, c, h, hb => by
  have hne : c ≠ [] := fun e => by rw [e] at h; simp at h
  have hc := (List.dropLast_concat_getLast hne).symm
  have hl : c.dropLast.length = n := by rw [List.length_dropLast]; omega
  have ih := Ywn n c.dropLast hl (fun x hx => hb x (List.dropLast_subset c hx))
  have hx := hb _ (List.getLast_mem hne)
  generalize c.getLast hne = x at hc hx
  have hv : Xqa c = Xqa c.dropLast * 2 + (x - 48) := by
   rw [hc, Xrb, ← hc]
   show Xqa c.dropLast * 2 ^ 1 + Xqa [x] = _
   rw [show Xqa [x] = x - 48 by simp [Xqa], show (2 : Int) ^ 1 = 2 from rfl]
  rw [Xvk, hv, show (Xqa c.dropLast * 2 + (x - 48)) / 2 = Xqa c.dropLast by omega, show (48 : Int) + (Xqa c.dropLast * 2 + (x - 48)) % 2 = x by omega, ih]
  exact hc.symm
theorem Yp2 : ∀ (m : Nat) (V : List Int) (q : Nat), q < m → (Xgq m V).getD q 0 = Xqa ((V.drop (8 * q)).take 8)
 | 0, _, _, h => by omega
 | m + 1, V, 0, _ => rfl
 | m + 1, V, q + 1, h => by
  rw [Xgq, List.getD_cons_succ, Yp2 m (V.drop 8) q (by omega), List.drop_drop, show 8 + 8 * q = 8 * (q + 1) by omega]
theorem Xxr : ∀ (m : Nat) (V : List Int), Xov V → Ykp (Xgq m V)
 | 0, _, _ => fun x hx => by simp [Xgq] at hx
 | m + 1, V, h => fun x hx => by
  rw [Xgq] at hx
  rcases List.mem_cons.1 hx with rfl | hx
  ·
   have r := Ybi (l := V.take 8) (fun x hx => h x (List.mem_of_mem_take hx))
   have h8 : (V.take 8).length ≤ 8 := by rw [List.length_take]; omega
   have hp : (2 : Int) ^ (V.take 8).length ≤ 2 ^ 8 := by
    have : ∀ k : Fin 9, (2 : Int) ^ k.val ≤ 2 ^ 8 := by decide
    exact this ⟨(V.take 8).length, by omega⟩
   have e8 : (2 : Int) ^ 8 = 256 := rfl
   omega
  ·
   exact Xxr m (V.drop 8) (fun x hx => h x (List.mem_of_mem_drop hx)) x hx
theorem Za8 (V : List Int) (a n k : Nat) (h : k < n) : ((V.drop a).take n).getD k 0 = V.getD (a + k) 0 := by
 rw [List.getD_eq_getElem?_getD, List.getD_eq_getElem?_getD, List.getElem?_take_of_lt h, List.getElem?_drop]
theorem Yyn (V : List Int) (hb : Xov V) (m : Nat) (hV : V.length = 8 * m) (i : Nat) (hi : i < 8 * m) : Yuw (strOfNums (Xgq m V)) i = V.getD i 0 := by
 have hc := Xxr m V hb
 unfold Yuw
 rw [Xwn _ hc (i / 8) (by rw [Xre]; omega), Yp2 m V (i / 8) (by omega)]
 have h8 : ((V.drop (8 * (i / 8))).take 8).length = 8 := by rw [List.length_take, List.length_drop]; omega
 have hcb : Xov ((V.drop (8 * (i / 8))).take 8) := fun x hx => hb x (List.mem_of_mem_drop (List.mem_of_mem_take hx))
 have hr := Ybi hcb
 rw [h8] at hr
 have e8 : (2 : Int) ^ 8 = 256 := rfl
 have f1 := Ywn 8 _ h8 hcb
 rw [Zel _ ⟨hr.1, by omega⟩] at f1
 have f2 : (_ : Int) = _ := congrArg (fun l => List.getD l (i % 8) 0) f1
 rw [Xhg _ (by omega), Za8 V _ _ _ (by omega), show 8 * (i / 8) + i % 8 = i by omega] at f2
 exact f2
theorem Zal (L : List Int) : ∃ z, L ++ 49 :: List.replicate (8 * (L.length / 8 + 1) - L.length - 1) 48 = L ++ 49 :: List.replicate z 48 ∧ z ≤ 7 ∧ L.length + 1 + z = 8 * (L.length / 8 + 1) := ⟨_, rfl, by omega, by omega⟩
theorem Ywc (L : List Int) (hb : Xov L) : ∃ z, Xtk (strOfNums (Xs1 L)) = L ++ 49 :: List.replicate z 48 ∧ L.length + 1 + z = 8 * (L.length / 8 + 1) := by
 obtain ⟨z, h1, h2, h3⟩ := Zal L
 refine ⟨z, ?_, h3⟩
 have hV : Xov (L ++ 49 :: List.replicate z 48) := Xa5 hb (fun x hx => by
  rcases List.mem_cons.1 hx with rfl | hx
  ·
   exact .inr rfl
  ·
   exact Ynj z x hx)
 have hl : (L ++ 49 :: List.replicate z 48).length = 8 * (L.length / 8 + 1) := by
  rw [List.length_append, List.length_cons, List.length_replicate]; omega
 refine List.ext_getElem (by rw [Xvh, strOfNums_size, Xs2, hl]) fun i i1 i2 => ?_
 rw [Xvh, strOfNums_size, Xs2] at i1
 have e1 : (Xtk (strOfNums (Xs1 L)))[i] = (Xtk (strOfNums (Xs1 L))).getD i 0 := (Xcm _ _ (by rw [Xvh, strOfNums_size, Xs2]; exact i1) 0).symm
 have e2 : (L ++ 49 :: List.replicate z 48)[i] = (L ++ 49 :: List.replicate z 48).getD i 0 := (Xcm _ _ i2 0).symm
 rw [e1, e2, Ypy _ (by rw [strOfNums_size, Xs2]; exact i1)]
 unfold Xs1
 rw [h1]
 exact Yyn _ hV _ hl i i1
theorem Yyp : ∀ b : Fin 256, ∀ k : Fin 8, 48 + ((b.val : Int) / 2 ^ (7 - k.val)) % 2 = 49 → b.val ≠ 0 := by decide +kernel
theorem Ym9 (L : List Int) (hb : Xov L) (hl : L.length ≤ 400000) : Xk5 (strOfNums (Xs1 L)) = some (strOfNums L, true) := by
 obtain ⟨z, h1, h3⟩ := Ywc L hb
 have hs : (strOfNums (Xs1 L)).size = L.length / 8 + 1 := by rw [strOfNums_size, Xs2]
 generalize hS : strOfNums (Xs1 L) = s at h1 hs
 have k2 : (Xtk s).getD L.length 0 = 49 := by
  rw [h1]
  have := Yqd L (49 :: List.replicate z 48) 0
  rw [Nat.add_zero] at this
  rw [this]; rfl
 have k3 : ∀ j, L.length + 1 ≤ j → j < 8 * s.size → (Xtk s).getD j 0 = 48 := fun j j1 j2 => by
  rw [h1]
  have := Yqd L (49 :: List.replicate z 48) (j - L.length)
  rw [show L.length + (j - L.length) = j by omega] at this
  rw [this, show j - L.length = (j - L.length - 1) + 1 by omega, List.getD_cons_succ, Xcm _ _ (by rw [List.length_replicate]; omega) 0, List.getElem_replicate]
 have hb0 := Xy3 s ((s.size : Int) - 1)
 have hz : (Xwm s ((s.size : Int) - 1) == 0) = false := by
  rw [beq_eq_false_iff_ne]
  intro h0
  have hk := k2
  rw [Ypy s (by omega)] at hk
  unfold Yuw at hk
  rw [show L.length / 8 = s.size - 1 by omega, show (((s.size - 1 : Nat)) : Int) = (s.size : Int) - 1 by omega, h0] at hk
  exact Yyp ⟨0, by omega⟩ ⟨L.length % 8, by omega⟩ hk rfl
 unfold Xk5
 rw [wkA (e := 8 * (s.size : Int)), Xbi (b := (8 * (s.size : Int)) == 0) (by rw [beq_eq_false_iff_ne]; omega), wkA (e := (s.size : Int) - 1), Xa2 (show 0 ≤ (s.size : Int) - 1 ∧ (s.size : Int) - 1 < s.size by omega), hz, Xao, decide_eq_false (by omega), Xab, Xao, Xa2 (show 0 ≤ (0 : Int) ∧ (0 : Int) ≤ 8 * (s.size : Int) ∧ 8 * (s.size : Int) * 1 ≤ 281474976710656 by omega), show (List.replicate (0 : Int).toNat (0 : Int)) = [] from rfl, Xy4 s (by omega), Xab]
 have hbl := Xvh s
 have lI : loop (Xeu (Xtk s)) (8 * (s.size : Int)) = some ((L.length + 1 : Nat) : Int) := by
  have key : ∀ m : Nat, L.length + 1 + m ≤ 8 * s.size → loop (Xeu (Xtk s)) ((L.length + 1 + m : Nat) : Int) = some ((L.length + 1 : Nat) : Int) := by
   intro m
   induction m with
   | zero =>
    intro _
    refine Xfv ?_
    unfold Xeu
    rw [wkA, rqA, rqA, show (((L.length + 1 + 0 : Nat) : Int) - 1).toNat = L.length by omega, k2]
    rfl
   | succ m ih =>
    intro hm
    refine lgo ?_ (ih (by omega))
    unfold Xeu
    rw [wkA, rqA, rqA, show (((L.length + 1 + (m + 1) : Nat) : Int) - 1).toNat = L.length + 1 + m by omega, k3 _ (by omega) (by omega), show ((L.length + 1 + (m + 1) : Nat) : Int) - 1 = ((L.length + 1 + m : Nat) : Int) by omega]
    rfl
  have := key (8 * s.size - (L.length + 1)) (by omega)
  rwa [show ((L.length + 1 + (8 * s.size - (L.length + 1)) : Nat) : Int) = 8 * (s.size : Int) by omega] at this
 rw [lI, Xab, wkA (e := ((L.length + 1 : Nat) : Int) - 1), show ((L.length + 1 : Nat) : Int) - 1 = (L.length : Int) by omega, snA, rqA, rqA]
 have ht : (Xtk s).take L.length = L := by rw [h1, List.take_left]
 simp only [Int.toNat_natCast, Int.toNat_zero, Nat.sub_zero, List.drop_zero]
 rw [ht]
theorem Yx6 {k : Int} (hk : Yd1 k = true) (L : List Int) (hb : Xov L) : Ykp (k :: Xs1 L) := fun x hx => by
 have hi := Yi9 hk
 rcases List.mem_cons.1 hx with rfl | hx
 ·
  omega
 ·
  obtain ⟨z, h1, _, h3⟩ := Zal L
  unfold Xs1 at hx
  rw [h1] at hx
  exact Xxr _ _ (Xa5 hb (fun y hy => by
   rcases List.mem_cons.1 hy with rfl | hy
   ·
    exact .inr rfl
   ·
    exact Ynj z y hy)) x hx
theorem Xqd {k : Int} (hk : Yd1 k = true) (L : List Int) (hb : Xov L) (hl : L.length ≤ 400000) : Xmq (strOfNums (k :: Xs1 L)) = some (k, strOfNums L, true) := by
 have hby := Yx6 hk L hb
 have hsz : (strOfNums (k :: Xs1 L)).size = L.length / 8 + 2 := by rw [strOfNums_size, List.length_cons, Xs2]
 have hne : ((strOfNums (k :: Xs1 L)).toList == (⟨#[]⟩ : ByteArray).toList) = false := by
  rw [beq_eq_false_iff_ne]
  intro h
  rw [Yvy.1 h] at hsz
  have : (⟨#[]⟩ : ByteArray).size = 0 := rfl
  omega
 have b0 : Xwm (strOfNums (k :: Xs1 L)) 0 = k := Xwn _ hby 0 (by simp)
 have hi := Yi9 hk
 have hx : (strOfNums (k :: Xs1 L)).extract (1 : Int).toNat (((strOfNums (k :: Xs1 L)).size : Int)).toNat = strOfNums (Xs1 L) := by
  rw [show k :: Xs1 L = [k] ++ Xs1 L from rfl, ← Xdm]
  have h1 : (strOfNums [k]).size = 1 := by rw [strOfNums_size]; rfl
  rw [ByteArray.size_append, h1]
  have : (1 : Int).toNat = (strOfNums [k]).size := by rw [h1]; rfl
  rw [this, show (((1 + (strOfNums (Xs1 L)).size : Nat)) : Int).toNat = (strOfNums [k]).size + (strOfNums (Xs1 L)).size by rw [h1]; omega]
  exact ByteArray.extract_append_eq_right rfl rfl
 have hiw : Xaa .i64 k = k := wkA
 have r0 : ∀ {β : Type} (x : Option β), req (0 ≤ (0 : Int) ∧ (0 : Int) < ((strOfNums (k :: Xs1 L)).size : Int)) x = x := fun x => rqA
 have r1 : ∀ {β : Type} (x : Option β), req (0 ≤ (1 : Int) ∧ (1 : Int) ≤ ((strOfNums (k :: Xs1 L)).size : Int) ∧ ((strOfNums (k :: Xs1 L)).size : Int) ≤ ((strOfNums (k :: Xs1 L)).size : Int)) x = x := fun x => rqA
 unfold Xmq
 rw [hne, Xao]
 simp only [r0, r1, b0, hiw, Xw5, hk, Xab, Bool.not_true, Xao, hx, Ym9 L hb hl]
theorem Yph : ∀ (w : Nat) (n : Int), 0 ≤ n → n < 2 ^ w → Xqa (Xvk w n) = n
 | 0, n, h0, h1 => by
  have : (2 : Int) ^ 0 = 1 := rfl
  rw [show n = 0 by omega]; rfl
 | w + 1, n, h0, h1 => by
  rw [Int.pow_succ] at h1
  rw [Xvk, Xrb, Yph w (n / 2) (by omega) (by omega)]
  show n / 2 * 2 ^ 1 + Xqa [48 + n % 2] = n
  rw [show Xqa [48 + n % 2] = n % 2 from (by simp only [Xqa, List.foldl_cons, List.foldl_nil]; omega), show (2 : Int) ^ 1 = 2 from rfl]
  omega
theorem Ytt {L : List Int} (hb : Xov L) (hl : L.length ≤ 400000) (q1 : Int × Xnv) (l : List Int) (ha : l.all Xep = true) (h4 : l.length ≤ 4) (hq : q1.1 = (l.length : Int)) (b : List Int) : ∀ (r pre a : List Int), l = pre ++ r → L = a ++ (Yul r ++ b) → loop (Xfq q1) ((pre.length : Int), strOfNums L, (a.length : Int), false, pre) = some (l, strOfNums L, ((a.length + (Yul r).length : Nat) : Int), false)
 | [], pre, a, h1, h2 => by
  refine Xfv ?_
  rw [List.append_nil] at h1
  unfold Xfq
  simp only
  rw [hq, h1, snA, Xab, Xao]
  rfl
 | x :: r, pre, a, h1, h2 => by
  have hm : maxLen = 9223372036854775807 := rfl
  have hlen : l.length = pre.length + (r.length + 1) := by rw [h1]; simp
  have hx : Xep x = true := List.all_eq_true.1 ha x (by rw [h1]; simp)
  have hx : 1 ≤ x ∧ x ≤ 8 := by simpa [Xep] using hx
  rw [Yul, List.append_assoc] at h2
  have e := Xiu h2 hb hl (by omega)
  have ih := Ytt hb hl q1 l ha h4 hq b r (pre ++ [x]) (a ++ ueL x.toNat) (by rw [h1]; simp) (by rw [h2]; simp only [List.append_assoc])
  refine lgo ?_ (ih.trans ?_)
  ·
   unfold Xfq
   simp only
   rw [hq, syA, Bool.not_false, Xab, Xau, e, Xab]
   simp only
   rw [Xa2 (by simp only [List.length_singleton]; omega), wkA, List.length_append, List.length_append, List.length_singleton, show ((x.toNat : Nat) : Int) = x by omega]
   rfl
  ·
   rw [Yul, List.length_append, List.length_append, Nat.add_assoc]
theorem Yd7 {L a b l : List Int} (hL : L = a ++ (Xr5 l ++ b)) (hb : Xov L) (hl : L.length ≤ 400000) (ho : Xeh l = true) : Xg7 ⟨strOfNums L, (a.length : Int), false⟩ = some (l, ⟨strOfNums L, ((a.length + (Xr5 l).length : Nat) : Int), false⟩) := by
 have h4 := Xbc ho
 unfold Xeh at ho
 rw [Bool.and_eq_true] at ho
 unfold Xr5 at hL ⊢
 rw [List.append_assoc] at hL
 have e := Xiu hL hb hl (by omega)
 unfold Xg7
 rw [e, Xab]
 simp only
 rw [snA, Xab]
 have := Ytt hb hl ((l.length : Int), ⟨strOfNums L, ((a.length + (ueL l.length).length : Nat) : Int), false⟩) l ho.2 h4.2 rfl b l [] (a ++ ueL l.length) rfl (by rw [hL]; simp only [List.append_assoc])
 rw [List.length_append] at this
 refine (Xgb this).trans ?_
 rw [List.length_append, Nat.add_assoc]
theorem Ym2 {s : Seq} (h : Xhl s = true) : (Xyn s).length ≤ 400000 := by have := Yuc h; omega
theorem Ynb {s : Seq} (h : Xhl s = true) : Xkj (strOfNums (Xyn s)) 0 = some (s, ((Xyn s).length : Int), true) := by
 have hm : maxLen = 9223372036854775807 := rfl
 have hb := Yo1 s
 have hl := Ym2 h
 obtain ⟨s1, s2, b1, b2⟩ := Xbb h
 have lv := Xyo h
 have c1 := Xbc s1
 have c2 := Xbc s2
 have p1 : Xyn s = [] ++ (ueL s.Level.toNat ++ (Xvk 4 s.Bits ++ Xr5 s.Cols ++ Xr5 s.Rows)) := by unfold Xyn; simp only [List.nil_append, List.append_assoc]
 have p2 : Xyn s = ueL s.Level.toNat ++ (Xvk 4 s.Bits ++ (Xr5 s.Cols ++ Xr5 s.Rows)) := by unfold Xyn; simp only [List.append_assoc]
 have p3 : Xyn s = (ueL s.Level.toNat ++ Xvk 4 s.Bits) ++ (Xr5 s.Cols ++ Xr5 s.Rows) := by unfold Xyn; simp only [List.append_assoc]
 have p4 : Xyn s = (ueL s.Level.toNat ++ Xvk 4 s.Bits ++ Xr5 s.Cols) ++ (Xr5 s.Rows ++ []) := by unfold Xyn; simp only [List.append_assoc, List.append_nil]
 have hlen : (Xyn s).length = (ueL s.Level.toNat).length + 4 + (Xr5 s.Cols).length + (Xr5 s.Rows).length := by unfold Xyn; simp only [List.length_append, Xc2]
 generalize Xyn s = L at *
 have e1 := Xiu p1 hb hl (by omega)
 have e2 := Xj9 p2 hb hl (by rw [Xc2]; omega)
 have e3 := Yd7 p3 hb hl s1
 have e4 := Yd7 p4 hb hl s2
 rw [Xc2, Yph 4 s.Bits (by omega) (by have : (2 : Int) ^ 4 = 16 := rfl; omega)] at e2
 rw [List.length_append, Xc2] at e3
 rw [List.length_append, List.length_append, Xc2] at e4
 rw [List.length_nil, Nat.zero_add] at e1
 have o := Yaw hb hl 0 (by omega)
 unfold Xkj
 rw [show (0 : Int) = ((0 : Nat) : Int) from rfl, o, Xab, e1, Xab]
 simp only
 rw [show (4 : Int) = ((4 : Nat) : Int) from rfl, e2, Xab]
 simp only
 rw [e3, Xab]
 simp only
 rw [e4, Xab]
 simp only
 rw [Xao, show ((s.Level.toNat : Nat) : Int) = s.Level by omega, show (⟨s.Level, s.Bits, s.Cols, s.Rows⟩ : Seq) = s from rfl, Xiq _ (by omega) (by omega), Xab, h, Xab, hlen]
 rfl
theorem Yzn (b : Bool) : Xqa (Xq6 b) = if b = true then 1 else 0 := by cases b <;> rfl
theorem Yna {p : Par} (h : Xi5 p = true) : Xki (strOfNums (Yd5 p)) 0 = some (p, 9, true) := by
 have hb := Yot p
 have hl9 := Ygu p
 have hl : (Yd5 p).length ≤ 400000 := by omega
 have hq := Yax h
 have p1 : Yd5 p = [] ++ (Xvk 6 p.Qp ++ (Xq6 p.Large ++ Xq6 p.Exact ++ Xq6 p.Confined)) := by unfold Yd5; simp only [List.nil_append, List.append_assoc]
 have p2 : Yd5 p = Xvk 6 p.Qp ++ (Xq6 p.Large ++ (Xq6 p.Exact ++ Xq6 p.Confined)) := by unfold Yd5; simp only [List.append_assoc]
 have p3 : Yd5 p = (Xvk 6 p.Qp ++ Xq6 p.Large) ++ (Xq6 p.Exact ++ Xq6 p.Confined) := by unfold Yd5; simp only [List.append_assoc]
 have p4 : Yd5 p = (Xvk 6 p.Qp ++ Xq6 p.Large ++ Xq6 p.Exact) ++ (Xq6 p.Confined ++ []) := by unfold Yd5; simp only [List.append_assoc, List.append_nil]
 generalize Yd5 p = L at *
 have e1 := Xj9 p1 hb hl (by rw [Xc2]; omega)
 have e2 := Xj9 p2 hb hl (by rw [Xn8]; omega)
 have e3 := Xj9 p3 hb hl (by rw [Xn8]; omega)
 have e4 := Xj9 p4 hb hl (by rw [Xn8]; omega)
 simp only [List.length_append, Xc2, Xn8, Yzn, List.length_nil] at e1 e2 e3 e4
 rw [Yph 6 p.Qp (by omega) (by have : (2 : Int) ^ 6 = 64 := rfl; omega)] at e1
 have o := Yaw hb hl 0 (by omega)
 unfold Xki
 rw [show (0 : Int) = ((0 : Nat) : Int) from rfl, o, Xab, show (6 : Int) = ((6 : Nat) : Int) from rfl, e1, Xab]
 simp only
 rw [show (1 : Int) = ((1 : Nat) : Int) from rfl, e2, Xab]
 simp only
 rw [e3, Xab]
 simp only
 rw [e4, Xab]
 simp only
 have hbit : ∀ b : Bool, ((if b = true then (1 : Int) else 0) == ((1 : Nat) : Int)) = b := fun b => by cases b <;> rfl
 rw [hbit, hbit, hbit, Xao, show (⟨p.Qp, p.Large, p.Exact, p.Confined⟩ : Par) = p from rfl, Xde, Xab, h, Xab]
 rfl
def Xv7 (q : Seq) (p : Par) (h : Xve) : List Int := ueL h.Tile.toNat ++ Xvk q.Bits.toNat h.Frame ++ seL (h.Qp - p.Qp)
theorem Ywt (q : Seq) (p : Par) (h : Xve) : Xov (Xv7 q p h) := Xa5 (Xa5 (Xgo _) (Ygl _ _)) (Xgo _)
theorem Xuc {q : Seq} {p : Par} {h : Xve} (hh : Xzb q p h = true) : Xhl q = true ∧ Xi5 p = true ∧ (0 ≤ h.Tile ∧ h.Tile < Xce q) ∧ (0 ≤ h.Frame ∧ h.Frame < 2 ^ q.Bits.toNat) ∧ (0 ≤ h.Qp ∧ h.Qp ≤ 40) := by
 unfold Xzb at hh
 simp only [Bool.and_eq_true, decide_eq_true_eq] at hh
 exact hh
theorem Ywu {q : Seq} {p : Par} {h : Xve} (hh : Xzb q p h = true) : (Xv7 q p h).length ≤ 200 := by
 obtain ⟨hs, hp, ht, hf, hq⟩ := Xuc hh
 obtain ⟨_, _, b1, b2⟩ := Xbb hs
 have hr := Xmc hs
 have pq := Yax hp
 have u := Xfh h.Tile.toNat (by omega)
 have z := Xs5 (h.Qp - p.Qp) (by omega)
 unfold Xv7
 simp only [List.length_append, Xc2]
 omega
theorem Ykm {q : Seq} {p : Par} {h : Xve} {L R : List Int} (hh : Xzb q p h = true) (hL : L = Xv7 q p h ++ R) (hb : Xov L) (hl : L.length ≤ 400000) : Xgf q p (strOfNums L) = some (h, ((Xv7 q p h).length : Int), true) := by
 have hm : maxLen = 9223372036854775807 := rfl
 obtain ⟨hs, hp, ht, hf, hq⟩ := Xuc hh
 obtain ⟨s1, s2, b1, b2⟩ := Xbb hs
 obtain ⟨_, _, _, w4, _⟩ := Xkd q.Bits ⟨b1, b2⟩
 have hr := Xmc hs
 have pq := Yax hp
 have c1 := Xbc s1
 have c2 := Xbc s2
 have p1 : L = [] ++ (ueL h.Tile.toNat ++ (Xvk q.Bits.toNat h.Frame ++ seL (h.Qp - p.Qp) ++ R)) := by rw [hL]; unfold Xv7; simp only [List.nil_append, List.append_assoc]
 have p2 : L = ueL h.Tile.toNat ++ (Xvk q.Bits.toNat h.Frame ++ (seL (h.Qp - p.Qp) ++ R)) := by rw [hL]; unfold Xv7; simp only [List.append_assoc]
 have p3 : L = (ueL h.Tile.toNat ++ Xvk q.Bits.toNat h.Frame) ++ (seL (h.Qp - p.Qp) ++ R) := by rw [hL]; unfold Xv7; simp only [List.append_assoc]
 have e1 := Xiu p1 hb hl (by omega)
 have e2 := Xj9 p2 hb hl (by rw [Xc2]; omega)
 have e3 := Xvx p3 hb hl (by omega)
 rw [Xc2, Yph _ h.Frame hf.1 hf.2] at e2
 rw [List.length_append, Xc2] at e3
 rw [List.length_nil, Nat.zero_add] at e1
 have hlen : (Xv7 q p h).length = (ueL h.Tile.toNat).length + q.Bits.toNat + (seL (h.Qp - p.Qp)).length := by unfold Xv7; simp only [List.length_append, Xc2]
 have o := Yaw hb hl 0 (by omega)
 unfold Xgf
 rw [show (0 : Int) = ((0 : Nat) : Int) from rfl, o, Xab, Xiq _ (by omega) (by omega), Xab, hs, Xau, Xde, Xab, hp, Xab, Bool.not_true, Xao, e1, Xab]
 simp only
 rw [show q.Bits = ((q.Bits.toNat : Nat) : Int) by omega, e2, Xab]
 simp only
 rw [e3, Xab]
 simp only
 rw [Xao, wkA, show h.Qp - p.Qp + p.Qp = h.Qp by omega, show ((h.Tile.toNat : Nat) : Int) = h.Tile by omega, show (⟨h.Tile, h.Frame, h.Qp⟩ : Xve) = h from rfl, Xws _ _ _ (by omega) (by omega), Xab, hh, Xab, hlen]
 rfl
theorem Ydl {l : List Xam} {c : Xer} {A L : List Int} (hs : Ymg l c = true) (hc : Xi1 c = true) (hl : 1 ≤ l.length ∧ l.length ≤ 64) (hL : L = A ++ Xg1 l c) (hb : Xov L) (hL4 : L.length ≤ 400000) : Xe3 (strOfNums L) (A.length : Int) (l.length : Int) c = some (l, true) := by
 have hm : maxLen = 9223372036854775807 := rfl
 have key : ∀ (r pre : List Xam) (a : List Int), l = pre ++ r → L = a ++ Xg1 r c → loop (Xgs (l.length : Int) c) ((pre.length : Int), strOfNums L, (a.length : Int), false, pre) = some (.out (strOfNums L, (L.length : Int), false, l)) := by
  intro r
  induction r with
  | nil =>
   intro pre a h1 h2
   refine Xfv ?_
   rw [List.append_nil] at h1
   rw [Xg1, List.append_nil] at h2
   unfold Xgs
   simp only
   rw [Xar (by rw [h1]; omega), h1, h2]
  | cons s r ih =>
   intro pre a h1 h2
   have hlen : l.length = pre.length + (r.length + 1) := by rw [h1]; simp
   have hmem : s ∈ l := by rw [h1]; simp
   have hq := List.all_eq_true.1 hs s hmem
   simp only [Bool.and_eq_true] at hq
   obtain ⟨q1, q2, q3⟩ := hq
   rw [Xg1] at h2
   have hsc := Ylu h2 hb hL4 q1 q3
   have := ih (pre ++ [s]) (a ++ sqL s c) (by rw [h1]; simp) (by rw [h2]; simp only [List.append_assoc])
   refine lgo ?_ this
   unfold Xgs
   simp only
   rw [syA, hsc, Xab]
   simp only
   rw [Xa2 (by simp only [List.length_singleton]; omega), Xao, wkA, List.length_append, List.length_append, List.length_singleton]
   rfl
 have := key l [] A rfl hL
 have hA : A.length ≤ L.length := by rw [hL, List.length_append]; omega
 unfold Xe3
 rw [Yaw hb hL4 A.length hA, Xab, Xaj, Xab, decide_eq_true (by omega), Xau, Xdd, Xab, hc, Xab, Bool.not_true, Xao]
 refine (Xgb this).trans ?_
 simp only
 rw [strOfNums_size, bne_self_eq_false, Xao]
abbrev Zct : Pic := ⟨0, 0, ⟨#[]⟩⟩
theorem Yt3 {b : Nat} (h : 8 ≤ (2 : Int) ^ b) : (2 : Int) ^ b ≠ 0 := by
 generalize (2 : Int) ^ b = N at h ⊢
 omega
theorem Zan {b : Nat} (h : 8 ≤ (2 : Int) ^ b) : 0 < (2 : Int) ^ b := by
 generalize (2 : Int) ^ b = N at h ⊢
 omega
theorem Xxv {b : Nat} {f : Int} (h : (2 : Int) ^ b ≤ 256) (h1 : f < 2 ^ b) : f ≤ 255 := by
 generalize (2 : Int) ^ b = N at h h1
 omega
theorem Xy8 {p : Pic} {s : Seq} (h : Xt1 p s = true) : Xcg p = true ∧ p.Wide = (Xka s).1 ∧ p.High = (Xka s).2 := by
 unfold Xt1 at h
 simp only [Bool.and_eq_true, beq_iff_eq] at h
 exact h
theorem Ywl {p : Pic} {s : Seq} (h1 : Xcg p = true) (h2 : p.Wide = (Xka s).1) (h3 : p.High = (Xka s).2) : Xt1 p s = true := by
 unfold Xt1
 simp only [Bool.and_eq_true, beq_iff_eq]
 exact ⟨h1, h2, h3⟩
theorem Zbt {s : Seq} (h : Xhl s = true) : Xka s = (8 * Xph s.Cols, 8 * Xph s.Rows) ∧ (1 ≤ Xph s.Cols ∧ Xph s.Cols ≤ 32) ∧ (1 ≤ Xph s.Rows ∧ Xph s.Rows ≤ 32) := by
 obtain ⟨s1, s2, _⟩ := Xbb h
 exact ⟨by unfold Xka; rw [if_pos h], Ycw s1, Ycw s2⟩
def Yrg (q : Seq) (x y : Nat) : Xyw := ⟨8 * Xph (q.Cols.take x), 8 * Xph (q.Rows.take y), 8 * q.Cols.getD x 0, 8 * q.Rows.getD y 0⟩
theorem Ydo {q : Seq} (hs : Xhl q = true) (h1 : q.Cols.length ≤ maxLen) (h2 : q.Rows.length ≤ maxLen) (t : Int) (ht : 0 ≤ t ∧ t < Xce q) : ∃ x y : Nat, (x : Int) = t % (q.Cols.length : Int) ∧ (y : Int) = t / (q.Cols.length : Int) ∧ x < q.Cols.length ∧ y < q.Rows.length ∧ Xlf q t = some (Yrg q x y, true) ∧ Xtd q t = some (Yrg q x y, true) ∧ (1 ≤ q.Cols.getD x 0 ∧ q.Cols.getD x 0 ≤ 8) ∧ (1 ≤ q.Rows.getD y 0 ∧ q.Rows.getD y 0 ≤ 8) := by
 have hr := Xmc hs
 have hto : Xce q = (q.Cols.length : Int) * q.Rows.length := by unfold Xce; rw [if_pos hs]
 obtain ⟨s1, s2, _⟩ := Xbb hs
 have c1 := Xbc s1
 have c2 := Xbc s2
 unfold Xeh at s1 s2
 rw [Bool.and_eq_true] at s1 s2
 have m0 := Int.emod_nonneg t (show (q.Cols.length : Int) ≠ 0 by omega)
 have m1 := Int.emod_lt_of_pos t (show 0 < (q.Cols.length : Int) by omega)
 have d0 : 0 ≤ t / (q.Cols.length : Int) := Int.ediv_nonneg ht.1 (by omega)
 have d1 : t / (q.Cols.length : Int) < q.Rows.length := Int.ediv_lt_of_lt_mul (by omega) (by rw [Int.mul_comm, ← hto]; exact ht.2)
 have ex : ∃ x y : Nat, (x : Int) = t % (q.Cols.length : Int) ∧ (y : Int) = t / (q.Cols.length : Int) := ⟨(t % (q.Cols.length : Int)).toNat, (t / (q.Cols.length : Int)).toNat, by omega, by omega⟩
 obtain ⟨x, y, hx, hy⟩ := ex
 have tm : t.tmod (q.Cols.length : Int) = (x : Int) := by rw [Xbr ht.1]; exact hx.symm
 have td : Xaa .i64 (t.tdiv (q.Cols.length : Int)) = (y : Int) := by rw [Xbg ht.1, ← hy, wkA]
 have bx := Xql s1.2 c1.2 x
 have by_ := Xql s2.2 c2.2 y
 have gx := Xvg s1.2 (i := x) (by omega)
 have gy := Xvg s2.2 (i := y) (by omega)
 refine ⟨x, y, hx, hy, by omega, by omega, ?_, ?_, gx, gy⟩
 ·
  unfold Xlf
  rw [Xh2 q h1 h2, Xab, wkA (e := Xce q - 1), Xaj, Xab, decide_eq_true (by omega), Bool.not_true, Xao, rqA, tm, td, rqA, rqA]
  simp only [Int.toNat_natCast]
  rw [show (0 : Int).toNat = 0 from rfl, List.drop_zero, List.drop_zero, Nat.sub_zero, Nat.sub_zero, Yui (List.all_eq_true.2 fun z hz => List.all_eq_true.1 s1.2 z (List.mem_of_mem_take hz)) (by rw [List.length_take]; omega), Xab, rqA, Yui (List.all_eq_true.2 fun z hz => List.all_eq_true.1 s2.2 z (List.mem_of_mem_take hz)) (by rw [List.length_take]; omega), Xab, rqA, rqA, wkA (e := 8 * Xph (q.Cols.take x)), wkA (e := 8 * Xph (q.Rows.take y)), wkA (e := 8 * q.Cols.getD x 0), wkA (e := 8 * q.Rows.getD y 0)]
  rfl
 ·
  unfold Xtd
  rw [snA, Xu3, Xab, decide_eq_false (by omega), Xab, Xao, rqA, tm, td, rqA, Ypx s1.2 c1.2 x (by omega), Xab, Ypx s2.2 c2.2 y (by omega), Xab, rqA, rqA]
  simp only [Int.toNat_natCast]
  rw [wkA (e := 8 * Xph (q.Cols.take x)), wkA (e := 8 * Xph (q.Rows.take y)), wkA (e := 8 * q.Cols.getD x 0), wkA (e := 8 * q.Rows.getD y 0)]
  rfl
theorem Xt5 {q : Seq} (hs : Xhl q = true) (h1 : q.Cols.length ≤ maxLen) (h2 : q.Rows.length ≤ maxLen) (t : Int) (ht : 0 ≤ t ∧ t < Xce q) : ∃ x y : Nat, (x : Int) = t % (q.Cols.length : Int) ∧ (y : Int) = t / (q.Cols.length : Int) ∧ x < q.Cols.length ∧ y < q.Rows.length ∧ Xgx q t = some (q.Cols.getD x 0 * q.Rows.getD y 0) ∧ (1 ≤ q.Cols.getD x 0 ∧ q.Cols.getD x 0 ≤ 8) ∧ (1 ≤ q.Rows.getD y 0 ∧ q.Rows.getD y 0 ≤ 8) := by
 obtain ⟨x, y, hx, hy, lx, ly, _, e, gx, gy⟩ := Ydo hs h1 h2 t ht
 have mb : q.Cols.getD x 0 * q.Rows.getD y 0 ≤ 8 * 8 := Int.mul_le_mul (by omega) (by omega) (by omega) (by omega)
 have m0 : 1 * 1 ≤ q.Cols.getD x 0 * q.Rows.getD y 0 := Int.mul_le_mul (by omega) (by omega) (by omega) (by omega)
 refine ⟨x, y, hx, hy, lx, ly, ?_, gx, gy⟩
 unfold Xgx
 rw [e, Xab]
 unfold Yrg
 simp only
 rw [rqA, rqA, Xbg (by omega), Xbg (by omega), show 8 * q.Cols.getD x 0 / 8 = q.Cols.getD x 0 by omega, show 8 * q.Rows.getD y 0 / 8 = q.Rows.getD y 0 by omega, wkA (e := q.Cols.getD x 0), wkA (e := q.Rows.getD y 0), wkA]
def Ypg (k : Int) (L : List Int) : ByteArray := strOfNums (k :: Xs1 L)
theorem Ykn {src ref : Pic} {c : Xer} {r : Int} (H : Yus src ref c r) {l : List Xam} {now : Pic} (h : Xk0 src ref c r ((src.Wide / 8).toNat * (src.High / 8).toNat) l now) (cf : Bool) : Xgi ref ⟨0, 0, src.Wide, src.High⟩ c cf l = some (now, true) := by
 obtain ⟨ok, w, hh, hl, hall⟩ := h.pic H
 obtain ⟨t1, t2, t3⟩ := Xv4 H.hw H.hh
 cases cf with
 | true => exact Yfd H h
 | false =>
  have sw := Xbx H.hw
  have sh := Xbx H.hh
  have hb := h.back H [] (by rw [List.append_nil]; omega)
  rw [List.append_nil] at hb
  have hend : loop (Xcf ⟨0, 0, src.Wide, src.High⟩ c l (0, 0, ref.Wide, ref.High, ref.Dots)) ((((src.Wide / 8).toNat * (src.High / 8).toNat : Nat) : Int), now.Wide, now.High, now.Dots) = some (.out (now.Wide, now.High, now.Dots)) := by
   refine Xfv ?_
   unfold Xcf
   rw [Xar (by simp only; omega)]
  unfold Xgi
  simp only
  rw [Xd3, Xab, H.hw, Xau, Xd3, Xab, H.hh, Xau, Xaj, Xab, decide_eq_true (by omega), Xau, Xab, Xau, Xdd, Xab, H.hc, Xau, rqA, rqA, Xbg (a := src.Wide) (by omega), Xbg (a := src.High) (by omega), wkA (e := src.Wide / 8), wkA (e := src.High / 8), wkA (e := src.Wide / 8 * (src.High / 8)), show (((l.length : Nat) : Int) != src.Wide / 8 * (src.High / 8)) = false by rw [bne_eq_false_iff_eq]; omega, Xab, Xao]
  have e1 : (sel c.Key (some false) (bnd (Xb2 ref) fun q8 => sel q8 (bnd (Xcc ref ⟨0, 0, src.Wide, src.High⟩) fun q9 => some (!q9)) (some true))) = some false := by
   cases hK : c.Key with
   | true => rfl
   | false =>
    obtain ⟨a1, a2, a3⟩ := H.hk hK
    obtain ⟨b1, b2⟩ := Yp3 a1
    rw [a2, a3] at b1 b2
    rw [Xao, Xb3, Xab, a1, Xau, Xss a1, Xab, b1]; rfl
  rw [e1, Xab, Xao, Xao, Xab, Xuh _ _ (by omega) (by omega), Xab]
  simp only
  rw [hb, hend, Xab]
theorem Yt4 (r : Rate) (key : Bool) : 0 ≤ Xs3 r key ∧ Xs3 r key ≤ 40 := by
 unfold Xs3
 split
 ·
  rename_i h
  have h' := (Xpk r).1 h
  split
  ·
   exact Xfk (by omega)
  ·
   omega
 ·
  omega
theorem Yhr {q : Seq} {p : Par} {h : Xve} (hh : Xzb q p h = true) (h1 : q.Cols.length ≤ maxLen) (h2 : q.Rows.length ≤ maxLen) : Xnz q p h = some (strOfNums (Xv7 q p h), true) := by
 obtain ⟨hs, hp, ht, hf, hq⟩ := Xuc hh
 obtain ⟨_, _, b1, b2⟩ := Xbb hs
 obtain ⟨_, _, _, w4, _⟩ := Xkd q.Bits ⟨b1, b2⟩
 have hr := Xmc hs
 have pq := Yax hp
 have hfs := Xxv w4 hf.2
 have hf0 := hf.1
 unfold Xnz
 have fl := Xc2 q.Bits.toNat h.Frame
 have u := Xfh h.Tile.toNat (by omega)
 have z := Xs5 (h.Qp - p.Qp) (by omega)
 rw [Xws _ _ _ h1 h2, Xab, hh, Bool.not_true, Xao, wkA (e := h.Qp - p.Qp), Xo1 _ (by omega), Xab, show h.Tile = ((h.Tile.toNat : Nat) : Int) by omega, Xfu _ (by omega), Xab, show q.Bits = ((q.Bits.toNat : Nat) : Int) by omega, Xo3 h.Frame _ hf0 (by omega) (by omega), Xab, Xa2 (by simp only [strOfNums_size]; omega), Xdm, Xa2 (by simp only [strOfNums_size, List.length_append]; omega), Xdm]
 rfl
theorem Zaz {b : Int} (h : 3 ≤ b ∧ b ≤ 8) : (Lit.int .i64 b).wf = true := by
 rcases (show b = 3 ∨ b = 4 ∨ b = 5 ∨ b = 6 ∨ b = 7 ∨ b = 8 by omega) with rfl | rfl | rfl | rfl | rfl | rfl <;> decide
def Xbp (s : Xa3) (want : Bool) : Bool := Xba s && (want || (!s.Has || decide (s.Since ≥ s.Every)))
theorem Ykz (s : Xa3) (w : Bool) (h1 : s.Seq.Cols.length ≤ maxLen) (h2 : s.Seq.Rows.length ≤ maxLen) : Xpo s w = some (Xbp s w) := by
 unfold Xpo Xbp
 rw [Xol s h1 h2, Xab]
 cases Xba s with
 | false => rfl
 | true => cases w <;> cases s.Has <;> rfl
theorem Xb8 {s : Xa3} (h : Xba s = true) : Xce s.Seq = 1 ∧ Xhl s.Seq = true ∧ Xi5 s.Par = true ∧ Xku s.Rate = true ∧ (0 ≤ s.Frame ∧ s.Frame < 2 ^ s.Seq.Bits.toNat) ∧ (1 ≤ s.Every ∧ s.Every ≤ 1000) ∧ (0 ≤ s.Since ∧ s.Since ≤ 1000) ∧ (0 ≤ s.Reach ∧ s.Reach ≤ 4) ∧ (s.Has = true → Xt1 s.Ref s.Seq = true) ∧ (s.Has = false → s.Ref.Wide = 0 ∧ s.Ref.High = 0 ∧ s.Ref.Dots.size = 0) := by
 unfold Xba at h
 simp only [Bool.and_eq_true, decide_eq_true_eq] at h
 obtain ⟨⟨⟨⟨⟨a, b⟩, c⟩, d⟩, e⟩, f⟩ := h
 refine ⟨a, Xoe a, b, c, d, e.1, e.2.1, e.2.2, ?_, ?_⟩
 ·
  intro hh
  rw [if_pos hh] at f
  exact f
 ·
  intro hh
  rw [if_neg (by rw [hh]; decide)] at f
  exact of_decide_eq_true f
theorem Ys2 {s : Xa3} (a : Xce s.Seq = 1) (b : Xi5 s.Par = true) (c : Xku s.Rate = true) (d : 0 ≤ s.Frame ∧ s.Frame < 2 ^ s.Seq.Bits.toNat) (e1 : 1 ≤ s.Every ∧ s.Every ≤ 1000) (e2 : 0 ≤ s.Since ∧ s.Since ≤ 1000) (e3 : 0 ≤ s.Reach ∧ s.Reach ≤ 4) (f : s.Has = true) (g : Xt1 s.Ref s.Seq = true) : Xba s = true := by
 unfold Xba
 rw [decide_eq_true a, b, c, decide_eq_true d, decide_eq_true ⟨e1, e2, e3⟩, if_pos f, g]
 rfl
theorem Ygt {q : Seq} (h : Xce q = 1) : ∃ c r : Int, q.Cols = [c] ∧ q.Rows = [r] ∧ (1 ≤ c ∧ c ≤ 8) ∧ (1 ≤ r ∧ r ≤ 8) ∧ Xka q = (8 * c, 8 * r) := by
 have hs := Xoe h
 obtain ⟨s1, s2, _⟩ := Xbb hs
 have l1 := Xbc s1
 have l2 := Xbc s2
 have ht : Xce q = (q.Cols.length : Int) * q.Rows.length := by unfold Xce; rw [if_pos hs]
 have hn : q.Cols.length * q.Rows.length = 1 := by
  have : ((q.Cols.length * q.Rows.length : Nat) : Int) = 1 := by rw [Int.natCast_mul, ← ht, h]
  omega
 have n1 := Nat.eq_one_of_mul_eq_one_right hn
 have n2 := Nat.eq_one_of_mul_eq_one_left hn
 obtain ⟨c, ec⟩ := List.length_eq_one_iff.1 n1
 obtain ⟨r, er⟩ := List.length_eq_one_iff.1 n2
 obtain ⟨e, _⟩ := Zbt hs
 unfold Xeh at s1 s2
 rw [Bool.and_eq_true] at s1 s2
 have a1 := List.all_eq_true.1 s1.2 c (by rw [ec]; simp)
 have a2 := List.all_eq_true.1 s2.2 r (by rw [er]; simp)
 unfold Xep at a1 a2
 rw [decide_eq_true_eq] at a1 a2
 refine ⟨c, r, ec, er, a1, a2, ?_⟩
 rw [e, ec, er]
 simp [Xph]
theorem Yud {c : Int} (h : 1 ≤ c ∧ c ≤ 8) : Xyp (8 * c) = true := by
 unfold Xyp
 rw [Bool.and_eq_true, decide_eq_true_eq, decide_eq_true_eq, Xbr (by omega)]
 omega
def Xen (s : Xa3) (key : Bool) : Xer := ⟨key, Xs3 s.Rate key, s.Par.Large, s.Par.Exact⟩
def Xik (s : Xa3) (key : Bool) (l : List Xam) : List Int := Xv7 s.Seq s.Par ⟨0, s.Frame, Xs3 s.Rate key⟩ ++ Xg1 l (Xen s key)
def Xdy (s : Xa3) (key : Bool) (l : List Xam) : List ByteArray := (if key = true then [Ypg 7 (Xyn s.Seq), Ypg 8 (Yd5 s.Par)] else []) ++ [Ypg (if key = true then 5 else 1) (Xik s key l)]
def Xra (s : Xa3) (key : Bool) (l : List Xam) (now : Pic) : Xa3 := ⟨s.Seq, s.Par, Ya0 s.Rate ((Xik s key l).length : Int), (s.Frame + 1) % 2 ^ s.Seq.Bits.toNat, (if key = true then 1 else s.Since + 1), s.Every, s.Reach, true, now⟩
theorem Ygw {s : Xa3} (hs : Xba s = true) (key : Bool) : Xi1 (Xen s key) = true := by
 obtain ⟨_, _, hp, _⟩ := Xb8 hs
 unfold Xi5 at hp
 rw [Bool.and_eq_true] at hp
 unfold Xi1 Xen
 rw [Bool.and_eq_true]
 exact ⟨decide_eq_true (Yt4 _ _), hp.2⟩
theorem Yxz {s : Xa3} {pic : Pic} {want : Bool} (hs : Xba s = true) (hp : Xt1 pic s.Seq = true) : Yus pic s.Ref (Xen s (Xbp s want)) s.Reach := by
 obtain ⟨t1, so, po, ro, hf, he, hsi, hre, hh, hn⟩ := Xb8 hs
 obtain ⟨c, r, ec, er, hc, hr, esz⟩ := Ygt t1
 obtain ⟨p1, p2, p3⟩ := Xy8 hp
 rw [esz] at p2 p3
 refine ⟨p1, by rw [p2]; exact Yud hc, by rw [p3]; exact Yud hr, Ygw hs _, hre, ?_⟩
 intro hk
 have hk : Xbp s want = false := hk
 unfold Xbp at hk
 rw [hs, Bool.true_and] at hk
 have hH : s.Has = true := by
  cases hx : s.Has with
  | true => rfl
  | false => rw [hx] at hk; simp at hk
 obtain ⟨q1, q2, q3⟩ := Xy8 (hh hH)
 rw [esz] at q2 q3
 exact ⟨q1, by rw [q2, p2], by rw [q3, p3]⟩
theorem Ypa {s : Xa3} (hs : Xba s = true) (key : Bool) : Xzb s.Seq s.Par ⟨0, s.Frame, Xs3 s.Rate key⟩ = true := by
 obtain ⟨t1, so, po, _, hf, _⟩ := Xb8 hs
 unfold Xzb
 simp only [Bool.and_eq_true, decide_eq_true_eq]
 exact ⟨so, po, ⟨Int.le_refl _, by omega⟩, hf, Yt4 _ _⟩
structure Yur (s : Xa3) (pic : Pic) (key : Bool) (l : List Xam) (now : Pic) : Prop where
 til : Xk0 pic s.Ref (Xen s key) s.Reach ((pic.Wide / 8).toNat * (pic.High / 8).toNat) l now
 fit : Xt1 now s.Seq = true
 sq : Ymg l (Xen s key) = true
 lv : ∀ q ∈ l, q.Levels.length ≤ 64
 len : 1 ≤ l.length ∧ l.length ≤ 64
 cnt : Xgx s.Seq 0 = some (l.length : Int)
theorem Zbs {s : Xa3} {pic : Pic} {want : Bool} {l : List Xam} {now : Pic} (hs : Xba s = true) (hp : Xt1 pic s.Seq = true) (h : Xk0 pic s.Ref (Xen s (Xbp s want)) s.Reach ((pic.Wide / 8).toNat * (pic.High / 8).toNat) l now) : Yur s pic (Xbp s want) l now := by
 have hm : maxLen = 9223372036854775807 := rfl
 have H := Yxz (want := want) hs hp
 obtain ⟨t1, so, _⟩ := Xb8 hs
 obtain ⟨c, r, ec, er, hc, hr, esz⟩ := Ygt t1
 obtain ⟨p1, p2, p3⟩ := Xy8 hp
 obtain ⟨ok, w, hh, hl, hall⟩ := h.pic H
 obtain ⟨n1, n2, n3⟩ := Xv4 H.hw H.hh
 have hcc := Ygw hs (Xbp s want)
 obtain ⟨x, y, hx, hy, lx, ly, eT, _⟩ := Xt5 so (by rw [ec]; simp; omega) (by rw [er]; simp; omega) 0 ⟨Int.le_refl _, by omega⟩
 rw [ec] at hx lx eT
 rw [er] at ly eT
 have x0 : x = 0 := by simp at lx; exact lx
 have y0 : y = 0 := by simp at ly; exact ly
 subst x0 y0
 have eT' : Xgx s.Seq 0 = some (c * r) := eT
 have e1 : pic.Wide = 8 * c := by rw [p2, esz]
 have e2 : pic.High = 8 * r := by rw [p3, esz]
 have mb : c * r ≤ 8 * 8 := Int.mul_le_mul hc.2 hr.2 (by omega) (by omega)
 have m0 : 1 * 1 ≤ c * r := Int.mul_le_mul hc.1 hr.1 (by omega) (by omega)
 have hlen : (l.length : Int) = c * r := by
  rw [hl, e1, e2, Int.natCast_mul, show 8 * c / 8 = c by omega, show 8 * r / 8 = r by omega, show ((c.toNat : Nat) : Int) = c by omega, show ((r.toNat : Nat) : Int) = r by omega]
 refine ⟨h, Ywl ok (by rw [w, p2]) (by rw [hh, p3]), ?_, fun q hq => (hall q hq).2.2, by omega, by rw [eT', hlen]⟩
 refine List.all_eq_true.2 fun q hq => ?_
 obtain ⟨a, b, _⟩ := hall q hq
 rw [a, b, hcc]; rfl
theorem Xnb {s : Xa3} {pic : Pic} {key : Bool} {l : List Xam} {now : Pic} (hs : Xba s = true) (h : Yur s pic key l now) : (Xik s key l).length ≤ 400000 ∧ Xov (Xik s key l) ∧ (Xv7 s.Seq s.Par ⟨0, s.Frame, Xs3 s.Rate key⟩).length ≤ 200 ∧ (Xg1 l (Xen s key)).length ≤ 336960 := by
 have a := Ywu (Ypa hs key)
 have b := Ym7 h.sq
 have c := h.len.2
 refine ⟨?_, Xa5 (Ywt _ _ _) (Xv5 _ _), a, by omega⟩
 unfold Xik
 rw [List.length_append]
 omega
theorem Yg3 {s : Xa3} {pic : Pic} {want : Bool} (hs : Xba s = true) (hp : Xt1 pic s.Seq = true) (hk : Xbp s want = true ∨ s.Since < 1000) : ∃ l now, Yur s pic (Xbp s want) l now ∧ Xh0 s pic want = some (Xra s (Xbp s want) l now, Xdy s (Xbp s want) l, true) := by
 have hm : maxLen = 9223372036854775807 := rfl
 have H := Yxz (want := want) hs hp
 obtain ⟨t1, so, po, ro, hf, he, hsi, hre, hh, hn⟩ := Xb8 hs
 obtain ⟨s1, s2, b1, b2⟩ := Xbb so
 have c1 := Xbc s1
 have c2 := Xbc s2
 obtain ⟨z1, z2, z3, z4, z5⟩ := Xkd s.Seq.Bits ⟨b1, b2⟩
 obtain ⟨p1, p2, p3⟩ := Xy8 hp
 obtain ⟨l, now, e1, hT⟩ := Yfe H
 have S := Zbs hs hp hT
 refine ⟨l, now, S, ?_⟩
 obtain ⟨r1, r2, r3, r4⟩ := Xnb hs S
 have hfs := Xxv z4 hf.2
 have hf0 := hf.1
 have hd := Ypa hs (Xbp s want)
 have hwf := Zaz ⟨b1, b2⟩
 have hss : Xvz s = [Ypg 7 (Xyn s.Seq), Ypg 8 (Yd5 s.Par)] := by unfold Xvz; rw [if_pos hs]; rfl
 have htr : Ypf l (Xen s (Xbp s want)) = (strOfNums (Xg1 l (Xen s (Xbp s want))), true) := by
  unfold Ypf
  rw [if_pos (by rw [decide_eq_true S.len, S.sq]; rfl)]
 have hcut : (sel (Xbp s want) (some false) (some (decide (s.Since ≥ 1000)))) = some false := by
  cases hx : Xbp s want with
  | true => rfl
  | false =>
   rw [Xao, decide_eq_false]
   rcases hk with hk | hk
   ·
    rw [hx] at hk; cases hk
   ·
    omega
 have hsq : ∀ q ∈ l, Xvc q = true := fun q hq => by
  have := List.all_eq_true.1 S.sq q hq
  simp only [Bool.and_eq_true] at this
  exact this.1
 have hcp : Xeg s = some s := by
  unfold Xeg
  rw [(Ynn s.Seq (by omega) (by omega)).2, Xab]
 unfold Xik at r1 r2
 have hkk : ∀ k : Int, k = 5 ∨ k = 1 → Yd1 k = true := fun k h => by rcases h with rfl | rfl <;> rfl
 unfold Xh0
 rw [Xol s (by omega) (by omega), Xab, hs, Xau, Ydu _ _ (by omega) (by omega), Xab, hp, Xab, Bool.not_true, Xao, Ykz s want (by omega) (by omega), Xab, hcut, Xab, Xao, Ynz, Xab]
 have e1' : Xkl pic s.Ref ⟨Xbp s want, Xs3 s.Rate (Xbp s want), s.Par.Large, s.Par.Exact⟩ s.Reach = some (l, now, true) := e1
 have htr' : Xkm l ⟨Xbp s want, Xs3 s.Rate (Xbp s want), s.Par.Large, s.Par.Exact⟩ = some (strOfNums (Xg1 l (Xen s (Xbp s want))), true) := (Yim l _ (fun q hq => by have := S.lv q hq; omega)).trans (congrArg some htr)
 rw [e1', Xab]
 simp only
 rw [Yhr hd (by omega) (by omega), Xab]
 simp only
 rw [htr', Xab, hcp, Xab, Xz3 s (by omega) (by omega), Xab, hss, wkA (e := s.Since + 1)]
 have e13 : (sel (Xbp s want) (some ((5 : Int), (1 : Int), [Ypg 7 (Xyn s.Seq), Ypg 8 (Yd5 s.Par)])) (some (1, s.Since + 1, ([] : List ByteArray)))) = some ((if Xbp s want = true then 5 else 1), (if Xbp s want = true then 1 else s.Since + 1), (if Xbp s want = true then [Ypg 7 (Xyn s.Seq), Ypg 8 (Yd5 s.Par)] else [])) := by
  cases Xbp s want <;> rfl
 rw [e13, Xab]
 simp only
 rw [Xa2 (by simp only [strOfNums_size]; omega), Xdm, Xq0 _ _ (hkk _ (by cases Xbp s want <;> simp)) r2 r1, Xab, Yey, Xab]
 simp only
 rw [z3, rqA, Xa2 (Yt3 z5), Xa2 (by
  simp only [List.length_singleton]
  split <;> simp <;> omega), wkA (e := s.Frame + 1), Xbr (by omega), wk (by simp only [strOfNums_size]; omega) (by simp only [strOfNums_size]; omega)]
 unfold Xra Xdy Xik
 rw [strOfNums_size, strOfNums_size, List.length_append, Int.natCast_add]
 rfl
theorem Yc3 (b : List Int) (hb : b.length ≤ 1048576) : ∃ s pics wants, Xjl b = some (s, pics, wants) ∧ Xba s = true ∧ s.Seq.Bits = 3 ∧ s.Has = false ∧ s.Frame = 0 ∧ s.Since = 0 ∧ s.Every ≤ 5 ∧ (∀ p ∈ pics, Xt1 p s.Seq = true) ∧ wants.length = pics.length ∧ 2 ≤ pics.length ∧ pics.length ≤ 5 := by
 have hm : maxLen = 9223372036854775807 := rfl
 unfold Xjl
 obtain ⟨c, e, hc⟩ := Xxk b hb
 obtain ⟨x1, c1, e1, a1, b1, _, h1⟩ := Xay c 2 hc
 obtain ⟨x2, c2, e2, a2, b2, _, h2⟩ := Xay c1 2 h1
 obtain ⟨p, c4, e4, hp, h4⟩ := Xyu c2 h2
 obtain ⟨t, c5, e5, ht, h5⟩ := Ygh c4 h4
 obtain ⟨x6, c6, e6, a6, b6, _, h6⟩ := Xay c5 5 h5
 obtain ⟨x7, c7, e7, a7, b7, _, h7⟩ := Xay c6 3 h6
 have b1' := b1 (by omega)
 have b2' := b2 (by omega)
 have b6' := b6 (by omega)
 have b7' := b7 (by omega)
 rw [e, Xab, e1, Xab]
 simp only
 rw [e2, Xab]
 simp only
 rw [e4, Xab]
 simp only
 rw [e5, Xab]
 simp only
 rw [e6, Xab]
 simp only
 rw [e7, Xab]
 simp only
 have sok := Yav (1 + x1) (1 + x2) 3 p t (1 + x6) x7 (by omega) (by omega) (by omega) hp ht (by omega) (by omega)
 rw [wkA (e := 1 + x1), wkA (e := 1 + x2), wkA (e := 1 + x6), Yc6 (1 + x1) (1 + x2) 3 p t (1 + x6) x7 (by omega) (by omega) (by omega) hp ht (by omega) (by omega), Xab]
 have hsz := (Yw7 (1 + x1) (1 + x2) 3 (by omega) (by omega) (by omega)).2
 have hsz' : Xka (Xpj (1 + x1) (1 + x2) 3 p t (1 + x6) x7).Seq = (8 * (1 + x1), 8 * (1 + x2)) := hsz
 simp only
 rw [Xxh, Xab, hsz']
 simp only
 obtain ⟨pic, c8, e8, pw, ph, pok, h8⟩ := Xty c7 (8 * (1 + x1)) (8 * (1 + x2)) h7 (by omega) (by omega)
 rw [e8, Xab]
 simp only
 obtain ⟨o, eo, r1, r2, r3, r4⟩ := Xo6 (f := Xiw (8 * (1 + x1), 8 * (1 + x2)))
  (fun (i, b, j, h, w, hh, dd, pics, wants) => (0 ≤ i ∧ i ≤ 5) ∧ Xoz ⟨b, j, h⟩ ∧ Xcg ⟨w, hh, dd⟩ = true ∧ w = 8 * (1 + x1) ∧ hh = 8 * (1 + x2) ∧ (pics.length : Int) = i ∧ (wants.length : Int) = i ∧ ∀ q ∈ pics, Xcg q = true ∧ q.Wide = 8 * (1 + x1) ∧ q.High = 8 * (1 + x2))
  (fun v => (5 - v.1).toNat)
  (fun _ (pics, wants) => (∀ q ∈ pics, Xcg q = true ∧ q.Wide = 8 * (1 + x1) ∧ q.High = 8 * (1 + x2)) ∧ wants.length = pics.length ∧ 2 ≤ pics.length ∧ pics.length ≤ 5) (by
  intro ⟨i, b, j, h, w, hh, dd, pics, wants⟩ ⟨i1, i2, i3, i4, i5, i6, i7, i8⟩
  unfold Xiw
  simp only
  obtain ⟨x, k1, f1, y0, y1, _, q1⟩ := Xay _ 4 i2
  have y1' := y1 (by omega)
  rw [f1, Xab]
  simp only
  rw [wkA (e := 2 + x)]
  by_cases hi : i < 2 + x
  ·
   obtain ⟨z, k2, f2, q2⟩ := Xl0 k1 4 q1
   obtain ⟨p2, k3, f4, p3, p4, p5, q3⟩ := Ykc k2 (⟨w, hh, dd⟩ : Pic) q2 i3
   obtain ⟨z2, k4, f5, q4⟩ := Xl0 k3 4 q3
   have hall : ∀ q ∈ pics ++ [(⟨w, hh, dd⟩ : Pic)], Xcg q = true ∧ q.Wide = 8 * (1 + x1) ∧ q.High = 8 * (1 + x2) := fun q hq => by
    rcases List.mem_append.1 hq with hq | hq
    ·
     exact i8 q hq
    ·
     rw [List.mem_singleton.1 hq]; exact ⟨i3, i4, i5⟩
   rw [Xbk hi, Xa2 (by simp only [List.length_singleton]; omega), f2, Xab]
   simp only
   rw [Xa2 (by simp only [List.length_singleton]; omega), f4, Xab, f5, Xab]
   simp only at p3 p4 ⊢
   cases z2 with
   | true =>
    obtain ⟨p6, k5, f6, w6, h6', ok6, q5⟩ := Xty k4 (8 * (1 + x1)) (8 * (1 + x2)) q4 (by omega) (by omega)
    rw [Xau, f6, Xab, Xab, wkA (e := i + 1)]
    refine .inr ⟨_, rfl, ⟨by simp only; omega, q5, ok6, w6, h6', ?_, ?_, hall⟩, by simp only; omega, fun _ h => h⟩
    ·
     simp only [List.length_append, List.length_singleton]; omega
    ·
     simp only [List.length_append, List.length_singleton]; omega
   | false =>
    rw [Xao, Xab, wkA (e := i + 1)]
    refine .inr ⟨_, rfl, ⟨by simp only; omega, q4, p5, by simp only; omega, by simp only; omega, ?_, ?_, hall⟩, by simp only; omega, fun _ h => h⟩
    ·
     simp only [List.length_append, List.length_singleton]; omega
    ·
     simp only [List.length_append, List.length_singleton]; omega
  ·
   rw [Xar hi]
   exact .inl ⟨_, rfl, i8, by simp only; omega, by simp only; omega, by simp only; omega⟩) (0, c8.b_, c8.i_, c8.h_, pic.Wide, pic.High, pic.Dots, [], []) ⟨⟨Int.le_refl _, by omega⟩, h8, pok, pw, ph, rfl, rfl, fun q hq => by simp at hq⟩
 obtain ⟨pics, wants⟩ := o
 rw [eo, Xab]
 simp only at r1 r2 r3 r4
 refine ⟨_, pics, wants, rfl, sok, rfl, rfl, rfl, rfl, by show 1 + x6 ≤ 5; omega, ?_, r2, r3, r4⟩
 intro q hq
 obtain ⟨g1, g2, g3⟩ := r1 q hq
 exact Ywl g1 (by rw [hsz']; exact g2) (by rw [hsz']; exact g3)
theorem Ys3 {s : Xa3} {pic : Pic} {key : Bool} {l : List Xam} {now : Pic} (hs : Xba s = true) (h : Yur s pic key l now) (hk : key = true ∨ s.Since < 1000) : Xba (Xra s key l now) = true := by
 obtain ⟨t1, so, po, ro, hf, he, hsi, hre, hh, hn⟩ := Xb8 hs
 obtain ⟨_, _, b1, b2⟩ := Xbb so
 obtain ⟨z1, z2, z3, z4, z5⟩ := Xkd s.Seq.Bits ⟨b1, b2⟩
 have m0 := Int.emod_nonneg (s.Frame + 1) (Yt3 z5)
 have m1 := Int.emod_lt_of_pos (s.Frame + 1) (Zan z5)
 refine Ys2 (s := Xra s key l now) t1 po (Yst _ _ ro) ⟨m0, m1⟩ he ?_ hre rfl h.fit
 unfold Xra
 simp only
 cases key with
 | true => rw [if_pos rfl]; omega
 | false =>
  rcases hk with hk | hk
  ·
   cases hk
  ·
   rw [if_neg (by decide)]; omega
theorem Ypd (s : Xa3) (key : Bool) (l : List Xam) : (Xdy s key l).length = if key = true then 3 else 1 := by
 unfold Xdy
 cases key <;> rfl
structure Run (q : Seq) (p : Par) (k : Nat) (s : Xa3) : Prop where
 ok : Xba s = true
 bits : s.Seq.Bits = 3
 eS : s.Seq = q
 eP : s.Par = p
 has : k = 0 → s.Has = false
 low : 1 ≤ k → 1 ≤ s.Since ∧ s.Has = true
 high : s.Since ≤ k
theorem Run.next {q : Seq} {p : Par} {k : Nat} {s : Xa3} (R : Run q p k s) (hk : k ≤ 100) {pic : Pic} {want : Bool} {l : List Xam} {now : Pic} (h : Yur s pic (Xbp s want) l now) : Run q p (k + 1) (Xra s (Xbp s want) l now) := by
 have a := Xb8 R.ok
 have hs := R.high
 refine ⟨Ys3 R.ok h (.inr (by omega)), R.bits, R.eS, R.eP, fun h => by omega, fun _ => ⟨?_, rfl⟩, ?_⟩
 ·
  show 1 ≤ (if Xbp s want = true then (1 : Int) else s.Since + 1)
  split
  ·
   omega
  ·
   have := a.2.2.2.2.2.2.1; omega
 ·
  show (if Xbp s want = true then (1 : Int) else s.Since + 1) ≤ ((k + 1 : Nat) : Int)
  split <;> omega
theorem Run.first {q : Seq} {p : Par} {s : Xa3} (R : Run q p 0 s) (want : Bool) : Xbp s want = true := by
 unfold Xbp
 rw [R.ok, R.has rfl]
 cases want <;> rfl
theorem Ysq (p : Pic) : (((p.Wide == p.Wide) && ((p.High == p.High) && (p.Dots.toList == p.Dots.toList))) == false) = false := by
 simp only [beq_self_eq_true, Bool.and_self]
 rfl
abbrev Xuu : Ybk := ⟨false, 0, ⟨#[]⟩⟩
def Xhn (a : Xea) : Bool := cnt a.Count && (cnt a.Gone && (if a.Has = true then decide (Xce a.Seq = 1) && (Xi5 a.Par && decide (0 ≤ a.Frame ∧ a.Frame < 2 ^ a.Seq.Bits.toNat)) else !a.Live && (Yt1 a.Seq && (Yxd a.Par && (a.Frame == 0)))))
theorem Xhr (a : Xea) (h1 : a.Seq.Cols.length ≤ maxLen) (h2 : a.Seq.Rows.length ≤ maxLen) : Xf5 a = some (Xhn a) := by
 have w1 : Xak a.Count 0 1000000000 = some (cnt a.Count) := Xaj _ _ _
 have w2 : Xak a.Gone 0 1000000000 = some (cnt a.Gone) := Xaj _ _ _
 have hP : ((a.Par.Qp == 0) && ((a.Par.Large == false) && ((a.Par.Exact == false) && (a.Par.Confined == false)))) = Yxd a.Par := rfl
 unfold Xf5 Xhn
 rw [w1, Xab, hP]
 cases cnt a.Count with
 | false => rfl
 | true =>
  rw [Xau, w2, Xab]
  cases cnt a.Gone with
  | false => rfl
  | true =>
   rw [Xab, Bool.not_true, Xao, Yix, Xab]
   cases hH : a.Has with
   | false =>
    rw [Bool.not_false, Xau, if_neg (by decide)]
    cases a.Live with
    | true => rfl
    | false =>
     cases Yt1 a.Seq with
     | false => rfl
     | true => cases Yxd a.Par <;> rfl
   | true =>
    rw [Bool.not_true, Xao, if_pos rfl, Xh2 _ h1 h2, Xab]
    by_cases ht : Xce a.Seq = 1
    ·
     obtain ⟨_, _, b1, b2⟩ := Xbb (Xoe ht)
     obtain ⟨s1, s2, s3, s4, s5⟩ := Xkd a.Seq.Bits ⟨b1, b2⟩
     rw [Xbw (by rw [beq_iff_eq]; exact ht), decide_eq_true ht, Xde, Xab]
     cases Xi5 a.Par with
     | false => rfl
     | true =>
      have hw : Xaa .i64 ((2 : Int) ^ a.Seq.Bits.toNat - 1) = 2 ^ a.Seq.Bits.toNat - 1 := by
       generalize (2 : Int) ^ a.Seq.Bits.toNat = N at s4 s5
       exact wkA
      rw [Xau, rqA, s3, hw, Xaj, Xab, Xab]
      have e1 : decide (0 ≤ a.Frame ∧ a.Frame ≤ (2 : Int) ^ a.Seq.Bits.toNat - 1) = decide (0 ≤ a.Frame ∧ a.Frame < (2 : Int) ^ a.Seq.Bits.toNat) := by
       generalize (2 : Int) ^ a.Seq.Bits.toNat = N
       rw [decide_eq_decide]; omega
      rw [e1]; rfl
    ·
     rw [Xbi (by rw [beq_eq_false_iff_ne]; exact ht), decide_eq_false ht]
     rfl
def Xyx (a : Xea) : Xea := ⟨a.Has, false, a.Seq, a.Par, a.Frame, a.Count, Yza a.Gone⟩
theorem Xxp {a : Xea} (h : Xhn a = true) : cnt a.Count = true ∧ cnt a.Gone = true := by
 unfold Xhn at h
 simp only [Bool.and_eq_true] at h
 exact ⟨h.1, h.2.1⟩
theorem Xmt (a : Xea) (h1 : a.Seq.Cols.length ≤ 1048576) (h2 : a.Seq.Rows.length ≤ 1048576) : Xg3 a = some a := by
 unfold Xg3
 rw [(Ynn a.Seq h1 h2).2, Xab]
theorem Ybv (a : Xea) (h1 : a.Seq.Cols.length ≤ 1048576) (h2 : a.Seq.Rows.length ≤ 1048576) : Xjb a = some (if Xhn a = true then Xyx a else a) := by
 have hm : maxLen = 9223372036854775807 := rfl
 unfold Xjb
 rw [Xmt a h1 h2, Xab, Xhr a (by omega) (by omega), Xab]
 cases h : Xhn a with
 | false => rfl
 | true => rw [Xau, Xun _ (Xxp h).2, Xab, Xab, if_pos rfl]; rfl
theorem Ygn (us : List ByteArray) (i : Nat) (hi : i < us.length) (h3 : i < 3) (ks : List Int) (rs : List ByteArray) (hk : ks.length = i) (hr : rs.length = i) {k : Int} {L : ByteArray} (e : Xmq (us.getD i Xb0) = some (k, L, true)) : Xbf us ((i : Int), ks, rs) = some (.go (((i + 1 : Nat) : Int), ks ++ [k], rs ++ [L])) := by
 have hm : maxLen = 9223372036854775807 := rfl
 unfold Xbf
 simp only [Int.toNat_natCast]
 rw [syA, rqA, e, Xab]
 simp only
 rw [Xau, Xab, Xbi (b := ((ks.length : Int) == 3)) (by rw [beq_eq_false_iff_ne]; omega), Xa2 (by simp only [List.length_singleton]; omega), Xa2 (by simp only [List.length_singleton]; omega), wkA]
 rfl
theorem Yqw (us : List ByteArray) (i : Nat) (hi : i = us.length) (ks : List Int) (rs : List ByteArray) : Xbf us ((i : Int), ks, rs) = some (.done (.out (ks, rs))) := by
 unfold Xbf
 simp only
 rw [snA]
def Xvp (ks : List Int) : Option Bool := sel ((ks.length : Int) == 3) (req (0 ≤ (0 : Int) ∧ (0 : Int) < ks.length) <| req ((0 : Int).toNat < ks.length) <| sel ((ks.getD ((0 : Int).toNat) 0) != 7) (some true) (req (0 ≤ (1 : Int) ∧ (1 : Int) < ks.length) <| req ((1 : Int).toNat < ks.length) <| sel ((ks.getD ((1 : Int).toNat) 0) != 8) (some true) (req (0 ≤ (2 : Int) ∧ (2 : Int) < ks.length) <| req ((2 : Int).toNat < ks.length) <| sel ((ks.getD ((2 : Int).toNat) 0) != 5) (some true) (some false)))) (sel ((ks.length : Int) != 1) (some true) (req (0 ≤ (0 : Int) ∧ (0 : Int) < ks.length) <| req ((0 : Int).toNat < ks.length) <| some ((ks.getD ((0 : Int).toNat) 0) != 1)))
theorem Ywy (k : Int) : Xvp [k] = some (k != 1) := rfl
theorem Ysi (a b c : Int) : Xvp [a, b, c] = some (a != 7 || (b != 8 || c != 5)) := by
 show (sel (a != 7) (some true) (sel (b != 8) (some true) (sel (c != 5) (some true) (some false)))) = _
 cases (a != 7) <;> cases (b != 8) <;> cases (c != 5) <;> rfl
noncomputable def Yqj (a : Xea) (key : Bool) (q : Seq) (r : Par) (row : ByteArray) : Option (Int × Seq × Par × Xve × Ybk) :=
 bnd (Xgf q r row) fun q18 =>
 sel (!q18.2.2) (some (5, ⟨0, 0, [], []⟩, ⟨0, false, false, false⟩, ⟨0, 0, 0⟩, Xuu)) (
 bnd (sel key (some false) (some (!a.Live))) fun v19 =>
 sel v19 (some (6, ⟨0, 0, [], []⟩, ⟨0, false, false, false⟩, ⟨0, 0, 0⟩, Xuu)) (
 bnd (sel key (some false) (some (q18.1.Frame != a.Frame))) fun v20 =>
 sel v20 (some (7, ⟨0, 0, [], []⟩, ⟨0, false, false, false⟩, ⟨0, 0, 0⟩, Xuu)) (
 req (0 ≤ q18.2.1 ∧ q18.2.1 ≤ (row.size : Int) ∧ (row.size : Int) ≤ (row.size : Int)) <|
 bnd (Xd1 q) fun q21 =>
 bnd (Xmk r ⟨key, q18.1.Qp, row.extract q18.2.1.toNat (row.size : Int).toNat⟩ q21) fun q22 =>
 sel (!q22) (some (8, ⟨0, 0, [], []⟩, ⟨0, false, false, false⟩, ⟨0, 0, 0⟩, Xuu)) (
 some (0, q, r, q18.1, ⟨key, q18.1.Qp, row.extract q18.2.1.toNat (row.size : Int).toNat⟩)))))
theorem Ys4 (A B C : ByteArray) : ([A, B, C] : List ByteArray).getD ((0 : Int).toNat) Xb0 = A ∧ ([A, B, C] : List ByteArray).getD ((1 : Int).toNat) Xb0 = B ∧ ([A, B, C] : List ByteArray).getD ((2 : Int).toNat) Xb0 = C ∧ (([A, B, C] : List ByteArray).length : Int) = 3 ∧ Xaa .i64 (3 - 1) = 2 ∧ (∀ {β : Type} (x : Option β), req (0 ≤ (0 : Int) ∧ (0 : Int) < 3) x = x) ∧ (∀ {β : Type} (x : Option β), req (0 ≤ (1 : Int) ∧ (1 : Int) < 3) x = x) ∧ (∀ {β : Type} (x : Option β), req (0 ≤ (2 : Int) ∧ (2 : Int) < 3) x = x) ∧ (∀ {β : Type} (x : Option β), req ((0 : Int).toNat < ([A, B, C] : List ByteArray).length) x = x) ∧ (∀ {β : Type} (x : Option β), req ((1 : Int).toNat < ([A, B, C] : List ByteArray).length) x = x) ∧ (∀ {β : Type} (x : Option β), req ((2 : Int).toNat < ([A, B, C] : List ByteArray).length) x = x) := by
 refine ⟨rfl, rfl, rfl, rfl, wkA, fun x => rqA, fun x => rqA, fun x => rqA, fun x => Xa2 (by simp), fun x => Xa2 (by simp), fun x => Xa2 (by simp)⟩
theorem Yxg (A : ByteArray) : ([A] : List ByteArray).getD ((0 : Int).toNat) Xb0 = A ∧ (([A] : List ByteArray).length : Int) = 1 ∧ Xaa .i64 (1 - 1) = 0 ∧ (∀ {β : Type} (x : Option β), req (0 ≤ (0 : Int) ∧ (0 : Int) < 1) x = x) ∧ (∀ {β : Type} (x : Option β), req ((0 : Int).toNat < ([A] : List ByteArray).length) x = x) := by
 refine ⟨rfl, rfl, wkA, fun x => rqA, fun x => Xa2 (by simp)⟩
theorem Yva (a : Xea) (us : List ByteArray) (p : Par) (A B C : ByteArray) (h : loop (Xbf us) (0, [], []) = some (.out ([7, 8, 5], [A, B, C]))) : Xb1 a us p = bnd (Xkj A 0) fun q14 => bnd (Xki B 0) fun q15 => bnd (sel q14.2.2 (sel (q14.2.1 != (A.size : Int)) (some true) (sel q15.2.2 (sel (q15.2.1 != (B.size : Int)) (some true) (bnd (Xd2 q14.1) fun q17 => sel (q17 != 1) (some true) (sel q15.1.Confined (sel (q15.1.Large == p.Large) (some (!(q15.1.Exact == p.Exact))) (some true)) (some true)))) (some true))) (some true)) fun v16 => sel v16 (some (3, ⟨0, 0, [], []⟩, ⟨0, false, false, false⟩, ⟨0, 0, 0⟩, Xuu)) (Yqj a true q14.1 q15.1 C) := by
 obtain ⟨g0, g1, g2, n, w, r0, r1, r2, t0, t1, t2⟩ := Ys4 A B C
 have hk : Xvp [7, 8, 5] = some false := Ysi 7 8 5
 have e3 : ((([7, 8, 5] : List Int).length : Int) == 3) = true := rfl
 unfold Xvp at hk
 unfold Xb1 Yqj
 rw [h, Xab]
 simp only [Yqv]
 rw [hk, Xab, Xao]
 simp only [e3, Xau, n, w, r0, r1, r2, t0, t1, t2, g0, g1, g2]
theorem Yvb (a : Xea) (us : List ByteArray) (p : Par) (A : ByteArray) (h : loop (Xbf us) (0, [], []) = some (.out ([1], [A]))) : Xb1 a us p = sel (!a.Has) (some (4, ⟨0, 0, [], []⟩, ⟨0, false, false, false⟩, ⟨0, 0, 0⟩, Xuu)) (Yqj a false a.Seq a.Par A) := by
 obtain ⟨g0, n, w, r0, t0⟩ := Yxg A
 have hk : Xvp [1] = some false := Ywy 1
 have e3 : ((([1] : List Int).length : Int) == 3) = false := rfl
 unfold Xvp at hk
 unfold Xb1 Yqj
 rw [h, Xab]
 simp only [Yqv]
 rw [hk, Xab, Xao]
 simp only [e3, Xao, n, w, r0, t0, g0]
theorem Yje {q : Seq} (h : Xce q = 1) : Xd1 q = some (Xhf q) ∧ Xgx q 0 = some (Xhf q) := by
 have hm : maxLen = 9223372036854775807 := rfl
 obtain ⟨c, r, ec, er, hc, hr, esz⟩ := Ygt h
 have so := Xoe h
 obtain ⟨x, y, hx, hy, lx, ly, eT, _⟩ := Xt5 so (by rw [ec]; simp; omega) (by rw [er]; simp; omega) 0 ⟨Int.le_refl _, by omega⟩
 refine ⟨Xrn q (by rw [ec]; simp; omega) (by rw [er]; simp; omega), ?_⟩
 obtain ⟨o1, o2, _⟩ := Xbb so
 have sq : Xhf q = c * r := by
  unfold Xhf Ybh
  rw [if_pos o1, if_pos o2, ec, er]
  simp [Xph]
 rw [ec] at hx lx eT
 rw [er] at ly eT
 have x0 : x = 0 := by simp at lx; exact lx
 have y0 : y = 0 := by simp at ly; exact ly
 subst x0 y0
 rw [sq]
 exact eT
theorem Ys5 {a : Xea} {us : List ByteArray} {p : Par} (h1 : a.Seq.Cols.length ≤ 1048576) (h2 : a.Seq.Rows.length ≤ 1048576) (ha : Xhn a = true) (hp : Xi5 p = true) {co : Int} {q : Seq} {r : Par} {h : Xve} {t : Ybk} (e : Xb1 a us p = some (co, q, r, h, t)) (hco : co ≠ 0) : Xby a us p = some (Xyx a, co, Xuu) := by
 have hm : maxLen = 9223372036854775807 := rfl
 unfold Xby
 rw [Xmt a h1 h2, Xab, Xhr a (by omega) (by omega), Xab, ha, Xau, Xde, Xab, hp, Xab, Bool.not_true, Xao, e, Xab]
 simp only
 rw [Xbw (by rw [bne_iff_ne]; exact hco), Ybv a h1 h2, Xab, if_pos ha]
theorem Ypt {a : Xea} {us : List ByteArray} {p : Par} (h1 : a.Seq.Cols.length ≤ 1048576) (h2 : a.Seq.Rows.length ≤ 1048576) (ha : Xhn a = true) (hp : Xi5 p = true) {q : Seq} {r : Par} {h : Xve} {t : Ybk} {f : Int} (e : Xb1 a us p = some (0, q, r, h, t)) (hc : q.Cols.length ≤ 1048576) (hr : q.Rows.length ≤ 1048576) (hf : Xpf h.Frame q.Bits = some f) : Xby a us p = some (⟨true, true, q, r, f, Yza a.Count, a.Gone⟩, 0, t) := by
 have hm : maxLen = 9223372036854775807 := rfl
 unfold Xby
 rw [Xmt a h1 h2, Xab, Xhr a (by omega) (by omega), Xab, ha, Xau, Xde, Xab, hp, Xab, Bool.not_true, Xao, e, Xab]
 simp only
 rw [Xbi (by rfl), (Ynn q hc hr).2, Xab, hf, Xab, Xun _ (Xxp ha).1, Xab]
theorem Yp7 (H T : List Int) : (strOfNums (H ++ T)).extract ((H.length : Int)).toNat ((((H ++ T).length : Nat) : Int)).toNat = strOfNums T := by
 have h1 : (strOfNums H).size = H.length := strOfNums_size H
 have h2 : (strOfNums T).size = T.length := strOfNums_size T
 rw [Int.toNat_natCast, Int.toNat_natCast, ← Xdm, List.length_append, ← h1, ← h2]
 exact ByteArray.extract_append_eq_right rfl rfl
theorem Zbi {s : Xa3} {pic : Pic} {key : Bool} {l : List Xam} {now : Pic} (hs : Xba s = true) (h : Yur s pic key l now) : Xmk s.Par ⟨key, Xs3 s.Rate key, strOfNums (Xg1 l (Xen s key))⟩ (Xhf s.Seq) = some true := by
 obtain ⟨t1, so, po, _⟩ := Xb8 hs
 have hn : (l.length : Int) = Xhf s.Seq := Option.some.inj (h.cnt.symm.trans (Yje t1).2)
 have e := Ydl (A := []) (L := Xg1 l (Xen s key)) h.sq (Ygw hs key) h.len rfl (Xv5 _ _) (by have := (Xnb hs h).2.2.2; omega)
 have e' : Xe3 (strOfNums (Xg1 l (Xen s key))) 0 (Xhf s.Seq) ⟨key, Xs3 s.Rate key, s.Par.Large, s.Par.Exact⟩ = some (l, true) := by
  rw [← hn]; exact e
 unfold Xmk Xht
 rw [Xab, e', Xab, Xde, Xab, po, Xau, Xab]
def Xtg (s : Xa3) (key : Bool) (l : List Xam) : Ybk := ⟨key, Xs3 s.Rate key, strOfNums (Xg1 l (Xen s key))⟩
theorem Ypc {s : Xa3} {pic : Pic} {key : Bool} {l : List Xam} {now : Pic} (hs : Xba s = true) (h : Yur s pic key l now) : Xgf s.Seq s.Par (strOfNums (Xik s key l)) = some (⟨0, s.Frame, Xs3 s.Rate key⟩, ((Xv7 s.Seq s.Par ⟨0, s.Frame, Xs3 s.Rate key⟩).length : Int), true) := by
 obtain ⟨r1, r2, _⟩ := Xnb hs h
 exact Ykm (Ypa hs key) rfl r2 r1
theorem Yqk {a : Xea} {s : Xa3} {pic : Pic} {key : Bool} {l : List Xam} {now : Pic} (hs : Xba s = true) (h : Yur s pic key l now) (hl : key = true ∨ a.Live = true ∧ a.Frame = s.Frame) : Yqj a key s.Seq s.Par (strOfNums (Xik s key l)) = some (0, s.Seq, s.Par, ⟨0, s.Frame, Xs3 s.Rate key⟩, Xtg s key l) := by
 obtain ⟨t1, _⟩ := Xb8 hs
 have ex : (strOfNums (Xik s key l)).extract (((Xv7 s.Seq s.Par ⟨0, s.Frame, Xs3 s.Rate key⟩).length : Int)).toNat ((((Xik s key l).length : Nat) : Int)).toNat = strOfNums (Xg1 l (Xen s key)) := Yp7 _ _
 have hle : (Xv7 s.Seq s.Par ⟨0, s.Frame, Xs3 s.Rate key⟩).length ≤ (Xik s key l).length := by unfold Xik; rw [List.length_append]; omega
 have c1 : (sel key (some false) (some (!a.Live))) = some false := by
  cases key with
  | true => rfl
  | false =>
   rcases hl with hl | hl
   ·
    cases hl
   ·
    rw [hl.1]; rfl
 have c2 : (sel key (some false) (some (s.Frame != a.Frame))) = some false := by
  cases key with
  | true => rfl
  | false =>
   rcases hl with hl | hl
   ·
    cases hl
   ·
    rw [hl.2, bne_self_eq_false]; rfl
 unfold Yqj
 rw [Ypc hs h, Xab]
 simp only
 rw [Bool.not_true, Xao, c1, Xab, Xao, c2, Xab, Xao, strOfNums_size, rqA, (Yje t1).1, Xab, ex, Zbi hs h, Xab, Bool.not_true, Xao]
 rfl
theorem Yzg {s : Xa3} {pic : Pic} {l : List Xam} {now : Pic} (hs : Xba s = true) (h : Yur s pic true l now) : loop (Xbf (Xdy s true l)) (0, [], []) = some (.out ([7, 8, 5], [strOfNums (Xyn s.Seq), strOfNums (Yd5 s.Par), strOfNums (Xik s true l)])) := by
 obtain ⟨t1, so, po, _⟩ := Xb8 hs
 obtain ⟨r1, r2, _⟩ := Xnb hs h
 have hu : Xdy s true l = [strOfNums (7 :: Xs1 (Xyn s.Seq)), strOfNums (8 :: Xs1 (Yd5 s.Par)), strOfNums (5 :: Xs1 (Xik s true l))] := rfl
 have u7 := Xqd (k := 7) rfl (Xyn s.Seq) (Yo1 s.Seq) (Ym2 so)
 have u8 := Xqd (k := 8) rfl (Yd5 s.Par) (Yot s.Par) (by rw [Ygu]; omega)
 have u5 := Xqd (k := 5) rfl (Xik s true l) r2 r1
 rw [hu]
 generalize strOfNums (7 :: Xs1 (Xyn s.Seq)) = x at u7
 generalize strOfNums (8 :: Xs1 (Yd5 s.Par)) = y at u8
 generalize strOfNums (5 :: Xs1 (Xik s true l)) = z at u5
 exact lgo (Ygn [x, y, z] 0 (by simp) (by omega) [] [] rfl rfl u7) (lgo (Ygn [x, y, z] 1 (by simp) (by omega) [7] [strOfNums (Xyn s.Seq)] rfl rfl u8) (lgo (Ygn [x, y, z] 2 (by simp) (by omega) [7, 8] [strOfNums (Xyn s.Seq), strOfNums (Yd5 s.Par)] rfl rfl u5) (Xfv (Yqw [x, y, z] 3 rfl [7, 8, 5] [strOfNums (Xyn s.Seq), strOfNums (Yd5 s.Par), strOfNums (Xik s true l)]))))
theorem Yvj {s : Xa3} {pic : Pic} {l : List Xam} {now : Pic} (hs : Xba s = true) (h : Yur s pic false l now) : loop (Xbf (Xdy s false l)) (0, [], []) = some (.out ([1], [strOfNums (Xik s false l)])) := by
 obtain ⟨r1, r2, _⟩ := Xnb hs h
 have hu : Xdy s false l = [strOfNums (1 :: Xs1 (Xik s false l))] := rfl
 have u1 := Xqd (k := 1) rfl (Xik s false l) r2 r1
 rw [hu]
 generalize strOfNums (1 :: Xs1 (Xik s false l)) = x at u1
 exact lgo (Ygn [x] 0 (by simp) (by omega) [] [] rfl rfl u1) (Xfv (Yqw [x] 1 rfl [1] [strOfNums (Xik s false l)]))
def Xgp (a : Xea) (s : Xa3) : Xea := ⟨true, true, s.Seq, s.Par, (s.Frame + 1) % 2 ^ s.Seq.Bits.toNat, Yza a.Count, a.Gone⟩
theorem Yrr {s : Xa3} (hs : Xba s = true) : Xpf s.Frame s.Seq.Bits = some ((s.Frame + 1) % 2 ^ s.Seq.Bits.toNat) ∧ s.Seq.Cols.length ≤ 1048576 ∧ s.Seq.Rows.length ≤ 1048576 := by
 obtain ⟨t1, so, po, _, hf, _⟩ := Xb8 hs
 obtain ⟨q1, q2, b1, b2⟩ := Xbb so
 have n1 := Xbc q1
 have n2 := Xbc q2
 obtain ⟨z1, z2, z3, z4, z5⟩ := Xkd s.Seq.Bits ⟨b1, b2⟩
 have hf0 := hf.1
 have hfs := Xxv z4 hf.2
 refine ⟨?_, by omega, by omega⟩
 unfold Xpf
 rw [rqA, z3, Xa2 (Yt3 z5), wkA (e := s.Frame + 1), Xbr (by omega)]
theorem Yv2 {a : Xea} (ha : Xhn a = true) (h1 : a.Seq.Cols.length ≤ 1048576) (h2 : a.Seq.Rows.length ≤ 1048576) {s : Xa3} {pic : Pic} {l : List Xam} {now : Pic} (hs : Xba s = true) (h : Yur s pic true l now) {p : Par} (hp : Xi5 p = true) (hc : s.Par.Confined = true) (hL : p.Large = s.Par.Large) (hE : p.Exact = s.Par.Exact) : Xby a (Xdy s true l) p = some (Xgp a s, 0, Xtg s true l) := by
 have hm : maxLen = 9223372036854775807 := rfl
 obtain ⟨t1, so, po, _⟩ := Xb8 hs
 obtain ⟨sa, sc, sr⟩ := Yrr hs
 have e := Yva a (Xdy s true l) p _ _ _ (Yzg hs h)
 rw [Ynb so, Xab, Yna po, Xab] at e
 simp only at e
 rw [Xau, strOfNums_size, bne_self_eq_false, Xao, Xau, strOfNums_size, Ygu, show ((9 : Int) != ((9 : Nat) : Int)) = false from rfl, Xao, Xh2 _ (by omega) (by omega), Xab, t1, show ((1 : Int) != 1) = false from rfl, Xao, hc, Xau, hL, hE, beq_self_eq_true, Xau, beq_self_eq_true, Bool.not_true, Xab, Xao] at e
 exact Ypt h1 h2 ha hp (e.trans (Yqk hs h (.inl rfl))) sc sr sa
theorem Yr1 {a : Xea} (ha : Xhn a = true) (h1 : a.Seq.Cols.length ≤ 1048576) (h2 : a.Seq.Rows.length ≤ 1048576) {s : Xa3} {pic : Pic} {l : List Xam} {now : Pic} (hs : Xba s = true) (h : Yur s pic false l now) {p : Par} (hp : Xi5 p = true) (hH : a.Has = true) (eS : a.Seq = s.Seq) (eP : a.Par = s.Par) :
  (a.Live = true → a.Frame = s.Frame → Xby a (Xdy s false l) p = some (Xgp a s, 0, Xtg s false l)) ∧
  (a.Live = false → Xby a (Xdy s false l) p = some (Xyx a, 6, Xuu)) ∧
  (a.Live = true → s.Frame ≠ a.Frame → Xby a (Xdy s false l) p = some (Xyx a, 7, Xuu)) := by
 obtain ⟨sa, sc, sr⟩ := Yrr hs
 have e := Yvb a (Xdy s false l) p _ (Yvj hs h)
 rw [hH, Bool.not_true, Xao, eS, eP] at e
 refine ⟨fun a1 a2 => Ypt h1 h2 ha hp (e.trans (Yqk hs h (.inr ⟨a1, a2⟩))) sc sr sa, fun a1 => Ys5 h1 h2 ha hp (co := 6) (q := ⟨0, 0, [], []⟩) (r := ⟨0, false, false, false⟩) (h := ⟨0, 0, 0⟩) (t := Xuu) (e.trans ?_) (by decide), fun a1 a2 => Ys5 h1 h2 ha hp (co := 7) (q := ⟨0, 0, [], []⟩) (r := ⟨0, false, false, false⟩) (h := ⟨0, 0, 0⟩) (t := Xuu) (e.trans ?_) (by decide)⟩
 ·
  unfold Yqj
  rw [Ypc hs h, Xab]
  simp only
  rw [Bool.not_true, Xao, Xao, a1, Xab]
  rfl
 ·
  have hb : (s.Frame != a.Frame) = true := by rw [bne_iff_ne]; exact a2
  unfold Yqj
  rw [Ypc hs h, Xab]
  simp only
  rw [Bool.not_true, Xao, Xao, a1, Xab, Bool.not_true, Xao, Xao, Xab, hb, Xau]
theorem Ydq {a : Xea} (ha : Xhn a = true) {s : Xa3} (hs : Xba s = true) : Xhn (Xgp a s) = true := by
 obtain ⟨t1, so, po, _, hf, _⟩ := Xb8 hs
 obtain ⟨_, _, b1, b2⟩ := Xbb so
 obtain ⟨z1, z2, z3, z4, z5⟩ := Xkd s.Seq.Bits ⟨b1, b2⟩
 have m0 := Int.emod_nonneg (s.Frame + 1) (Yt3 z5)
 have m1 := Int.emod_lt_of_pos (s.Frame + 1) (Zan z5)
 obtain ⟨c1, c2⟩ := Xxp ha
 unfold Xhn Xgp
 simp only
 rw [Yys c1, c2, if_pos trivial, decide_eq_true t1, po, decide_eq_true ⟨m0, m1⟩]
 rfl
def Xyy : Xea := ⟨false, false, ⟨0, 0, [], []⟩, ⟨0, false, false, false⟩, 0, 0, 0⟩
theorem Yr0 : Xhn Xyy = true := rfl
def Yhb (s : Xa3) : Xa3 := ⟨s.Seq, ⟨s.Par.Qp, s.Par.Large, s.Par.Exact, true⟩, s.Rate, s.Frame, s.Since, s.Every, s.Reach, s.Has, s.Ref⟩
theorem Yu4 {s : Xa3} (h : Xba s = true) : Xba (Yhb s) = true := h
theorem Yr7 {s : Xa3} (ok : Xba s = true) (hb : s.Seq.Bits = 3) (hh : s.Has = false) (hsi : s.Since = 0) : Run s.Seq ⟨s.Par.Qp, s.Par.Large, s.Par.Exact, true⟩ 0 (Yhb s) := ⟨Yu4 ok, hb, rfl, rfl, fun _ => hh, fun h => by omega, by show s.Since ≤ 0; omega⟩
def Zba (a : Xea) : (Bool × Bool × Int × Int × Int × Bool × Bool × Bool × Int × Int × Int × (List Int) × (List Int)) := (a.Has, a.Live, a.Seq.Level, a.Seq.Bits, a.Par.Qp, a.Par.Large, a.Par.Exact, a.Par.Confined, a.Frame, a.Count, a.Gone, a.Seq.Cols, a.Seq.Rows)
theorem Yzb {p : Pic} (h : p.Wide = 0 ∧ p.High = 0 ∧ p.Dots.size = 0) : p = Zct := by
 obtain ⟨w, hh, d⟩ := p
 obtain ⟨h1, h2, h3⟩ := h
 simp only at h1 h2 h3
 have hd : d = ⟨#[]⟩ := by
  have := Xv2 d
  have hn : Xa6 d = [] := List.length_eq_zero_iff.1 (by rw [Xb6]; exact h3)
  rw [hn] at this
  exact this.symm
 rw [h1, h2, hd]
theorem Yvm {s : Xa3} {pic : Pic} {key : Bool} {l : List Xam} {now : Pic} (hs : Xba s = true) (hp : Xt1 pic s.Seq = true) (H : Yus pic s.Ref (Xen s key) s.Reach) (h : Yur s pic key l now) {p : Par} (po : Xi5 p = true) (hc : p.Confined = true) (hL : p.Large = s.Par.Large) (hE : p.Exact = s.Par.Exact) : Xjf s.Ref ⟨0, 0, pic.Wide, pic.High⟩ p (Xtg s key l) = some (now, true) := by
 have sw := Xbx H.hw
 have sh := Xbx H.hh
 obtain ⟨t1, t2, t3⟩ := Xv4 H.hw H.hh
 obtain ⟨_, _, _, hlen, _⟩ := h.til.pic H
 have e := Ydl (A := []) (L := Xg1 l (Xen s key)) h.sq (Ygw hs key) h.len rfl (Xv5 _ _) (by have := (Xnb hs h).2.2.2; omega)
 have e' : Xe3 (strOfNums (Xg1 l (Xen s key))) 0 (pic.Wide / 8 * (pic.High / 8)) (Xen s key) = some (l, true) := by
  rw [← t1, ← hlen]; exact e
 have tb := Ykn H h.til true
 have ecd : Xht p (Xtg s key l) = some (Xen s key) := by
  unfold Xht Xtg Xen
  rw [hL, hE]
 unfold Xjf
 simp only
 rw [Xd3, Xab, H.hw, Xau, Xd3, Xab, H.hh, Xau, Xde, Xab, po, Bool.not_true, Xab, Xao, ecd, Xab, rqA, rqA, Xbg (a := pic.Wide) (by omega), Xbg (a := pic.High) (by omega), wkA (e := pic.Wide / 8), wkA (e := pic.High / 8), wk (e := pic.Wide / 8 * (pic.High / 8)) (by have := h.len.2; omega) (by have := h.len.2; omega), show (Xtg s key l).Row = strOfNums (Xg1 l (Xen s key)) from rfl, e', Xab]
 simp only
 rw [Bool.not_true, Xao, hc, tb, Xab]
theorem Ywm {a : Xea} (ha : Xhn a = true) {q : Seq} (hq : Xce q = 1) (eS : a.Seq = q) (hH : a.Has = true) : Xja a q 0 = some true := by
 have hm : maxLen = 9223372036854775807 := rfl
 obtain ⟨c, r, ec, er, hc, hr, esz⟩ := Ygt hq
 have so := Xoe hq
 have l1 : q.Cols.length ≤ maxLen := by rw [ec]; simp; omega
 have l2 : q.Rows.length ≤ maxLen := by rw [er]; simp; omega
 obtain ⟨x, y, hx, hy, lx, ly, e1, _⟩ := Ydo so l1 l2 0 ⟨Int.le_refl _, by omega⟩
 rw [ec] at lx
 rw [er] at ly
 have x0 : x = 0 := by simp at lx; exact lx
 have y0 : y = 0 := by simp at ly; exact ly
 subst x0 y0
 have er2 : Yrg q 0 0 = ⟨0, 0, 8 * c, 8 * r⟩ := by
  unfold Yrg
  rw [ec, er]
  rfl
 unfold Xja
 rw [e1, Xab, eS, Xw0 q l1 l2, Xab, Xhr a (by rw [eS]; exact l1) (by rw [eS]; exact l2), Xab, ha, hH, esz, er2]
 simp only [Xau, beq_self_eq_true, Xab]
def Zcg (i : Int) (s : Xa3) (a : Xea) (r : Pic) : (Int × Int × Int × Int × Bool × Bool × Bool × Int × Int × Int × Int × Int × Int × Int × Bool × Int × Int × ByteArray × Bool × Bool × Int × Int × Int × Bool × Bool × Bool × Int × Int × Int × Int × Int × ByteArray × (List Int) × (List Int) × (List Int) × (List Int)) :=
 (i, s.Seq.Level, s.Seq.Bits, s.Par.Qp, s.Par.Large, s.Par.Exact, s.Par.Confined, s.Rate.Qp, s.Rate.Target, s.Rate.Debt, s.Frame, s.Since, s.Every, s.Reach, s.Has, s.Ref.Wide, s.Ref.High, s.Ref.Dots, a.Has, a.Live, a.Seq.Level, a.Seq.Bits, a.Par.Qp, a.Par.Large, a.Par.Exact, a.Par.Confined, a.Frame, a.Count, a.Gone, r.Wide, r.High, r.Dots, s.Seq.Cols, s.Seq.Rows, a.Seq.Cols, a.Seq.Rows)
structure Adm (k : Nat) (s : Xa3) (a : Xea) : Prop where
 ok : Xhn a = true
 z0 : k = 0 → a = Xyy
 has : 1 ≤ k → a.Has = true ∧ a.Seq = s.Seq ∧ a.Par = s.Par ∧ a.Live = true ∧ a.Frame = s.Frame
 cnt : a.Count = k
 gone : a.Gone = 0
theorem Adm.size {k : Nat} {s : Xa3} {a : Xea} (G : Adm k s a) (hs : Xba s = true) : a.Seq.Cols.length ≤ 1048576 ∧ a.Seq.Rows.length ≤ 1048576 := by
 obtain ⟨t1, so, _⟩ := Xb8 hs
 obtain ⟨q1, q2, _⟩ := Xbb so
 have n1 := Xbc q1
 have n2 := Xbc q2
 by_cases hk : k = 0
 ·
  rw [G.z0 hk]; simp [Xyy]
 ·
  rw [(G.has (by omega)).2.1]; omega
theorem Ymk {q2 : Xa3 × List Pic × List Bool} {q3 : List Int} {q : Seq} {p : Par} (hp : ∀ x ∈ q2.2.1, Xt1 x q = true) (hw : q2.2.2.length = q2.2.1.length) (h5 : q2.2.1.length ≤ 5) (hcp : p.Confined = true) (hL : p.Large = q2.1.Par.Large) (hE : p.Exact = q2.1.Par.Exact) (po : Xi5 (⟨(q3.getD ((0 : Int).toNat) 0).tmod 41, q2.1.Par.Large, q2.1.Par.Exact, true⟩ : Par) = true) : ∀ n k : Nat, k + n = q2.2.1.length → ∀ (s : Xa3) (a : Xea), Run q p k s → Adm k s a → ∃ b, loop (Xex q2 q3) (Zcg (k : Int) s a s.Ref) = some (.out (Zba b)) ∧ Xhn b = true ∧ b.Count = (q2.2.1.length : Int) ∧ b.Seq.Cols.length ≤ 1048576 ∧ b.Seq.Rows.length ≤ 1048576
 | 0, k, hk, s, a, R, G => by
  obtain ⟨z1, z2⟩ := G.size R.ok
  refine ⟨a, Xfv ?_, G.ok, by rw [G.cnt]; omega, z1, z2⟩
  unfold Xex Zcg
  simp only
  rw [snA]
  rfl
 | n + 1, k, hk, s, a, R, G => by
  have hm : maxLen = 9223372036854775807 := rfl
  have pt := Xb8 R.ok
  obtain ⟨s1, s2, b1, b2⟩ := Xbb pt.2.1
  have l1 := Xbc s1
  have l2 := Xbc s2
  obtain ⟨z1, z2⟩ := G.size R.ok
  have hlt : k < q2.2.1.length := by omega
  have hfit : Xt1 (q2.2.1.getD k Zad) s.Seq = true := by rw [R.eS]; exact hp _ (by rw [Xcm _ k hlt]; exact List.getElem_mem _)
  have hsn := R.high
  generalize hpic : q2.2.1.getD k Zad = pic at hfit
  generalize hwant : q2.2.2.getD k Za6 = want
  obtain ⟨l, now, S, e1⟩ := Yg3 (want := want) R.ok hfit (.inr (by omega))
  have H := Yxz (want := want) R.ok hfit
  have R' := R.next (by omega) S
  have hul := Ypd s (Xbp s want) l
  have hul3 : (Xdy s (Xbp s want) l).length ≤ 3 := by rw [hul]; split <;> omega
  have hc : s.Par.Confined = true := by rw [R.eP]; exact hcp
  have hLs : q2.1.Par.Large = s.Par.Large := by rw [R.eP, hL]
  have hEs : q2.1.Par.Exact = s.Par.Exact := by rw [R.eP, hE]
  have es : (⟨(⟨s.Seq.Level, s.Seq.Bits, s.Seq.Cols, s.Seq.Rows⟩ : Seq), (⟨s.Par.Qp, s.Par.Large, s.Par.Exact, s.Par.Confined⟩ : Par), (⟨s.Rate.Qp, s.Rate.Target, s.Rate.Debt⟩ : Rate), s.Frame, s.Since, s.Every, s.Reach, s.Has, (⟨s.Ref.Wide, s.Ref.High, s.Ref.Dots⟩ : Pic)⟩ : Xa3) = s := rfl
  have ea : (⟨a.Has, a.Live, (⟨a.Seq.Level, a.Seq.Bits, a.Seq.Cols, a.Seq.Rows⟩ : Seq), (⟨a.Par.Qp, a.Par.Large, a.Par.Exact, a.Par.Confined⟩ : Par), a.Frame, a.Count, a.Gone⟩ : Xea) = a := rfl
  have hcnt : Yza a.Count = ((k + 1 : Nat) : Int) := by
   unfold Yza
   rw [G.cnt, if_pos (by omega)]
   omega
  have G' : Adm (k + 1) (Xra s (Xbp s want) l now) (Xgp a s) := ⟨Ydq G.ok R.ok, fun h => by omega, fun _ => ⟨rfl, rfl, rfl, rfl, rfl⟩, hcnt, G.gone⟩
  obtain ⟨x, ih, x2⟩ := Ymk hp hw h5 hcp hL hE po n (k + 1) (by omega) _ _ R' G'
  have eA : Xby a (Xdy s (Xbp s want) l) (⟨(q3.getD ((0 : Int).toNat) 0).tmod 41, q2.1.Par.Large, q2.1.Par.Exact, true⟩ : Par) = some (Xgp a s, 0, Xtg s (Xbp s want) l) := by
   cases hkey : Xbp s want with
   | true =>
    rw [hkey] at S
    exact Yv2 G.ok z1 z2 R.ok S po hc hLs hEs
   | false =>
    have hk1 : 1 ≤ k := by
     by_cases h0 : k = 0
     ·
      subst h0
      rw [R.first want] at hkey
      cases hkey
     ·
      omega
    obtain ⟨g1, g2, g3, g4, g5⟩ := G.has hk1
    rw [hkey] at S
    exact (Yr1 G.ok z1 z2 R.ok S po g1 g2 g3).1 g4 g5
  have eP := Yvm R.ok hfit H S po rfl hLs hEs
  have eF := Ywm (Ydq G.ok R.ok) pt.1 (show (Xgp a s).Seq = s.Seq from rfl) rfl
  have r1 : (Xra s (Xbp s want) l now).Ref = now := rfl
  have r2 : (Xgp a s).Live = true := rfl
  have r3 : (Xgp a s).Count = ((k + 1 : Nat) : Int) := hcnt
  have r4 : (Xgp a s).Gone = 0 := G.gone
  have r5 : (Xgp a s).Frame = (Xra s (Xbp s want) l now).Frame := rfl
  have r6 : (Xtg s (Xbp s want) l).Key = Xbp s want := rfl
  have hk3 : (Xbp s want == (((Xdy s (Xbp s want) l).length : Int) == 3)) = true := by
   rw [hul]
   cases Xbp s want <;> rfl
  refine ⟨x, lgo (y := Zcg ((k + 1 : Nat) : Int) (Xra s (Xbp s want) l now) (Xgp a s) now) ?_ ih, x2⟩
  unfold Xex Zcg
  simp only [Int.toNat_natCast]
  rw [syA, rqA, rqA, rqA, rqA, es, hwant, hpic, show (⟨pic.Wide, pic.High, pic.Dots⟩ : Pic) = pic from rfl, e1, Xab]
  simp only
  rw [List.nil_append, Xa2 (show (([] : List ByteArray).length + (Xdy s (Xbp s want) l).length) * 16 ≤ 140737488355328 ∧ ([] : List ByteArray).length + (Xdy s (Xbp s want) l).length ≤ maxLen by rw [List.length_nil]; omega), ea, eA, Xab, rqA, rqA, rqA, rqA, show (⟨s.Ref.Wide, s.Ref.High, s.Ref.Dots⟩ : Pic) = s.Ref from rfl]
  simp only
  rw [eP, Xab]
  simp only
  rw [Xau, show ((0 : Int) != 0) = false from rfl, Xao, Xau, r1, Ysq, Xao, r2, Xau, r3, wkA (e := (k : Int) + 1), show ((((k + 1 : Nat) : Int)) != (k : Int) + 1) = false by rw [bne_eq_false_iff_eq]; omega, Xao, r4, show ((0 : Int) != 0) = false from rfl, Xao, r5, bne_self_eq_false, Xao, show (⟨s.Seq.Level, s.Seq.Bits, s.Seq.Cols, s.Seq.Rows⟩ : Seq) = s.Seq from rfl, eF, Xab, Xau, r6, hk3, Bool.not_true, Xab, Xao]
  congr 3
theorem FnAdmits {p0 : List Int} (h0 : p0.length ≤ maxLen ∧ ∀ y ∈ p0, (Lit.int .u8 y).wf = true) : Xo5 p0 = some true := by
 have hm : maxLen = 9223372036854775807 := rfl
 unfold Xo5
 rw [Ysk, Xab]
 by_cases hbig : (p0.length : Int) > 1048576
 ·
  rw [Xbk hbig]
 rw [Xar hbig]
 obtain ⟨s0, pics, wants, e, ok0, hb0, hh0, hf0, hsi0, hev, hp, hw, h2, h5⟩ := Yc3 p0 (by omega)
 obtain ⟨pl, ep, l12, hpl⟩ := Ya9 p0 (by omega)
 have hp0 := (hpl (pl.getD 0 0) (by rw [Xcm pl 0 (by omega)]; exact List.getElem_mem _)).1
 have R := Yr7 ok0 hb0 hh0 hsi0
 obtain ⟨t1, so, po, ro, hf, he, hsi, hre, hh, hn⟩ := Xb8 ok0
 have eR : s0.Ref = Zct := Yzb (hn hh0)
 have po2 : Xi5 (⟨(pl.getD ((0 : Int).toNat) 0).tmod 41, s0.Par.Large, s0.Par.Exact, true⟩ : Par) = true := by
  unfold Xi5 at po ⊢
  rw [Bool.and_eq_true] at po ⊢
  refine ⟨decide_eq_true ?_, po.2⟩
  rw [show (0 : Int).toNat = 0 from rfl, Xbr hp0]
  simp only
  omega
 rw [e, Xab, ep, Xab]
 simp only
 have G : Adm 0 (Yhb s0) Xyy := ⟨Yr0, fun _ => rfl, fun h => by omega, rfl, rfl⟩
 obtain ⟨b, hb, okb, cb, c1, c2⟩ := Ymk (q2 := (s0, pics, wants)) (q3 := pl) (p := ⟨s0.Par.Qp, s0.Par.Large, s0.Par.Exact, true⟩) hp hw h5 rfl rfl rfl po2 pics.length 0 (by simp) _ _ R G
 have eR2 : (Yhb s0).Ref = ⟨0, 0, ⟨#[]⟩⟩ := eR
 have hb' : loop (Xex (s0, pics, wants) pl) (Zcg 0 (Yhb s0) Xyy ⟨0, 0, ⟨#[]⟩⟩) = some (.out (Zba b)) := by rw [← eR2]; exact hb
 rw [rqA, Xa2 (show (0 : Int).toNat < pl.length by rw [show (0 : Int).toNat = 0 from rfl]; omega), rqA]
 refine (Xgb hb').trans ?_
 have eb : (⟨b.Has, b.Live, (⟨b.Seq.Level, b.Seq.Bits, b.Seq.Cols, b.Seq.Rows⟩ : Seq), (⟨b.Par.Qp, b.Par.Large, b.Par.Exact, b.Par.Confined⟩ : Par), b.Frame, b.Count, b.Gone⟩ : Xea) = b := rfl
 unfold Zba
 simp only
 rw [eb, Xhr b (by omega) (by omega), okb, Xab, Xau, cb, beq_self_eq_true, Xab]
end Go.Proofs.YtnhflbeahbcklaaGreat.A.Pure
