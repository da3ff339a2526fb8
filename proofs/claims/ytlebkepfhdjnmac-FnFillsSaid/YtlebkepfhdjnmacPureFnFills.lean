/- The pure statement of the law FnFills, part 2: over numbers, texts and lists alone, what the law computes is true. Conditions: the sizes of what a machine holds. -/
import Derived.Test.YtlebkepfhdjnmacPureFnFillsx0
namespace Go.Proofs.Ytlebkepfhdjnmac.A.Pure
open Go Go.Proofs Go.Proofs.YtlebkepfhdjnmacAL Go.RowKit
set_option linter.unusedVariables false
set_option linter.unusedSimpArgs false
set_option maxHeartbeats 1000000
theorem Ycy (p : List Int) (hp : p.length = 64) : Xm0 p = some (Xs4 p) := by
 unfold Xm0
 rw [rqA]
 have e1 : loop (Xl4 p) (0, List.replicate (64 : Int).toNat 0) = some (Xlw p) :=
  Ydt (f2 := Xl5 p) (f3 := Xg4 p) (fun i v k => Yk3 p i v k) (fun _ => rfl) (fun _ _ => rfl) (fun i v k a b s hi hv hk hs => by
   unfold Xg4
   simp only
   rw [syA, wkA (e := 8 * (i : Int)), wkA (e := 8 * (i : Int) + (v : Int)), wkA (e := 8 * (i : Int) + (k : Int)), rqA, rqA, Xs8 v k hv hk, Xab, rqA, rqA, rqA, wkA (e := (k : Int) + 1), show (8 * (i : Int) + (v : Int)).toNat = 8 * i + v by omega, show (8 * (i : Int) + (k : Int)).toNat = 8 * i + k by omega]
   rfl) (fun i v a b s => by unfold Xg4; rw [Xar (by simp)])
 have e2 : loop (Xkp (Xlw p)) (0, List.replicate (64 : Int).toNat 0) = some (Xs4 p) :=
  Ydt (f2 := Xkq (Xlw p)) (f3 := Xfv (Xlw p)) (fun i v k => Ykx (Xlw p) i v k) (fun _ => rfl) (fun _ _ => rfl) (fun i v k a b s hi hv hk hs => by
   have hl := Ycq p
   unfold Xfv
   simp only
   rw [syA, wkA (e := 8 * (i : Int)), wkA (e := 8 * (i : Int) + (v : Int)), wkA (e := 8 * (k : Int)), wkA (e := 8 * (k : Int) + (v : Int)), rqA, rqA, Xs8 i k hi hk, Xab, rqA, rqA, rqA, rqA, wkA (e := (k : Int) + 1), show (8 * (i : Int) + (v : Int)).toNat = 8 * i + v by omega, show (8 * (k : Int) + (v : Int)).toNat = 8 * k + v by omega]
   rfl) (fun i v a b s => by unfold Xfv; rw [Xar (by simp)])
 rw [e1, Xab, rqA, e2, Xab]
theorem Xze (p : List Int) (hp : p.length = 64) (i v : Nat) (hi : i < 8) (hv : v < 8) : Xj8 p i v = some (Xzj (Yk3 p i v) 8) := by
 obtain ⟨o, e, h⟩ := Xh7 (f := Xdn p i v) 8 (fun k s => s = Xzj (Yk3 p i v) k) (by
  intro k s hk g
  subst g
  unfold Xdn
  simp only
  rw [syA, wkA (e := 8 * (i : Int)), wkA (e := 8 * (i : Int) + (k : Int)), rqA, Xol v k hv hk, Xab, wkA (e := (k : Int) + 1), show (8 * (i : Int) + (k : Int)).toNat = 8 * i + k by omega, Int.mul_comm (p.getD _ _)]
  exact ⟨_, rfl, rfl⟩) (by intro s; unfold Xdn; rw [Xar (by simp)]) 0 rfl
 unfold Xj8
 rw [e, Xab, h]
theorem Xj9 (p : List Int) (hp : p.length = 64) : Xiw p = some (Xs4 p) := by
 have hm : maxLen = 9223372036854775807 := rfl
 unfold Xiw
 obtain ⟨o, e, ho⟩ := Xc2 (f := Xci p) 8 (fun i s => s = (List.range (8 * i)).map fun j => Xzj (Yk3 p (j / 8) (j % 8)) 8) (by
  intro i s hi g
  subst g
  obtain ⟨r, er, hr⟩ := Xc2 (f := Xcj p ((i : Int), (List.range (8 * i)).map fun j => Xzj (Yk3 p (j / 8) (j % 8)) 8)) 8 (fun v s => s = (List.range (8 * i + v)).map fun j => Xzj (Yk3 p (j / 8) (j % 8)) 8) (by
   intro v s hv g
   subst g
   unfold Xcj
   simp only
   rw [syA, Xze p hp i v hi hv, Xab, Xba (by simp only [List.length_singleton, List.length_map, List.length_range]; omega), wkA (e := (v : Int) + 1)]
   refine ⟨_, rfl, ?_⟩
   rw [show 8 * i + (v + 1) = (8 * i + v) + 1 by omega, List.range_succ, List.map_append, List.map_singleton, show (8 * i + v) / 8 = i by omega, show (8 * i + v) % 8 = v by omega]) (by intro s; unfold Xcj; rw [Xar (by simp)]) _ rfl
  rw [Nat.add_zero] at er
  unfold Xci
  simp only
  rw [syA, er, Xab, wkA (e := (i : Int) + 1)]
  exact ⟨_, rfl, by rw [hr, show 8 * (i + 1) = 8 * i + 8 by omega]⟩) (by intro s; unfold Xci; rw [Xar (by simp)]) [] rfl
 have ho' : o = Xlw p := by rw [ho]; rfl
 rw [e, Xab, ho']
 obtain ⟨o2, e2, ho2⟩ := Xc2 (f := Xb8 (Xlw p)) 8 (fun i s => s = (List.range (8 * i)).map fun j => Xzj (Ykx (Xlw p) (j / 8) (j % 8)) 8) (by
  intro i s hi g
  subst g
  obtain ⟨r, er, hr⟩ := Xc2 (f := Xb9 (Xlw p) ((i : Int), (List.range (8 * i)).map fun j => Xzj (Ykx (Xlw p) (j / 8) (j % 8)) 8)) 8 (fun v s => s = (List.range (8 * i + v)).map fun j => Xzj (Ykx (Xlw p) (j / 8) (j % 8)) 8) (by
   intro v s hv g
   obtain ⟨c, ec, hc⟩ := Xh7 (f := Xca (Xlw p) ((i : Int), (List.range (8 * i)).map fun j => Xzj (Ykx (Xlw p) (j / 8) (j % 8)) 8) ((v : Int), s)) 8 (fun k x => x = Xzj (Ykx (Xlw p) i v) k) (by
    intro k x hk g
    subst g
    have hl := Ycq p
    unfold Xca
    simp only
    rw [syA, Xol i k hi hk, Xab, wkA (e := 8 * (k : Int)), wkA (e := 8 * (k : Int) + (v : Int)), rqA, rqA, wkA (e := (k : Int) + 1), show (8 * (k : Int) + (v : Int)).toNat = 8 * k + v by omega]
    exact ⟨_, rfl, rfl⟩) (by intro s; unfold Xca; rw [Xar (by simp)]) 0 rfl
   subst g
   unfold Xb9
   simp only
   rw [syA, ec, Xab, Xba (by simp only [List.length_singleton, List.length_map, List.length_range]; omega), wkA (e := (v : Int) + 1)]
   refine ⟨_, rfl, ?_⟩
   rw [hc, show 8 * i + (v + 1) = (8 * i + v) + 1 by omega, List.range_succ, List.map_append, List.map_singleton, show (8 * i + v) / 8 = i by omega, show (8 * i + v) % 8 = v by omega]) (by intro s; unfold Xb9; rw [Xar (by simp)]) _ rfl
  rw [Nat.add_zero] at er
  unfold Xb8
  simp only
  rw [syA, er, Xab, wkA (e := (i : Int) + 1)]
  exact ⟨_, rfl, by rw [hr, show 8 * (i + 1) = 8 * i + 8 by omega]⟩) (by intro s; unfold Xb8; rw [Xar (by simp)]) [] rfl
 rw [e2, Xab, ho2]
 rfl
theorem Xvo (l : List Int) (n B : Int) (hn : (l.length : Int) = n) (hn2 : n ≤ 1000000) (h : inB B l) : Xcs l n (-B) B = some true := by
 rw [Xje l n (-B) B (by omega), hn, beq_self_eq_true, Bool.and_true]
 congr 1
 rw [List.all_eq_true]
 intro x hx
 rw [decide_eq_true_eq]; exact h x hx
theorem Xre (o : List Int) {f : Int × List Int → Option (Lp (Int × List Int) (List Int))} (n : Nat) (hn : n ≤ 64) (hl : o.length = n) (hf : ∀ v : Int × List Int, f v = sel (decide (v.1 < (n : Int))) (req (0 ≤ v.1 ∧ v.1 < v.2.length) <| req (v.1.toNat < v.2.length) <| bnd (Xcp (Xaa .i64 ((v.2.getD v.1.toNat 0) + 32)) 64) fun q => req (0 ≤ v.1 ∧ v.1 < v.2.length) <| req (v.1.toNat < v.2.length) <| some (.go (Xaa .i64 (v.1 + 1), (v.2.set v.1.toNat q)))) (some (.done v.2))) : bnd (Xgh o) (fun q => some q.2) = bnd (loop f (0, o)) fun q => some q := by
 unfold Xgh
 have : Xj2 o = f := by
  funext v
  rw [hf, ← hl]; rfl
 rw [this]
 cases loop f (0, o) <;> rfl
theorem Xvg (p : List Int) (hl : p.length = 64) (hb : inB 10000000 p) : Xfq p = Xcm p := by
 unfold Xfq Xcm
 rw [Xvo p 64 10000000 (by omega) (by omega) hb, Xc3 p 64 10000000 (by omega) (by omega) (by omega) hb, Xab, Xab, Bool.not_true, Xax, Xax, Ycy p hl, Xj9 p hl, Xab, Xab]
 exact Xre (Xs4 p) 64 (by omega) (Xxu p) (fun _ => rfl)
def tgA (q : Int → Int → Int → Int → Option (Int × Int × Int × Int)) (v4 : (Int × (List Int))) : Option (Lp (Int × (List Int)) (List Int)) :=
 sel (decide (v4.1 < 16)) (
 req (0 ≤ v4.1 ∧ v4.1 < v4.2.length) <|
 req (v4.1.toNat < v4.2.length) <|
 req (0 ≤ (Xaa .i64 (v4.1 + 1)) ∧ (Xaa .i64 (v4.1 + 1)) < v4.2.length) <|
 req ((Xaa .i64 (v4.1 + 1)).toNat < v4.2.length) <|
 req (0 ≤ (Xaa .i64 (v4.1 + 2)) ∧ (Xaa .i64 (v4.1 + 2)) < v4.2.length) <|
 req ((Xaa .i64 (v4.1 + 2)).toNat < v4.2.length) <|
 req (0 ≤ (Xaa .i64 (v4.1 + 3)) ∧ (Xaa .i64 (v4.1 + 3)) < v4.2.length) <|
 req ((Xaa .i64 (v4.1 + 3)).toNat < v4.2.length) <|
 bnd (q (v4.2.getD v4.1.toNat 0) (v4.2.getD ((Xaa .i64 (v4.1 + 1)).toNat) 0) (v4.2.getD ((Xaa .i64 (v4.1 + 2)).toNat) 0) (v4.2.getD ((Xaa .i64 (v4.1 + 3)).toNat) 0)) fun q8 =>
 req (0 ≤ v4.1 ∧ v4.1 ≤ (Xaa .i64 (v4.1 + 4)) ∧ (Xaa .i64 (v4.1 + 4)) ≤ (v4.2.length : Int)) <|
 req ((v4.1.toNat + ((Xaa .i64 (v4.1 + 4)).toNat - v4.1.toNat) ≤ v4.2.length ∧ ([q8.1, q8.2.1, q8.2.2.1, q8.2.2.2]).length ≤ ((Xaa .i64 (v4.1 + 4)).toNat - v4.1.toNat))) <|
 some (.go (Xaa .i64 (v4.1 + 4), (over v4.2 v4.1.toNat ([q8.1, q8.2.1, q8.2.2.1, q8.2.2.2]))))) (
 some (.done v4.2))
def tgB (v17 : (Int × (List Int))) (q26 : (Int × Int × Int × Int)) (v28 : (Int × (List Int))) : Option (Lp (Int × (List Int)) (List Int)) :=
 sel (decide (v28.1 < 4)) (
 req (0 ≤ v28.1 ∧ v28.1 < ([q26.1, q26.2.1, q26.2.2.1, q26.2.2.2] : List Int).length) <|
 req (0 ≤ (Xaa .i64 (v17.1 + (Xaa .i64 (4 * v28.1)))) ∧ (Xaa .i64 (v17.1 + (Xaa .i64 (4 * v28.1)))) < v28.2.length) <|
 req ((Xaa .i64 (v17.1 + (Xaa .i64 (4 * v28.1)))).toNat < v28.2.length) <|
 some (.go (Xaa .i64 (v28.1 + 1), (v28.2.set ((Xaa .i64 (v17.1 + (Xaa .i64 (4 * v28.1)))).toNat) (([q26.1, q26.2.1, q26.2.2.1, q26.2.2.2] : List Int).getD v28.1.toNat 0))))) (
 some (.done v28.2))
noncomputable def tgC (q : Int → Int → Int → Int → Option (Int × Int × Int × Int)) (v17 : (Int × (List Int))) : Option (Lp (Int × (List Int)) (List Int)) :=
 sel (decide (v17.1 < 4)) (
 req (0 ≤ v17.1 ∧ v17.1 < v17.2.length) <|
 req (v17.1.toNat < v17.2.length) <|
 req (0 ≤ (Xaa .i64 (v17.1 + 4)) ∧ (Xaa .i64 (v17.1 + 4)) < v17.2.length) <|
 req ((Xaa .i64 (v17.1 + 4)).toNat < v17.2.length) <|
 req (0 ≤ (Xaa .i64 (v17.1 + 8)) ∧ (Xaa .i64 (v17.1 + 8)) < v17.2.length) <|
 req ((Xaa .i64 (v17.1 + 8)).toNat < v17.2.length) <|
 req (0 ≤ (Xaa .i64 (v17.1 + 12)) ∧ (Xaa .i64 (v17.1 + 12)) < v17.2.length) <|
 req ((Xaa .i64 (v17.1 + 12)).toNat < v17.2.length) <|
 bnd (q (v17.2.getD v17.1.toNat 0) (v17.2.getD ((Xaa .i64 (v17.1 + 4)).toNat) 0) (v17.2.getD ((Xaa .i64 (v17.1 + 8)).toNat) 0) (v17.2.getD ((Xaa .i64 (v17.1 + 12)).toNat) 0)) fun q26 =>
 bnd (loop (tgB v17 q26) (0, v17.2)) fun v30 =>
 some (.go (Xaa .i64 (v17.1 + 1), v30))) (
 some (.done v17.2))
noncomputable def Ymb (q : Int → Int → Int → Int → Option (Int × Int × Int × Int)) (p0 : (List Int)) : Option (List Int) :=
 bnd (Xg0 p0) fun q1 =>
 bnd (loop (tgA q) (0, q1)) fun v7 =>
 bnd (loop (tgC q) (0, v7)) fun v25 =>
 some v25
theorem Yi1 : Xbp = Ymb Xcu := rfl
abbrev Q4 := Int × Int × Int × Int
def Yde (q : Q4) (i : Nat) : Int := [q.1, q.2.1, q.2.2.1, q.2.2.2].getD i 0
def Xpd (t : Int → Int → Int → Int → Q4) (p : List Int) : List Int := (List.range 16).map fun j => Yde (t (p.getD (4 * (j / 4)) 0) (p.getD (4 * (j / 4) + 1) 0) (p.getD (4 * (j / 4) + 2) 0) (p.getD (4 * (j / 4) + 3) 0)) (j % 4)
def Xpv (p : List Int) : List Int := (List.range 16).map fun j => p.getD (j % 4 * 4 + j / 4) 0
theorem Xra (t : Int → Int → Int → Int → Q4) (p : List Int) : (Xpd t p).length = 16 := by simp [Xpd]
theorem Xpw (p : List Int) : (Xpv p).length = 16 := by simp [Xpv]
theorem Ydc {l m : List Int} {i : Nat} (h : i + m.length ≤ l.length) (j : Nat) : (over l i m).getD j 0 = if i ≤ j ∧ j < i + m.length then m.getD (j - i) 0 else l.getD j 0 := by
 rw [List.getD_eq_getElem?_getD, Yfv h]
 split <;> rw [List.getD_eq_getElem?_getD]
theorem Ykp {q : Int → Int → Int → Int → Option Q4} {t : Int → Int → Int → Int → Q4} (hq : ∀ a b c d, q a b c d = some (t a b c d)) (p : List Int) (hp : p.length = 16) : Ymb q p = some (Xpv (Xpd t (Xpv (Xpd t p)))) := by
 have hm : maxLen = 9223372036854775807 := rfl
 unfold Ymb Xg0
 rw [Xba (by simp only [List.length_nil]; omega), Xab, List.nil_append]
 have hA : loop (tgA q) (0, p) = some (Xpd t p) := by
  have key : ∀ r : Nat, r ≤ 4 → ∀ s : List Int, s.length = 16 → (∀ j, j < 4 * r → s.getD j 0 = (Xpd t p).getD j 0) → (∀ j, 4 * r ≤ j → s.getD j 0 = p.getD j 0) → loop (tgA q) (((4 * r : Nat) : Int), s) = some (Xpd t p) := by
   refine Xf6 _ ?_ ?_
   ·
    intro s h1 h2 _
    refine Xi6 ?_
    unfold tgA
    rw [Xar (by simp), Xsi h1 (Xra t p) h2]
   ·
    intro r hr ih s h1 h2 h3
    refine lgo (y := (((4 * (r + 1) : Nat) : Int), over s (4 * r) [Yde (t (p.getD (4 * r) 0) (p.getD (4 * r + 1) 0) (p.getD (4 * r + 2) 0) (p.getD (4 * r + 3) 0)) 0, Yde (t (p.getD (4 * r) 0) (p.getD (4 * r + 1) 0) (p.getD (4 * r + 2) 0) (p.getD (4 * r + 3) 0)) 1, Yde (t (p.getD (4 * r) 0) (p.getD (4 * r + 1) 0) (p.getD (4 * r + 2) 0) (p.getD (4 * r + 3) 0)) 2, Yde (t (p.getD (4 * r) 0) (p.getD (4 * r + 1) 0) (p.getD (4 * r + 2) 0) (p.getD (4 * r + 3) 0)) 3])) ?_ (ih _ ?_ ?_ ?_)
    ·
     unfold tgA
     simp only
     rw [syA, wkA (e := ((4 * r : Nat) : Int) + 1), wkA (e := ((4 * r : Nat) : Int) + 2), wkA (e := ((4 * r : Nat) : Int) + 3), wkA (e := ((4 * r : Nat) : Int) + 4)]
     rw [rqA, rqA, rqA, rqA, rqA, rqA, rqA, rqA, hq, Xab, rqA, Xba (by simp only [List.length_cons, List.length_nil]; omega)]
     rw [show (((4 * r : Nat) : Int) + 1).toNat = 4 * r + 1 by omega, show (((4 * r : Nat) : Int) + 2).toNat = 4 * r + 2 by omega, show (((4 * r : Nat) : Int) + 3).toNat = 4 * r + 3 by omega, Int.toNat_natCast, h3 _ (by omega), h3 _ (by omega), h3 _ (by omega), h3 _ (by omega)]
     rfl
    ·
     rw [Xw4 (by simp only [List.length_cons, List.length_nil]; omega)]; exact h1
    ·
     intro j hj
     rw [Ydc (by simp only [List.length_cons, List.length_nil]; omega)]
     simp only [List.length_cons, List.length_nil]
     by_cases h : 4 * r ≤ j
     ·
      rw [if_pos (by omega)]
      unfold Xpd
      rw [Xd6 _ (by omega), show 4 * (j / 4) = 4 * r by omega]
      obtain h | h | h | h : j = 4 * r ∨ j = 4 * r + 1 ∨ j = 4 * r + 2 ∨ j = 4 * r + 3 := by omega
      ·
       rw [h, show 4 * r - 4 * r = 0 by omega, show (4 * r) % 4 = 0 by omega]; rfl
      ·
       rw [h, show 4 * r + 1 - 4 * r = 1 by omega, show (4 * r + 1) % 4 = 1 by omega]; rfl
      ·
       rw [h, show 4 * r + 2 - 4 * r = 2 by omega, show (4 * r + 2) % 4 = 2 by omega]; rfl
      ·
       rw [h, show 4 * r + 3 - 4 * r = 3 by omega, show (4 * r + 3) % 4 = 3 by omega]; rfl
     ·
      rw [if_neg (by omega)]; exact h2 j (by omega)
    ·
     intro j hj
     rw [Ydc (by simp only [List.length_cons, List.length_nil]; omega), if_neg (by simp only [List.length_cons, List.length_nil]; omega)]
     exact h3 j (by omega)
  exact key 0 (by omega) p hp (fun j hj => by omega) fun _ _ => rfl
 rw [hA, Xab]
 generalize hR : Xpd t p = R
 have hl : R.length = 16 := by rw [← hR]; exact Xra t p
 have hC : loop (tgC q) (0, R) = some (Xpv (Xpd t (Xpv R))) := by
  have at4 : ∀ j : Nat, j < 16 → (Xpv (Xpd t (Xpv R))).getD j 0 = Yde (t (R.getD (j % 4) 0) (R.getD (j % 4 + 4) 0) (R.getD (j % 4 + 8) 0) (R.getD (j % 4 + 12) 0)) (j / 4) := by
   intro j hj
   rw [Xpv, Xd6 _ hj, Xpd, Xd6 _ (by omega), Xpv, Xd6 _ (by omega), Xd6 _ (by omega), Xd6 _ (by omega), Xd6 _ (by omega)]
   rw [show (j % 4 * 4 + j / 4) / 4 = j % 4 by omega, show (j % 4 * 4 + j / 4) % 4 = j / 4 by omega, show 4 * (j % 4) % 4 * 4 + 4 * (j % 4) / 4 = j % 4 by omega, show (4 * (j % 4) + 1) % 4 * 4 + (4 * (j % 4) + 1) / 4 = j % 4 + 4 by omega, show (4 * (j % 4) + 2) % 4 * 4 + (4 * (j % 4) + 2) / 4 = j % 4 + 8 by omega, show (4 * (j % 4) + 3) % 4 * 4 + (4 * (j % 4) + 3) / 4 = j % 4 + 12 by omega]
  obtain ⟨o, e, o1, o2, _⟩ := Xii (f := tgC q) 4 (fun c s => s.length = 16 ∧ (∀ j, j < 16 → j % 4 < c → s.getD j 0 = (Xpv (Xpd t (Xpv R))).getD j 0) ∧ ∀ j, j < 16 → c ≤ j % 4 → s.getD j 0 = R.getD j 0) (by
   intro c s hc ⟨g1, g2, g3⟩
   obtain ⟨r, er, r1, r2, r3⟩ := Xii (f := tgB ((c : Int), s) (t (R.getD c 0) (R.getD (c + 4) 0) (R.getD (c + 8) 0) (R.getD (c + 12) 0))) 4 (fun i s' => s'.length = 16 ∧ (∀ j, j < 16 → j % 4 ≠ c → s'.getD j 0 = s.getD j 0) ∧ ∀ j, j < 16 → j % 4 = c → j / 4 < i → s'.getD j 0 = Yde (t (R.getD c 0) (R.getD (c + 4) 0) (R.getD (c + 8) 0) (R.getD (c + 12) 0)) (j / 4)) (by
    intro i s' hi ⟨k1, k2, k3⟩
    unfold tgB
    simp only
    rw [syA, Xba (by simp only [List.length_cons, List.length_nil]; omega), wkA (e := 4 * (i : Int)), wkA (e := (c : Int) + 4 * (i : Int)), rqA, rqA, wkA (e := (i : Int) + 1), show ((c : Int) + 4 * (i : Int)).toNat = c + 4 * i by omega, Int.toNat_natCast]
    refine ⟨_, rfl, by rw [List.length_set]; exact k1, fun j hj hjc => ?_, fun j hj hjc hji => ?_⟩
    ·
     rw [Xde _ _ _ _ (by omega), if_neg (by omega)]; exact k2 j hj hjc
    ·
     rw [Xde _ _ _ _ (by omega)]
     by_cases h : c + 4 * i = j
     ·
      rw [if_pos h, show j / 4 = i by omega]; rfl
     ·
      rw [if_neg h]; exact k3 j hj hjc (by omega)) (fun z _ => by unfold tgB; rw [Xar (by simp)]) s ⟨g1, fun _ _ _ => rfl, fun j hj hjc hji => by omega⟩
   unfold tgC
   simp only
   rw [syA, wkA (e := (c : Int) + 4), wkA (e := (c : Int) + 8), wkA (e := (c : Int) + 12), rqA, rqA, rqA, rqA, rqA, rqA, rqA, rqA, hq, Xab, show ((c : Int) + 4).toNat = c + 4 by omega, show ((c : Int) + 8).toNat = c + 8 by omega, show ((c : Int) + 12).toNat = c + 12 by omega, Int.toNat_natCast, g3 c (by omega) (by omega), g3 (c + 4) (by omega) (by omega), g3 (c + 8) (by omega) (by omega), g3 (c + 12) (by omega) (by omega), er, Xab, wkA (e := (c : Int) + 1)]
   refine ⟨r, rfl, r1, fun j hj hjc => ?_, fun j hj hjc => ?_⟩
   ·
    by_cases h : j % 4 = c
    ·
     rw [r3 j hj h (by omega), at4 j hj, h]
    ·
     rw [r2 j hj h]; exact g2 j hj (by omega)
   ·
    rw [r2 j hj (by omega)]; exact g3 j hj (by omega)) (fun z _ => by unfold tgC; rw [Xar (by simp)]) R ⟨hl, fun j hj hjc => by omega, fun _ _ _ => rfl⟩
  rw [e]
  congr 1
  exact Xsi o1 (Xpw _) fun j hj => o2 j hj (by omega)
 rw [hC, Xab]
theorem Xnf (p : List Int) (hl : p.length = 16) : Xgj p = some (Xpv p) := by
 unfold Xgj
 rw [rqA]
 obtain ⟨o, e, o1, o2⟩ := Xii (f := Xc0 p) 16 (fun i s => s.length = 16 ∧ ∀ j, j < 16 → j % 4 * 4 + j / 4 < i → s.getD j 0 = p.getD (j % 4 * 4 + j / 4) 0) (by
  intro i s hi ⟨g1, g2⟩
  unfold Xc0
  simp only
  rw [syA, rqA, rqA, rqA, Xbz (by omega), Xbd (by omega), wkA (e := (i : Int) / 4), wkA (e := (i : Int) % 4 * 4), wkA (e := (i : Int) % 4 * 4 + (i : Int) / 4), rqA, rqA, wkA (e := (i : Int) + 1), Int.toNat_natCast, show ((i : Int) % 4 * 4 + (i : Int) / 4).toNat = i % 4 * 4 + i / 4 by omega]
  refine ⟨_, rfl, by rw [List.length_set]; exact g1, fun j hj hji => ?_⟩
  rw [Xde _ _ _ _ (by omega)]
  by_cases h : i % 4 * 4 + i / 4 = j
  ·
   rw [if_pos h, show j % 4 * 4 + j / 4 = i by omega]
  ·
   rw [if_neg h]; exact g2 j hj (by omega)) (fun z _ => by unfold Xc0; rw [Xar (by simp)]) (List.replicate (16 : Int).toNat 0) ⟨by simp, fun j hj h => by omega⟩
 rw [e, Xab]
 congr 1
 exact Xsi o1 (Xpw p) fun j hj => by rw [o2 j hj (by omega), Xpv, Xd6 _ hj]
theorem Yih {f : Int × List Int → Option (Lp (Int × List Int) (List Int))} {t : Int → Int → Int → Int → Q4} (p : List Int) (h : ∀ (i : Nat) (s : List Int), i < 4 → s.length = 4 * i → f ((i : Int), s) = some (.go (((i + 1 : Nat) : Int), s ++ [(t (p.getD (4 * i) 0) (p.getD (4 * i + 1) 0) (p.getD (4 * i + 2) 0) (p.getD (4 * i + 3) 0)).1, (t (p.getD (4 * i) 0) (p.getD (4 * i + 1) 0) (p.getD (4 * i + 2) 0) (p.getD (4 * i + 3) 0)).2.1, (t (p.getD (4 * i) 0) (p.getD (4 * i + 1) 0) (p.getD (4 * i + 2) 0) (p.getD (4 * i + 3) 0)).2.2.1, (t (p.getD (4 * i) 0) (p.getD (4 * i + 1) 0) (p.getD (4 * i + 2) 0) (p.getD (4 * i + 3) 0)).2.2.2]))) (he : ∀ s, f (4, s) = some (.done s)) : loop f (0, []) = some (Xpd t p) := by
 obtain ⟨o, e, ho⟩ := Xii (f := f) 4 (fun i s => s = (List.range (4 * i)).map fun j => Yde (t (p.getD (4 * (j / 4)) 0) (p.getD (4 * (j / 4) + 1) 0) (p.getD (4 * (j / 4) + 2) 0) (p.getD (4 * (j / 4) + 3) 0)) (j % 4)) (by
  intro i s hi g
  refine ⟨_, h i s hi (by rw [g]; simp), ?_⟩
  rw [g, show 4 * (i + 1) = 4 * i + 1 + 1 + 1 + 1 by omega]
  simp only [List.range_succ, List.map_append, List.map_singleton, List.append_assoc]
  rw [show (4 * i + 1 + 1 + 1) / 4 = i by omega, show (4 * i + 1 + 1) / 4 = i by omega, show (4 * i + 1) / 4 = i by omega, show 4 * i / 4 = i by omega, show (4 * i + 1 + 1 + 1) % 4 = 3 by omega, show (4 * i + 1 + 1) % 4 = 2 by omega, show (4 * i + 1) % 4 = 1 by omega, show 4 * i % 4 = 0 by omega]
  rfl) (fun z _ => he z) [] rfl
 rw [e, ho]; rfl
def Xzr (a b : Int) : Int := Xaa .i64 (if a.tmod b < 0 then Xaa .i64 (a.tdiv b) - 1 else a.tdiv b)
theorem Xno (a b : Int) (hb : b ≠ 0) : Xcp a b = some (Xzr a b) := by
 unfold Xcp Xzr
 rw [Xba hb, Xba hb, Yio]
 split <;> rfl
def t4B (a b c d : Int) : Q4 := (Xaa .i64 ((Xaa .i64 (a + c)) + (Xaa .i64 (b + Xzr d 2))), Xaa .i64 ((Xaa .i64 (a - c)) + (Xaa .i64 (Xzr b 2 - d))), Xaa .i64 ((Xaa .i64 (a - c)) - (Xaa .i64 (Xzr b 2 - d))), Xaa .i64 ((Xaa .i64 (a + c)) - (Xaa .i64 (b + Xzr d 2))))
theorem Xp3 (a b c d : Int) : Xcu a b c d = some (t4B a b c d) := by
 unfold Xcu
 rw [Yed, Xno b 2 (by omega), Xno d 2 (by omega), Xab, Xab]; rfl
theorem Xmt (p : List Int) (hl : p.length = 16) : Xfg p = some (Xpd t4B p) := by
 have hm : maxLen = 9223372036854775807 := rfl
 unfold Xfg
 rw [Yih (f := Xch p) (t := t4B) p (by
  intro i s hi hs
  unfold Xch
  simp only
  rw [syA, wkA (e := 4 * (i : Int)), wkA (e := 4 * (i : Int) + 1), wkA (e := 4 * (i : Int) + 2), wkA (e := 4 * (i : Int) + 3), rqA, rqA, rqA, rqA, show (4 * (i : Int)).toNat = 4 * i by omega, show (4 * (i : Int) + 1).toNat = 4 * i + 1 by omega, show (4 * (i : Int) + 2).toNat = 4 * i + 2 by omega, show (4 * (i : Int) + 3).toNat = 4 * i + 3 by omega, Xno _ 2 (by omega), Xab, Xno _ 2 (by omega), Xab, wkA (e := (i : Int) + 1), Xba (by simp only [List.length_cons, List.length_nil]; omega)]
  rfl) (by intro s; unfold Xch; rw [Xar (by simp)]), Xab]
theorem Xx6 (p : List Int) (hl : p.length = 16) (hb : inB 10000000 p) : Xgr p = Xd9 p := by
 unfold Xgr Xd9
 rw [Xvo p 16 10000000 (by omega) (by omega) hb, Xc3 p 16 10000000 (by omega) (by omega) (by omega) hb, Xab, Xab, Bool.not_true, Xax, Xax, Yi1, Ykp Xp3 p hl, Xmt p hl, Xab, Xab, Xnf _ (Xra _ _), Xab, Xmt _ (Xpw _), Xab, Xnf _ (Xra _ _), Xab]
 exact Xre _ 16 (by omega) (Xpw _) (fun _ => rfl)
theorem Yj5 {β : Type} {c : Prop} [Decidable c] {k k' : Option β} (h : c → k = k') : req c k = req c k' := by
 by_cases hc : c
 ·
  rw [Xba hc, Xba hc, h hc]
 ·
  unfold req; rw [if_neg hc, if_neg hc]
theorem Xof {β : Type} {c : Prop} [Decidable c] {k k' : Option β} (h0 : c) (h : k = k') : req c k = k' := by rw [Xba h0, h]
theorem Ygs {β : Type} {b : Bool} {x x' y y' : β} (h : b = true → x = x') (h2 : b = false → y = y') : sel b x y = sel b x' y' := by
 cases b
 ·
  exact h2 rfl
 ·
  exact h rfl
theorem Ymm {α β : Type} {x x' : Option α} {f f' : α → Option β} (h : x = x') (h2 : ∀ a, x' = some a → f a = f' a) : bnd x f = bnd x' f' := by
 subst h
 cases x with
 | none => rfl
 | some a => exact h2 a rfl
theorem Yh1 {V O : Type} {f : V → Option (Lp V O)} (I : V → Prop) (J : O → Prop) (h1 : ∀ v v', I v → f v = some (.go v') → I v') (h2 : ∀ v o, I v → f v = some (.done o) → J o) {v : V} {o : O} (h : loop f v = some o) (hv : I v) : J o := by
 obtain ⟨k, hk⟩ := Xfm.1 h
 clear h
 induction k generalizing v with
 | zero => cases hk
 | succ k ih =>
  rw [it] at hk
  cases e : f v with
  | none => rw [e] at hk; cases hk
  | some s =>
   rw [e] at hk
   cases s with
   | go y => exact ih (h1 v y hv e) hk
   | done o' => cases hk; exact h2 v o hv e
theorem Xvj (l qp p : Int) (h0 : 0 ≤ qp ∧ qp ≤ 40) (hp : 0 ≤ p ∧ p ≤ 15) : Xfs l qp p = Xdj l qp p := by
 unfold Xfs Xdj
 rw [Xam, Xaj, Yaf qp p h0 hp]
theorem Xvh (l qp : Int) (h0 : 0 ≤ qp ∧ qp ≤ 40) : Xfr l qp = Xco l qp := by
 unfold Xfr Xco
 rw [Xam, Xaj, Yb8 qp h0]
def Xq9 (k : Int) (v7 : Int × List Int) : Option (Lp (Int × List Int) (List Int)) :=
 sel (decide (v7.1 < 4)) (
 bnd (it (Xi5 k v7) 10 (0, v7.2)) fun v18 =>
 some (.go (Xaa .i64 (v7.1 + 1), v18))) (
 some (.done v7.2))
theorem Ydg {k : Int} {v : Int × List Int} {x : Lp (Int × List Int) (List Int)} (h : Xq9 k v = some x) : Xfz k v = some x := by
 unfold Xq9 at h
 unfold Xfz
 rcases Xmb h with ⟨hb, h⟩ | ⟨hb, h⟩
 ·
  rw [hb, Xa3]
  obtain ⟨a, h1, h2⟩ := Xcf h
  rw [Xfm.2 ⟨10, h1⟩, Xab]
  exact h2
 ·
  rw [hb, Xax]; exact h
def Xkk (k : Int) : List Int := (it (Xq9 k) 10 (0, [])).getD []
def Xj4 (k i : Int) : Int := (Xaa .i64 ((Xaa .i64 ((Xaa .i64 (8 * (Xaa .i64 ((Xaa .i64 ((Xaa .i64 (k.tdiv 2)) * 4)) + (Xaa .i64 (i.tdiv 4)))))) + (Xaa .i64 ((k.tmod 2) * 4)))) + (i.tmod 4)))
theorem Yer : ∀ k : Fin 4, (it (Xq9 (k.val : Int)) 10 (0, [])).isSome = true ∧ (Xkk (k.val : Int)).length = 16 ∧ ∀ i : Fin 16, (Xkk (k.val : Int)).getD i.val 0 = Xj4 (k.val : Int) (i.val : Int) ∧ 0 ≤ Xj4 (k.val : Int) (i.val : Int) ∧ Xj4 (k.val : Int) (i.val : Int) < 64 := by decide +kernel
theorem Xwt (k : Nat) (hk : k < 4) : Xip k = some (Xkk k) ∧ (Xkk k).length = 16 ∧ ∀ i : Nat, i < 16 → (Xkk k).getD i 0 = Xj4 k i ∧ 0 ≤ Xj4 k i ∧ Xj4 k i < 64 := by
 obtain ⟨h1, h2, h3⟩ := Yer ⟨k, hk⟩
 refine ⟨?_, h2, fun i hi => h3 ⟨i, hi⟩⟩
 obtain ⟨o, ho⟩ := Option.isSome_iff_exists.1 h1
 have hl := Yen 10 (Yjz (fun v y => Ydg (k := (k : Int))) 10 _ ho)
 unfold Xip
 rw [hl, Xab]
 unfold Xkk; simp only at ho; rw [ho]; rfl
theorem Xmi (p : List Int) (c : Xd1) (hc : Xdp c = true) (hp : Ydv p = true) : Xey p c = Xbg p c := by
 have hq := Xvs hc
 obtain ⟨hl, hb⟩ := Yh2 hp
 unfold Xey Xbg
 rw [Xfx, Xei, Xk8 p (by omega), hp, hc, Xc3 p 64 5000 (by omega) (by omega) (by omega) hb]
 simp only [Xab, Xa3, Bool.not_true, Xax]
 rw [Xmv 8 (Or.inr rfl) p (by omega)]
 refine Ygs (fun _ => rfl) fun _ => Ygs (fun _ => ?_) fun _ => ?_
 ·
  obtain ⟨w, ew, w1, w2⟩ := Xbn 8 (Or.inr rfl) p 5000 (by omega) (by omega) hb
  rw [ew, Xab, Xab]
  have hloop : loop (Xc6 c (w, true)) (0, (w, true).1) = loop (Xa0 c) (0, (w, true).1) := by
   have : Xc6 c (w, true) = Xa0 c := by
    funext v
    unfold Xc6 Xa0
    simp only [Xvh _ _ hq, w1, hl]
    rfl
   rw [this]
  rw [hloop]
  obtain ⟨l, el, l1, l2⟩ := Xjg (f := Xa0 c) 64 (fun x => -5000 ≤ x ∧ x ≤ 5000) (fun x => -5760000 ≤ x ∧ x ≤ 5760000) (by
   intro i l hi hll hx
   obtain ⟨d, ed, d1, d2⟩ := Xlh (l.getD i 0) c.Qp hx hq
   unfold Xa0
   simp only [Int.toNat_natCast]
   rw [syA, rqA, rqA, ed, Xab, rqA, rqA, wkA (e := (i : Int) + 1)]
   exact ⟨d, rfl, d1, d2⟩) (by intro s; unfold Xa0; rw [Xar (by simp)]) w (by omega) w2
  simp only [el, Xab]
  rw [Xvg l l1 (Xjf l2 (by omega))]
 ·
  refine Yj5 fun _ => Ymm ?_ fun _ _ => rfl
  refine Xzu (fun v => (∃ k : Nat, v.1 = (k : Int) ∧ k ≤ 4) ∧ v.2.length = 64) ?_ ?_ ⟨⟨0, rfl, by omega⟩, by simp⟩
  ·
   intro ⟨k0, s⟩ ⟨⟨k, ek, hk⟩, hs⟩
   simp only at ek hs
   subst ek
   unfold Xf7 Xa7
   simp only
   refine Ygs (fun hk4 => ?_) fun _ => rfl
   have hk4 : k < 4 := by have := of_decide_eq_true hk4; omega
   rw [wkA (e := 16 * (k : Int)), wkA (e := 16 * (k : Int) + 16)]
   refine Yj5 fun _ => ?_
   rw [show (16 * (k : Int)).toNat = 16 * k by omega, show (16 * (k : Int) + 16).toNat - 16 * k = 16 by omega]
   have hcut : ((p.drop (16 * k)).take 16).length = 16 := by rw [List.length_take, List.length_drop]; omega
   obtain ⟨a, ea, a1, a2⟩ := Xbn 4 (Or.inl rfl) ((p.drop (16 * k)).take 16) 5000 (by omega) (by omega) (Ya8 (Ya6 hb _) _)
   rw [Xmv 4 (Or.inl rfl) _ (by omega), ea, Xab, Xab]
   have hloop : loop (Xcv c (a, true)) (0, (a, true).1) = loop (Xaw c) (0, (a, true).1) := by
    have : Xcv c (a, true) = Xaw c := by
     funext v
     unfold Xcv Xaw
     simp only [show ((a.length : Nat) : Int) = 16 by omega]
     refine Ygs (fun h16 => ?_) fun _ => rfl
     have := of_decide_eq_true h16
     refine Yj5 fun h0 => Yj5 fun _ => ?_
     rw [Xvj _ _ _ hq (by omega)]
    rw [this]
   rw [hloop]
   obtain ⟨l, el, l1, l2⟩ := Xjg (f := Xaw c) 16 (fun x => -5000 ≤ x ∧ x ≤ 5000) (fun x => -10000000 ≤ x ∧ x ≤ 10000000) (by
    intro i l hi hll hx
    obtain ⟨d, ed, d1, d2⟩ := Xlj (l.getD i 0) c.Qp i hx hq (by omega)
    unfold Xaw
    simp only [Int.toNat_natCast]
    rw [syA, rqA, rqA, ed, Xab, rqA, rqA, wkA (e := (i : Int) + 1)]
    exact ⟨d, rfl, d1, d2⟩) (by intro s; unfold Xaw; rw [Xar (by simp)]) a (by omega) a2
   obtain ⟨b, eb, b1, b2⟩ := Xmp l l1 l2
   obtain ⟨q1, q2, q3⟩ := Xwt k hk4
   simp only [el, Xab]
   rw [Xx6 l l1 l2, eb, Xab, Xab, q1, Xab]
   refine Ymm ?_ fun _ _ => rfl
   have : Xd7 b (Xkk k) = Xa1 ((k : Int), s) b := by
    funext v
    unfold Xd7 Xa1
    simp only [show (((Xkk k).length : Nat) : Int) = 16 by omega]
    refine Ygs (fun h16 => ?_) fun _ => rfl
    have h16 := of_decide_eq_true h16
    by_cases h0 : 0 ≤ v.1
    ·
     obtain ⟨i, hi⟩ : ∃ i : Nat, v.1 = (i : Int) := ⟨v.1.toNat, by omega⟩
     obtain ⟨v1, v2⟩ := v
     simp only at hi h0 h16
     subst hi
     obtain ⟨r1, r2, r3⟩ := q3 i (by omega)
     have e1 : (Xaa .i64 ((Xaa .i64 ((Xaa .i64 (8 * (Xaa .i64 ((Xaa .i64 ((Xaa .i64 ((k : Int).tdiv 2)) * 4)) + (Xaa .i64 ((i : Int).tdiv 4)))))) + (Xaa .i64 (((k : Int).tmod 2) * 4)))) + ((i : Int).tmod 4))) = Xj4 k i := rfl
     simp only [Int.toNat_natCast, r1, e1]
     refine Xof (by omega) (Xof (by omega) (Xof (by omega) (Xof (by omega) ?_)))
     refine (Xof (by omega) (Xof (by omega) (Xof (by omega) (Xof (by omega) (Xof (by omega) (Xof (by omega) ?_)))))).symm
     rfl
    ·
     unfold req
     rw [if_neg (by omega), if_pos (by omega), if_pos (by omega), if_pos (by omega), if_pos (by omega), if_neg (by omega)]
   rw [this]
  ·
   intro ⟨k0, s⟩ v' ⟨⟨k, ek, hk⟩, hs⟩ he
   simp only at ek hs
   subst ek
   unfold Xa7 at he
   simp only at he
   rcases Xmb he with ⟨hb4, he⟩ | ⟨_, he⟩
   ·
    have hk4 : k < 4 := by have := of_decide_eq_true hb4; omega
    obtain ⟨_, he⟩ := Xa2 he
    obtain ⟨a, _, he⟩ := Xcf he
    obtain ⟨l, _, he⟩ := Xcf he
    obtain ⟨b, _, he⟩ := Xcf he
    obtain ⟨r, hr, he⟩ := Xcf he
    rw [wkA (e := (k : Int) + 1)] at he
    cases he
    refine ⟨⟨k + 1, rfl, by omega⟩, ?_⟩
    refine Yh1 (f := Xa1 ((k : Int), s) b) (fun v => v.2.length = 64) (fun o => o.length = 64) ?_ ?_ hr hs
    ·
     intro v v' hv he
     unfold Xa1 at he
     rcases Xmb he with ⟨_, he⟩ | ⟨_, he⟩
     ·
      obtain ⟨_, he⟩ := Xa2 he
      obtain ⟨_, he⟩ := Xa2 he
      obtain ⟨_, he⟩ := Xa2 he
      obtain ⟨_, he⟩ := Xa2 he
      obtain ⟨_, he⟩ := Xa2 he
      obtain ⟨_, he⟩ := Xa2 he
      obtain ⟨_, he⟩ := Xa2 he
      obtain ⟨_, he⟩ := Xa2 he
      cases he
      simp only [List.length_set]; exact hv
     ·
      cases he
    ·
     intro v o hv he
     unfold Xa1 at he
     rcases Xmb he with ⟨_, he⟩ | ⟨_, he⟩
     ·
      obtain ⟨_, he⟩ := Xa2 he
      obtain ⟨_, he⟩ := Xa2 he
      obtain ⟨_, he⟩ := Xa2 he
      obtain ⟨_, he⟩ := Xa2 he
      obtain ⟨_, he⟩ := Xa2 he
      obtain ⟨_, he⟩ := Xa2 he
      obtain ⟨_, he⟩ := Xa2 he
      obtain ⟨_, he⟩ := Xa2 he
      cases he
     ·
      cases he; exact hv
   ·
    cases he
theorem Ych {p : Pic} (ok : Xck p = true) (x y : Int) : Xc9 p x y = Xdw p x y := by rw [Xwl ok, Xdc ok]
theorem Xth {p : Pic} (ok : Xck p = true) {x y : Int} (hx : x.tmod 8 = 0) (hy : y.tmod 8 = 0) (h : Xij p x y = true) : Xb2 p x y = some true := Xt6 ok x y hx hy h
theorem Xz9 {p : Pic} (ok : Xck p = true) {x y : Int} (hx : x.tmod 8 = 0) (hy : y.tmod 8 = 0) (h : Xij p x y = true) : Xik p x y = Xd5 p x y := by
 unfold Xik Xd5
 rw [Xgu, ok, Xth ok hx hy h, Xef ok hx hy h]
 have : Xgq p x y = Xbt p x y := by
  funext v
  unfold Xgq Xbt
  simp only [Ych ok]
 simp only [Xab, Xa3, Bool.not_true, Xax, this, Ych ok]
theorem Ydx {e : Xhn} (h : Xmj e) : Xil e = some true := by
 obtain ⟨h1, h2, h3, h4, h5, h6⟩ := h
 have side : ∀ l : List Int, (l.length = 0 ∨ l.length = 8) → (∀ x ∈ l, 0 ≤ x ∧ x ≤ 255) → bnd (sel (decide ((l.length : Int) > 0)) (bnd (Xcs l 8 0 255) fun q10 => some (!q10)) (some false)) (fun v9 => some v9) = some false := by
  intro l hl hb
  rcases hl with e | e
  ·
   rw [snA]; rfl
  ·
   rw [syA, Xje l 8 0 255 (by omega)]
   have : (l.all fun x => decide (0 ≤ x ∧ x ≤ 255)) = true := List.all_eq_true.2 fun x hx => decide_eq_true (hb x hx)
   rw [this, e]; rfl
 have go : ∀ (i : Nat) (l : List Int), i < 2 → ([e.Above, e.Left]).getD i Xu6 = l → (l.length = 0 ∨ l.length = 8) → (∀ x ∈ l, 0 ≤ x ∧ x ≤ 255) → Xdq e (i : Int) = some (.go ((i + 1 : Nat) : Int)) := by
  intro i l hi hg hl hb
  unfold Xdq
  simp only [Int.toNat_natCast, hg]
  have hs := side l hl hb
  rw [Xdi (by simp only [List.length_cons, List.length_nil]; omega), Xba (by simp only [List.length_cons, List.length_nil]; omega), Xba (by simp only [List.length_cons, List.length_nil]; omega)]
  obtain ⟨a, ea, hs⟩ := Xcf hs
  injection hs with hs
  subst hs
  rw [ea, Xab, Xax, wkA]
  rfl
 unfold Xil
 have : loop (Xdq e) 0 = some (.out ()) := by
  refine lgo (go 0 e.Above (by omega) rfl h1 h3) (lgo (go 1 e.Left (by omega) rfl h2 h4) (Xi6 ?_))
  unfold Xdq
  rw [Xar (by simp)]
 rw [this, Xab, Xam, Xab, decide_eq_true ⟨h5, h6⟩]
def Yf9 (l : List Int) : Nat → Int
 | 0 => 0
 | n + 1 => Yf9 l n + l.getD n 0
theorem Xnu {l : List Int} (h : ∀ x ∈ l, 0 ≤ x ∧ x ≤ 255) : ∀ n : Nat, n ≤ l.length → 0 ≤ Yf9 l n ∧ Yf9 l n ≤ 255 * n
 | 0, _ => by simp [Yf9]
 | n + 1, hn => by
  have a := Xnu h n (by omega)
  have b := h (l.getD n 0) (by rw [Xct l n (by omega)]; exact List.getElem_mem _)
  rw [Yf9]; omega
theorem Yb1 {f : Int × Int → Option (Lp (Int × Int) Int)} {l : List Int} (hl : l.length ≤ 64) (h : ∀ x ∈ l, 0 ≤ x ∧ x ≤ 255) (hf : ∀ v, f v = sel (decide (v.2 < (l.length : Int))) (req (0 ≤ v.2 ∧ v.2 < l.length) <| some (.go (Xaa .i64 (v.1 + (l.getD v.2.toNat 0)), Xaa .i64 (v.2 + 1)))) (some (.done v.1))) (a : Int) (ha : 0 ≤ a ∧ a ≤ 100000) : loop f (a, 0) = some (a + Yf9 l l.length) := by
 obtain ⟨o, e, ho⟩ := Xh7 (f := f) l.length (fun i s => s = a + Yf9 l i) (by
  intro i s hi g
  have r := Xnu h i (by omega)
  have b := h (l.getD i 0) (by rw [Xct l i (by omega)]; exact List.getElem_mem _)
  rw [hf]
  simp only [Int.toNat_natCast]
  rw [syA, rqA, wkA (e := s + l.getD i 0), wkA (e := (i : Int) + 1)]
  exact ⟨_, rfl, by rw [Yf9]; omega⟩) (by intro s; rw [hf, Xar (by simp)]) a (by simp [Yf9])
 rw [e, ho]
theorem Xq4 {l : List Int} (hl : l.length ≤ 64) (h : ∀ x ∈ l, 0 ≤ x ∧ x ≤ 255) : Xgi l = some (Yf9 l l.length) := by
 unfold Xgi
 rw [Yb1 (f := Xl3 l) hl h (fun _ => rfl) 0 (by omega), Xab, Int.zero_add]
theorem Yh6 {e : Xhn} (h : Xmj e) : (sel (decide ((Xaa .i64 ((e.Above.length : Int) + (e.Left.length : Int))) > 0)) (bnd (Xgi e.Above) fun q5 => bnd (Xgi e.Left) fun q6 => req ((2 : Int) ≠ 0) <| req ((Xaa .i64 ((e.Above.length : Int) + (e.Left.length : Int))) ≠ 0) <|
  some (Xaa .i64 ((Xaa .i64 ((Xaa .i64 (q5 + q6)) + (Xaa .i64 ((Xaa .i64 ((e.Above.length : Int) + (e.Left.length : Int))).tdiv 2)))).tdiv (Xaa .i64 ((e.Above.length : Int) + (e.Left.length : Int)))))) (some 128)) = Xf9 e := by
 obtain ⟨h1, h2, h3, h4, h5, h6⟩ := h
 unfold Xf9
 have r1 := Xnu h3 e.Above.length (Nat.le_refl _)
 have r2 := Xnu h4 e.Left.length (Nat.le_refl _)
 rw [wkA (e := (e.Above.length : Int) + (e.Left.length : Int))]
 by_cases hz : (e.Above.length : Int) + (e.Left.length : Int) = 0
 ·
  rw [snA, Xbm (by simpa using hz)]
 ·
  rw [syA, Xbo (by simpa using hz), Xq4 (by omega) h3, Xab, Xq4 (by omega) h4, Xab, rqA, Xba hz, rqA, Xbd (a := (e.Above.length : Int) + (e.Left.length : Int)) (by omega), wkA (e := ((e.Above.length : Int) + (e.Left.length : Int)) / 2),
   Yb1 (f := Xcq e) (by omega) h3 (fun _ => rfl) _ (by omega), Xab, Yb1 (f := Xcr e) (by omega) h4 (fun _ => rfl) _ (by omega), Xab, Xba hz, wkA (e := Yf9 e.Above e.Above.length + Yf9 e.Left e.Left.length), wkA (e := Yf9 e.Above e.Above.length + Yf9 e.Left e.Left.length + ((e.Above.length : Int) + (e.Left.length : Int)) / 2)]
  congr 3; omega
theorem Ydb (l : List Int) (hl : l.length = 0 ∨ l.length = 8) : ∃ g, Xhy l = some g ∧ g.length = 8 ∧ ∀ k : Nat, k < 8 → Xdo l k = some (g.getD k 0) := by
 unfold Xhy
 rcases hl with e | e
 ·
  refine ⟨_, Xbm (by rw [e]; rfl), rfl, fun k hk => ?_⟩
  unfold Xdo
  rw [Xbm (by rw [e]; rfl)]
  congr 1
  obtain rfl | rfl | rfl | rfl | rfl | rfl | rfl | rfl : k = 0 ∨ k = 1 ∨ k = 2 ∨ k = 3 ∨ k = 4 ∨ k = 5 ∨ k = 6 ∨ k = 7 := by omega
  all_goals rfl
 ·
  refine ⟨l, Xbo (by rw [e]; rfl), e, fun k hk => ?_⟩
  unfold Xdo
  rw [Xbo (by rw [e]; rfl), rqA, Int.toNat_natCast]
theorem Yak (n a b : Int) : Xc5 n a b = Xe7 n a b := by rw [Xgp, Xcy]
def Xrw (m mid v : Int) (A B : List Int) (i : Nat) : Int := sel (m == 0) mid (sel (m == 1) (A.getD (i % 8) 0) (sel (m == 2) (B.getD (i / 8) 0) (Xbe (Xaa .i64 (Xaa .i64 (B.getD (i / 8) 0 + A.getD (i % 8) 0) - v)) 0 255)))
theorem Ygk {f1 : Int × List Int → Option (Lp (Int × List Int) (List Int))} {f2 : Int × List Int → Int × List Int → Option (Lp (Int × List Int) (List Int))} (g : Nat → Int)
  (h1 : ∀ v, f1 v = sel (decide (v.1 < 8)) (bnd (loop (f2 v) (0, v.2)) fun w => some (.go (Xaa .i64 (v.1 + 1), w))) (some (.done v.2)))
  (h2 : ∀ (r c : Nat) (a s : List Int), r < 8 → c < 8 → s.length = 8 * r + c → f2 ((r : Int), a) ((c : Int), s) = some (.go (((c + 1 : Nat) : Int), s ++ [g (8 * r + c)])))
  (h3 : ∀ (r : Nat) (a s : List Int), f2 ((r : Int), a) (8, s) = some (.done s)) : loop f1 (0, []) = some ((List.range 64).map g) := by
 obtain ⟨o, e, ho⟩ := Xc2 (f := f1) 8 (fun r s => s = (List.range (8 * r)).map g) (by
  intro r s hr hs
  obtain ⟨q, eq, hq⟩ := Xii (f := f2 ((r : Int), s)) 8 (fun c s' => s' = (List.range (8 * r + c)).map g) (by
   intro c s' hc hs'
   exact ⟨_, h2 r c s s' hr hc (by rw [hs']; simp), by rw [hs', show 8 * r + (c + 1) = (8 * r + c) + 1 by omega, List.range_succ, List.map_append]; rfl⟩) (fun z _ => h3 r s z) s hs
  rw [h1]
  refine ⟨q, ?_, by rw [hq, show 8 * (r + 1) = 8 * r + 8 by omega]⟩
  simp only
  rw [syA, eq, Xab, wkA]
  rfl) (by intro s; rw [h1, Xar (by simp)]) [] rfl
 rw [e, ho]
theorem Yb7 (m : Int) (hm0 : 0 ≤ m ∧ m ≤ 3) {e : Xhn} (h : Xmj e) : ∃ g, Xge m e = some g ∧ Xcn m e = some g := by
 have hm : maxLen = 9223372036854775807 := rfl
 obtain ⟨mid, em, m1, m2⟩ := Xos h
 obtain ⟨A, eA, hA, fA⟩ := Ydb e.Above h.1
 obtain ⟨B, eB, hB, fB⟩ := Ydb e.Left h.2.1
 obtain ⟨v, ev⟩ : ∃ v, sel (decide (e.Corner < 0)) (some (128 : Int)) (some e.Corner) = some v := by rw [Yip]; exact ⟨_, rfl⟩
 refine ⟨(List.range 64).map (Xrw m mid v A B), ?_, ?_⟩
 ·
  unfold Xge
  rw [Ydx h, Xab, Xa3, Xam, Xab, decide_eq_true hm0, Bool.not_true, Xab, Xax, Yh6 h, em, Xab, eA, Xab, eB, Xab, ev, Xab, Ygk (f1 := Xi2 m mid A B v) (f2 := Xeb m mid A B v) (Xrw m mid v A B) (fun _ => rfl) ?_ ?_, Xab]
  ·
   intro r c a s hr hc hs
   unfold Xeb Xrw
   simp only [Int.toNat_natCast, Xgp, Xab]
   rw [syA, wkA (e := (c : Int) + 1), show (8 * r + c) % 8 = c by omega, show (8 * r + c) / 8 = r by omega]
   cases (m == 0) with
   | true => rw [Xa3, Xba (by simp only [List.length_singleton]; omega), Xab]; rfl
   | false =>
    rw [Xax]
    cases (m == 1) with
    | true => rw [Xa3, rqA, Xba (by simp only [List.length_singleton]; omega), Xab]; rfl
    | false =>
     rw [Xax]
     cases (m == 2) with
     | true => rw [Xa3, rqA, Xba (by simp only [List.length_singleton]; omega), Xab]; rfl
     | false => rw [Xax, rqA, rqA, Xba (by simp only [List.length_singleton]; omega), Xab]; rfl
  ·
   intro r a s
   unfold Xeb
   rw [Xar (by simp)]
 ·
  unfold Xcn
  rw [Xi9 h, Xab, Xa3, Xaj, Xab, decide_eq_true hm0, Bool.not_true, Xab, Xax, ev, Xab]
  obtain ⟨o, eo, ho⟩ := Xc2 (f := Xbk m e v) 64 (fun i s => s = (List.range i).map (Xrw m mid v A B)) (by
   intro i s hi hs
   have hlen : s.length = i := by rw [hs]; simp
   refine ⟨s ++ [Xrw m mid v A B i], ?_, by rw [hs, List.range_succ, List.map_append]; rfl⟩
   unfold Xbk Xrw
   simp only
   rw [syA, rqA, Xbz (by omega), show (i : Int) % 8 = ((i % 8 : Nat) : Int) by omega, fA _ (by omega), Xab, rqA, Xbd (by omega), wkA (e := (i : Int) / 8), show (i : Int) / 8 = ((i / 8 : Nat) : Int) by omega, fB _ (by omega), Xab, wkA (e := (i : Int) + 1), em]
   cases (m == 0) with
   | true => rw [Xa3, Xab, Xba (by simp only [List.length_singleton]; omega), Xab]; rfl
   | false =>
    rw [Xax]
    cases (m == 1) with
    | true => rw [Xa3, Xba (by simp only [List.length_singleton]; omega), Xab]; rfl
    | false =>
     rw [Xax]
     cases (m == 2) with
     | true => rw [Xa3, Xba (by simp only [List.length_singleton]; omega), Xab]; rfl
     | false => rw [Xax, Xcy, Xab, Xba (by simp only [List.length_singleton]; omega), Xab]; rfl) (by intro s; unfold Xbk; rw [Xar (by simp)]) [] rfl
  rw [eo, Xab, ho]
theorem Yad (m : Int) (hm0 : 0 ≤ m ∧ m ≤ 3) {e : Xhn} (h : Xmj e) : Xge m e = Xcn m e := by
 obtain ⟨g, h1, h2⟩ := Yb7 m hm0 h
 rw [h1, h2]
theorem Xs6 (g b : List Int) (hg : Xgc g = true) (hl : b.length = 64) (hb : inB 10000000 b) : Xhr g b = Xe8 g b := by
 obtain ⟨g1, g2⟩ := Xky hg
 unfold Xhr Xe8
 rw [Xja g hg, Xwk g (by omega), hg, Xvo b 64 10000000 (by omega) (by omega) hb, Xc3 b 64 10000000 (by omega) (by omega) (by omega) hb]
 have : Xh9 g b = Xcb g b := by
  funext v
  unfold Xh9 Xcb
  simp only [Yak, show ((g.length : Nat) : Int) = 64 by omega]
 simp only [Xab, Xa3, Bool.not_true, Xax, this]
theorem Xxr {s : Xap} (h : Xpm s = true) (h1 : s.Kind = 0) : s.Dx = 0 ∧ s.Dy = 0 := by
 unfold Xpm at h
 rw [h1] at h
 simp at h
 exact ⟨h.2.1, h.2.2.1⟩
theorem Yf5 {s : Xap} (h : Xpm s = true) : (-16 ≤ s.Dx ∧ s.Dx ≤ 16) ∧ (-16 ≤ s.Dy ∧ s.Dy ≤ 16) := by
 have hk := Xlp h
 obtain h1 | h1 | h1 : s.Kind = 0 ∨ s.Kind = 1 ∨ s.Kind = 2 := by omega
 ·
  obtain ⟨a, b⟩ := Xxr h h1; omega
 ·
  obtain ⟨a, b, _⟩ := Xmf h h1; exact ⟨a, b⟩
 ·
  unfold Xpm at h
  rw [h1] at h
  simp at h
  omega
theorem Yee (s : Xap) (c : Xd1) : Xcw s c = some (Xlo s c) := by
 unfold Xcw Xlo
 cases c.Key <;> rfl
structure Ynf (now ref : Pic) (l t x y : Int) (c : Xd1) (q : Xap) : Prop where
 ok : Xck now = true
 hx : x.tmod 8 = 0
 hy : y.tmod 8 = 0
 h0 : Xij now x y = true
 hl : 0 ≤ l ∧ l ≤ 256
 ht : 0 ≤ t ∧ t ≤ 256
 hc : Xdp c = true
 hs : q.Levels.length ≤ 1048576
theorem Xju {now ref : Pic} {l t x y : Int} {c : Xd1} {q : Xap} (h : Ynf now ref l t x y c q) (hq : Xpm q = true) (hL : Xlo q c = true) (hr : c.Key = false → Xck ref = true) : ∃ d, Xcd now ref l t c x y q = some (d, true) ∧ Xhc now ref l t c x y q = some (d, true) ∧ Xgc d = true := by
 obtain ⟨ok, hx, hy, h0, hl, ht, hc, hs⟩ := h
 obtain ⟨k1, k2, k3⟩ := Xa6 ok
 have h0' := h0
 unfold Xij at h0'
 rw [decide_eq_true_eq] at h0'
 have dxy := Yf5 hq
 unfold Xhc Xcd
 rw [Xef ok hx hy h0, Xab, Xa3, Xaj, Xab, decide_eq_true hl, Xa3, Xaj, Xab, decide_eq_true ht, Xa3, Xmq, Xab, hq, Xa3, Xfx, Xab, hc, Bool.not_true, Xab, Xax]
 rw [Xgu, Xab, ok, Xa3, Xth ok hx hy h0, Xab, Xa3, Xam, Xab, decide_eq_true hl, Xa3, Xam, Xab, decide_eq_true ht, Xa3, Xi4 q (by omega), Xab, hq, Xa3, Xei, Xab, hc, Xa3, Yee, Xab, hL, Xa3]
 by_cases h2 : q.Kind = 2
 ·
  obtain ⟨hm, hlv⟩ := Xnt hq h2
  obtain ⟨e, ee, he⟩ := Xm6 ok hx hy h0
  obtain ⟨b, eb, b1, b2⟩ := Xeu q.Levels c hc hlv
  obtain ⟨g, eg, hg⟩ := Xm8 q.Mode hm he
  obtain ⟨j, ej, hj⟩ := Xoj g b hg b1 b2
  refine ⟨j, ?_, ?_, hj⟩
  ·
   rw [Xbo (b := q.Kind != 2) (by simpa using h2), Xab, Xax, Xbo (by rw [h2]; rfl), Xmi q.Levels c hc hlv, eb, Xab, Xbo (by rw [h2]; rfl), Xz9 ok hx hy h0, ee, Xab, Yad q.Mode hm he, eg, Xab, Xs6 g b hg b1 b2, ej, Xab]
  ·
   rw [Xbm (by simpa using h2), ee, Xab, eb, Xab, eg, Xab, ej, Xab]
 ·
  have hK : c.Key = false := by
   unfold Xlo at hL
   cases hk : c.Key with
   | false => rfl
   | true => rw [hk] at hL; simp at hL; exact absurd hL h2
  have rok := hr hK
  rw [Xbm (b := q.Kind != 2) (by simpa using h2), Xgu, Xab, rok, Bool.not_true, Xab, Xax]
  rw [Xbo (b := q.Kind == 2) (by simpa using h2), hK, Xax, Xhb, Xab, rok, Bool.not_true, Xab, Xax]
  rw [wkA (e := l + x), wkA (e := l + x + q.Dx), wkA (e := t + y), wkA (e := t + y + q.Dy), Xm5 rok _ _ (by omega) (by omega), Xab, Xqr rok _ _ (by omega) (by omega), Xab, Xqr rok _ _ (by omega) (by omega)]
  by_cases h3 : q.Kind = 0
  ·
   obtain ⟨z1, z2⟩ := Xxr hq h3
   rw [Xbm (b := q.Kind == 0) (by simpa using h3), Xbm (b := q.Kind == 0) (by simpa using h3), z1, z2, Int.add_zero, Int.add_zero]
   exact ⟨_, rfl, rfl, Xps _ _ _⟩
  ·
   have h1 : q.Kind = 1 := by have := Xlp hq; omega
   obtain ⟨_, _, hlv⟩ := Xmf hq h1
   obtain ⟨b, eb, b1, b2⟩ := Xeu q.Levels c hc hlv
   obtain ⟨j, ej, hj⟩ := Xoj _ b (Xps ref (l + x + q.Dx) (t + y + q.Dy)) b1 b2
   rw [Xbo (b := q.Kind == 0) (by simpa using h3), Xbo (b := q.Kind == 0) (by simpa using h3), Xmi q.Levels c hc hlv, eb, Xab, Xab, Xbm (b := q.Kind == 1) (by simpa using h1), Xab, Xs6 _ b (Xps _ _ _) b1 b2, ej, Xab]
   exact ⟨_, rfl, rfl, hj⟩
theorem Yj6 {β : Type} {a b c : Prop} [Decidable a] [Decidable b] [Decidable c] (hb : b) (hc : c) (k : Option β) : req a (req b (req c k)) = req b (req c (req a k)) := by
 rw [Xba hb, Xba hc, Xba hb, Xba hc]
theorem Yjn {p : Pic} (ok : Xck p = true) : p.Dots.size ≤ 65536 := by
 obtain ⟨k1, k2, k3⟩ := Xa6 ok
 have := Xeg k1 k2
 omega
theorem Yib {p : Pic} {x y : Int} {d : List Int} (hd : Xgc d = true) (hp : p.Dots.size ≤ maxLen) : Xqy p x y d = Xga p x y d := by
 obtain ⟨d1, d2⟩ := Xky hd
 unfold Xqy Xga Xqs
 rw [Xba hp, Xab, Xba hp]
 have : Xl2 p x y d = Xeq p x y d := by
  funext v
  unfold Xl2 Xeq
  simp only [show ((d.length : Nat) : Int) = 64 by omega]
  exact Ygs (fun _ => Yj6 (by omega) (by omega) _) fun _ => rfl
 rw [this]
theorem Yh4 (n : Nat) (x : Int) : ((List.range n).map fun _ => x) = List.replicate n x := by
 apply List.ext_getElem
 ·
  simp
 ·
  intro i h1 h2; simp
theorem Xtd (w h : Int) (hw : 1 ≤ w ∧ w ≤ 256) (hh : 1 ≤ h ∧ h ≤ 256) : Xkz w h = some ⟨w, h, strOfNums (List.replicate (w * h).toNat 128)⟩ := by
 have ar := Xeg hw hh
 unfold Xkz
 rw [Xam, Xab, decide_eq_true hw, Xa3, Xam, Xab, decide_eq_true hh, Bool.not_true, Xab, Xax, wkA (e := w * h), rqA]
 rw [Xzy (f := Xim w h) (w * h).toNat (fun _ => 128) (List.replicate (w * h).toNat 0) (by simp) ?_ ?_, Xab, Yh4]
 ·
  intro i s hi hs _
  unfold Xim
  simp only [List.length_replicate, Int.toNat_natCast]
  rw [wkA (e := w * h), syA, rqA, rqA, wkA]
  rfl
 ·
  intro s hs
  unfold Xim
  simp only [List.length_replicate]
  rw [wkA (e := w * h), snA]
def Xjx (p : Pic) (r : Xov) : Bool := decide (1 ≤ r.Wide ∧ r.Wide ≤ p.Wide) && (decide (1 ≤ r.High ∧ r.High ≤ p.High) && (decide (0 ≤ r.Left ∧ r.Left ≤ p.Wide - r.Wide) && decide (0 ≤ r.Top ∧ r.Top ≤ p.High - r.High)))
theorem Xqv {p : Pic} (ok : Xck p = true) (r : Xov) : Xcl p r = some (Xjx p r) := by
 obtain ⟨k1, k2, k3⟩ := Xa6 ok
 unfold Xcl Xjx
 rw [Xam, Xam, Xab, Xab]
 by_cases h1 : 1 ≤ r.Wide ∧ r.Wide ≤ p.Wide
 ·
  rw [decide_eq_true h1, Xa3, Bool.true_and]
  by_cases h2 : 1 ≤ r.High ∧ r.High ≤ p.High
  ·
   rw [decide_eq_true h2, Xa3, Bool.true_and, wkA (e := p.Wide - r.Wide), wkA (e := p.High - r.High), Xam, Xam, Xab, Xab, Xe5, Xab]
  ·
   rw [decide_eq_false h2, Xax, Bool.false_and]; rfl
 ·
  rw [decide_eq_false h1, Xax, Bool.false_and]; rfl
theorem Xgd {p : Pic} {r : Xov} (h : Xjx p r = true) : (1 ≤ r.Wide ∧ r.Wide ≤ p.Wide) ∧ (1 ≤ r.High ∧ r.High ≤ p.High) ∧ (0 ≤ r.Left ∧ r.Left ≤ p.Wide - r.Wide) ∧ (0 ≤ r.Top ∧ r.Top ≤ p.High - r.High) := by
 unfold Xjx at h
 simp only [Bool.and_eq_true, decide_eq_true_eq] at h
 exact h
def Xex (p : Pic) (r : Xov) : Nat → List Int
 | 0 => []
 | n + 1 => Xex p r n ++ Xaz (p.Dots.extract ((r.Top + n) * p.Wide + r.Left).toNat ((r.Top + n) * p.Wide + r.Left + r.Wide).toNat)
theorem Yd9 {p : Pic} {r : Xov} (ok : Xck p = true) (h : Xjx p r = true) (n : Nat) (hn : (n : Int) < r.High) : 0 ≤ (r.Top + n) * p.Wide ∧ (r.Top + n) * p.Wide + r.Left + r.Wide ≤ p.Dots.size ∧ (r.Top + n) * p.Wide ≤ 65536 ∧ (Xaz (p.Dots.extract ((r.Top + n) * p.Wide + r.Left).toNat ((r.Top + n) * p.Wide + r.Left + r.Wide).toNat)).length = r.Wide.toNat := by
 obtain ⟨k1, k2, k3⟩ := Xa6 ok
 obtain ⟨a1, a2, a3, a4⟩ := Xgd h
 have ar := Xeg k1 k2
 have b1 : 0 ≤ (r.Top + n) * p.Wide := Int.mul_nonneg (by omega) (by omega)
 have b2 : (r.Top + n) * p.Wide ≤ (p.High - 1) * p.Wide := Int.mul_le_mul_of_nonneg_right (by omega) (by omega)
 have b3 : (p.High - 1) * p.Wide = p.Wide * p.High - p.Wide := by rw [Int.sub_mul, Int.one_mul, Int.mul_comm]
 refine ⟨b1, by omega, by omega, ?_⟩
 rw [Xbq, ByteArray.size_extract]
 omega
theorem Xjw {p : Pic} {r : Xov} (ok : Xck p = true) (h : Xjx p r = true) : ∀ n : Nat, (n : Int) ≤ r.High → ((Xex p r n).length : Int) = n * r.Wide
 | 0, _ => by simp [Xex]
 | n + 1, hn => by
  have a := Xgd h
  have b := Yd9 ok h n (by omega)
  rw [Xex, List.length_append, Int.natCast_add, Xjw ok h n (by omega), b.2.2.2, Int.natCast_add, Int.add_mul]
  simp only [Int.natCast_one, Int.one_mul]
  omega
theorem Yjl {p : Pic} {r : Xov} {f : Int × List Int → Option (Lp (Int × List Int) (List Int))} (ok : Xck p = true) (h : Xjx p r = true) (hf : f = Xji p r) : loop f (r.Top, []) = some (Xex p r r.High.toNat) := by
 have hm : maxLen = 9223372036854775807 := rfl
 obtain ⟨k1, k2, k3⟩ := Xa6 ok
 obtain ⟨a1, a2, a3, a4⟩ := Xgd h
 subst hf
 have key : ∀ n : Nat, n ≤ r.High.toNat → loop (Xji p r) (r.Top + n, Xex p r n) = some (Xex p r r.High.toNat) := by
  refine Xf6 _ ?_ ?_
  ·
   refine Xi6 ?_
   unfold Xji
   rw [wkA (e := r.Top + r.High), Xar (by simp only; omega)]
  ·
   intro n hn ih
   refine lgo (y := (r.Top + ((n + 1 : Nat) : Int), Xex p r (n + 1))) ?_ ih
   obtain ⟨b1, b2, b3, b4⟩ := Yd9 ok h n (by omega)
   have cl := Xjw ok h n (by omega)
   have cw : (n : Int) * r.Wide ≤ 256 * r.Wide := Int.mul_le_mul_of_nonneg_right (by omega) (by omega)
   unfold Xji
   simp only
   rw [wkA (e := r.Top + r.High), syA, wkA (e := (r.Top + n) * p.Wide), wkA (e := (r.Top + n) * p.Wide + r.Left), wkA (e := (r.Top + n) * p.Wide + r.Left + r.Wide), rqA, Xba (by rw [b4]; omega), wkA (e := r.Top + n + 1), show r.Top + ((n + 1 : Nat) : Int) = r.Top + n + 1 by omega]
   rfl
 have := key 0 (by omega)
 simpa [Xex] using this
def Yi7 (p : Pic) (r : Xov) : Pic := ⟨r.Wide, r.High, strOfNums (Xex p r r.High.toNat)⟩
theorem Yhi {p : Pic} {r : Xov} (ok : Xck p = true) (h : Xjx p r = true) : Xck (Yi7 p r) = true := by
 obtain ⟨k1, k2, k3⟩ := Xa6 ok
 obtain ⟨a1, a2, a3, a4⟩ := Xgd h
 refine Xvc (by show 1 ≤ r.Wide ∧ r.Wide ≤ 256; omega) (by show 1 ≤ r.High ∧ r.High ≤ 256; omega) ?_
 show ((strOfNums _).size : Int) = r.Wide * r.High
 rw [strOfNums_size, Xjw ok h _ (by omega), Int.mul_comm]
 congr 1; omega
theorem Xp0 {p : Pic} {r : Xov} (ok : Xck p = true) (h : Xjx p r = true) : Xhp p r = some (Yi7 p r, true) := by
 obtain ⟨k1, k2, k3⟩ := Xa6 ok
 obtain ⟨a1, a2, a3, a4⟩ := Xgd h
 have ar := Xeg (w := r.Wide) (h := r.High) (by omega) (by omega)
 unfold Xhp
 rw [Xgu, Xab, ok, Xa3, Xqv ok, Xab, h, Bool.not_true, Xab, Xax, wkA (e := r.Wide * r.High), rqA]
 have := Yjl (f := Xlx p r) ok h rfl
 rw [show List.replicate (0 : Int).toNat (0 : Int) = [] from rfl, this, Xab]
 rfl
theorem Xic (n : Int) : Xez n = some (Xkd n) := by
 unfold Xez Xkd
 rw [rqA, Xam, Xab, Xe5, Xab, Yd6]
theorem Xz6 {w h : Int} (hw : Xkd w = true) (hh : Xkd h = true) (i : Nat) (hi : (i : Int) < w / 8 * (h / 8)) : (8 ≤ w ∧ w ≤ 64) ∧ (8 ≤ h ∧ h ≤ 64) ∧ 1 ≤ w / 8 ∧ w / 8 ≤ 8 ∧ 1 ≤ h / 8 ∧ h / 8 ≤ 8 ∧ 0 ≤ (i : Int) % (w / 8) * 8 ∧ (i : Int) % (w / 8) * 8 ≤ w - 8 ∧ 0 ≤ (i : Int) / (w / 8) * 8 ∧ (i : Int) / (w / 8) * 8 ≤ h - 8 := by
 unfold Xkd at hw hh
 rw [Bool.and_eq_true, decide_eq_true_eq, decide_eq_true_eq] at hw hh
 rw [Xbz (by omega)] at hw hh
 have h1 : 1 ≤ w / 8 ∧ w / 8 ≤ 8 := by omega
 have h2 : 1 ≤ h / 8 ∧ h / 8 ≤ 8 := by omega
 have m0 : 0 ≤ (i : Int) % (w / 8) := Int.emod_nonneg _ (by omega)
 have m1 : (i : Int) % (w / 8) < w / 8 := Int.emod_lt_of_pos _ (by omega)
 have d0 : 0 ≤ (i : Int) / (w / 8) := Int.ediv_nonneg (by omega) (by omega)
 have d1 : (i : Int) / (w / 8) < h / 8 := Int.ediv_lt_of_lt_mul (by omega) (by rw [Int.mul_comm]; exact hi)
 exact ⟨hw.2, hh.2, h1.1, h1.2, h2.1, h2.2, by omega, by omega, by omega, by omega⟩
theorem Xbs {w : Int} (hw : Xkd w = true) : w % 8 = 0 ∧ 8 ≤ w ∧ w ≤ 64 := by
 unfold Xkd at hw
 rw [Bool.and_eq_true, decide_eq_true_eq, decide_eq_true_eq] at hw
 rw [Xbz (by omega)] at hw
 exact ⟨hw.1, hw.2⟩
def Yba (g b : List Int) : List Int := (List.range 64).map fun i => Xbe (g.getD i 0 + b.getD i 0) 0 255
theorem Xoi (g b : List Int) (hg : Xgc g = true) (hl : b.length = 64) (hb : inB 10000000 b) : Xe8 g b = some (Yba g b) := by
 have hm : maxLen = 9223372036854775807 := rfl
 obtain ⟨g1, g2⟩ := Xky hg
 unfold Xe8
 rw [Xja g hg, Xab, Xa3, Xc3 b 64 10000000 (by omega) (by omega) (by omega) hb, Xab, Bool.not_true, Xab, Xax]
 have := Ye9 (f := Xcb g b) 64 (fun i => Xbe (g.getD i 0 + b.getD i 0) 0 255) [] (by
  intro i hi
  have ha := Xhl hb (i := i) (by omega)
  have hd := g2 i hi
  unfold Xcb
  simp only [Int.toNat_natCast]
  rw [syA, rqA, rqA, wkA (e := g.getD i 0 + b.getD i 0), Xcy, Xab, Xba (by simp only [List.length_append, List.length_nil, List.length_map, List.length_range, List.length_singleton]; omega), wkA (e := (i : Int) + 1)]
  rfl) (by unfold Xcb; rw [Xar (by simp)])
 rw [List.nil_append] at this
 rw [this, Xab]; rfl
theorem Yge {n : Int} (h : 0 ≤ n ∧ n ≤ 255) : Xbe n 0 255 = n := by
 unfold Xbe
 repeat' split
 all_goals omega
theorem Xn3 {now ref : Pic} {l t x y : Int} {c : Xd1} {q : Xap} (h : Ynf now ref l t x y c q) (hq : Xpm q = true) (hL : Xlo q c = true) (hr : c.Key = false → Xck ref = true) : ∃ d, Xhc now ref l t c x y q = some (d, true) ∧ Xgc d = true ∧
  ((q.Kind = 0 ∧ c.Key = false ∧ d = Xyb ref (l + x) (t + y) 64) ∨ (q.Kind = 1 ∧ c.Key = false ∧ ∃ b, Xbg q.Levels c = some (b, true) ∧ d = Yba (Xyb ref (l + x + q.Dx) (t + y + q.Dy) 64) b) ∨ (q.Kind = 2 ∧ ∃ e b g, Xd5 now x y = some (e, true) ∧ Xmj e ∧ Xbg q.Levels c = some (b, true) ∧ Xcn q.Mode e = some g ∧ Xgc g = true ∧ d = Yba g b)) := by
 obtain ⟨d, _, ed, hd⟩ := Xju h hq hL hr
 obtain ⟨ok, hx, hy, h0, hl, ht, hc, hs⟩ := h
 obtain ⟨k1, k2, k3⟩ := Xa6 ok
 have h0' := h0
 unfold Xij at h0'
 rw [decide_eq_true_eq] at h0'
 have dxy := Yf5 hq
 refine ⟨d, ed, hd, ?_⟩
 unfold Xhc at ed
 rw [Xef ok hx hy h0, Xab, Xa3, Xaj, Xab, decide_eq_true hl, Xa3, Xaj, Xab, decide_eq_true ht, Xa3, Xmq, Xab, hq, Xa3, Xfx, Xab, hc, Bool.not_true, Xab, Xax] at ed
 by_cases h2 : q.Kind = 2
 ·
  obtain ⟨hm, hlv⟩ := Xnt hq h2
  obtain ⟨e, ee, he⟩ := Xm6 ok hx hy h0
  obtain ⟨b, eb, b1, b2⟩ := Xeu q.Levels c hc hlv
  obtain ⟨g, eg, hg⟩ := Xm8 q.Mode hm he
  rw [Xbm (by simpa using h2), ee, Xab, eb, Xab, eg, Xab, Xoi g b hg b1 b2, Xab] at ed
  injection ed with ed
  injection ed with ed _
  exact .inr (.inr ⟨h2, e, b, g, ee, he, eb, eg, hg, ed.symm⟩)
 ·
  have hK : c.Key = false := by
   unfold Xlo at hL
   cases hk : c.Key with
   | false => rfl
   | true => rw [hk] at hL; simp at hL; exact absurd hL h2
  have rok := hr hK
  rw [Xbo (b := q.Kind == 2) (by simpa using h2), hK, Xax, Xhb, Xab, rok, Bool.not_true, Xab, Xax, wkA (e := l + x), wkA (e := l + x + q.Dx), wkA (e := t + y), wkA (e := t + y + q.Dy), Xm5 rok _ _ (by omega) (by omega), Xab] at ed
  by_cases h3 : q.Kind = 0
  ·
   obtain ⟨z1, z2⟩ := Xxr hq h3
   rw [Xbm (b := q.Kind == 0) (by simpa using h3), z1, z2, Int.add_zero, Int.add_zero] at ed
   injection ed with ed
   injection ed with ed _
   exact .inl ⟨h3, hK, ed.symm⟩
  ·
   have h1 : q.Kind = 1 := by have := Xlp hq; omega
   obtain ⟨_, _, hlv⟩ := Xmf hq h1
   obtain ⟨b, eb, b1, b2⟩ := Xeu q.Levels c hc hlv
   rw [Xbo (b := q.Kind == 0) (by simpa using h3), eb, Xab, Xoi _ b (Xps _ _ _) b1 b2, Xab] at ed
   injection ed with ed
   injection ed with ed _
   exact .inr (.inl ⟨h1, hK, b, eb, ed.symm⟩)
theorem Xxq (u : Xaq) (hu : Xew u) : ∃ c u', Xiy u = some (c, u') ∧ Xdp c = true ∧ Xew u' := by
 unfold Xiy
 obtain ⟨p, u1, e1, hp, h1⟩ := Xj7 u hu
 obtain ⟨b, u2, e2, h2⟩ := Xbv u1 2 h1
 rw [e1, Xab, e2, Xab]
 refine ⟨_, _, rfl, ?_, h2⟩
 unfold Xdp
 exact hp
theorem Xw5 {W x y : Int} (hx : 0 ≤ x ∧ x < W) : (y * W + x) / W = y ∧ (y * W + x) % W = x := by
 have hW : 0 < W := by omega
 constructor
 ·
  rw [Int.add_comm, Int.add_mul_ediv_right _ _ (by omega), Int.ediv_eq_zero_of_lt hx.1 hx.2, Int.zero_add]
 ·
  rw [Int.add_comm, Int.add_mul_emod_self_right, Int.emod_eq_of_lt hx.1 hx.2]
theorem Xkj {W H x y : Int} (hx : 0 ≤ x ∧ x < W) (hy : 0 ≤ y ∧ y < H) : 0 ≤ y * W + x ∧ y * W + x < W * H := by
 have a : 0 ≤ y * W := Int.mul_nonneg hy.1 (by omega)
 have b : y * W ≤ (H - 1) * W := Int.mul_le_mul_of_nonneg_right (by omega) (by omega)
 have c : (H - 1) * W = W * H - W := by rw [Int.sub_mul, Int.one_mul, Int.mul_comm]
 omega
theorem Xzo {n m : Int} (h : 0 ≤ n ∧ n ≤ m) : Xbe n 0 m = n := by
 unfold Xbe
 repeat' split
 all_goals omega
theorem Xnj {p : Pic} {x y : Int} (hx : 0 ≤ x ∧ x < p.Wide) (hy : 0 ≤ y ∧ y < p.High) : Xf5 p x y = Xx3 p.Dots (y * p.Wide + x) := by
 unfold Xf5
 rw [Xzo (by omega), Xzo (by omega)]
theorem Xl7 (s : ByteArray) (k : Nat) (hk : k < s.size) : (Xaz s).getD k 0 = Xx3 s k := by
 have := Xtb (Xaz s) (by intro x hx; obtain ⟨b, _, rfl⟩ := List.mem_map.1 hx; have := b.toNat_lt; omega) k (by rw [Xbq]; exact hk)
 rw [Xs3] at this
 exact this.symm
theorem Xzp (s : ByteArray) : Ycd (Xaz s) := fun x hx => by
 obtain ⟨b, _, rfl⟩ := List.mem_map.1 hx
 have := b.toNat_lt
 omega
theorem Yhe {l : List Int} (h : Ycd l) (i : Nat) {y : Int} (hy : 0 ≤ y ∧ y ≤ 255) : Ycd (l.set i y) := fun x hx => by
 rcases List.mem_or_eq_of_mem_set hx with hx | hx
 ·
  exact h x hx
 ·
  rw [hx]; exact hy
theorem Yk2 {p q : Pic} (hp : Xck p = true) (hq : Xck q = true) (hw : p.Wide = q.Wide) (hh : p.High = q.High) (h : ∀ x y : Int, 0 ≤ x ∧ x < p.Wide → 0 ≤ y ∧ y < p.High → Xf5 p x y = Xf5 q x y) : p = q := by
 obtain ⟨p1, p2, p3⟩ := Xa6 hp
 obtain ⟨q1, q2, q3⟩ := Xa6 hq
 have hd : p.Dots = q.Dots := by
  rw [← Xs3 p.Dots, ← Xs3 q.Dots]
  congr 1
  have hsz : p.Dots.size = q.Dots.size := by
   have : (p.Dots.size : Int) = q.Dots.size := by rw [p3, q3, hw, hh]
   omega
  refine Xsi (n := p.Dots.size) (Xbq _) ((Xbq _).trans hsz.symm) fun k hk => ?_
  have hkW : (k : Int) < p.Wide * p.High := by omega
  have m0 := Int.emod_nonneg (k : Int) (show p.Wide ≠ 0 by omega)
  have m1 := Int.emod_lt_of_pos (k : Int) (show 0 < p.Wide by omega)
  have d0 : 0 ≤ (k : Int) / p.Wide := Int.ediv_nonneg (by omega) (by omega)
  have d1 : (k : Int) / p.Wide < p.High := Int.ediv_lt_of_lt_mul (by omega) (by rw [Int.mul_comm]; exact hkW)
  have e := h ((k : Int) % p.Wide) ((k : Int) / p.Wide) ⟨m0, m1⟩ ⟨d0, d1⟩
  rw [Xnj ⟨m0, m1⟩ ⟨d0, d1⟩, Xnj (by rw [← hw]; exact ⟨m0, m1⟩) (by rw [← hh]; exact ⟨d0, d1⟩), ← hw, Int.ediv_mul_add_emod] at e
  rw [Xl7 _ k hk, Xl7 _ k (by omega)]
  exact e
 cases p; cases q
 simp only at hw hh hd
 rw [hw, hh, hd]
def Ygl (x y X Y : Int) : Bool := decide (x ≤ X ∧ X < x + 8 ∧ y ≤ Y ∧ Y < y + 8)
theorem Yfw {p : Pic} {x y : Int} {d : List Int} (ok : Xck p = true) (h0 : Xij p x y = true) (hd : Xgc d = true) : ∃ p', Xga p x y d = some p' ∧ Xck p' = true ∧ p'.Wide = p.Wide ∧ p'.High = p.High ∧ ∀ X Y : Int, 0 ≤ X ∧ X < p.Wide → 0 ≤ Y ∧ Y < p.High → Xf5 p' X Y = if Ygl x y X Y = true then d.getD ((Y - y) * 8 + (X - x)).toNat 0 else Xf5 p X Y := by
 obtain ⟨k1, k2, k3⟩ := Xa6 ok
 have ar := Xeg k1 k2
 have hm : maxLen = 9223372036854775807 := rfl
 obtain ⟨d1, d2⟩ := Xky hd
 have h0' := h0
 unfold Xij at h0'
 rw [decide_eq_true_eq] at h0'
 have hn := Xbq p.Dots
 unfold Xga
 rw [rqA]
 obtain ⟨o, e, o1, o2, o3⟩ := Xii (f := Xeq p x y d) 64 (fun i s => s.length = p.Dots.size ∧ Ycd s ∧ ∀ X Y : Int, 0 ≤ X ∧ X < p.Wide → 0 ≤ Y ∧ Y < p.High → s.getD (Y * p.Wide + X).toNat 0 = if Ygl x y X Y = true ∧ ((Y - y) * 8 + (X - x)).toNat < i then d.getD ((Y - y) * 8 + (X - x)).toNat 0 else (Xaz p.Dots).getD (Y * p.Wide + X).toNat 0) (by
  intro i s hi ⟨g1, g2, g3⟩
  have di := d2 i hi
  have hxx : 0 ≤ x + (i : Int) % 8 ∧ x + (i : Int) % 8 < p.Wide := by omega
  have hyy : 0 ≤ y + (i : Int) / 8 ∧ y + (i : Int) / 8 < p.High := by omega
  have pin := Xkj hxx hyy
  have b1 : 0 ≤ (y + (i : Int) / 8) * p.Wide := Int.mul_nonneg (by omega) (by omega)
  have b2 : (y + (i : Int) / 8) * p.Wide ≤ (p.High - 1) * p.Wide := Int.mul_le_mul_of_nonneg_right (by omega) (by omega)
  have b3 : (p.High - 1) * p.Wide = p.Wide * p.High - p.Wide := by rw [Int.sub_mul, Int.one_mul, Int.mul_comm]
  unfold Xeq
  simp only
  rw [syA, rqA, rqA, rqA, Xbd (by omega), Xbz (by omega), wkA (e := (i : Int) / 8), wkA (e := y + (i : Int) / 8), wkA (e := (y + (i : Int) / 8) * p.Wide), wkA (e := (y + (i : Int) / 8) * p.Wide + x), wkA (e := (y + (i : Int) / 8) * p.Wide + x + (i : Int) % 8), rqA, rqA, wkA (e := (i : Int) + 1), Int.toNat_natCast, w8 di.1 di.2]
  refine ⟨_, rfl, by rw [List.length_set]; exact g1, Yhe g2 _ di, fun X Y hX hY => ?_⟩
  have pXY := Xkj hX hY
  rw [Xde _ _ _ _ (by omega)]
  by_cases heq : ((y + (i : Int) / 8) * p.Wide + x + (i : Int) % 8).toNat = (Y * p.Wide + X).toNat
  ·
   rw [if_pos heq]
   have heq' : (y + (i : Int) / 8) * p.Wide + (x + (i : Int) % 8) = Y * p.Wide + X := by omega
   have q1 := Xw5 (y := y + (i : Int) / 8) hxx
   have q2 := Xw5 (y := Y) hX
   rw [heq'] at q1
   have eY : Y = y + (i : Int) / 8 := q2.1.symm.trans q1.1
   have eX : X = x + (i : Int) % 8 := q2.2.symm.trans q1.2
   have hin : Ygl x y X Y = true := by unfold Ygl; rw [decide_eq_true_eq]; omega
   have hpl : ((Y - y) * 8 + (X - x)).toNat = i := by omega
   rw [if_pos ⟨hin, by omega⟩, hpl]
  ·
   rw [if_neg heq, g3 X Y hX hY]
   by_cases hin : Ygl x y X Y = true
   ·
    have hin' := hin
    unfold Ygl at hin'
    rw [decide_eq_true_eq] at hin'
    by_cases hlt : ((Y - y) * 8 + (X - x)).toNat < i
    ·
     rw [if_pos ⟨hin, hlt⟩, if_pos ⟨hin, by omega⟩]
    ·
     have hne : ((Y - y) * 8 + (X - x)).toNat ≠ i := fun h => heq (by
      have eY : Y = y + (i : Int) / 8 := by omega
      have eX : X = x + (i : Int) % 8 := by omega
      rw [eY, eX]; congr 1; omega)
     rw [if_neg (fun h => hlt h.2), if_neg (fun h => by omega)]
   ·
    rw [if_neg (fun h => hin h.1), if_neg (fun h => hin h.1)]) (fun s _ => by unfold Xeq; rw [Xar (by simp)]) (Xaz p.Dots) ⟨hn, Xzp _, fun X Y hX hY => by rw [if_neg (fun h => by omega)]⟩
 refine ⟨_, (Xgn e).trans rfl, Xvc k1 k2 (by simp only; rw [strOfNums_size]; omega), rfl, rfl, fun X Y hX hY => ?_⟩
 have pXY := Xkj hX hY
 rw [Xnj (p := ⟨p.Wide, p.High, strOfNums o⟩) hX hY, Xnj hX hY]
 simp only
 have e1 : Xx3 (strOfNums o) (Y * p.Wide + X) = o.getD (Y * p.Wide + X).toNat 0 := by
  have := Xtb o o2 (Y * p.Wide + X).toNat (by omega)
  rwa [show (((Y * p.Wide + X).toNat : Nat) : Int) = Y * p.Wide + X by omega] at this
 have e2 : Xx3 p.Dots (Y * p.Wide + X) = (Xaz p.Dots).getD (Y * p.Wide + X).toNat 0 := by
  rw [Xl7 _ _ (by omega), show (((Y * p.Wide + X).toNat : Nat) : Int) = Y * p.Wide + X by omega]
 rw [e1, e2, o3 X Y hX hY]
 by_cases hin : Ygl x y X Y = true
 ·
  have hin' := hin
  unfold Ygl at hin'
  rw [decide_eq_true_eq] at hin'
  rw [if_pos ⟨hin, by omega⟩, if_pos hin]
 ·
  rw [if_neg (fun h => hin h.1), if_neg hin]
theorem Ycg {p : Pic} {r : Xov} (ok : Xck p = true) (h : Xjx p r = true) (X Y : Int) (hX : 0 ≤ X ∧ X < r.Wide) (hY : 0 ≤ Y ∧ Y < r.High) : Xf5 (Yi7 p r) X Y = Xf5 p (r.Left + X) (r.Top + Y) := by
 obtain ⟨k1, k2, k3⟩ := Xa6 ok
 obtain ⟨a1, a2, a3, a4⟩ := Xgd h
 have key : ∀ n : Nat, (n : Int) ≤ r.High → Ycd (Xex p r n) ∧ ∀ X Y : Int, 0 ≤ X ∧ X < r.Wide → 0 ≤ Y ∧ Y < n → (Xex p r n).getD (Y * r.Wide + X).toNat 0 = Xf5 p (r.Left + X) (r.Top + Y) := by
  intro n
  induction n with
  | zero => intro _; exact ⟨fun x hx => by simp [Xex] at hx, fun X Y hX hY => by omega⟩
  | succ n ih =>
   intro hn
   obtain ⟨i1, i2⟩ := ih (by omega)
   obtain ⟨b1, b2, b3, b4⟩ := Yd9 ok h n (by omega)
   have cl := Xjw ok h n (by omega)
   refine ⟨fun x hx => ?_, fun X Y hX hY => ?_⟩
   ·
    rw [Xex] at hx
    rcases List.mem_append.1 hx with hx | hx
    ·
     exact i1 x hx
    ·
     exact Xzp _ x hx
   ·
    have pXY := Xkj (H := (n : Int) + 1) (y := Y) hX (by omega)
    rw [Xex, List.getD_eq_getElem?_getD, List.getElem?_append]
    by_cases hlt : Y < n
    ·
     have := Xkj (H := n) hX (y := Y) (by omega)
     have h2 : r.Wide * n = n * r.Wide := Int.mul_comm _ _
     rw [if_pos (by omega), ← List.getD_eq_getElem?_getD]
     exact i2 X Y hX (by omega)
    ·
     have eY : Y = n := by omega
     subst eY
     rw [if_neg (by omega), ← List.getD_eq_getElem?_getD]
     have hk : ((n : Int) * r.Wide + X).toNat - (Xex p r n).length = X.toNat := by omega
     rw [hk, Xl7 _ _ (by rw [Xbq] at b4; omega), Xnj (p := p) (x := r.Left + X) (y := r.Top + n) (by omega) (by omega)]
     unfold Xx3
     have hs : (p.Dots.extract ((r.Top + n) * p.Wide + r.Left).toNat ((r.Top + n) * p.Wide + r.Left + r.Wide).toNat).size = r.Wide.toNat := by rw [← Xbq]; exact b4
     rw [dif_pos (by rw [hs]; omega), dif_pos (show ((r.Top + (n : Int)) * p.Wide + (r.Left + X)).toNat < p.Dots.size by omega)]
     rw [ByteArray.getElem_extract]
     congr 2
     congr 1
     omega
 obtain ⟨c1, c2⟩ := key r.High.toNat (by omega)
 have cl := Xjw ok h r.High.toNat (by omega)
 have pXY := Xkj hX hY
 have cm : ((r.High.toNat : Nat) : Int) * r.Wide = r.Wide * r.High := by rw [Int.mul_comm]; congr 1; omega
 rw [Xnj (p := Yi7 p r) hX hY]
 show Xx3 (strOfNums (Xex p r r.High.toNat)) (Y * r.Wide + X) = _
 have := Xtb _ c1 (Y * r.Wide + X).toNat (by omega)
 rw [show (((Y * r.Wide + X).toNat : Nat) : Int) = Y * r.Wide + X by omega] at this
 rw [this]
 exact c2 X Y hX (by omega)
def tX (W : Int) (i : Nat) : Int := (i : Int) % (W / 8) * 8
def tY (W : Int) (i : Nat) : Int := (i : Int) / (W / 8) * 8
theorem Yhp {w h : Int} (hw : 1 ≤ w ∧ w ≤ 256) (hh : 1 ≤ h ∧ h ≤ 256) : Xck ⟨w, h, strOfNums (List.replicate (w * h).toNat 128)⟩ = true := by
 have ar := Xeg hw hh
 refine Xvc hw hh ?_
 simp only
 rw [strOfNums_size, List.length_replicate]; omega
theorem Ylg (p : Pic) (x y : Int) {i : Nat} (hi : i < 64) : (Xyb p x y 64).getD i 0 = Xf5 p (x + ((i % 8 : Nat) : Int)) (y + ((i / 8 : Nat) : Int)) := Xd6 _ hi
theorem Yir {n : Int} (h : n = 8 ∨ n = 16) : Xkd n = true := by rcases h with rfl | rfl <;> rfl
theorem Xzx (p : Pic) : ((p.Wide == p.Wide) && ((p.High == p.High) && (p.Dots.toList == p.Dots.toList))) = true := by
 simp only [beq_self_eq_true, Bool.and_self]
theorem Ymc : (ueL 0).length = 1 := by
 have := Yin
 unfold Yns at this
 have e : seL 0 = ueL 0 := rfl
 rw [e] at this
 omega
theorem Ye5 (n : Nat) (c : Xd1) (hK : c.Key = false) : (Xfj (List.replicate n ⟨0, 0, 0, 0, []⟩) c).length = n := by
 induction n with
 | zero => rfl
 | succ n ih =>
  rw [List.replicate_succ, Xfj, List.length_append, ih]
  have : (sqL (⟨0, 0, 0, 0, []⟩ : Xap) c).length = 1 := by
   unfold sqL
   rw [hK, if_neg (by decide), if_neg (by simp), if_neg (by simp), List.append_nil]
   exact Ymc
  omega
theorem Yhk (a b : List Int) (i : Nat) : (a ++ b).getD (a.length + i) 0 = b.getD i 0 := by
 rw [List.getD_eq_getElem?_getD, List.getD_eq_getElem?_getD, List.getElem?_append_right (by omega)]
 congr 2; omega
theorem Yhj (a b : List Int) (i : Nat) (hi : i < a.length) : (a ++ b).getD i 0 = a.getD i 0 := by
 rw [List.getD_eq_getElem?_getD, List.getD_eq_getElem?_getD, List.getElem?_append_left hi]
theorem Ymv (v x : Int) (h0 : 0 ≤ v) (h1 : v ≤ 1000000000000000000) (hx : x = 0 ∨ x = 1) : IntKind.wrap .i64 (BitVec.ofInt (IntKind.bits .i64) (v * 2) ||| BitVec.ofInt (IntKind.bits .i64) x).toNat = v * 2 + x := by
 obtain ⟨a, rfl⟩ : ∃ a : Nat, v = a := ⟨v.toNat, by omega⟩
 obtain ⟨b, rfl⟩ : ∃ b : Nat, x = b := ⟨x.toNat, by omega⟩
 have h : (BitVec.ofInt 64 ((a : Int) * 2) ||| BitVec.ofInt 64 (b : Int)).toNat = a * 2 + b := by
  rw [BitVec.toNat_or, BitVec.toNat_ofInt, BitVec.toNat_ofInt]
  have e1 : (((a : Int) * 2) % ((2 ^ 64 : Nat) : Int)).toNat = a * 2 := by omega
  have e2 : ((b : Int) % ((2 ^ 64 : Nat) : Int)).toNat = b := by omega
  rw [e1, e2]
  have := Nat.two_pow_add_eq_or_of_lt (i := 1) (b := b) (by omega) a
  rw [show 2 ^ 1 * a = a * 2 by omega] at this
  exact this.symm
 show IntKind.wrap .i64 ((BitVec.ofInt 64 ((a : Int) * 2) ||| BitVec.ofInt 64 (b : Int)).toNat : Int) = _
 rw [h, ← Xmh, wkA]
 omega
theorem Yia {i : Nat} (h : i ≤ 40) : (2 : Int) ^ i ≤ 1099511627776 := by
 have h2 : (2 : Nat) ^ i ≤ 1099511627776 := Nat.pow_le_pow_right (n := 2) (by omega) h
 have := Int.ofNat_le.2 h2
 rw [Int.natCast_pow] at this
 exact this
theorem Yev {L a f b : List Int} (hL : L = a ++ (f ++ b)) (hb : Xto L) (hl : L.length ≤ 400000) (hf : f.length ≤ 41) : Xg2 ⟨strOfNums L, (a.length : Int), false⟩ (f.length : Int) = some (Xxy f, ⟨strOfNums L, ((a.length + f.length : Nat) : Int), false⟩) := by
 have hLl : L.length = a.length + (f.length + b.length) := by rw [hL]; simp only [List.length_append]
 have hfb : Xto f := fun x hx => hb x (by rw [hL]; simp [hx])
 unfold Xg2
 simp only
 rw [Xax, strOfNums_size, wkA, Xab, snA]
 have key : ∀ i : Nat, i ≤ f.length → loop (Xed ⟨strOfNums L, (a.length : Int), false⟩ (f.length : Int)) (Xxy (f.take i), (i : Int)) = some (Xxy f) := by
  refine Xf6 _ ?_ ?_
  ·
   refine Xi6 ?_
   unfold Xed
   simp only
   rw [snA, List.take_length]
  ·
   intro i hi ih
   refine lgo ?_ ih
   have hx : L.getD (a.length + i) 0 = f.getD i 0 := by rw [hL, Yhk, Yhj _ _ _ hi]
   have hbt : Xx3 (strOfNums L) ((a.length : Int) + i) = f.getD i 0 := by
    rw [show (a.length : Int) + i = ((a.length + i : Nat) : Int) by omega, Xtb L (Xea hb) _ (by omega), hx]
   have h2 : f.getD i 0 = 48 ∨ f.getD i 0 = 49 := hfb _ (by rw [Xct f i hi]; exact List.getElem_mem hi)
   have ht : Xto (f.take i) := fun x hx => hfb x (List.mem_of_mem_take hx)
   have hr := Yi4 ht
   have hp : (2 : Int) ^ (f.take i).length ≤ 1099511627776 := Yia (by rw [List.length_take]; omega)
   have hv : Xxy (f.take (i + 1)) = Xxy (f.take i) * 2 + (f.getD i 0 - 48) := by
    rw [List.take_add_one, Xxz, Xct f i hi, List.getElem?_eq_getElem hi]
    simp [Xxy]
   unfold Xed
   simp only
   rw [syA, rqA, wkA (e := (a.length : Int) + i), Xba (by rw [strOfNums_size]; omega), hbt, w8 (by omega) (by omega), wkA (e := f.getD i 0 - 48), show (2 : Int) ^ min (1 : Int).toNat (IntKind.bits .i64) = 2 from rfl, wkA (e := Xxy (f.take i) * 2), Ymv _ _ (by omega) (by omega) (by omega), wkA, hv]
   rfl
 have := key 0 (by omega)
 rw [List.take_zero] at this
 refine (Xgn this).trans ?_
 rw [wkA]
 rfl
theorem Yhd (m : Nat) (h : m ≠ 0) : ∃ r, Yfc m = 49 :: r := by
 induction m using Nat.strongRecOn with
 | _ m ih =>
  rw [Yfc, dif_neg h]
  by_cases h1 : m / 2 = 0
  ·
   have : m = 1 := by omega
   subst this
   rw [Yfc, dif_pos h1]
   exact ⟨[], rfl⟩
  ·
   obtain ⟨r, e⟩ := ih (m / 2) (by omega) h1
   rw [e]
   exact ⟨r ++ [48 + ((m % 2 : Nat) : Int)], rfl⟩
theorem Yme (m : Nat) : Xxy (Yfc m) = m := by
 induction m using Nat.strongRecOn with
 | _ m ih =>
  rw [Yfc]
  by_cases h : m = 0
  ·
   rw [dif_pos h, h]; rfl
  ·
   rw [dif_neg h, Xxz, ih (m / 2) (by omega)]
   simp [Xxy]
   omega
theorem Xlg {L a b : List Int} {n : Nat} (hL : L = a ++ (ueL n ++ b)) (hb : Xto L) (hl : L.length ≤ 400000) (hn : n ≤ 1000000) : Xce ⟨strOfNums L, (a.length : Int), false⟩ = some ((n : Int), ⟨strOfNums L, ((a.length + (ueL n).length : Nat) : Int), false⟩) := by
 have hLl : L.length = a.length + ((ueL n).length + b.length) := by rw [hL]; simp only [List.length_append]
 have f1 := Yec (m := n + 1) (j := 20) (by omega)
 have f2 := Yao (m := n + 1) (by omega)
 have ul : (ueL n).length = Xnk (n + 1) - 1 + Xnk (n + 1) := by unfold ueL; rw [List.length_append, List.length_replicate, Yaj]
 obtain ⟨r, er⟩ := Yhd (n + 1) (by omega)
 have hc : ∀ i : Nat, i < (ueL n).length → L.getD (a.length + i) 0 = (ueL n).getD i 0 := fun i hi => by rw [hL, Yhk, Yhj _ _ _ hi]
 have key : ∀ i : Nat, i ≤ Xnk (n + 1) - 1 → loop (Xe1 ⟨strOfNums L, (a.length : Int), false⟩) (i : Int) = some ((Xnk (n + 1) - 1 : Nat) : Int) := by
  refine Xf6 _ ?_ ?_
  ·
   refine Xi6 ?_
   have hx : (ueL n).getD (Xnk (n + 1) - 1) 0 = 49 := by
    have := Yhk (List.replicate (Xnk (n + 1) - 1) 48) (Yfc (n + 1)) 0
    rw [List.length_replicate] at this
    unfold ueL
    exact this.trans (by rw [er]; rfl)
   unfold Xe1
   simp only
   rw [Xax, wkA, strOfNums_size, syA, rqA, show (a.length : Int) + ((Xnk (n + 1) - 1 : Nat) : Int) = ((a.length + (Xnk (n + 1) - 1) : Nat) : Int) by omega, Xtb L (Xea hb) _ (by omega), hc _ (by omega), hx, Xab]
   rfl
  ·
   intro i hi ih
   refine lgo ?_ ih
   have hx : (ueL n).getD i 0 = 48 := by
    unfold ueL
    rw [Yhj _ _ _ (by rw [List.length_replicate]; exact hi), Xct _ i (by rw [List.length_replicate]; exact hi), List.getElem_replicate]
   unfold Xe1
   simp only
   rw [Xax, wkA (e := (a.length : Int) + i), strOfNums_size, syA, rqA, show (a.length : Int) + (i : Int) = ((a.length + i : Nat) : Int) by omega, Xtb L (Xea hb) _ (by omega), hc _ (by omega), hx, Xab, wkA]
   rfl
 have hf := Yev hL hb hl (by omega)
 have hv : Xxy (ueL n) = (n : Int) + 1 := by unfold ueL; rw [Xxz, Ymf, Yme, Int.zero_mul, Int.zero_add]; omega
 unfold Xce
 refine (Xgn (key 0 (by omega))).trans ?_
 simp only
 rw [snA, Xab, wkA (e := 2 * ((Xnk (n + 1) - 1 : Nat) : Int)), wkA (e := 2 * ((Xnk (n + 1) - 1 : Nat) : Int) + 1), show 2 * ((Xnk (n + 1) - 1 : Nat) : Int) + 1 = ((ueL n).length : Int) by omega, hf, Xab]
 simp only
 rw [Xax, hv, wkA, Xab, snA, show (n : Int) + 1 - 1 = n by omega]
theorem Xsl {L a b : List Int} {n : Int} (hL : L = a ++ (seL n ++ b)) (hb : Xto L) (hl : L.length ≤ 400000) (hn : -500000 ≤ n ∧ n ≤ 500000) : Xdb ⟨strOfNums L, (a.length : Int), false⟩ = some (n, ⟨strOfNums L, ((a.length + (seL n).length : Nat) : Int), false⟩) := by
 have hf := Xu7 n hn
 unfold Xdb
 rw [Xlg hL hb hl hf, Xab]
 have ho : Xjz ((Xyd n : Nat) : Int) = some (n, true) := by
  unfold Xjz
  rw [Xam, Xab, decide_eq_true (by omega), Bool.not_true, Xax, rqA, Xbz (by omega)]
  unfold Xyd
  split
  ·
   rw [Xbm (by rw [beq_iff_eq]; omega), rqA, wkA (e := (((2 * n - 1).toNat : Nat) : Int) + 1), Xbd (by omega), wkA]
   congr 2; omega
  ·
   rw [Xbo (by rw [beq_eq_false_iff_ne]; omega), rqA, wkA (e := 0 - _)]
   have : (0 - (((-2 * n).toNat : Nat) : Int)).tdiv 2 = n := by
    rw [show (0 - (((-2 * n).toNat : Nat) : Int)) = n * 2 by omega]
    exact Int.mul_tdiv_cancel n (by omega)
   rw [this, wkA]
 simp only
 rw [ho, Xab]
 rfl
theorem Ylr (l : List Int) (hl : l.length ≤ 64) : nz l ≤ 64 := by have := Yh9 l; omega
theorem Xtm {L a b l : List Int} (hL : L = a ++ (Xfn l ++ b)) (hb : Xto L) (hl : L.length ≤ 400000) (hall : l.all Yc9 = true) (h64 : l.length ≤ 64) : Xem ⟨strOfNums L, (a.length : Int), false⟩ (l.length : Int) = some (l, ⟨strOfNums L, ((a.length + (Xfn l).length : Nat) : Int), false⟩) := by
 have key : ∀ (r pre : List Int) (g : Nat) (a' b' : List Int), l = pre ++ r → g ≤ pre.length → L = a' ++ (Xjh g r ++ b') → loop (Xdt (l.length : Int)) (((pre.length - g : Nat) : Int), (nz r : Int), strOfNums L, (a'.length : Int), false, pre ++ List.replicate r.length 0) = some (l, strOfNums L, ((a'.length + (Xjh g r).length : Nat) : Int), false) := by
  intro r
  induction r with
  | nil =>
   intro pre g a' b' h1 h2 h3
   refine Xi6 ?_
   unfold Xdt
   simp only
   rw [Xar (by rw [nz]; omega), Xab, Xax, h1]
   simp only [Xjh, List.length_nil, List.replicate_zero, Nat.add_zero]
  | cons x r ih =>
   intro pre g a' b' h1 h2 h3
   have hlen : l.length = pre.length + (r.length + 1) := by rw [h1]; simp
   have hx : -5000 ≤ x ∧ x ≤ 5000 := Ybi.1 (List.all_eq_true.1 hall x (by rw [h1]; simp))
   by_cases e : x = 0
   ·
    rw [Xjh, if_pos e] at h3
    have := ih (pre ++ [x]) (g + 1) a' b' (by rw [h1]; simp) (by simp; omega) h3
    rw [nz, if_pos e, Xjh, if_pos e, ← this, List.length_append, List.length_singleton, show pre.length + 1 - (g + 1) = pre.length - g by omega, List.append_assoc, List.length_cons, List.replicate_succ, e]
    rfl
   ·
    rw [Xjh, if_neg e] at h3
    have u1 := Xkx g (by omega)
    have u2 := Xpg x (by omega)
    have u3 := Yh9 r
    have e1 := Xlg (L := L) (a := a') (b := seL x ++ Xjh 0 r ++ b') (n := g) (by rw [h3]; simp only [List.append_assoc]) hb hl (by omega)
    have e2 := Xsl (L := L) (a := a' ++ ueL g) (b := Xjh 0 r ++ b') (n := x) (by rw [h3]; simp only [List.append_assoc]) hb hl (by omega)
    have := ih (pre ++ [x]) 0 (a' ++ ueL g ++ seL x) b' (by rw [h1]; simp) (by simp) (by rw [h3]; simp only [List.append_assoc])
    rw [List.length_append] at e2
    simp only [List.length_append, List.length_singleton] at this
    rw [nz, if_neg e, Xjh, if_neg e]
    refine lgo ?_ (this.trans ?_)
    ·
     unfold Xdt
     simp only
     rw [syA, Bool.not_false, Xab, Xa3, e1, Xab]
     simp only
     rw [e2, Xab]
     simp only
     have hp : ((pre.length - g : Nat) : Int) + (g : Int) = (pre.length : Int) := by omega
     rw [hp, wkA (e := (pre.length : Int)), snA, Xbo (by rw [beq_eq_false_iff_ne]; exact e), Xam, Xab, decide_eq_true (by omega), Bool.not_true, Xab, Xax, Int.toNat_natCast, Xba (by simp only [List.length_append, List.length_replicate, List.length_cons]; omega), Xba (by simp only [List.length_append, List.length_replicate, List.length_cons]; omega), wkA, wkA, List.length_cons, List.replicate_succ, Yiq]
     rw [show ((nz r + 1 : Nat) : Int) - 1 = (nz r : Int) by omega, show pre ++ [x] ++ List.replicate r.length 0 = pre ++ x :: List.replicate r.length 0 by simp, show ((pre.length + 1 - 0 : Nat) : Int) = (pre.length : Int) + 1 by omega]
    ·
     simp only [List.length_append]
     rw [show a'.length + (ueL g).length + (seL x).length + (Xjh 0 r).length = a'.length + ((ueL g).length + (seL x).length + (Xjh 0 r).length) by omega]
 have hz := Ylr l h64
 have e0 := Xlg (L := L) (a := a) (b := Xjh 0 l ++ b) (n := nz l) (by rw [hL]; unfold Xfn; simp only [List.append_assoc]) hb hl (by omega)
 have := key l [] 0 (a ++ ueL (nz l)) b rfl (by simp) (by rw [hL]; unfold Xfn; simp only [List.append_assoc])
 unfold Xem
 rw [rqA, e0, Xab]
 simp only
 rw [List.length_append] at this
 simp only [List.nil_append, List.length_nil] at this
 rw [Int.toNat_natCast]
 refine (Xgn this).trans ?_
 simp only
 unfold Xfn
 rw [List.length_append, Nat.add_assoc]
theorem Xoh {L a b l : List Int} {c : Xd1} (hL : L = a ++ (Yb5 l c ++ b)) (hb : Xto L) (hl : L.length ≤ 400000) (h : Ydv l = true) : Xbw ⟨strOfNums L, (a.length : Int), false⟩ c = some (l, ⟨strOfNums L, ((a.length + (Yb5 l c).length : Nat) : Int), false⟩) := by
 have hm : maxLen = 9223372036854775807 := rfl
 obtain ⟨h1, h2⟩ := Xjs h
 unfold Xbw
 rw [Yf4, Xab]
 unfold Yb5 at hL ⊢
 by_cases e : (c.Large || c.Exact) = true
 ·
  rw [if_pos e] at hL
  rw [Xbm e, if_pos e]
  have := Xtm hL hb hl h2 (by omega)
  rw [h1] at this
  exact (Xgn this).trans rfl
 ·
  rw [if_neg e] at hL
  rw [Xbo (by simpa using e), if_neg e]
  have step : ∀ (n : Nat) (s q : List Int) (a' b' : List Int), n < 4 → q.length = 16 → q.all Yc9 = true → s.length ≤ 64 → L = a' ++ (Xfn q ++ b') → Xbl ((n : Int), strOfNums L, (a'.length : Int), false, s) = some (.go (((n + 1 : Nat) : Int), strOfNums L, (((a' ++ Xfn q).length : Nat) : Int), false, s ++ q)) := by
   intro n s q a' b' hn hq hqa hs hLL
   have := Xtm hLL hb hl hqa (by omega)
   rw [hq] at this
   unfold Xbl
   simp only
   rw [syA]
   refine (Xgn this).trans ?_
   simp only
   rw [rqA, wkA, List.length_append]
   rfl
  have q0 : (l.take 16).length = 16 := by rw [List.length_take]; omega
  have q1 : ((l.drop 16).take 16).length = 16 := by rw [List.length_take, List.length_drop]; omega
  have q2 : ((l.drop 32).take 16).length = 16 := by rw [List.length_take, List.length_drop]; omega
  have q3 : (l.drop 48).length = 16 := by rw [List.length_drop]; omega
  have hcat : l.take 16 ++ (l.drop 16).take 16 ++ (l.drop 32).take 16 ++ l.drop 48 = l := by
   have e1 : (l.drop 32).take 16 ++ l.drop 48 = l.drop 32 := by
    have := List.take_append_drop 16 (l.drop 32)
    rwa [List.drop_drop] at this
   have e2 : (l.drop 16).take 16 ++ l.drop 32 = l.drop 16 := by
    have := List.take_append_drop 16 (l.drop 16)
    rwa [List.drop_drop] at this
   rw [List.append_assoc, e1, List.append_assoc, e2, List.take_append_drop]
  have g0 := step 0 [] _ a (Xfn ((l.drop 16).take 16) ++ Xfn ((l.drop 32).take 16) ++ Xfn (l.drop 48) ++ b) (by omega) q0 (Xgm h2 _) (by simp) (by rw [hL]; simp only [List.append_assoc])
  have g1 := step 1 ([] ++ l.take 16) _ (a ++ Xfn (l.take 16)) (Xfn ((l.drop 32).take 16) ++ Xfn (l.drop 48) ++ b) (by omega) q1 (Xgm (Xgl h2 _) _) (by simp only [List.length_append, List.length_nil]; omega) (by rw [hL]; simp only [List.append_assoc])
  have g2 := step 2 ([] ++ l.take 16 ++ (l.drop 16).take 16) _ (a ++ Xfn (l.take 16) ++ Xfn ((l.drop 16).take 16)) (Xfn (l.drop 48) ++ b) (by omega) q2 (Xgm (Xgl h2 _) _) (by simp only [List.length_append, List.length_nil]; omega) (by rw [hL]; simp only [List.append_assoc])
  have g3 := step 3 ([] ++ l.take 16 ++ (l.drop 16).take 16 ++ (l.drop 32).take 16) _ (a ++ Xfn (l.take 16) ++ Xfn ((l.drop 16).take 16) ++ Xfn ((l.drop 32).take 16)) b (by omega) q3 (Xgl h2 _) (by simp only [List.length_append, List.length_nil]; omega) (by rw [hL]; simp only [List.append_assoc])
  have l4 : ∀ s, Xbl (((4 : Nat) : Int), s) = some (.done (s.2.2.2, s.1, s.2.1, s.2.2.1)) := by intro s; unfold Xbl; simp only; rw [snA]
  have e : loop Xbl (((0 : Nat) : Int), strOfNums L, (a.length : Int), false, []) = _ := (Xer g0).trans ((Xer g1).trans ((Xer g2).trans ((Xer g3).trans (Xis (l4 _)))))
  refine (Xgn e).trans ?_
  simp only [List.nil_append, hcat]
  simp only [List.length_append, Nat.add_assoc]
theorem Yix {s : Xap} (h : Xpm s = true) (h1 : s.Kind = 0) : s = ⟨0, 0, 0, 0, []⟩ := by
 unfold Xpm at h
 rw [if_pos h1, decide_eq_true_eq] at h
 obtain ⟨k, m, x, y, l⟩ := s
 simp only at h h1
 obtain ⟨a, b, c, d⟩ := h
 rw [h1, a, b, c, List.length_eq_zero_iff.1 d]
theorem Xy4 {L a b : List Int} {s : Xap} {c : Xd1} (hL : L = a ++ (sqL s c ++ b)) (hb : Xto L) (hl : L.length ≤ 400000) (h : Xpm s = true) (hlet : Xlo s c = true) : Xee ⟨strOfNums L, (a.length : Int), false⟩ c = some (s, ⟨strOfNums L, ((a.length + (sqL s c).length : Nat) : Int), false⟩) := by
 have hk := Xlp h
 have hl6 : s.Levels.length ≤ 64 := by
  by_cases h0 : s.Kind = 0
  ·
   rw [Yix h h0]; simp
  ·
   by_cases h1 : s.Kind = 1
   ·
    have := Xjs (Xmf h h1).2.2; omega
   ·
    have := Xjs (Xnt h (by omega)).2; omega
 have hok := Xi4 s (by omega)
 rw [h] at hok
 unfold Xee
 simp only
 obtain ⟨p, hp, hL2, e1⟩ : ∃ p : List Int, p = (if c.Key = true then [] else ueL s.Kind.toNat) ∧ L = (a ++ p) ++ ((if s.Kind = 1 then seL s.Dx ++ seL s.Dy ++ Yb5 s.Levels c else if s.Kind = 2 then ueL s.Mode.toNat ++ Yb5 s.Levels c else []) ++ b) ∧ (sel (!c.Key) (bnd (Xce ⟨strOfNums L, (a.length : Int), false⟩) fun q2 => some (q2.2.row_, q2.2.at_, q2.2.bad_, q2.1)) (some (strOfNums L, (a.length : Int), false, 2))) = some (strOfNums L, (((a ++ p).length : Nat) : Int), false, s.Kind) := by
  refine ⟨_, rfl, by rw [hL]; unfold sqL; simp only [List.append_assoc], ?_⟩
  cases hK : c.Key with
  | true =>
   unfold Xlo at hlet
   rw [hK, Bool.not_true, Bool.false_or, beq_iff_eq] at hlet
   rw [Bool.not_true, Xax, if_pos rfl, List.append_nil, hlet]
  | false =>
   have := Xlg (L := L) (a := a) (n := s.Kind.toNat) (b := (if s.Kind = 1 then seL s.Dx ++ seL s.Dy ++ Yb5 s.Levels c else if s.Kind = 2 then ueL s.Mode.toNat ++ Yb5 s.Levels c else []) ++ b) (by rw [hL]; unfold sqL; rw [hK, if_neg (by decide)]; simp only [List.append_assoc]) hb hl (by omega)
   rw [Bool.not_false, Xa3, this, Xab, if_neg (by decide), List.length_append]
   simp only
   rw [show ((s.Kind.toNat : Nat) : Int) = s.Kind by omega]
 rw [e1, Xab]
 simp only
 have e2 : (sel false (some (strOfNums L, (((a ++ p).length : Nat) : Int), false, (0 : Int), (0 : Int), (0 : Int), ([] : List Int))) (
   sel (s.Kind == 1) (
   bnd (Xdb (⟨strOfNums L, (((a ++ p).length : Nat) : Int), false⟩ : Xkb)) fun q4 =>
   bnd (Xdb q4.2) fun q5 =>
   bnd (Xbw q5.2 c) fun q6 =>
   some (q6.2.row_, q6.2.at_, q6.2.bad_, 0, q4.1, q5.1, q6.1)) (
   sel (s.Kind == 2) (
   bnd (Xce (⟨strOfNums L, (((a ++ p).length : Nat) : Int), false⟩ : Xkb)) fun q7 =>
   bnd (Xbw q7.2 c) fun q8 =>
   some (q8.2.row_, q8.2.at_, q8.2.bad_, q7.1, 0, 0, q8.1)) (
   some (strOfNums L, (((a ++ p).length : Nat) : Int), false, 0, 0, 0, []))))) = some (strOfNums L, ((a.length + (sqL s c).length : Nat) : Int), false, s.Mode, s.Dx, s.Dy, s.Levels) := by
  rw [Xax]
  unfold sqL
  rw [← hp]
  by_cases h1 : s.Kind = 1
  ·
   obtain ⟨x1, x2, x3⟩ := Xmf h h1
   have hm0 : s.Mode = 0 := by
    unfold Xpm at h
    rw [if_neg (by omega), if_pos h1] at h
    simp only [Bool.and_eq_true, decide_eq_true_eq] at h
    exact h.1
   rw [if_pos h1] at hL2
   have y1 := Xsl (L := L) (a := a ++ p) (b := seL s.Dy ++ Yb5 s.Levels c ++ b) (n := s.Dx) (by rw [hL2]; simp only [List.append_assoc]) hb hl (by omega)
   have y2 := Xsl (L := L) (a := a ++ p ++ seL s.Dx) (b := Yb5 s.Levels c ++ b) (n := s.Dy) (by rw [hL2]; simp only [List.append_assoc]) hb hl (by omega)
   have y3 := Xoh (L := L) (a := a ++ p ++ seL s.Dx ++ seL s.Dy) (b := b) (l := s.Levels) (c := c) (by rw [hL2]; simp only [List.append_assoc]) hb hl x3
   rw [List.length_append (as := a ++ p)] at y2
   rw [List.length_append (as := a ++ p ++ seL s.Dx), List.length_append (as := a ++ p)] at y3
   rw [Xbm (by rw [beq_iff_eq]; exact h1), y1, Xab]
   simp only
   rw [y2, Xab]
   simp only
   rw [y3, Xab, if_pos h1, hm0]
   simp only [List.length_append, Nat.add_assoc]
  ·
   rw [Xbo (by rw [beq_eq_false_iff_ne]; exact h1), if_neg h1]
   rw [if_neg h1] at hL2
   by_cases h2 : s.Kind = 2
   ·
    obtain ⟨x1, x3⟩ := Xnt h h2
    have hd0 : s.Dx = 0 ∧ s.Dy = 0 := by
     unfold Xpm at h
     rw [if_neg (by omega), if_neg (by omega), if_pos h2] at h
     simp only [Bool.and_eq_true, decide_eq_true_eq] at h
     exact ⟨h.2.1, h.2.2.1⟩
    rw [if_pos h2] at hL2
    have y1 := Xlg (L := L) (a := a ++ p) (b := Yb5 s.Levels c ++ b) (n := s.Mode.toNat) (by rw [hL2]; simp only [List.append_assoc]) hb hl (by omega)
    have y3 := Xoh (L := L) (a := a ++ p ++ ueL s.Mode.toNat) (b := b) (l := s.Levels) (c := c) (by rw [hL2]; simp only [List.append_assoc]) hb hl x3
    rw [List.length_append (as := a ++ p)] at y3
    rw [Xbm (by rw [beq_iff_eq]; exact h2), y1, Xab]
    simp only
    rw [y3, Xab, if_pos h2, hd0.1, hd0.2, show ((s.Mode.toNat : Nat) : Int) = s.Mode by omega]
    simp only [List.length_append, Nat.add_assoc]
   ·
    have h0 := Yix h (by omega)
    rw [Xbo (by rw [beq_eq_false_iff_ne]; exact h2), if_neg h2, List.append_nil, List.length_append]
    rw [h0]
 rw [e2, Xab]
 simp only
 rw [Xax, show (⟨s.Kind, s.Mode, s.Dx, s.Dy, s.Levels⟩ : Xap) = s from rfl, hok, Xab, Xab]
 rfl
theorem Xqd {l : List Xap} {c : Xd1} (hs : Xu4 l c = true) (hc : Xdp c = true) (hl : 1 ≤ l.length ∧ l.length ≤ 64) (h64 : ∀ q ∈ l, q.Levels.length ≤ 64) : Xfa (strOfNums (Xfj l c)) 0 (l.length : Int) c = some (l, true) := by
 have hm : maxLen = 9223372036854775807 := rfl
 have hLl := Xz8 hs
 generalize hLe : Xfj l c = L at hLl
 have hb : Xto L := by rw [← hLe]; exact Xz7 l c
 have hL4 : L.length ≤ 400000 := by omega
 have key : ∀ (r pre : List Xap) (a : List Int), l = pre ++ r → L = a ++ Xfj r c → loop (Xec (l.length : Int) c) ((pre.length : Int), strOfNums L, (a.length : Int), false, pre) = some (.out (strOfNums L, (L.length : Int), false, l)) := by
  intro r
  induction r with
  | nil =>
   intro pre a h1 h2
   refine Xi6 ?_
   rw [List.append_nil] at h1
   rw [Xfj, List.append_nil] at h2
   unfold Xec
   simp only
   rw [Xar (by rw [h1]; omega), h1, h2]
  | cons s r ih =>
   intro pre a h1 h2
   have hlen : l.length = pre.length + (r.length + 1) := by rw [h1]; simp
   have hmem : s ∈ l := by rw [h1]; simp
   have hq := List.all_eq_true.1 hs s hmem
   simp only [Bool.and_eq_true] at hq
   obtain ⟨q1, q2, q3⟩ := hq
   rw [Xfj] at h2
   have hsc := Xy4 h2 hb hL4 q1 q3
   have := ih (pre ++ [s]) (a ++ sqL s c) (by rw [h1]; simp) (by rw [h2]; simp only [List.append_assoc])
   refine lgo ?_ this
   unfold Xec
   simp only
   rw [syA, hsc, Xab]
   simp only
   rw [Xba (by simp only [List.length_singleton]; omega), Xax, wkA, List.length_append, List.length_append, List.length_singleton]
   rfl
 have := key l [] [] rfl (by rw [hLe]; rfl)
 unfold Xfa Xl1
 rw [Yau L hb hL4, Xab, Xa3, Xam, Xab, strOfNums_size, decide_eq_true (by omega), Xab, Xab, Xam, Xab, decide_eq_true (by omega), Xa3, Xei, Xab, hc, Xab, Bool.not_true, Xax]
 refine (Xgn this).trans ?_
 simp only
 rw [bne_self_eq_false, Xax]
def Yk6 (t : Nat → Int) : Nat → Int
 | 0 => 0
 | k + 1 => Yk6 t k + t k
theorem Ye3 {t : Nat → Int} {B : Int} : ∀ n : Nat, (∀ k, k < n → -B ≤ t k ∧ t k ≤ B) → -(n * B) ≤ Yk6 t n ∧ Yk6 t n ≤ n * B
 | 0, _ => by simp [Yk6]
 | n + 1, h => by
  have a := Ye3 n (fun k hk => h k (by omega))
  have b := h n (by omega)
  rw [Yk6, show ((n + 1 : Nat) : Int) * B = n * B + B by rw [Int.natCast_add, Int.add_mul]; simp]
  omega
def eT (f : Nat → Int) (u : Nat) : Int := Yk6 (fun k => Xfw (u : Int) (k : Int) * f k) 8
theorem Yli {f : Nat → Int} {B : Int} (h : ∀ k, k < 8 → -B ≤ f k ∧ f k ≤ B) {u : Nat} (hu : u < 8) : -(8 * B) ≤ eT f u ∧ eT f u ≤ 8 * B :=
 Ye3 8 fun k hk => (Xq8 (h k hk) (Xxg ⟨u, hu⟩ ⟨k, hk⟩)).2
def eS (X : Nat → Nat → Int) (u v : Nat) : Int := eT (fun i => eT (X i) v) u
theorem Yno {X : Nat → Nat → Int} {B : Int} (h : ∀ i k, i < 8 → k < 8 → -B ≤ X i k ∧ X i k ≤ B) {u v : Nat} (hu : u < 8) (hv : v < 8) : -(64 * B) ≤ eS X u v ∧ eS X u v ≤ 64 * B := by
 have := Yli (B := 8 * B) (f := fun i => eT (X i) v) (fun i hi => Yli (fun k hk => h i k hi hk) hv) hu
 unfold eS
 omega
theorem Yd3 {t u : Nat → Int} {B : Int} (hB : B ≤ 1000000000000) (h : ∀ k, k < 8 → t k = u k ∧ -B ≤ u k ∧ u k ≤ B) : ∀ n : Nat, n ≤ 8 → Xzj t n = Yk6 u n
 | 0, _ => rfl
 | n + 1, hn => by
  have a := h n (by omega)
  have b := Ye3 (t := u) (B := B) n (fun k hk => (h k (by omega)).2)
  have c : (n : Int) * B ≤ 8 * 1000000000000 := by
   have : (n : Int) * B ≤ (n : Int) * 1000000000000 := Int.mul_le_mul_of_nonneg_left hB (by omega)
   omega
  rw [Xzj, Yd3 hB h n (by omega), Yk6, a.1, wkA]
def Ydh (p : List Int) (i k : Nat) : Int := p.getD (8 * i + k) 0
theorem Yjv {p : List Int} {B : Int} (hB : B ≤ 100000000000) (hl : p.length = 64) (hb : inB B p) {i v : Nat} (hi : i < 8) (hv : v < 8) : (Xlw p).getD (8 * i + v) 0 = eT (Ydh p i) v := by
 unfold Xlw
 rw [Xd6 _ (by omega), show (8 * i + v) / 8 = i by omega, show (8 * i + v) % 8 = v by omega]
 refine Yd3 (B := B) (by omega) (fun k hk => ?_) 8 (by omega)
 have hp := Xhl hb (i := 8 * i + k) (by omega)
 have := (Xq8 hp (Xxg ⟨v, hv⟩ ⟨k, hk⟩)).2
 exact ⟨by unfold Yk3 Ydh; rw [wk (by simp only at this; omega) (by simp only at this; omega)], this⟩
theorem Ykf {p : List Int} {B : Int} (hB : B ≤ 10000000000) (hl : p.length = 64) (hb : inB B p) {u v : Nat} (hu : u < 8) (hv : v < 8) : (Xs4 p).getD (8 * u + v) 0 = eS (Ydh p) u v := by
 unfold Xs4
 rw [Xd6 _ (by omega), show (8 * u + v) / 8 = u by omega, show (8 * u + v) % 8 = v by omega]
 refine Yd3 (B := 8 * B) (by omega) (fun k hk => ?_) 8 (by omega)
 have hh := Yjv (by omega) hl hb hk hv
 have hp := Yli (f := Ydh p k) (B := B) (fun j hj => Xhl hb (i := 8 * k + j) (by omega)) hv
 have := (Xq8 hp (Xxg ⟨u, hu⟩ ⟨k, hk⟩)).2
 exact ⟨by unfold Ykx; rw [hh, wk (by simp only at this; omega) (by simp only at this; omega)], this⟩
theorem Yae {l qp s : Int} (hl : -5000 ≤ l ∧ l ≤ 5000) (es : Xf8 qp = some s) (hs : 10 ≤ s ∧ s ≤ 1152) : Xco l qp = some (l * s) := by
 unfold Xco
 rw [Xaj, Xab, decide_eq_true hl, Bool.not_true, Xax, es, Xab]
 have m1 : l * s ≤ 5000 * s := Int.mul_le_mul_of_nonneg_right hl.2 (by omega)
 have m2 : -5000 * s ≤ l * s := Int.mul_le_mul_of_nonneg_right hl.1 (by omega)
 rw [wkA]
theorem Yll {n : Nat} {g : Nat → Int} {B : Int} (h : ∀ i, i < n → -B ≤ g i ∧ g i ≤ B) : inB B ((List.range n).map g) := fun x hx => by
 obtain ⟨i, hi, rfl⟩ := List.mem_map.1 hx
 exact h i (List.mem_range.1 hi)
theorem Yaa {p : List Int} (hl : p.length = 64) (hb : inB 5760000 p) : Xcm p = some ((List.range 64).map fun i => ((Xs4 p).getD i 0 + 32) / 64) := by
 unfold Xcm
 have hb2 : inB 368640000 (Xs4 p) := by
  obtain ⟨o, e, _, h2⟩ := Xng p 5760000 (by omega) hl hb
  rw [Xj9 p hl] at e
  injection e with e
  rw [e]; exact h2
 rw [Xc3 p 64 10000000 (by omega) (by omega) (by omega) (Xjf hb (by omega)), Xab, Bool.not_true, Xax, Xj9 p hl, Xab]
 rw [Xzy (f := Xb6) 64 (fun i => ((Xs4 p).getD i 0 + 32) / 64) (Xs4 p) (Xxu p) (by
  intro i s hi hs hx
  have hx2 := Xhl hb2 (i := i) (by rw [Xxu]; exact hi)
  obtain ⟨d, ed, d1, d2⟩ := Xd0 (s.getD i 0 + 32) 64 (by omega) (Or.inr rfl)
  unfold Xb6
  simp only [Int.toNat_natCast]
  rw [syA, rqA, rqA, wkA (e := s.getD i 0 + 32), ed, Xab, rqA, rqA, wkA (e := (i : Int) + 1), show d = ((Xs4 p).getD i 0 + 32) / 64 by omega]
  rfl) (by intro s _; unfold Xb6; rw [Xar (by simp)]), Xab]
theorem Xln (c : Xaq) (hc : Xew c) : ∃ l c', Xep c 64 = some (l, c') ∧ l.length = 64 ∧ Xew c' := by
 unfold Xep
 rw [rqA]
 obtain ⟨o, h, h2, h3⟩ := Xq7 (f := Xfh 64) (fun v => 0 ≤ v.1 ∧ v.1 ≤ 6 ∧ Xew ⟨v.2.1, v.2.2.1, v.2.2.2.1⟩ ∧ v.2.2.2.2.length = 64) (fun v => (6 - v.1).toNat) (fun _ o => o.1.length = 64 ∧ Xew ⟨o.2.1, o.2.2.1, o.2.2.2⟩) (by
  intro ⟨i, b, j, h, l⟩ ⟨h1, h2, h3, h4⟩
  unfold Xfh
  simp only at h1 h2 h3 h4 ⊢
  obtain ⟨x, c', ex, x0, x1, _, hx⟩ := Xao _ 7 h3
  rw [ex, Xab]
  simp only
  by_cases hi : i < x
  ·
   rw [Xdi hi, Xab]
   simp only
   rw [decide_eq_true (by omega), Xa3]
   obtain ⟨y, c2, ey, y0, y1, _, hy⟩ := Xao c' 64 hx
   have ey' : Xal ⟨c'.b_, c'.i_, c'.h_⟩ 64 = some (y, c2) := ey
   rw [ey', Xab]
   obtain ⟨w, c3, ew, hw⟩ := Xbv c2 2 hy
   simp only
   rw [ew, Xab]
   simp only
   have step : ∃ p, (sel w (req ((5 : Int) ≠ 0) <| some ((y.tmod 5), c3.b_, c3.i_, c3.h_)) (some (y, c3.b_, c3.i_, c3.h_))) = some (p, c3.b_, c3.i_, c3.h_) ∧ 0 ≤ p ∧ p < 64 := by
    cases w with
    | true => rw [Xa3, rqA]; exact ⟨_, rfl, by rw [Xbz y0]; omega, by rw [Xbz y0]; omega⟩
    | false => rw [Xax]; exact ⟨_, rfl, y0, by omega⟩
   obtain ⟨p, ep, p0, p1⟩ := step
   rw [ep, Xab]
   simp only
   obtain ⟨z, c4, ez, z0, z1, _, hz⟩ := Xao c3 21 hw
   have ez' : Xal ⟨c3.b_, c3.i_, c3.h_⟩ 21 = some (z, c4) := ez
   rw [ez', Xab]
   simp only
   obtain ⟨u, c5, eu, hu⟩ := Xbv c4 6 hz
   rw [rqA, rqA, eu, Xab]
   simp only
   cases u with
   | true =>
    obtain ⟨t, c6, et, t0, t1, _, ht⟩ := Xao c5 10001 hu
    rw [Xa3, et, Xab, Xba (by rw [List.length_set]; omega), Xba (by rw [List.length_set]; omega), Xab]
    refine .inr ⟨_, rfl, ⟨?_, ?_, ht, ?_⟩, ?_, fun _ h => h⟩
    ·
     simp only; rw [wkA]; omega
    ·
     simp only; rw [wkA]; omega
    ·
     simp only [List.length_set]; exact h4
    ·
     simp only; rw [wkA]; omega
   | false =>
    rw [Xax, Xab]
    refine .inr ⟨_, rfl, ⟨?_, ?_, hu, ?_⟩, ?_, fun _ h => h⟩
    ·
     simp only; rw [wkA]; omega
    ·
     simp only; rw [wkA]; omega
    ·
     simp only [List.length_set]; exact h4
    ·
     simp only; rw [wkA]; omega
  ·
   rw [Xar hi, Xab]
   simp only
   rw [Xax]
   exact .inl ⟨_, rfl, h4, hx⟩) (0, c.b_, c.i_, c.h_, List.replicate (64 : Int).toNat 0) ⟨by simp, by simp, hc, by simp⟩
 rw [h, Xab]
 exact ⟨_, _, rfl, h2, h3⟩
theorem Xs0 (u : Xaq) (hu : Xew u) (c : Xd1) : ∃ q u', Xfy u c = some (q, u') ∧ q.Levels.length ≤ 64 ∧ Xew u' := by
 unfold Xfy
 have s1 : ∃ (b : Bool) (v : Xaq), (sel c.Key (some (false, u.b_, u.i_, u.h_)) (bnd (Xbb u 4) fun q2 => some (q2.1, q2.2.b_, q2.2.i_, q2.2.h_))) = some (b, v.b_, v.i_, v.h_) ∧ Xew v := by
  obtain ⟨w, v, ew, hv⟩ := Xbv u 4 hu
  cases c.Key with
  | true => exact ⟨false, u, rfl, hu⟩
  | false => rw [Xax, ew, Xab]; exact ⟨w, v, rfl, hv⟩
 obtain ⟨b, v, e1, hv⟩ := s1
 rw [e1, Xab]
 simp only
 cases b with
 | true => rw [Xa3]; exact ⟨_, _, rfl, by simp, hv⟩
 | false =>
  rw [Xax]
  have s2 : ∃ (b : Bool) (w : Xaq), (sel c.Key (some (false, v.b_, v.i_, v.h_)) (bnd (Xbb (⟨v.b_, v.i_, v.h_⟩ : Xaq) 2) fun q4 => some (q4.1, q4.2.b_, q4.2.i_, q4.2.h_))) = some (b, w.b_, w.i_, w.h_) ∧ Xew w := by
   obtain ⟨w, v', ew, hv'⟩ := Xbv v 2 hv
   cases c.Key with
   | true => exact ⟨false, v, rfl, hv⟩
   | false =>
    have ew' : Xbb ⟨v.b_, v.i_, v.h_⟩ 2 = some (w, v') := ew
    rw [Xax, ew', Xab]; exact ⟨w, v', rfl, hv'⟩
  obtain ⟨b2, w, e2, hw⟩ := s2
  rw [e2, Xab]
  simp only
  cases b2 with
  | true =>
   rw [Xa3]
   obtain ⟨x, c1, ex, x0, x1, _, h1⟩ := Xao w 7 hw
   have ex' : Xal ⟨w.b_, w.i_, w.h_⟩ 7 = some (x, c1) := ex
   obtain ⟨y, c2, ey, y0, y1, _, h2⟩ := Xao c1 7 h1
   obtain ⟨l, c3, el, hl, h3⟩ := Xln c2 h2
   obtain ⟨z, c4, ez, h4⟩ := Xbv c3 6 h3
   rw [ex', Xab]
   simp only
   rw [ey, Xab]
   simp only
   rw [el, Xab]
   simp only
   rw [ez, Xab]
   simp only
   cases z with
   | true =>
    obtain ⟨t, c5, et, _, _, _, h5⟩ := Xao c4 33 h4
    rw [Xa3, et, Xab, Xab]
    exact ⟨_, _, rfl, by simp only; omega, h5⟩
   | false =>
    rw [Xax, Xab]
    exact ⟨_, _, rfl, by simp only; omega, h4⟩
  | false =>
   rw [Xax]
   obtain ⟨x, c1, ex, x0, x1, _, h1⟩ := Xao w 4 hw
   have ex' : Xal ⟨w.b_, w.i_, w.h_⟩ 4 = some (x, c1) := ex
   obtain ⟨l, c3, el, hl, h3⟩ := Xln c1 h1
   rw [ex', Xab]
   simp only
   rw [el, Xab]
   exact ⟨_, _, rfl, by simp only; omega, h3⟩
theorem Xrn (u : Xaq) (hu : Xew u) (n : Int) (h0 : 0 ≤ n) (h1 : n ≤ 1000) (c : Xd1) : ∃ l u', Xe9 u n c = some (l, u') ∧ Xew u' := by
 have hm : maxLen = 9223372036854775807 := rfl
 unfold Xe9
 obtain ⟨o, h, h2⟩ := Xq7 (f := Xev n c) (fun v => 0 ≤ v.1 ∧ v.1 ≤ n ∧ Xew ⟨v.2.1, v.2.2.1, v.2.2.2.1⟩ ∧ (v.2.2.2.2.length : Int) = v.1) (fun v => (n - v.1).toNat) (fun _ o => Xew ⟨o.2.1, o.2.2.1, o.2.2.2⟩) (by
  intro ⟨i, b, j, h, l⟩ ⟨h1, h2, h3, h4⟩
  unfold Xev
  simp only at h1 h2 h3 h4 ⊢
  by_cases hi : i < n
  ·
   obtain ⟨q, c', eq, _, hq⟩ := Xs0 _ h3 c
   rw [Xdi hi, eq, Xab, Xba (by simp only [List.length_singleton]; omega)]
   refine .inr ⟨_, rfl, ⟨?_, ?_, hq, ?_⟩, ?_, fun _ h => h⟩
   ·
    simp only; rw [wkA]; omega
   ·
    simp only; rw [wkA]; omega
   ·
    simp only [List.length_append, List.length_singleton]; rw [wkA]; omega
   ·
    simp only; rw [wkA]; omega
  ·
   rw [Xar hi]
   exact .inl ⟨_, rfl, h3⟩) (0, u.b_, u.i_, u.h_, []) ⟨by simp, h0, hu, by simp⟩
 rw [h, Xab]
 exact ⟨_, _, rfl, h2⟩
theorem Xun (b : List Int) (hb : b.length ≤ 1048576) : ∃ p r c cf l, Xha b = some (p, r, c, cf, l) ∧ Xck p = true ∧ Xjx p r = true ∧ (r.Wide = 8 ∨ r.Wide = 16) ∧ (r.High = 8 ∨ r.High = 16) ∧ (r.Left = 0 ∨ r.Left = 8) ∧ (r.Top = 0 ∨ r.Top = 8) ∧ Xdp c = true := by
 unfold Xha Xjk
 obtain ⟨u, e, hu⟩ := Xop b hb
 rw [e, Xab]
 obtain ⟨x1, u1, e1, a1, b1, _, h1⟩ := Xao u 2 hu
 obtain ⟨x2, u2, e2, a2, b2, _, h2⟩ := Xao u1 2 h1
 obtain ⟨x3, u3, e3, a3, b3, _, h3⟩ := Xao u2 2 h2
 obtain ⟨x4, u4, e4, a4, b4, _, h4⟩ := Xao u3 2 h3
 obtain ⟨x5, u5, e5, a5, b5, _, h5⟩ := Xao u4 2 h4
 obtain ⟨x6, u6, e6, a6, b6, _, h6⟩ := Xao u5 5 h5
 have b1 := b1 (by omega)
 have b2 := b2 (by omega)
 have b3 := b3 (by omega)
 have b4 := b4 (by omega)
 have b5 := b5 (by omega)
 have b6 := b6 (by omega)
 obtain ⟨p, u7, e7, pw, ph, ok, h7⟩ := Xuz u6 (8 * x1 + (8 + 8 * x3) + 8 * x5) (8 * x2 + (8 + 8 * x4) + x6) h6 (by omega) (by omega)
 obtain ⟨c, u8, e8, hc, h8⟩ := Xxq u7 h7
 obtain ⟨cf, u9, e9, h9⟩ := Xbv u8 3 h8
 have mb : (8 + 8 * x3) / 8 * ((8 + 8 * x4) / 8) ≤ 2 * 2 := Int.mul_le_mul (by omega) (by omega) (by omega) (by omega)
 have m0 : 0 ≤ (8 + 8 * x3) / 8 * ((8 + 8 * x4) / 8) := Int.mul_nonneg (by omega) (by omega)
 obtain ⟨l, u10, e10, _⟩ := Xrn u9 h9 ((8 + 8 * x3) / 8 * ((8 + 8 * x4) / 8)) m0 (by omega) c
 rw [e1, Xab]
 simp only
 rw [e2, Xab]
 simp only
 rw [e3, Xab]
 simp only
 rw [e4, Xab]
 simp only
 rw [e5, Xab]
 simp only
 rw [e6, Xab]
 simp only
 rw [wkA (e := 8 * x1), wkA (e := 8 * x2), wkA (e := 8 * x3), wkA (e := 8 * x4), wkA (e := 8 * x5), wkA (e := 8 + 8 * x3), wkA (e := 8 + 8 * x4), wkA (e := 8 * x1 + (8 + 8 * x3)), wkA (e := 8 * x2 + (8 + 8 * x4)), wkA (e := 8 * x1 + (8 + 8 * x3) + 8 * x5), wkA (e := 8 * x2 + (8 + 8 * x4) + x6), e7, Xab]
 simp only
 rw [e8, Xab]
 simp only
 rw [e9, Xab, rqA, rqA, Xbd (a := 8 + 8 * x3) (by omega), Xbd (a := 8 + 8 * x4) (by omega), wkA (e := (8 + 8 * x3) / 8), wkA (e := (8 + 8 * x4) / 8), wkA (e := (8 + 8 * x3) / 8 * ((8 + 8 * x4) / 8))]
 simp only
 rw [e10, Xab, Xab]
 refine ⟨_, _, _, _, _, rfl, ok, ?_, ?_, ?_, ?_, ?_, hc⟩
 ·
  unfold Xjx
  simp only [Bool.and_eq_true, decide_eq_true_eq]
  omega
 ·
  simp only; omega
 ·
  simp only; omega
 ·
  simp only; omega
 ·
  simp only; omega
theorem Xms (c : Xaq) (hc : Xew c) : ∃ l c', Xff c = some (l, c') ∧ l.length ≤ 10 ∧ Xew c' := by
 have hm : maxLen = 9223372036854775807 := rfl
 unfold Xff
 obtain ⟨o, h, h2, h3⟩ := Xq7 (f := Xf0) (fun v => 0 ≤ v.1 ∧ v.1 ≤ 3 ∧ Xew ⟨v.2.1, v.2.2.1, v.2.2.2.1⟩ ∧ (v.2.2.2.2.length : Int) ≤ v.1) (fun v => (3 - v.1).toNat) (fun _ o => o.1.length ≤ 10 ∧ Xew ⟨o.2.1, o.2.2.1, o.2.2.2⟩) (by
  intro ⟨i, b, j, h, l⟩ ⟨h1, h2, h3, h4⟩
  unfold Xf0
  simp only at h1 h2 h3 h4 ⊢
  obtain ⟨x, c', ex, x0, x1, _, hx⟩ := Xao _ 3 h3
  rw [ex, Xab]
  simp only
  by_cases hi : i ≤ x
  ·
   obtain ⟨y, c2, ey, y0, y1, _, hy⟩ := Xao c' 2 hx
   rw [Xdi hi, ey, Xab, Xba (by simp only [List.length_singleton]; omega)]
   refine .inr ⟨_, rfl, ⟨?_, ?_, hy, ?_⟩, ?_, fun _ h => h⟩
   ·
    simp only; rw [wkA]; omega
   ·
    simp only; rw [wkA]; omega
   ·
    simp only [List.length_append, List.length_singleton]; rw [wkA (e := i + 1)]; omega
   ·
    simp only; rw [wkA]; omega
  ·
   rw [Xar hi]
   exact .inl ⟨_, rfl, by simp only; omega, hx⟩) (0, c.b_, c.i_, c.h_, []) ⟨by simp, by simp, hc, by simp⟩
 rw [h, Xab]
 exact ⟨_, _, rfl, h2, h3⟩
theorem Xuv (c : Xaq) (hc : Xew c) : ∃ s c', Xhd c = some (s, c') ∧ s.Cols.length ≤ 10 ∧ s.Rows.length ≤ 10 ∧ (3 ≤ s.Bits ∧ s.Bits ≤ 5) ∧ Xew c' := by
 unfold Xhd
 obtain ⟨x, c1, ex, x0, x1, _, h1⟩ := Xao c 3 hc
 obtain ⟨l, c2, el, hl, h2⟩ := Xms c1 h1
 obtain ⟨m, c3, em, hm, h3⟩ := Xms c2 h2
 obtain ⟨z, c4, ez, h4⟩ := Xbv c3 2 h3
 rw [ex, Xab]
 simp only
 rw [el, Xab]
 simp only
 rw [em, Xab]
 simp only
 rw [ez, Xab]
 simp only
 rw [wkA (e := 3 + x)]
 cases z with
 | true =>
  rw [Xa3, Xll, Xab, Xab]
  simp only
  cases decide (Xkw ⟨3, 3 + x, l, m⟩ ≤ 16) <;> (simp only [Xa3, Xax, Xab]; exact ⟨_, _, rfl, hl, hm, by simp only; omega, h4⟩)
 | false =>
  rw [Xax, Xab]
  simp only [Xa3, Xax, Xab]
  exact ⟨_, _, rfl, hl, hm, by simp only; omega, h4⟩
theorem Xul (b : List Int) (hb : b.length ≤ 1048576) : ∃ s p h, Xg9 b = some (s, p, h) ∧ Xy1 p = true := by
 unfold Xg9
 obtain ⟨u, e, hu⟩ := Xop b hb
 obtain ⟨s, c1, es, s1, s2, s3, h1⟩ := Xuv u hu
 obtain ⟨p, c2, ep, hp, h2⟩ := Xj7 c1 h1
 rw [e, Xab, es, Xab]
 simp only
 rw [ep, Xab]
 simp only
 unfold Xhe
 obtain ⟨x, c3, ex, _, _, _, h3⟩ := Xao c2 (Ye4 s) h2
 obtain ⟨y, c4, ey, _, _, _, h4⟩ := Xao c3 41 h3
 rw [Xxk, Xab, ex, Xab]
 simp only
 rw [ey, Xab]
 simp only
 have hw : 0 ≤ Xaa .u64 s.Bits := by unfold Xaa; simp only; exact Int.emod_nonneg _ (by decide)
 rw [Xaj, Xab, decide_eq_true (by omega), Xa3, Xba hw]
 obtain ⟨z, c5, ez, _, _, _, h5⟩ := Xao c4 (Xaa .i64 (1 * 2 ^ min (Xaa .u64 s.Bits).toNat (IntKind.bits .i64))) h4
 rw [ez, Xab, Xab, Xab]
 exact ⟨_, _, _, rfl, hp⟩
theorem Yea {p : Pic} (hg : ∀ x y : Int, Xf5 p x y = 128) (x y : Int) : 128 ≤ Xf5 p x y ∧ Xf5 p x y ≤ 128 := by
 rw [hg]; omega
theorem Ydw {p : Pic} (ok : Xck p = true) {x y : Int} (hx : x.tmod 8 = 0) (hy : y.tmod 8 = 0) (h : Xij p x y = true) (hg : ∀ x y : Int, Xf5 p x y = 128) : ∃ e, Xd5 p x y = some (e, true) ∧ Xmj e ∧ (∀ z ∈ e.Above, 128 ≤ z ∧ z ≤ 128) ∧ (∀ z ∈ e.Left, 128 ≤ z ∧ z ≤ 128) := by
 have hm : maxLen = 9223372036854775807 := rfl
 obtain ⟨k1, k2, k3⟩ := Xa6 ok
 have h' := h
 unfold Xij at h'
 rw [decide_eq_true_eq] at h'
 unfold Xd5
 rw [Xef ok hx hy h, Xab, Bool.not_true, Xax]
 obtain ⟨o, e, o1, o2, o3, o4, o5, o6⟩ := Xc2 (f := Xbt p x y) 8 (fun i s => (y > 0 → s.1.length = i) ∧ (¬ y > 0 → s.1.length = 0) ∧ (x > 0 → s.2.length = i) ∧ (¬ x > 0 → s.2.length = 0) ∧ (∀ z ∈ s.1, 128 ≤ z ∧ z ≤ 128) ∧ (∀ z ∈ s.2, 128 ≤ z ∧ z ≤ 128)) (by
  intro i s hi ⟨g1, g2, g3, g4, g5, g6⟩
  obtain ⟨a, b⟩ := s
  simp only at g1 g2 g3 g4 g5 g6
  have d1 := Yea hg (x + i) (y - 1)
  have d2 := Yea hg (x - 1) (y + i)
  have st1 : ∃ a', (sel (decide (y > 0)) (bnd (Xdw p (Xaa .i64 (x + (i : Int))) (Xaa .i64 (y - 1))) fun q16 => req ((a.length + ([q16]).length) * 8 ≤ 140737488355328 ∧ a.length + ([q16]).length ≤ maxLen) <| some (a ++ ([q16]))) (some a)) = some a' ∧ (y > 0 → a'.length = i + 1) ∧ (¬ y > 0 → a'.length = 0) ∧ (∀ z ∈ a', 128 ≤ z ∧ z ≤ 128) := by
   by_cases c : y > 0
   ·
    rw [Xdi c, wkA (e := x + (i : Int)), wkA (e := y - 1), Xdc ok, Xab, Xba (by simp only [List.length_singleton]; have := g1 c; omega)]
    refine ⟨_, rfl, fun _ => by simp; exact g1 c, fun hn => absurd c hn, fun z hz => ?_⟩
    rcases List.mem_append.1 hz with hz | hz
    ·
     exact g5 z hz
    ·
     rw [List.mem_singleton.1 hz]; exact d1
   ·
    rw [Xar c]
    exact ⟨_, rfl, fun hn => absurd hn c, fun _ => g2 c, g5⟩
  obtain ⟨a', ea, a1, a2, a3⟩ := st1
  have st2 : ∃ b', (sel (decide (x > 0)) (bnd (Xdw p (Xaa .i64 (x - 1)) (Xaa .i64 (y + (i : Int)))) fun q17 => req ((b.length + ([q17]).length) * 8 ≤ 140737488355328 ∧ b.length + ([q17]).length ≤ maxLen) <| some (a', (b ++ ([q17])))) (some (a', b))) = some (a', b') ∧ (x > 0 → b'.length = i + 1) ∧ (¬ x > 0 → b'.length = 0) ∧ (∀ z ∈ b', 128 ≤ z ∧ z ≤ 128) := by
   by_cases c : x > 0
   ·
    rw [Xdi c, wkA (e := y + (i : Int)), wkA (e := x - 1), Xdc ok, Xab, Xba (by simp only [List.length_singleton]; have := g3 c; omega)]
    refine ⟨_, rfl, fun _ => by simp; exact g3 c, fun hn => absurd c hn, fun z hz => ?_⟩
    rcases List.mem_append.1 hz with hz | hz
    ·
     exact g6 z hz
    ·
     rw [List.mem_singleton.1 hz]; exact d2
   ·
    rw [Xar c]
    exact ⟨_, rfl, fun hn => absurd hn c, fun _ => g4 c, g6⟩
  obtain ⟨b', eb, b1, b2, b3⟩ := st2
  unfold Xbt
  simp only
  rw [syA, ea, Xab, eb, Xab, wkA (e := (i : Int) + 1)]
  exact ⟨(a', b'), rfl, a1, a2, b1, b2, a3, b3⟩) (by intro s; unfold Xbt; rw [Xar (by simp)]) ([], []) ⟨fun _ => rfl, fun _ => rfl, fun _ => rfl, fun _ => rfl, fun z hz => by simp at hz, fun z hz => by simp at hz⟩
 rw [e, Xab, Xe5, Xab]
 have d3 := Yea hg (x - 1) (y - 1)
 have ha : o.1.length = 0 ∨ o.1.length = 8 := by
  by_cases c : y > 0
  ·
   exact Or.inr (o1 c)
  ·
   exact Or.inl (o2 c)
 have hb : o.2.length = 0 ∨ o.2.length = 8 := by
  by_cases c : x > 0
  ·
   exact Or.inr (o3 c)
  ·
   exact Or.inl (o4 c)
 cases hc : (decide (x > 0) && decide (y > 0)) with
 | true =>
  rw [Xa3, wkA (e := x - 1), wkA (e := y - 1), Xdc ok, Xab, Xab]
  exact ⟨_, rfl, ⟨ha, hb, fun z hz => by have := o5 z hz; omega, fun z hz => by have := o6 z hz; omega, by simp only; omega, by simp only; omega⟩, o5, o6⟩
 | false =>
  rw [Xax, Xab]
  exact ⟨_, rfl, ⟨ha, hb, fun z hz => by have := o5 z hz; omega, fun z hz => by have := o6 z hz; omega, by simp only; omega, by simp only; omega⟩, o5, o6⟩
theorem Yk9 {e : Xhn} (h : Xmj e) (ha : ∀ z ∈ e.Above, 128 ≤ z ∧ z ≤ 128) (hb : ∀ z ∈ e.Left, 128 ≤ z ∧ z ≤ 128) : Xf9 e = some 128 := by
 obtain ⟨h1, h2, h3, h4, _, _⟩ := h
 unfold Xf9
 rw [wkA (e := (e.Above.length : Int) + (e.Left.length : Int))]
 by_cases hz : (e.Above.length : Int) + (e.Left.length : Int) = 0
 ·
  rw [Xbm (by simpa using hz)]
 ·
  rw [Xbo (by simpa using hz), rqA, Xbd (by omega), wkA (e := ((e.Above.length : Int) + (e.Left.length : Int)) / 2)]
  obtain ⟨a, ea, a1, a2⟩ := Xh7 (f := Xcq e) e.Above.length (fun i s => ((e.Above.length : Int) + (e.Left.length : Int)) / 2 + 128 * i ≤ s ∧ s ≤ ((e.Above.length : Int) + (e.Left.length : Int)) / 2 + 128 * i) (by
   intro i s hi ⟨g1, g2⟩
   have := ha (e.Above.getD i 0) (by rw [Xct _ i hi]; exact List.getElem_mem _)
   unfold Xcq
   simp only [Int.toNat_natCast]
   rw [syA, rqA, wkA (e := s + e.Above.getD i 0), wkA (e := (i : Int) + 1)]
   exact ⟨_, rfl, by omega, by omega⟩) (by intro s; unfold Xcq; rw [Xar (by simp)]) (((e.Above.length : Int) + (e.Left.length : Int)) / 2) ⟨by omega, by omega⟩
  obtain ⟨b, eb, b1, b2⟩ := Xh7 (f := Xcr e) e.Left.length (fun i s => ((e.Above.length : Int) + (e.Left.length : Int)) / 2 + 128 * e.Above.length + 128 * i ≤ s ∧ s ≤ ((e.Above.length : Int) + (e.Left.length : Int)) / 2 + 128 * e.Above.length + 128 * i) (by
   intro i s hi ⟨g1, g2⟩
   have := hb (e.Left.getD i 0) (by rw [Xct _ i hi]; exact List.getElem_mem _)
   unfold Xcr
   simp only [Int.toNat_natCast]
   rw [syA, rqA, wkA (e := s + e.Left.getD i 0), wkA (e := (i : Int) + 1)]
   exact ⟨_, rfl, by omega, by omega⟩) (by intro s; unfold Xcr; rw [Xar (by simp)]) a ⟨by omega, by omega⟩
  have hn : (e.Above.length : Int) + (e.Left.length : Int) = 8 ∨ (e.Above.length : Int) + (e.Left.length : Int) = 16 := by omega
  rw [ea, Xab, eb, Xab, Xba hz, Xbd (by omega)]
  have hr : b / ((e.Above.length : Int) + (e.Left.length : Int)) = 128 := by
   rcases hn with hn | hn <;> rw [hn] <;> omega
  rw [hr, wkA]
theorem Ydy {e : Xhn} (h : Xmj e) (ha : ∀ z ∈ e.Above, 128 ≤ z ∧ z ≤ 128) (hb : ∀ z ∈ e.Left, 128 ≤ z ∧ z ≤ 128) : Xcn 0 e = some ((List.range 64).map fun _ => 128) := by
 have hm : maxLen = 9223372036854775807 := rfl
 have h' := h
 obtain ⟨h1, h2, h3, h4, h5, h6⟩ := h'
 unfold Xcn
 rw [Xi9 h, Xab, Xa3, Xaj, Xab, decide_eq_true (by omega), Bool.not_true, Xab, Xax]
 have hc : ∃ v, sel (decide (e.Corner < 0)) (some (128 : Int)) (some e.Corner) = some v := by
  cases decide (e.Corner < 0) <;> exact ⟨_, rfl⟩
 obtain ⟨v, ev⟩ := hc
 rw [ev, Xab]
 have := Ye9 (f := Xbk 0 e v) 64 (fun _ => (128 : Int)) [] (by
  intro i hi
  obtain ⟨a, ea, a1, a2⟩ := Xfi e.Above (i % 8) (by omega) h1 h3
  obtain ⟨b, eb, b1, b2⟩ := Xfi e.Left (i / 8) (by omega) h2 h4
  unfold Xbk
  simp only
  rw [syA, rqA, Xbz (by omega), show (i : Int) % 8 = ((i % 8 : Nat) : Int) by omega, ea, Xab, rqA, Xbd (by omega), wkA (e := (i : Int) / 8), show (i : Int) / 8 = ((i / 8 : Nat) : Int) by omega, eb, Xab, wkA (e := (i : Int) + 1), Yk9 h ha hb, show ((0 : Int) == 0) = true from rfl, Xa3, Xab, Xba (by simp only [List.length_append, List.length_nil, List.length_map, List.length_range, List.length_singleton]; omega), Xab]
  rfl) (by unfold Xbk; rw [Xar (by simp)])
 rw [List.nil_append] at this
 rw [this, Xab]
theorem Yjx {l : List Int} (h : inB 0 l) (i : Nat) : l.getD i 0 = 0 := by
 rcases Nat.lt_or_ge i l.length with hi | hi
 ·
  have := Xhl h hi; omega
 ·
  rw [List.getD_eq_getElem?_getD, List.getElem?_eq_none (by omega)]; rfl
theorem Yac {p : List Int} (hl : p.length = 16) (hb : inB 0 p) : ∃ o, Xd9 p = some o ∧ o.length = 16 ∧ inB 0 o := by
 unfold Xd9
 obtain ⟨a, ea, a1, a2⟩ := Xf1 p 0 (by omega) hl hb
 obtain ⟨b, eb, b1, b2⟩ := Xhf a 2 (by omega) a1 (Xjf a2 (by omega))
 obtain ⟨d, ed, d1, d2⟩ := Xf1 b 2 (by omega) b1 b2
 obtain ⟨e, ee, e1, e2⟩ := Xhf d 10 (by omega) d1 (Xjf d2 (by omega))
 rw [Xc3 p 16 10000000 (by omega) (by omega) (by omega) (Xjf hb (by omega)), Xab, Bool.not_true, Xax, ea, Xab, eb, Xab, ed, Xab, ee, Xab]
 obtain ⟨r, er, r1, r2⟩ := Xjg (f := Xcg) 16 (fun x => -10 ≤ x ∧ x ≤ 10) (fun x => -0 ≤ x ∧ x ≤ 0) (by
  intro i l hi hll hx
  obtain ⟨d, ed, d1, d2⟩ := Xd0 (l.getD i 0 + 32) 64 (by omega) (Or.inr rfl)
  unfold Xcg
  simp only [Int.toNat_natCast]
  rw [syA, rqA, rqA, wkA (e := l.getD i 0 + 32), ed, Xab, rqA, rqA, wkA (e := (i : Int) + 1)]
  exact ⟨d, rfl, by omega, by omega⟩) (by intro s; unfold Xcg; rw [Xar (by simp)]) e e1 (fun x hx => by have := e2 x hx; omega)
 exact ⟨r, (Xgn er).trans rfl, r1, r2⟩
theorem Xx7 (l qp : Int) (hl : -0 ≤ l ∧ l ≤ 0) (h0 : 0 ≤ qp ∧ qp ≤ 40) : ∃ o, Xco l qp = some o ∧ -0 ≤ o ∧ o ≤ 0 := by
 obtain ⟨s, es, hs⟩ := Xon qp h0
 have : l = 0 := by omega
 subst this
 rw [Yae (by omega) es hs, Int.zero_mul]
 exact ⟨0, rfl, by omega, by omega⟩
theorem Xx9 (l qp p : Int) (hl : -0 ≤ l ∧ l ≤ 0) (h0 : 0 ≤ qp ∧ qp ≤ 40) (hp : 0 ≤ p ∧ p ≤ 15) : ∃ o, Xdj l qp p = some o ∧ -0 ≤ o ∧ o ≤ 0 := by
 unfold Xdj
 obtain ⟨s, es, q0, q1⟩ := Xnb qp p h0 hp
 have : l = 0 := by omega
 subst this
 rw [Xaj, Xab, decide_eq_true (by omega), Bool.not_true, Xax, es, Xab, Int.zero_mul, wkA]
 exact ⟨0, rfl, by omega, by omega⟩
theorem Xx5 {p : List Int} (hl : p.length = 64) (hb : inB 0 p) : ∃ o, Xcm p = some o ∧ o.length = 64 ∧ inB 0 o := by
 refine ⟨_, Yaa hl (Xjf hb (by omega)), by simp, Yll fun j hj => ?_⟩
 have ej : j = 8 * (j / 8) + j % 8 := by omega
 have hu : j / 8 < 8 := by omega
 have hv : j % 8 < 8 := by omega
 rw [ej, Ykf (B := 0) (by omega) hl hb hu hv]
 have := Yno (X := Ydh p) (B := 0) (fun i k hi hk => Xhl hb (i := 8 * i + k) (by omega)) hu hv
 omega
theorem Xvi (p : List Int) (c : Xd1) (hc : Xdp c = true) (hl : p.length = 64) (hb : inB 0 p) : ∃ o, Xbg p c = some (o, true) ∧ o.length = 64 ∧ inB 0 o := by
 have hm : maxLen = 9223372036854775807 := rfl
 have hq := Xvs hc
 unfold Xbg
 rw [Xfx, Xab, hc, Xa3, Xc3 p 64 5000 (by omega) (by omega) (by omega) (Xjf hb (by omega)), Xab, Bool.not_true, Xab, Xax]
 cases hE : c.Exact with
 | true =>
  obtain ⟨o, e, h1, h2⟩ := Xbn 8 (Or.inr rfl) p 0 (by omega) (by omega) hb
  rw [Xa3, e, Xab]
  exact ⟨o, rfl, by omega, h2⟩
 | false =>
  rw [Xax]
  cases hL : c.Large with
  | true =>
   obtain ⟨w, ew, w1, w2⟩ := Xbn 8 (Or.inr rfl) p 0 (by omega) (by omega) hb
   obtain ⟨l, el, l1, l2⟩ := Xjg (f := Xa0 c) 64 (fun x => -0 ≤ x ∧ x ≤ 0) (fun x => -0 ≤ x ∧ x ≤ 0) (by
    intro i l hi hll hx
    obtain ⟨d, ed, d1, d2⟩ := Xx7 (l.getD i 0) c.Qp hx hq
    unfold Xa0
    simp only [Int.toNat_natCast]
    rw [syA, rqA, rqA, ed, Xab, rqA, rqA, wkA (e := (i : Int) + 1)]
    exact ⟨d, rfl, d1, d2⟩) (by intro s; unfold Xa0; rw [Xar (by simp)]) w (by omega) w2
   obtain ⟨o, e, h1, h2⟩ := Xx5 l1 l2
   rw [Xa3, ew, Xab, el, Xab, e, Xab]
   exact ⟨o, rfl, h1, h2⟩
  | false =>
   obtain ⟨o, eo, o1, o2⟩ := Xc2 (f := Xa7 p c) 4 (fun k s => s.length = 64 ∧ inB 0 s) (by
    intro k s hk ⟨g1, g2⟩
    have hcut : ((p.drop (16 * k)).take 16).length = 16 := by rw [List.length_take, List.length_drop]; omega
    obtain ⟨a, ea, a1, a2⟩ := Xbn 4 (Or.inl rfl) ((p.drop (16 * k)).take 16) 0 (by omega) (by omega) (Ya8 (Ya6 hb _) _)
    obtain ⟨l, el, l1, l2⟩ := Xjg (f := Xaw c) 16 (fun x => -0 ≤ x ∧ x ≤ 0) (fun x => -0 ≤ x ∧ x ≤ 0) (by
     intro i l hi hll hx
     obtain ⟨d, ed, d1, d2⟩ := Xx9 (l.getD i 0) c.Qp i hx hq (by omega)
     unfold Xaw
     simp only [Int.toNat_natCast]
     rw [syA, rqA, rqA, ed, Xab, rqA, rqA, wkA (e := (i : Int) + 1)]
     exact ⟨d, rfl, d1, d2⟩) (by intro s; unfold Xaw; rw [Xar (by simp)]) a (by omega) a2
    obtain ⟨b, eb, b1, b2⟩ := Yac l1 l2
    obtain ⟨r, er, r1, r2⟩ := Xc2 (f := Xa1 ((k : Int), s) b) 16 (fun i s => s.length = 64 ∧ inB 0 s) (by
     intro i s hi ⟨g1, g2⟩
     have ha := Xhl b2 (i := i) (by omega)
     unfold Xa1
     simp only
     rw [syA, rqA, rqA, rqA, rqA, rqA, rqA, Xbd (a := (k : Int)) (by omega), Xbd (a := (i : Int)) (by omega), Xbz (a := (k : Int)) (by omega), Xbz (a := (i : Int)) (by omega), wkA (e := (k : Int) / 2), wkA (e := (k : Int) / 2 * 4), wkA (e := (i : Int) / 4), wkA (e := (k : Int) / 2 * 4 + (i : Int) / 4), wkA (e := 8 * ((k : Int) / 2 * 4 + (i : Int) / 4)), wkA (e := (k : Int) % 2 * 4), wkA (e := 8 * ((k : Int) / 2 * 4 + (i : Int) / 4) + (k : Int) % 2 * 4), wkA (e := 8 * ((k : Int) / 2 * 4 + (i : Int) / 4) + (k : Int) % 2 * 4 + (i : Int) % 4), rqA, rqA, wkA (e := (i : Int) + 1), Int.toNat_natCast]
     exact ⟨_, rfl, by rw [List.length_set]; exact g1, Ya7 g2 _ ha⟩) (by intro s; unfold Xa1; rw [Xar (by simp)]) s ⟨g1, g2⟩
    unfold Xa7
    simp only
    rw [syA, wkA (e := 16 * (k : Int)), wkA (e := 16 * (k : Int) + 16), rqA, show (16 * (k : Int)).toNat = 16 * k by omega, show (16 * (k : Int) + 16).toNat - 16 * k = 16 by omega, ea, Xab, el, Xab, eb, Xab, er, Xab, wkA (e := (k : Int) + 1)]
    exact ⟨_, rfl, r1, r2⟩) (by intro s; unfold Xa7; rw [Xar (by simp)]) (List.replicate (64 : Int).toNat 0) ⟨by simp, Xww _ (by omega)⟩
   rw [Xax, rqA, eo, Xab]
   exact ⟨o, rfl, o1, o2⟩
def Xkc (w h : Int) : Pic := ⟨w, h, strOfNums (List.replicate (w * h).toNat 128)⟩
theorem Yho {w h : Int} (hw : 1 ≤ w ∧ w ≤ 256) (hh : 1 ≤ h ∧ h ≤ 256) (x y : Int) : Xf5 (Xkc w h) x y = 128 := by
 unfold Xf5 Xkc
 simp only
 have bx := Xgb (n := x) (a := 0) (b := w - 1) (by omega)
 have by_ := Xgb (n := y) (a := 0) (b := h - 1) (by omega)
 have pin := Xkj (W := w) (H := h) (x := Xbe x 0 (w - 1)) (y := Xbe y 0 (h - 1)) (by omega) (by omega)
 generalize Xbe y 0 (h - 1) * w + Xbe x 0 (w - 1) = k at *
 have := Xtb (List.replicate (w * h).toNat 128) (fun x hx => by rw [List.eq_of_mem_replicate hx]; omega) k.toNat (by rw [List.length_replicate]; omega)
 rw [show ((k.toNat : Nat) : Int) = k by omega] at this
 rw [this, Xct _ _ (by rw [List.length_replicate]; omega), List.getElem_replicate]
def Xrv : Xap := ⟨2, 0, 0, 0, List.replicate 64 0⟩
theorem Yaq (c : Xd1) : Xpm Xrv = true ∧ Xlo Xrv c = true := by
 refine ⟨by rfl, ?_⟩
 unfold Xlo Xrv
 simp
theorem Yhq {w h : Int} (hw : Xkd w = true) (hh : Xkd h = true) {ref : Pic} {l t x y : Int} {c : Xd1} (SD : Ynf (Xkc w h) ref l t x y c Xrv) (hr : c.Key = false → Xck ref = true) : ∃ d, Xcd (Xkc w h) ref l t c x y Xrv = some (d, true) ∧ Xgc d = true ∧ Xga (Xkc w h) x y d = some (Xkc w h) := by
 have sw := Xbs hw
 have sh := Xbs hh
 obtain ⟨g1, g2⟩ := Yaq c
 have hg := Yho (w := w) (h := h) (by omega) (by omega)
 obtain ⟨d0, e0, es0, _⟩ := Xju SD g1 g2 hr
 obtain ⟨d, es, hd, hv⟩ := Xn3 SD g1 g2 hr
 rw [es] at es0
 injection es0 with es0
 injection es0 with es0 _
 subst es0
 refine ⟨d, e0, hd, ?_⟩
 have hd128 : ∀ i : Nat, i < 64 → d.getD i 0 = 128 := by
  rcases hv with ⟨k, _⟩ | ⟨k, _⟩ | ⟨_, e, b, g, ee, he, eb, eg, hgd, ed⟩
  ·
   exact absurd k (by decide)
  ·
   exact absurd k (by decide)
  ·
   obtain ⟨e', ee', he', ha, hb⟩ := Ydw SD.ok SD.hx SD.hy SD.h0 hg
   rw [ee] at ee'
   injection ee' with ee'
   injection ee' with ee' _
   subst ee'
   have eg' : Xcn 0 e = some g := eg
   rw [Ydy he ha hb] at eg'
   injection eg' with eg'
   obtain ⟨b', eb', _, hb0⟩ := Xvi (List.replicate 64 0) c SD.hc (by simp) (Xww _ (by omega))
   have eb2 : Xbg (List.replicate 64 0) c = some (b, true) := eb
   rw [eb'] at eb2
   injection eb2 with eb2
   injection eb2 with eb2 _
   intro i hi
   rw [ed, Yba, Xd6 _ hi, ← eg', Xd6 _ hi, ← eb2, Yjx hb0]
   exact Yge (by omega)
 obtain ⟨p', ep, p1, p2, p3, p4⟩ := Yfw SD.ok SD.h0 hd
 rw [ep]
 refine congrArg some (Yk2 p1 SD.ok p2 p3 fun X Y hX hY => ?_)
 rw [p2] at hX
 rw [p3] at hY
 rw [p4 X Y hX hY, hg]
 by_cases hin : Ygl x y X Y = true
 ·
  rw [if_pos hin]
  unfold Ygl at hin
  rw [decide_eq_true_eq] at hin
  exact hd128 _ (by omega)
 ·
  rw [if_neg hin]
theorem Yk7 {r : Xov} (hw : Xkd r.Wide = true) (hh : Xkd r.High = true) {l : List Xap} {i : Nat} (hi : i < l.length) (h64 : l.length ≤ 64) (hn : (i : Int) < r.Wide / 8 * (r.High / 8)) {c : Xd1} {le tp : Int} {ref now now' : Pic} {d : List Int} (ok : Xck now = true)
  (hd : Xcd now ref le tp c (tX r.Wide i) (tY r.Wide i) (l.getD i Xdd) = some (d, true)) (hd64 : Xgc d = true) (hp : Xga now (tX r.Wide i) (tY r.Wide i) d = some now') : Xbh r c l (le, tp, ref.Wide, ref.High, ref.Dots) ((i : Int), now.Wide, now.High, now.Dots) = some (.go (((i + 1 : Nat) : Int), now'.Wide, now'.High, now'.Dots)) := by
 have sw := Xbs hw
 have sh := Xbs hh
 obtain ⟨p1, p2, p3, p4, p5, p6, p7, p8, p9, p10⟩ := Xz6 hw hh i hn
 have hd' : Xcd now ref le tp c ((i : Int) % (r.Wide / 8) * 8) ((i : Int) / (r.Wide / 8) * 8) (l.getD i Xdd) = some (d, true) := hd
 have hp' : Xga now ((i : Int) % (r.Wide / 8) * 8) ((i : Int) / (r.Wide / 8) * 8) d = some now' := hp
 unfold Xbh
 simp only [Int.toNat_natCast]
 rw [syA, rqA, rqA, Xbd (a := r.Wide) (by omega), wkA (e := r.Wide / 8), rqA, rqA, rqA, Xbz (a := (i : Int)) (by omega), Xbd (a := (i : Int)) (by omega), wkA (e := (i : Int) % (r.Wide / 8) * 8), wkA (e := (i : Int) / (r.Wide / 8)), wkA (e := (i : Int) / (r.Wide / 8) * 8), wkA (e := (i : Int) + 1), show (⟨now.Wide, now.High, now.Dots⟩ : Pic) = now from rfl, show (⟨ref.Wide, ref.High, ref.Dots⟩ : Pic) = ref from rfl, show (⟨(l.getD i Xdd).Kind, (l.getD i Xdd).Mode, (l.getD i Xdd).Dx, (l.getD i Xdd).Dy, (l.getD i Xdd).Levels⟩ : Xap) = l.getD i Xdd from rfl, hd', Xab]
 simp only
 rw [Bool.not_true, Xax, Yib hd64 (by have := Yjn ok; have hm : maxLen = 9223372036854775807 := rfl; omega), hp', Xab]
 rfl
theorem Xs9 {ref : Pic} {r : Xov} {c : Xd1} {cf : Bool} {l : List Xap} (hw : Xkd r.Wide = true) (hh : Xkd r.High = true) (hL : 0 ≤ r.Left ∧ r.Left ≤ 256) (hT : 0 ≤ r.Top ∧ r.Top ≤ 256) (hc : Xdp c = true) (hn : (l.length : Int) = r.Wide / 8 * (r.High / 8)) (hr : c.Key = false → Xck ref = true ∧ Xjx ref r = true) (G : Pic → Prop)
  (H : ∀ (rI : Pic) (lI tI : Int), 0 ≤ lI ∧ lI ≤ 256 → 0 ≤ tI ∧ tI ≤ 256 → (c.Key = false → Xck rI = true ∧ ∀ X Y : Int, 0 ≤ X ∧ X < r.Wide → 0 ≤ Y ∧ Y < r.High → Xf5 rI (lI + X) (tI + Y) = Xf5 ref (r.Left + X) (r.Top + Y)) → ∃ out : Pic, loop (Xbh r c l (lI, tI, rI.Wide, rI.High, rI.Dots)) (0, (Xkc r.Wide r.High).Wide, (Xkc r.Wide r.High).High, (Xkc r.Wide r.High).Dots) = some (.out (out.Wide, out.High, out.Dots)) ∧ G out) : ∃ out, Xda ref r c cf l = some (out, true) ∧ G out := by
 have sw := Xbs hw
 have sh := Xbs hh
 have mb : r.Wide / 8 * (r.High / 8) ≤ 8 * 8 := Int.mul_le_mul (by omega) (by omega) (by omega) (by omega)
 have m0 : 1 * 1 ≤ r.Wide / 8 * (r.High / 8) := Int.mul_le_mul (by omega) (by omega) (by omega) (by omega)
 have key : ∃ (rI : Pic) (lI tI : Int), (sel cf (sel (!c.Key) (bnd (Xhp ref r) fun q11 => some ((0 : Int), (0 : Int), q11.1.Wide, q11.1.High, q11.1.Dots)) (some (0, 0, ref.Wide, ref.High, ref.Dots))) (some (r.Left, r.Top, ref.Wide, ref.High, ref.Dots))) = some (lI, tI, rI.Wide, rI.High, rI.Dots) ∧ (0 ≤ lI ∧ lI ≤ 256) ∧ (0 ≤ tI ∧ tI ≤ 256) ∧ (c.Key = false → Xck rI = true ∧ ∀ X Y : Int, 0 ≤ X ∧ X < r.Wide → 0 ≤ Y ∧ Y < r.High → Xf5 rI (lI + X) (tI + Y) = Xf5 ref (r.Left + X) (r.Top + Y)) ∧ (sel c.Key (some false) (bnd (Xdr ref) fun q8 => sel q8 (bnd (Xcl ref r) fun q9 => some (!q9)) (some true))) = some false := by
  cases hK : c.Key with
  | true =>
   cases cf with
   | true => exact ⟨ref, 0, 0, rfl, by omega, by omega, (fun h => by cases h), rfl⟩
   | false => exact ⟨ref, r.Left, r.Top, rfl, hL, hT, (fun h => by cases h), rfl⟩
  | false =>
   obtain ⟨a1, a2⟩ := hr hK
   have hf : (sel false (some false) (bnd (Xdr ref) fun q8 => sel q8 (bnd (Xcl ref r) fun q9 => some (!q9)) (some true))) = some false := by
    rw [Xax, Xgu, Xab, a1, Xa3, Xqv a1, Xab, a2]; rfl
   cases cf with
   | true =>
    refine ⟨Yi7 ref r, 0, 0, ?_, by omega, by omega, fun _ => ⟨Yhi a1 a2, fun X Y hX hY => ?_⟩, hf⟩
    ·
     rw [Xa3, Bool.not_false, Xa3, Xp0 a1 a2, Xab]
    ·
     rw [Int.zero_add, Int.zero_add]
     exact Ycg a1 a2 X Y hX hY
   | false => exact ⟨ref, r.Left, r.Top, rfl, hL, hT, fun _ => ⟨a1, fun _ _ _ _ => rfl⟩, hf⟩
 obtain ⟨rI, lI, tI, e1, b1, b2, b3, e2⟩ := key
 obtain ⟨out, el, hG⟩ := H rI lI tI b1 b2 b3
 refine ⟨out, ?_, hG⟩
 unfold Xda
 rw [Xic, Xab, hw, Xa3, Xic, Xab, hh, Xa3, Xam, Xab, decide_eq_true hL, Xa3, Xam, Xab, decide_eq_true hT, Xa3, Xei, Xab, hc, Xa3, rqA, rqA, Xbd (a := r.Wide) (by omega), Xbd (a := r.High) (by omega), wkA (e := r.Wide / 8), wkA (e := r.High / 8), wkA (e := r.Wide / 8 * (r.High / 8)), show (((l.length : Nat) : Int) != r.Wide / 8 * (r.High / 8)) = false by rw [bne_eq_false_iff_eq]; omega, Xab, Xax, e2, Xab, Xax, e1, Xab, Xtd _ _ (by omega) (by omega), Xab]
 simp only
 have el' : loop (Xbh r c l (lI, tI, rI.Wide, rI.High, rI.Dots)) (0, r.Wide, r.High, strOfNums (List.replicate (r.Wide * r.High).toNat 128)) = some (.out (out.Wide, out.High, out.Dots)) := el
 rw [el', Xab]
theorem Yfz (n i : Nat) (q : Xap) (h : i < n) : (List.replicate n q).getD i Xdd = q := by rw [Xct _ i (by rw [List.length_replicate]; exact h), List.getElem_replicate]
theorem Yim {r : Xov} (hw : Xkd r.Wide = true) (hh : Xkd r.High = true) {i : Nat} (hn : (i : Int) < r.Wide / 8 * (r.High / 8)) {now rI : Pic} (ok : Xck now = true) (nw : now.Wide = r.Wide) (nh : now.High = r.High) {lI tI : Int} (hl : 0 ≤ lI ∧ lI ≤ 256) (ht : 0 ≤ tI ∧ tI ≤ 256) {c : Xd1} (hc : Xdp c = true) {q : Xap} (hq : q.Levels.length ≤ 1048576) : Ynf now rI lI tI (tX r.Wide i) (tY r.Wide i) c q := by
 obtain ⟨p1, p2, p3, p4, p5, p6, p7, p8, p9, p10⟩ := Xz6 hw hh i hn
 exact ⟨ok, by unfold tX; rw [Xbz p7]; omega, by unfold tY; rw [Xbz p9]; omega, by unfold Xij tX tY; rw [decide_eq_true_eq, nw, nh]; exact ⟨p7, p8, p9, p10⟩, hl, ht, hc, hq⟩
theorem Yhr {ref : Pic} {r : Xov} {c : Xd1} {cf : Bool} {n : Nat} (hw : Xkd r.Wide = true) (hh : Xkd r.High = true) (hL : 0 ≤ r.Left ∧ r.Left ≤ 256) (hT : 0 ≤ r.Top ∧ r.Top ≤ 256) (hc : Xdp c = true) (hn : (n : Int) = r.Wide / 8 * (r.High / 8)) (hr : c.Key = false → Xck ref = true ∧ Xjx ref r = true) : Xda ref r c cf (List.replicate n Xrv) = some (Xkc r.Wide r.High, true) := by
 have sw := Xbs hw
 have sh := Xbs hh
 have mb : r.Wide / 8 * (r.High / 8) ≤ 8 * 8 := Int.mul_le_mul (by omega) (by omega) (by omega) (by omega)
 obtain ⟨out, e, hG⟩ := Xs9 (cf := cf) (l := List.replicate n Xrv) hw hh hL hT hc (by rw [List.length_replicate]; exact hn) hr (fun out => out = Xkc r.Wide r.High) (by
  intro rI lI tI hl ht hk
  refine ⟨Xkc r.Wide r.High, ?_, rfl⟩
  have key : ∀ i : Nat, i ≤ n → loop (Xbh r c (List.replicate n Xrv) (lI, tI, rI.Wide, rI.High, rI.Dots)) ((i : Int), (Xkc r.Wide r.High).Wide, (Xkc r.Wide r.High).High, (Xkc r.Wide r.High).Dots) = some (.out ((Xkc r.Wide r.High).Wide, (Xkc r.Wide r.High).High, (Xkc r.Wide r.High).Dots)) := by
   refine Xf6 _ ?_ ?_
   ·
    refine Xi6 ?_
    unfold Xbh
    rw [Xar (by simp)]
   ·
    intro i hi ih
    have gok : Xck (Xkc r.Wide r.High) = true := Yhp (by omega) (by omega)
    have SD := Yim (rI := rI) hw hh (i := i) (by omega) gok rfl rfl hl ht hc (q := Xrv) (by decide)
    obtain ⟨d, d1, d2, d3⟩ := Yhq hw hh SD (fun h => (hk h).1)
    exact lgo (Yk7 hw hh (by rw [List.length_replicate]; exact hi) (by rw [List.length_replicate]; omega) (by omega) gok (by rw [Yfz n i Xrv hi]; exact d1) d2 d3) ih
  exact key 0 (by omega))
 rw [e, hG]
def Xy5 : Xap := ⟨0, 0, 0, 0, []⟩
theorem Yis {ref : Pic} {r : Xov} {c : Xd1} {cf : Bool} {n : Nat} (hw : Xkd r.Wide = true) (hh : Xkd r.High = true) (hL : 0 ≤ r.Left ∧ r.Left ≤ 256) (hT : 0 ≤ r.Top ∧ r.Top ≤ 256) (hc : Xdp c = true) (hn : (n : Int) = r.Wide / 8 * (r.High / 8)) (hK : c.Key = false) (ok : Xck ref = true) (ho : Xjx ref r = true) : Xda ref r c cf (List.replicate n Xy5) = some (Yi7 ref r, true) := by
 have sw := Xbs hw
 have sh := Xbs hh
 have mb : r.Wide / 8 * (r.High / 8) ≤ 8 * 8 := Int.mul_le_mul (by omega) (by omega) (by omega) (by omega)
 obtain ⟨out, e, hG⟩ := Xs9 (cf := cf) (l := List.replicate n Xy5) hw hh hL hT hc (by rw [List.length_replicate]; exact hn) (fun _ => ⟨ok, ho⟩) (fun out => out = Yi7 ref r) (by
  intro rI lI tI hl ht hk
  obtain ⟨rok, rd⟩ := hk hK
  have key : ∀ i : Nat, i ≤ n → ∀ now : Pic, Xck now = true → now.Wide = r.Wide → now.High = r.High → (∀ X Y : Int, 0 ≤ X ∧ X < r.Wide → 0 ≤ Y ∧ Y < r.High → Y / 8 * (r.Wide / 8) + X / 8 < i → Xf5 now X Y = Xf5 ref (r.Left + X) (r.Top + Y)) → ∃ out : Pic, loop (Xbh r c (List.replicate n Xy5) (lI, tI, rI.Wide, rI.High, rI.Dots)) ((i : Int), now.Wide, now.High, now.Dots) = some (.out (out.Wide, out.High, out.Dots)) ∧ out = Yi7 ref r := by
   refine Xf6 _ ?_ ?_
   ·
    intro now nok nw nh hd
    refine ⟨now, Xi6 ?_, ?_⟩
    ·
     unfold Xbh
     rw [Xar (by simp)]
    ·
     refine Yk2 nok (Yhi ok ho) nw nh fun X Y hX hY => ?_
     rw [nw] at hX
     rw [nh] at hY
     have p := Xkj (W := r.Wide / 8) (H := r.High / 8) (x := X / 8) (y := Y / 8) ⟨by omega, by omega⟩ ⟨by omega, by omega⟩
     rw [hd X Y hX hY (by omega), Ycg ok ho X Y hX hY]
   ·
    intro i hi ih now nok nw nh hd
    have SD := Yim (rI := rI) hw hh (i := i) (by omega) nok nw nh hl ht hc (q := Xy5) (by decide)
    have hlet : Xlo Xy5 c = true := by unfold Xlo; rw [hK]; rfl
    obtain ⟨d0, e0, es0, hd64⟩ := Xju SD (by rfl) hlet (fun _ => rok)
    obtain ⟨d, es, _, hv⟩ := Xn3 SD (by rfl) hlet (fun _ => rok)
    rw [es] at es0
    injection es0 with es0
    injection es0 with es0 _
    subst es0
    obtain ⟨now', ep, p1, p2, p3, p4⟩ := Yfw nok SD.h0 hd64
    obtain ⟨out, eo, ho2⟩ := ih now' p1 (by rw [p2, nw]) (by rw [p3, nh]) (fun X Y hX hY hlt => by
     rw [p4 X Y (by rw [nw]; exact hX) (by rw [nh]; exact hY)]
     have dv := Xw5 (W := r.Wide / 8) (x := X / 8) (y := Y / 8) ⟨by omega, by omega⟩
     by_cases hin : Ygl (tX r.Wide i) (tY r.Wide i) X Y = true
     ·
      rw [if_pos hin]
      unfold Ygl at hin
      rw [decide_eq_true_eq] at hin
      rcases hv with ⟨_, _, e⟩ | ⟨k, _⟩ | ⟨k, _⟩
      ·
       rw [e, Ylg _ _ _ (by omega)]
       have e1 : lI + tX r.Wide i + (((((Y - tY r.Wide i) * 8 + (X - tX r.Wide i)).toNat % 8 : Nat)) : Int) = lI + X := by omega
       have e2 : tI + tY r.Wide i + (((((Y - tY r.Wide i) * 8 + (X - tX r.Wide i)).toNat / 8 : Nat)) : Int) = tI + Y := by omega
       rw [e1, e2]
       exact rd X Y hX hY
      ·
       exact absurd k (by decide)
      ·
       exact absurd k (by decide)
     ·
      rw [if_neg hin]
      refine hd X Y hX hY ?_
      have hne : Y / 8 * (r.Wide / 8) + X / 8 ≠ i := fun e => hin (by
       rw [e] at dv
       unfold Ygl tX tY
       rw [dv.1, dv.2, decide_eq_true_eq]
       omega)
      omega)
    exact ⟨out, lgo (Yk7 hw hh (by rw [List.length_replicate]; exact hi) (by rw [List.length_replicate]; omega) (by omega) nok (by rw [Yfz n i Xy5 hi]; exact e0) hd64 ep) eo, ho2⟩
  exact key 0 (by omega) (Xkc r.Wide r.High) (Yhp (by omega) (by omega)) rfl rfl (fun X Y hX hY hlt => by
   have := Int.mul_nonneg (show 0 ≤ Y / 8 by omega) (show 0 ≤ r.Wide / 8 by omega)
   omega))
 rw [e, hG]
theorem Xqo (n : Nat) (p : Par) (key : Bool) (q : Xap) (hp : Xy1 p = true) (hn : 1 ≤ n ∧ n ≤ 64) (hq : q.Levels.length ≤ 64) : Xjo (n : Int) p key q = some (⟨key, p.Qp, (Xxv (List.replicate n q) ⟨key, p.Qp, p.Large, p.Exact⟩).1⟩, true) := by
 have hm : maxLen = 9223372036854775807 := rfl
 unfold Xjo
 rw [Xlz, Xab, hp, Xa3, Xam, Xab, decide_eq_true (by omega), Bool.not_true, Xab, Xax]
 have key2 : ∀ k : Nat, k ≤ n → loop (Xgy (n : Int) q) ((k : Int), List.replicate k q) = some (List.replicate n q) := by
  refine Xf6 _ (Xi6 (by unfold Xgy; rw [Xar (by simp)])) ?_
  intro k hk ih
  refine lgo ?_ ih
  unfold Xgy
  simp only
  rw [syA, Xba (by simp only [List.length_replicate, List.length_singleton]; omega), wkA, List.replicate_succ']
  rfl
 have := key2 0 (by omega)
 refine (Xgn this).trans ?_
 unfold Xd3
 rw [Xab, Xwj _ _ (fun s hs => by rw [List.eq_of_mem_replicate hs]; omega), Xab]
theorem Xrr {p : Par} (hp : Xy1 p = true) (key : Bool) : Xdp ⟨key, p.Qp, p.Large, p.Exact⟩ = true := by
 unfold Xdp
 unfold Xy1 at hp
 exact hp
theorem Ydq {n : Nat} {q : Xap} {c : Xd1} (hq : Xpm q = true) (hl : Xlo q c = true) (hc : Xdp c = true) : Xu4 (List.replicate n q) c = true := by
 unfold Xu4
 rw [List.all_eq_true]
 intro s hs
 rw [List.eq_of_mem_replicate hs, hq, hl, hc]; rfl
theorem Xs7 {ref : Pic} {r : Xov} {p : Par} {key : Bool} {l : List Xap} {out : Pic} (hw : Xkd r.Wide = true) (hh : Xkd r.High = true) (hp : Xy1 p = true) (hn : (l.length : Int) = r.Wide / 8 * (r.High / 8)) (hs : Xu4 l ⟨key, p.Qp, p.Large, p.Exact⟩ = true) (h64 : ∀ q ∈ l, q.Levels.length ≤ 64) (ht : Xda ref r ⟨key, p.Qp, p.Large, p.Exact⟩ p.Confined l = some (out, true)) :
  Xxv l ⟨key, p.Qp, p.Large, p.Exact⟩ = (strOfNums (Xfj l ⟨key, p.Qp, p.Large, p.Exact⟩), true) ∧ Xej ref r p ⟨key, p.Qp, strOfNums (Xfj l ⟨key, p.Qp, p.Large, p.Exact⟩)⟩ = some (out, true) ∧ Xht p ⟨key, p.Qp, strOfNums (Xfj l ⟨key, p.Qp, p.Large, p.Exact⟩)⟩ (r.Wide / 8 * (r.High / 8)) = some true := by
 have sw := Xbs hw
 have sh := Xbs hh
 have mb : r.Wide / 8 * (r.High / 8) ≤ 8 * 8 := Int.mul_le_mul (by omega) (by omega) (by omega) (by omega)
 have m0 : 1 * 1 ≤ r.Wide / 8 * (r.High / 8) := Int.mul_le_mul (by omega) (by omega) (by omega) (by omega)
 have rd := Xqd hs (Xrr hp key) (by omega) h64
 rw [hn] at rd
 refine ⟨?_, ?_, ?_⟩
 ·
  unfold Xxv
  rw [decide_eq_true (show 1 ≤ l.length ∧ l.length ≤ 64 by omega), hs]; rfl
 ·
  unfold Xej Xd3
  rw [Xic, Xab, hw, Xa3, Xic, Xab, hh, Xa3, Xlz, Xab, hp, Bool.not_true, Xab, Xax, Xab, rqA, rqA, Xbd (a := r.Wide) (by omega), Xbd (a := r.High) (by omega), wkA (e := r.Wide / 8), wkA (e := r.High / 8), wkA (e := r.Wide / 8 * (r.High / 8))]
  simp only
  rw [rd, Xab]
  simp only
  rw [Bool.not_true, Xax, ht, Xab]
 ·
  unfold Xht Xd3
  rw [Xab]
  simp only
  rw [rd, Xab, Xlz, Xab, hp]
  rfl
theorem Xxw (n : Nat) (c : Xd1) (hK : c.Key = false) : (Xfj (List.replicate n Xy5) c).length = n := Ye5 n c hK
theorem FnFills {p0 : List Int} (h0 : p0.length ≤ maxLen ∧ ∀ y ∈ p0, (Lit.int .u8 y).wf = true) : Xkh p0 = some true := by
 have hm : maxLen = 9223372036854775807 := rfl
 unfold Xkh
 rw [Yel, Xab]
 by_cases hb : (p0.length : Int) > 1048576
 ·
  rw [Xdi hb]
 rw [Xar hb]
 obtain ⟨ref, r, c, cf, ls, e, ok, ho, rw_, rh, rl, rt, hc⟩ := Xun p0 (by omega)
 obtain ⟨s, p, hd, e2, hp⟩ := Xul p0 (by omega)
 have hw := Yir rw_
 have hh := Yir rh
 have sw := Xbs hw
 have sh := Xbs hh
 have mb : r.Wide / 8 * (r.High / 8) ≤ 8 * 8 := Int.mul_le_mul (by omega) (by omega) (by omega) (by omega)
 have m0 : 1 * 1 ≤ r.Wide / 8 * (r.High / 8) := Int.mul_le_mul (by omega) (by omega) (by omega) (by omega)
 obtain ⟨n, hn⟩ : ∃ n : Nat, (n : Int) = r.Wide / 8 * (r.High / 8) := ⟨(r.Wide / 8 * (r.High / 8)).toNat, by omega⟩
 rw [e, Xab, e2, Xab]
 simp only
 rw [rqA, rqA, Xbd (a := r.Wide) (by omega), Xbd (a := r.High) (by omega), wkA (e := r.Wide / 8), wkA (e := r.High / 8), wkA (e := r.Wide / 8 * (r.High / 8))]
 have cg := Xrr hp true
 have cs := Xrr hp false
 have gt := Yhr (ref := ref) (r := r) (c := ⟨true, p.Qp, p.Large, p.Exact⟩) (cf := p.Confined) (n := n) hw hh (by omega) (by omega) cg hn (fun h => by cases h)
 have st := Yis (ref := ref) (r := r) (c := ⟨false, p.Qp, p.Large, p.Exact⟩) (cf := p.Confined) (n := n) hw hh (by omega) (by omega) cs hn rfl ok ho
 obtain ⟨g1, g2, g3⟩ := Xs7 (key := true) hw hh hp (by rw [List.length_replicate]; exact hn) (Ydq (q := Xrv) (Yaq ⟨true, p.Qp, p.Large, p.Exact⟩).1 (Yaq ⟨true, p.Qp, p.Large, p.Exact⟩).2 cg) (fun q hq => by rw [List.eq_of_mem_replicate hq]; decide) gt
 obtain ⟨s1, s2, s3⟩ := Xs7 (key := false) hw hh hp (by rw [List.length_replicate]; exact hn) (Ydq (q := Xy5) (by rfl) (by rfl) cs) (fun q hq => by rw [List.eq_of_mem_replicate hq]; decide) st
 have ga : Xgs (r.Wide / 8 * (r.High / 8)) p = some (⟨true, p.Qp, strOfNums (Xfj (List.replicate n Xrv) ⟨true, p.Qp, p.Large, p.Exact⟩)⟩, true) := by
  unfold Xgs
  rw [rqA, ← hn]
  have := Xqo n p true Xrv hp (by omega) (by decide)
  rw [g1] at this
  exact (Xgn this).trans rfl
 have sa : Xgx (r.Wide / 8 * (r.High / 8)) p = some (⟨false, p.Qp, strOfNums (Xfj (List.replicate n Xy5) ⟨false, p.Qp, p.Large, p.Exact⟩)⟩, true) := by
  unfold Xgx
  rw [← hn]
  have := Xqo n p false Xy5 hp (by omega) (by decide)
  rw [s1] at this
  exact (Xgn this).trans rfl
 rw [ga, Xab, sa, Xab]
 simp only
 rw [g2, Xab, s2, Xab, Xp0 ok ho, Xab]
 simp only
 rw [Xa3, Xa3, Xa3, Xa3, Xtd _ _ (by omega) (by omega), Xab]
 have pe := Xzx (Xkc r.Wide r.High)
 unfold Xkc at pe ⊢
 simp only at pe ⊢
 have pc := Xzx (Yi7 ref r)
 have cw : (Yi7 ref r).Wide = r.Wide := rfl
 rw [pe, Xbm (by rfl), Xbm (by simp), pc, Xbm (by rfl), cw, Xbm (by simp), g3, Xab, Xa3, s3, Xab, Xa3, Xa3, Xax, strOfNums_size, Xxw n _ rfl, Xbm (by rw [beq_iff_eq]; exact hn), Xei, Xab, hc]
 rfl
end Go.Proofs.Ytlebkepfhdjnmac.A.Pure
