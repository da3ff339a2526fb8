/- The pure statement of the law FnFills, part 2: over numbers, texts and lists alone, what the law computes is true. Conditions: the sizes of what a machine holds. -/
import Derived.Test.YtjfkbpgdghijfaaPureFnFillsx0
namespace Go.Proofs.Ytjfkbpgdghijfaa.A.Pure
open Go Go.Proofs Go.Proofs.YtjfkbpgdghijfaaAL Go.RowKit
set_option linter.unusedVariables false
set_option linter.unusedSimpArgs false
set_option maxHeartbeats 1000000
theorem impl_sums_eq (p : List Int) (hp : p.length = 64) : impl_sums p = some (sums8 p) := by
 unfold impl_sums
 rw [req_p (by omega)]
 have e1 : loop (impl_sums_l72 p) (0, List.replicate (64 : Int).toNat 0) = some (half8 p) :=
  sum_loops (f2 := impl_sums_l84 p) (f3 := impl_sums_l86 p) (fun i v k => rowT p i v k) (fun _ => rfl) (fun _ _ => rfl) (fun i v k a b s hi hv hk hs => by
   unfold impl_sums_l86
   simp only
   rw [sel_yes (by omega), wk (e := 8 * (i : Int)) (by omega) (by omega), wk (e := 8 * (i : Int) + (v : Int)) (by omega) (by omega), wk (e := 8 * (i : Int) + (k : Int)) (by omega) (by omega), req_p (by omega), req_p (by omega), SignOf_alike v k hv hk, bnd_s, req_p (by omega), req_p (by omega), req_p (by omega), wk (e := (k : Int) + 1) (by omega) (by omega), show (8 * (i : Int) + (v : Int)).toNat = 8 * i + v by omega, show (8 * (i : Int) + (k : Int)).toNat = 8 * i + k by omega]
   rfl) (fun i v a b s => by unfold impl_sums_l86; rw [sel_no (by simp)])
 have e2 : loop (impl_sums_l158 (half8 p)) (0, List.replicate (64 : Int).toNat 0) = some (sums8 p) :=
  sum_loops (f2 := impl_sums_l170 (half8 p)) (f3 := impl_sums_l172 (half8 p)) (fun i v k => colT (half8 p) i v k) (fun _ => rfl) (fun _ _ => rfl) (fun i v k a b s hi hv hk hs => by
   have hl := half8_len p
   unfold impl_sums_l172
   simp only
   rw [sel_yes (by omega), wk (e := 8 * (i : Int)) (by omega) (by omega), wk (e := 8 * (i : Int) + (v : Int)) (by omega) (by omega), wk (e := 8 * (k : Int)) (by omega) (by omega), wk (e := 8 * (k : Int) + (v : Int)) (by omega) (by omega), req_p (by omega), req_p (by omega), SignOf_alike i k hi hk, bnd_s, req_p (by omega), req_p (by omega), req_p (by omega), req_p (by omega), wk (e := (k : Int) + 1) (by omega) (by omega), show (8 * (i : Int) + (v : Int)).toNat = 8 * i + v by omega, show (8 * (k : Int) + (v : Int)).toNat = 8 * k + v by omega]
   rfl) (fun i v a b s => by unfold impl_sums_l172; rw [sel_no (by simp)])
 rw [e1, bnd_s, req_p (by omega), e2, bnd_s]
theorem spec_l10Row_eq (p : List Int) (hp : p.length = 64) (i v : Nat) (hi : i < 8) (hv : v < 8) : spec_l10Row p i v = some (acc8 (rowT p i v) 8) := by
 obtain ⟨o, e, h⟩ := acc_loop (f := spec_l10Row_l2 p i v) 8 (fun k s => s = acc8 (rowT p i v) k) (by
  intro k s hk g
  subst g
  unfold spec_l10Row_l2
  simp only
  rw [sel_yes (by omega), wk (e := 8 * (i : Int)) (by omega) (by omega), wk (e := 8 * (i : Int) + (k : Int)) (by omega) (by omega), req_p (by omega), spec_SignOf_eq v k hv hk, bnd_s, wk (e := (k : Int) + 1) (by omega) (by omega), show (8 * (i : Int) + (k : Int)).toNat = 8 * i + k by omega, Int.mul_comm (p.getD _ _)]
  exact ⟨_, rfl, rfl⟩) (by intro s; unfold spec_l10Row_l2; rw [sel_no (by simp)]) 0 rfl
 unfold spec_l10Row
 rw [e, bnd_s, h]
theorem spec_l10Sums_eq (p : List Int) (hp : p.length = 64) : spec_l10Sums p = some (sums8 p) := by
 have hm : maxLen = 9223372036854775807 := rfl
 unfold spec_l10Sums
 obtain ⟨o, e, ho⟩ := st_loop (f := spec_l10Sums_l12 p) 8 (fun i s => s = (List.range (8 * i)).map fun j => acc8 (rowT p (j / 8) (j % 8)) 8) (by
  intro i s hi g
  subst g
  obtain ⟨r, er, hr⟩ := st_loop (f := spec_l10Sums_l14 p ((i : Int), (List.range (8 * i)).map fun j => acc8 (rowT p (j / 8) (j % 8)) 8)) 8 (fun v s => s = (List.range (8 * i + v)).map fun j => acc8 (rowT p (j / 8) (j % 8)) 8) (by
   intro v s hv g
   subst g
   unfold spec_l10Sums_l14
   simp only
   rw [sel_yes (by omega), spec_l10Row_eq p hp i v hi hv, bnd_s, req_p (by simp only [List.length_singleton, List.length_map, List.length_range]; omega), wk (e := (v : Int) + 1) (by omega) (by omega)]
   refine ⟨_, rfl, ?_⟩
   rw [show 8 * i + (v + 1) = (8 * i + v) + 1 by omega, List.range_succ, List.map_append, List.map_singleton, show (8 * i + v) / 8 = i by omega, show (8 * i + v) % 8 = v by omega]) (by intro s; unfold spec_l10Sums_l14; rw [sel_no (by simp)]) _ rfl
  rw [Nat.add_zero] at er
  unfold spec_l10Sums_l12
  simp only
  rw [sel_yes (by omega), er, bnd_s, wk (e := (i : Int) + 1) (by omega) (by omega)]
  exact ⟨_, rfl, by rw [hr, show 8 * (i + 1) = 8 * i + 8 by omega]⟩) (by intro s; unfold spec_l10Sums_l12; rw [sel_no (by simp)]) [] rfl
 have ho' : o = half8 p := by rw [ho]; rfl
 rw [e, bnd_s, ho']
 obtain ⟨o2, e2, ho2⟩ := st_loop (f := spec_l10Sums_l146 (half8 p)) 8 (fun i s => s = (List.range (8 * i)).map fun j => acc8 (colT (half8 p) (j / 8) (j % 8)) 8) (by
  intro i s hi g
  subst g
  obtain ⟨r, er, hr⟩ := st_loop (f := spec_l10Sums_l168 (half8 p) ((i : Int), (List.range (8 * i)).map fun j => acc8 (colT (half8 p) (j / 8) (j % 8)) 8)) 8 (fun v s => s = (List.range (8 * i + v)).map fun j => acc8 (colT (half8 p) (j / 8) (j % 8)) 8) (by
   intro v s hv g
   obtain ⟨c, ec, hc⟩ := acc_loop (f := spec_l10Sums_l172 (half8 p) ((i : Int), (List.range (8 * i)).map fun j => acc8 (colT (half8 p) (j / 8) (j % 8)) 8) ((v : Int), s)) 8 (fun k x => x = acc8 (colT (half8 p) i v) k) (by
    intro k x hk g
    subst g
    have hl := half8_len p
    unfold spec_l10Sums_l172
    simp only
    rw [sel_yes (by omega), spec_SignOf_eq i k hi hk, bnd_s, wk (e := 8 * (k : Int)) (by omega) (by omega), wk (e := 8 * (k : Int) + (v : Int)) (by omega) (by omega), req_p (by omega), req_p (by omega), wk (e := (k : Int) + 1) (by omega) (by omega), show (8 * (k : Int) + (v : Int)).toNat = 8 * k + v by omega]
    exact ⟨_, rfl, rfl⟩) (by intro s; unfold spec_l10Sums_l172; rw [sel_no (by simp)]) 0 rfl
   subst g
   unfold spec_l10Sums_l168
   simp only
   rw [sel_yes (by omega), ec, bnd_s, req_p (by simp only [List.length_singleton, List.length_map, List.length_range]; omega), wk (e := (v : Int) + 1) (by omega) (by omega)]
   refine ⟨_, rfl, ?_⟩
   rw [hc, show 8 * i + (v + 1) = (8 * i + v) + 1 by omega, List.range_succ, List.map_append, List.map_singleton, show (8 * i + v) / 8 = i by omega, show (8 * i + v) % 8 = v by omega]) (by intro s; unfold spec_l10Sums_l168; rw [sel_no (by simp)]) _ rfl
  rw [Nat.add_zero] at er
  unfold spec_l10Sums_l146
  simp only
  rw [sel_yes (by omega), er, bnd_s, wk (e := (i : Int) + 1) (by omega) (by omega)]
  exact ⟨_, rfl, by rw [hr, show 8 * (i + 1) = 8 * i + 8 by omega]⟩) (by intro s; unfold spec_l10Sums_l146; rw [sel_no (by simp)]) [] rfl
 rw [e2, bnd_s, ho2]
 rfl
theorem areIn_yes (l : List Int) (n B : Int) (hn : (l.length : Int) = n) (hn2 : n ≤ 1000000) (h : inB B l) : impl_areIn l n (-B) B = some true := by
 rw [impl_areIn_eq l n (-B) B (by omega), hn, beq_self_eq_true, Bool.and_true]
 congr 1
 rw [List.all_eq_true]
 intro x hx
 rw [decide_eq_true_eq]; exact h x hx
theorem settled_alike (o : List Int) {f : Int × List Int → Option (Lp (Int × List Int) (List Int))} (n : Nat) (hn : n ≤ 64) (hl : o.length = n) (hf : ∀ v : Int × List Int, f v = sel (decide (v.1 < (n : Int))) (req (0 ≤ v.1 ∧ v.1 < v.2.length) <| req (v.1.toNat < v.2.length) <| bnd (spec_l09Down (wrapK .i64 ((v.2.getD v.1.toNat 0) + 32)) 64) fun q => req (0 ≤ v.1 ∧ v.1 < v.2.length) <| req (v.1.toNat < v.2.length) <| some (.go (wrapK .i64 (v.1 + 1), (v.2.set v.1.toNat q)))) (some (.done v.2))) : bnd (impl_settled o) (fun q => some q.2) = bnd (loop f (0, o)) fun q => some q := by
 unfold impl_settled
 have : impl_settled_l2 o = f := by
  funext v
  rw [hf, ← hl]; rfl
 rw [this]
 cases loop f (0, o) <;> rfl
theorem EightBack_alike (p : List Int) (hl : p.length = 64) (hb : inB 10000000 p) : impl_EightBack p = spec_EightBack p := by
 unfold impl_EightBack spec_EightBack
 rw [areIn_yes p 64 10000000 (by omega) (by omega) hb, l09All_yes p 64 10000000 (by omega) (by omega) (by omega) hb, bnd_s, bnd_s, Bool.not_true, sel_f, sel_f, impl_sums_eq p hl, spec_l10Sums_eq p hl, bnd_s, bnd_s]
 exact settled_alike (sums8 p) 64 (by omega) (sums8_len p) (fun _ => rfl)
def tgA (q : Int → Int → Int → Int → Option (Int × Int × Int × Int)) (v4 : (Int × (List Int))) : Option (Lp (Int × (List Int)) (List Int)) :=
sel (decide (v4.1 < 16)) (
req (0 ≤ v4.1 ∧ v4.1 < v4.2.length) <|
req (v4.1.toNat < v4.2.length) <|
req (0 ≤ (wrapK .i64 (v4.1 + 1)) ∧ (wrapK .i64 (v4.1 + 1)) < v4.2.length) <|
req ((wrapK .i64 (v4.1 + 1)).toNat < v4.2.length) <|
req (0 ≤ (wrapK .i64 (v4.1 + 2)) ∧ (wrapK .i64 (v4.1 + 2)) < v4.2.length) <|
req ((wrapK .i64 (v4.1 + 2)).toNat < v4.2.length) <|
req (0 ≤ (wrapK .i64 (v4.1 + 3)) ∧ (wrapK .i64 (v4.1 + 3)) < v4.2.length) <|
req ((wrapK .i64 (v4.1 + 3)).toNat < v4.2.length) <|
bnd (q (v4.2.getD v4.1.toNat 0) (v4.2.getD ((wrapK .i64 (v4.1 + 1)).toNat) 0) (v4.2.getD ((wrapK .i64 (v4.1 + 2)).toNat) 0) (v4.2.getD ((wrapK .i64 (v4.1 + 3)).toNat) 0)) fun q8 =>
req (0 ≤ v4.1 ∧ v4.1 ≤ (wrapK .i64 (v4.1 + 4)) ∧ (wrapK .i64 (v4.1 + 4)) ≤ (v4.2.length : Int)) <|
req ((v4.1.toNat + ((wrapK .i64 (v4.1 + 4)).toNat - v4.1.toNat) ≤ v4.2.length ∧ ([q8.1, q8.2.1, q8.2.2.1, q8.2.2.2]).length ≤ ((wrapK .i64 (v4.1 + 4)).toNat - v4.1.toNat))) <|
some (.go (wrapK .i64 (v4.1 + 4), (over v4.2 v4.1.toNat ([q8.1, q8.2.1, q8.2.2.1, q8.2.2.2]))))) (
some (.done v4.2))
def tgB (v17 : (Int × (List Int))) (q26 : (Int × Int × Int × Int)) (v28 : (Int × (List Int))) : Option (Lp (Int × (List Int)) (List Int)) :=
sel (decide (v28.1 < 4)) (
req (0 ≤ v28.1 ∧ v28.1 < ([q26.1, q26.2.1, q26.2.2.1, q26.2.2.2] : List Int).length) <|
req (0 ≤ (wrapK .i64 (v17.1 + (wrapK .i64 (4 * v28.1)))) ∧ (wrapK .i64 (v17.1 + (wrapK .i64 (4 * v28.1)))) < v28.2.length) <|
req ((wrapK .i64 (v17.1 + (wrapK .i64 (4 * v28.1)))).toNat < v28.2.length) <|
some (.go (wrapK .i64 (v28.1 + 1), (v28.2.set ((wrapK .i64 (v17.1 + (wrapK .i64 (4 * v28.1)))).toNat) (([q26.1, q26.2.1, q26.2.2.1, q26.2.2.2] : List Int).getD v28.1.toNat 0))))) (
some (.done v28.2))
noncomputable def tgC (q : Int → Int → Int → Int → Option (Int × Int × Int × Int)) (v17 : (Int × (List Int))) : Option (Lp (Int × (List Int)) (List Int)) :=
sel (decide (v17.1 < 4)) (
req (0 ≤ v17.1 ∧ v17.1 < v17.2.length) <|
req (v17.1.toNat < v17.2.length) <|
req (0 ≤ (wrapK .i64 (v17.1 + 4)) ∧ (wrapK .i64 (v17.1 + 4)) < v17.2.length) <|
req ((wrapK .i64 (v17.1 + 4)).toNat < v17.2.length) <|
req (0 ≤ (wrapK .i64 (v17.1 + 8)) ∧ (wrapK .i64 (v17.1 + 8)) < v17.2.length) <|
req ((wrapK .i64 (v17.1 + 8)).toNat < v17.2.length) <|
req (0 ≤ (wrapK .i64 (v17.1 + 12)) ∧ (wrapK .i64 (v17.1 + 12)) < v17.2.length) <|
req ((wrapK .i64 (v17.1 + 12)).toNat < v17.2.length) <|
bnd (q (v17.2.getD v17.1.toNat 0) (v17.2.getD ((wrapK .i64 (v17.1 + 4)).toNat) 0) (v17.2.getD ((wrapK .i64 (v17.1 + 8)).toNat) 0) (v17.2.getD ((wrapK .i64 (v17.1 + 12)).toNat) 0)) fun q26 =>
bnd (loop (tgB v17 q26) (0, v17.2)) fun v30 =>
some (.go (wrapK .i64 (v17.1 + 1), v30))) (
some (.done v17.2))
noncomputable def turnG (q : Int → Int → Int → Int → Option (Int × Int × Int × Int)) (p0 : (List Int)) : Option (List Int) :=
bnd (impl_copyInts p0) fun q1 =>
bnd (loop (tgA q) (0, q1)) fun v7 =>
bnd (loop (tgC q) (0, v7)) fun v25 =>
some v25
theorem turn_back : impl_turned_impl_FourBack_1 = turnG impl_FourBack_1 := rfl
abbrev Q4 := Int × Int × Int × Int
def pick4 (q : Q4) (i : Nat) : Int := [q.1, q.2.1, q.2.2.1, q.2.2.2].getD i 0
def rows4 (t : Int → Int → Int → Int → Q4) (p : List Int) : List Int := (List.range 16).map fun j => pick4 (t (p.getD (4 * (j / 4)) 0) (p.getD (4 * (j / 4) + 1) 0) (p.getD (4 * (j / 4) + 2) 0) (p.getD (4 * (j / 4) + 3) 0)) (j % 4)
def flip4 (p : List Int) : List Int := (List.range 16).map fun j => p.getD (j % 4 * 4 + j / 4) 0
theorem rows4_len (t : Int → Int → Int → Int → Q4) (p : List Int) : (rows4 t p).length = 16 := by simp [rows4]
theorem flip4_len (p : List Int) : (flip4 p).length = 16 := by simp [flip4]
theorem over_getD {l m : List Int} {i : Nat} (h : i + m.length ≤ l.length) (j : Nat) : (over l i m).getD j 0 = if i ≤ j ∧ j < i + m.length then m.getD (j - i) 0 else l.getD j 0 := by
 rw [List.getD_eq_getElem?_getD, over_get h]
 split <;> rw [List.getD_eq_getElem?_getD]
theorem turnG_eq {q : Int → Int → Int → Int → Option Q4} {t : Int → Int → Int → Int → Q4} (hq : ∀ a b c d, q a b c d = some (t a b c d)) (p : List Int) (hp : p.length = 16) : turnG q p = some (flip4 (rows4 t (flip4 (rows4 t p)))) := by
 have hm : maxLen = 9223372036854775807 := rfl
 unfold turnG impl_copyInts
 rw [req_p (by simp only [List.length_nil]; omega), bnd_s, List.nil_append]
 have hA : loop (tgA q) (0, p) = some (rows4 t p) := by
  have key : ∀ r : Nat, r ≤ 4 → ∀ s : List Int, s.length = 16 → (∀ j, j < 4 * r → s.getD j 0 = (rows4 t p).getD j 0) → (∀ j, 4 * r ≤ j → s.getD j 0 = p.getD j 0) → loop (tgA q) (((4 * r : Nat) : Int), s) = some (rows4 t p) := by
   refine down_to _ ?_ ?_
   ·
    intro s h1 h2 _
    refine ldone ?_
    unfold tgA
    rw [sel_no (by simp), list_eq h1 (rows4_len t p) h2]
   ·
    intro r hr ih s h1 h2 h3
    refine lgo (y := (((4 * (r + 1) : Nat) : Int), over s (4 * r) [pick4 (t (p.getD (4 * r) 0) (p.getD (4 * r + 1) 0) (p.getD (4 * r + 2) 0) (p.getD (4 * r + 3) 0)) 0, pick4 (t (p.getD (4 * r) 0) (p.getD (4 * r + 1) 0) (p.getD (4 * r + 2) 0) (p.getD (4 * r + 3) 0)) 1, pick4 (t (p.getD (4 * r) 0) (p.getD (4 * r + 1) 0) (p.getD (4 * r + 2) 0) (p.getD (4 * r + 3) 0)) 2, pick4 (t (p.getD (4 * r) 0) (p.getD (4 * r + 1) 0) (p.getD (4 * r + 2) 0) (p.getD (4 * r + 3) 0)) 3])) ?_ (ih _ ?_ ?_ ?_)
    ·
     unfold tgA
     simp only
     rw [sel_yes (by omega), wk (e := ((4 * r : Nat) : Int) + 1) (by omega) (by omega), wk (e := ((4 * r : Nat) : Int) + 2) (by omega) (by omega), wk (e := ((4 * r : Nat) : Int) + 3) (by omega) (by omega), wk (e := ((4 * r : Nat) : Int) + 4) (by omega) (by omega)]
     rw [req_p (by omega), req_p (by omega), req_p (by omega), req_p (by omega), req_p (by omega), req_p (by omega), req_p (by omega), req_p (by omega), hq, bnd_s, req_p (by omega), req_p (by simp only [List.length_cons, List.length_nil]; omega)]
     rw [show (((4 * r : Nat) : Int) + 1).toNat = 4 * r + 1 by omega, show (((4 * r : Nat) : Int) + 2).toNat = 4 * r + 2 by omega, show (((4 * r : Nat) : Int) + 3).toNat = 4 * r + 3 by omega, Int.toNat_natCast, h3 _ (by omega), h3 _ (by omega), h3 _ (by omega), h3 _ (by omega)]
     rfl
    ·
     rw [over_length (by simp only [List.length_cons, List.length_nil]; omega)]; exact h1
    ·
     intro j hj
     rw [over_getD (by simp only [List.length_cons, List.length_nil]; omega)]
     simp only [List.length_cons, List.length_nil]
     by_cases h : 4 * r ≤ j
     ·
      rw [if_pos (by omega)]
      unfold rows4
      rw [getD_map _ (by omega), show 4 * (j / 4) = 4 * r by omega]
      obtain h | h | h | h : j = 4 * r ∨ j = 4 * r + 1 ∨ j = 4 * r + 2 ∨ j = 4 * r + 3 := by omega
      ·
       rw [h, show 4 * r - 4 * r = 0 by omega, show (4 * r) % 4 = 0 by omega]; rfl
      ·
       rw [h, show 4 * r + 1 - 4 * r = 1 by omega, show (4 * r + 1) % 4 = 1 by omega]; rfl
      ·
       rw [h, show 4 * r + 2 - 4 * r = 2 by omega, show (4 * r + 2) % 4 = 2 by omega]; rfl
      ·
       rw [h, show 4 * r + 3 - 4 * r = 3 by omega, show (4 * r + 3) % 4 = 3 by omega]; rfl
     ·
      rw [if_neg (by omega)]; exact h2 j (by omega)
    ·
     intro j hj
     rw [over_getD (by simp only [List.length_cons, List.length_nil]; omega), if_neg (by simp only [List.length_cons, List.length_nil]; omega)]
     exact h3 j (by omega)
  exact key 0 (by omega) p hp (fun j hj => by omega) fun _ _ => rfl
 rw [hA, bnd_s]
 generalize hR : rows4 t p = R
 have hl : R.length = 16 := by rw [← hR]; exact rows4_len t p
 have hC : loop (tgC q) (0, R) = some (flip4 (rows4 t (flip4 R))) := by
  have at4 : ∀ j : Nat, j < 16 → (flip4 (rows4 t (flip4 R))).getD j 0 = pick4 (t (R.getD (j % 4) 0) (R.getD (j % 4 + 4) 0) (R.getD (j % 4 + 8) 0) (R.getD (j % 4 + 12) 0)) (j / 4) := by
   intro j hj
   rw [flip4, getD_map _ hj, rows4, getD_map _ (by omega), flip4, getD_map _ (by omega), getD_map _ (by omega), getD_map _ (by omega), getD_map _ (by omega)]
   rw [show (j % 4 * 4 + j / 4) / 4 = j % 4 by omega, show (j % 4 * 4 + j / 4) % 4 = j / 4 by omega, show 4 * (j % 4) % 4 * 4 + 4 * (j % 4) / 4 = j % 4 by omega, show (4 * (j % 4) + 1) % 4 * 4 + (4 * (j % 4) + 1) / 4 = j % 4 + 4 by omega, show (4 * (j % 4) + 2) % 4 * 4 + (4 * (j % 4) + 2) / 4 = j % 4 + 8 by omega, show (4 * (j % 4) + 3) % 4 * 4 + (4 * (j % 4) + 3) / 4 = j % 4 + 12 by omega]
  obtain ⟨o, e, o1, o2, _⟩ := st_loop2 (f := tgC q) 4 (fun c s => s.length = 16 ∧ (∀ j, j < 16 → j % 4 < c → s.getD j 0 = (flip4 (rows4 t (flip4 R))).getD j 0) ∧ ∀ j, j < 16 → c ≤ j % 4 → s.getD j 0 = R.getD j 0) (by
   intro c s hc ⟨g1, g2, g3⟩
   obtain ⟨r, er, r1, r2, r3⟩ := st_loop2 (f := tgB ((c : Int), s) (t (R.getD c 0) (R.getD (c + 4) 0) (R.getD (c + 8) 0) (R.getD (c + 12) 0))) 4 (fun i s' => s'.length = 16 ∧ (∀ j, j < 16 → j % 4 ≠ c → s'.getD j 0 = s.getD j 0) ∧ ∀ j, j < 16 → j % 4 = c → j / 4 < i → s'.getD j 0 = pick4 (t (R.getD c 0) (R.getD (c + 4) 0) (R.getD (c + 8) 0) (R.getD (c + 12) 0)) (j / 4)) (by
    intro i s' hi ⟨k1, k2, k3⟩
    unfold tgB
    simp only
    rw [sel_yes (by omega), req_p (by simp only [List.length_cons, List.length_nil]; omega), wk (e := 4 * (i : Int)) (by omega) (by omega), wk (e := (c : Int) + 4 * (i : Int)) (by omega) (by omega), req_p (by omega), req_p (by omega), wk (e := (i : Int) + 1) (by omega) (by omega), show ((c : Int) + 4 * (i : Int)).toNat = c + 4 * i by omega, Int.toNat_natCast]
    refine ⟨_, rfl, by rw [List.length_set]; exact k1, fun j hj hjc => ?_, fun j hj hjc hji => ?_⟩
    ·
     rw [getD_set_at _ _ _ _ (by omega), if_neg (by omega)]; exact k2 j hj hjc
    ·
     rw [getD_set_at _ _ _ _ (by omega)]
     by_cases h : c + 4 * i = j
     ·
      rw [if_pos h, show j / 4 = i by omega]; rfl
     ·
      rw [if_neg h]; exact k3 j hj hjc (by omega)) (fun z _ => by unfold tgB; rw [sel_no (by simp)]) s ⟨g1, fun _ _ _ => rfl, fun j hj hjc hji => by omega⟩
   unfold tgC
   simp only
   rw [sel_yes (by omega), wk (e := (c : Int) + 4) (by omega) (by omega), wk (e := (c : Int) + 8) (by omega) (by omega), wk (e := (c : Int) + 12) (by omega) (by omega), req_p (by omega), req_p (by omega), req_p (by omega), req_p (by omega), req_p (by omega), req_p (by omega), req_p (by omega), req_p (by omega), hq, bnd_s, show ((c : Int) + 4).toNat = c + 4 by omega, show ((c : Int) + 8).toNat = c + 8 by omega, show ((c : Int) + 12).toNat = c + 12 by omega, Int.toNat_natCast, g3 c (by omega) (by omega), g3 (c + 4) (by omega) (by omega), g3 (c + 8) (by omega) (by omega), g3 (c + 12) (by omega) (by omega), er, bnd_s, wk (e := (c : Int) + 1) (by omega) (by omega)]
   refine ⟨r, rfl, r1, fun j hj hjc => ?_, fun j hj hjc => ?_⟩
   ·
    by_cases h : j % 4 = c
    ·
     rw [r3 j hj h (by omega), at4 j hj, h]
    ·
     rw [r2 j hj h]; exact g2 j hj (by omega)
   ·
    rw [r2 j hj (by omega)]; exact g3 j hj (by omega)) (fun z _ => by unfold tgC; rw [sel_no (by simp)]) R ⟨hl, fun j hj hjc => by omega, fun _ _ _ => rfl⟩
  rw [e]
  congr 1
  exact list_eq o1 (flip4_len _) fun j hj => o2 j hj (by omega)
 rw [hC, bnd_s]
theorem spec_l09Flip_eq (p : List Int) (hl : p.length = 16) : spec_l09Flip p = some (flip4 p) := by
 unfold spec_l09Flip
 rw [req_p (by omega)]
 obtain ⟨o, e, o1, o2⟩ := st_loop2 (f := spec_l09Flip_l2 p) 16 (fun i s => s.length = 16 ∧ ∀ j, j < 16 → j % 4 * 4 + j / 4 < i → s.getD j 0 = p.getD (j % 4 * 4 + j / 4) 0) (by
  intro i s hi ⟨g1, g2⟩
  unfold spec_l09Flip_l2
  simp only
  rw [sel_yes (by omega), req_p (by omega), req_p (by omega), req_p (by omega), tmod_pos (by omega), tdiv_pos (by omega), wk (e := (i : Int) / 4) (by omega) (by omega), wk (e := (i : Int) % 4 * 4) (by omega) (by omega), wk (e := (i : Int) % 4 * 4 + (i : Int) / 4) (by omega) (by omega), req_p (by omega), req_p (by omega), wk (e := (i : Int) + 1) (by omega) (by omega), Int.toNat_natCast, show ((i : Int) % 4 * 4 + (i : Int) / 4).toNat = i % 4 * 4 + i / 4 by omega]
  refine ⟨_, rfl, by rw [List.length_set]; exact g1, fun j hj hji => ?_⟩
  rw [getD_set_at _ _ _ _ (by omega)]
  by_cases h : i % 4 * 4 + i / 4 = j
  ·
   rw [if_pos h, show j % 4 * 4 + j / 4 = i by omega]
  ·
   rw [if_neg h]; exact g2 j hj (by omega)) (fun z _ => by unfold spec_l09Flip_l2; rw [sel_no (by simp)]) (List.replicate (16 : Int).toNat 0) ⟨by simp, fun j hj h => by omega⟩
 rw [e, bnd_s]
 congr 1
 exact list_eq o1 (flip4_len p) fun j hj => by rw [o2 j hj (by omega), flip4, getD_map _ hj]
theorem rows_list {f : Int × List Int → Option (Lp (Int × List Int) (List Int))} {t : Int → Int → Int → Int → Q4} (p : List Int) (h : ∀ (i : Nat) (s : List Int), i < 4 → s.length = 4 * i → f ((i : Int), s) = some (.go (((i + 1 : Nat) : Int), s ++ [(t (p.getD (4 * i) 0) (p.getD (4 * i + 1) 0) (p.getD (4 * i + 2) 0) (p.getD (4 * i + 3) 0)).1, (t (p.getD (4 * i) 0) (p.getD (4 * i + 1) 0) (p.getD (4 * i + 2) 0) (p.getD (4 * i + 3) 0)).2.1, (t (p.getD (4 * i) 0) (p.getD (4 * i + 1) 0) (p.getD (4 * i + 2) 0) (p.getD (4 * i + 3) 0)).2.2.1, (t (p.getD (4 * i) 0) (p.getD (4 * i + 1) 0) (p.getD (4 * i + 2) 0) (p.getD (4 * i + 3) 0)).2.2.2]))) (he : ∀ s, f (4, s) = some (.done s)) : loop f (0, []) = some (rows4 t p) := by
 obtain ⟨o, e, ho⟩ := st_loop2 (f := f) 4 (fun i s => s = (List.range (4 * i)).map fun j => pick4 (t (p.getD (4 * (j / 4)) 0) (p.getD (4 * (j / 4) + 1) 0) (p.getD (4 * (j / 4) + 2) 0) (p.getD (4 * (j / 4) + 3) 0)) (j % 4)) (by
  intro i s hi g
  refine ⟨_, h i s hi (by rw [g]; simp), ?_⟩
  rw [g, show 4 * (i + 1) = 4 * i + 1 + 1 + 1 + 1 by omega]
  simp only [List.range_succ, List.map_append, List.map_singleton, List.append_assoc]
  rw [show (4 * i + 1 + 1 + 1) / 4 = i by omega, show (4 * i + 1 + 1) / 4 = i by omega, show (4 * i + 1) / 4 = i by omega, show 4 * i / 4 = i by omega, show (4 * i + 1 + 1 + 1) % 4 = 3 by omega, show (4 * i + 1 + 1) % 4 = 2 by omega, show (4 * i + 1) % 4 = 1 by omega, show 4 * i % 4 = 0 by omega]
  rfl) (fun z _ => he z) [] rfl
 rw [e, ho]; rfl
def downTo (a b : Int) : Int := wrapK .i64 (if a.tmod b < 0 then wrapK .i64 (a.tdiv b) - 1 else a.tdiv b)
theorem l09Down_eq (a b : Int) (hb : b ≠ 0) : spec_l09Down a b = some (downTo a b) := by
 unfold spec_l09Down downTo
 rw [req_p hb, req_p hb, sel_d]
 split <;> rfl
def t4B (a b c d : Int) : Q4 := (wrapK .i64 ((wrapK .i64 (a + c)) + (wrapK .i64 (b + downTo d 2))), wrapK .i64 ((wrapK .i64 (a - c)) + (wrapK .i64 (downTo b 2 - d))), wrapK .i64 ((wrapK .i64 (a - c)) - (wrapK .i64 (downTo b 2 - d))), wrapK .i64 ((wrapK .i64 (a + c)) - (wrapK .i64 (b + downTo d 2))))
theorem impl_FourBack_1_eq (a b c d : Int) : impl_FourBack_1 a b c d = some (t4B a b c d) := by
 unfold impl_FourBack_1
 rw [floor_alike, l09Down_eq b 2 (by omega), l09Down_eq d 2 (by omega), bnd_s, bnd_s]; rfl
theorem spec_l09Backs_eq (p : List Int) (hl : p.length = 16) : spec_l09Backs p = some (rows4 t4B p) := by
 have hm : maxLen = 9223372036854775807 := rfl
 unfold spec_l09Backs
 rw [rows_list (f := spec_l09Backs_l2 p) (t := t4B) p (by
  intro i s hi hs
  unfold spec_l09Backs_l2
  simp only
  rw [sel_yes (by omega), wk (e := 4 * (i : Int)) (by omega) (by omega), wk (e := 4 * (i : Int) + 1) (by omega) (by omega), wk (e := 4 * (i : Int) + 2) (by omega) (by omega), wk (e := 4 * (i : Int) + 3) (by omega) (by omega), req_p (by omega), req_p (by omega), req_p (by omega), req_p (by omega), show (4 * (i : Int)).toNat = 4 * i by omega, show (4 * (i : Int) + 1).toNat = 4 * i + 1 by omega, show (4 * (i : Int) + 2).toNat = 4 * i + 2 by omega, show (4 * (i : Int) + 3).toNat = 4 * i + 3 by omega, l09Down_eq _ 2 (by omega), bnd_s, l09Down_eq _ 2 (by omega), bnd_s, wk (e := (i : Int) + 1) (by omega) (by omega), req_p (by simp only [List.length_cons, List.length_nil]; omega)]
  rfl) (by intro s; unfold spec_l09Backs_l2; rw [sel_no (by simp)]), bnd_s]
theorem FourBack_alike (p : List Int) (hl : p.length = 16) (hb : inB 10000000 p) : impl_FourBack p = spec_FourBack p := by
 unfold impl_FourBack spec_FourBack
 rw [areIn_yes p 16 10000000 (by omega) (by omega) hb, l09All_yes p 16 10000000 (by omega) (by omega) (by omega) hb, bnd_s, bnd_s, Bool.not_true, sel_f, sel_f, turn_back, turnG_eq impl_FourBack_1_eq p hl, spec_l09Backs_eq p hl, bnd_s, bnd_s, spec_l09Flip_eq _ (rows4_len _ _), bnd_s, spec_l09Backs_eq _ (flip4_len _), bnd_s, spec_l09Flip_eq _ (rows4_len _ _), bnd_s]
 exact settled_alike _ 16 (by omega) (flip4_len _) (fun _ => rfl)
theorem req_c {β : Type} {c : Prop} [Decidable c] {k k' : Option β} (h : c → k = k') : req c k = req c k' := by
 by_cases hc : c
 ·
  rw [req_p hc, req_p hc, h hc]
 ·
  unfold req; rw [if_neg hc, if_neg hc]
theorem req_pc {β : Type} {c : Prop} [Decidable c] {k k' : Option β} (h0 : c) (h : k = k') : req c k = k' := by rw [req_p h0, h]
theorem sel_c {β : Type} {b : Bool} {x x' y y' : β} (h : b = true → x = x') (h2 : b = false → y = y') : sel b x y = sel b x' y' := by
 cases b
 ·
  exact h2 rfl
 ·
  exact h rfl
theorem bnd_c {α β : Type} {x x' : Option α} {f f' : α → Option β} (h : x = x') (h2 : ∀ a, x' = some a → f a = f' a) : bnd x f = bnd x' f' := by
 subst h
 cases x with
 | none => rfl
 | some a => exact h2 a rfl
theorem loop_keep {V O : Type} {f : V → Option (Lp V O)} (I : V → Prop) (J : O → Prop) (h1 : ∀ v v', I v → f v = some (.go v') → I v') (h2 : ∀ v o, I v → f v = some (.done o) → J o) {v : V} {o : O} (h : loop f v = some o) (hv : I v) : J o := by
 obtain ⟨k, hk⟩ := loop_it.1 h
 clear h
 induction k generalizing v with
 | zero => cases hk
 | succ k ih =>
  rw [it] at hk
  cases e : f v with
  | none => rw [e] at hk; cases hk
  | some s =>
   rw [e] at hk
   cases s with
   | go y => exact ih (h1 v y hv e) hk
   | done o' => cases hk; exact h2 v o hv e
theorem SmallBack_alike (l qp p : Int) (h0 : 0 ≤ qp ∧ qp ≤ 40) (hp : 0 ≤ p ∧ p ≤ 15) : impl_SmallBack l qp p = spec_SmallBack l qp p := by
 unfold impl_SmallBack spec_SmallBack
 rw [impl_within_eq, spec_l01In_eq, ScaleOf_alike qp p h0 hp]
theorem LargeBack_alike (l qp : Int) (h0 : 0 ≤ qp ∧ qp ≤ 40) : impl_LargeBack l qp = spec_LargeBack l qp := by
 unfold impl_LargeBack spec_LargeBack
 rw [impl_within_eq, spec_l01In_eq, StepOf_alike qp h0]
def quarterIn (k : Int) (v7 : Int × List Int) : Option (Lp (Int × List Int) (List Int)) :=
 sel (decide (v7.1 < 4)) (
 bnd (it (impl_quarter_l14 k v7) 10 (0, v7.2)) fun v18 =>
 some (.go (wrapK .i64 (v7.1 + 1), v18))) (
 some (.done v7.2))
theorem quarterIn_is {k : Int} {v : Int × List Int} {x : Lp (Int × List Int) (List Int)} (h : quarterIn k v = some x) : impl_quarter_l12 k v = some x := by
 unfold quarterIn at h
 unfold impl_quarter_l12
 rcases sel_some h with ⟨hb, h⟩ | ⟨hb, h⟩
 ·
  rw [hb, sel_t]
  obtain ⟨a, h1, h2⟩ := bnd_some h
  rw [loop_it.2 ⟨10, h1⟩, bnd_s]
  exact h2
 ·
  rw [hb, sel_f]; exact h
def quarterL (k : Int) : List Int := (it (quarterIn k) 10 (0, [])).getD []
def quarterAt (k i : Int) : Int := (wrapK .i64 ((wrapK .i64 ((wrapK .i64 (8 * (wrapK .i64 ((wrapK .i64 ((wrapK .i64 (k.tdiv 2)) * 4)) + (wrapK .i64 (i.tdiv 4)))))) + (wrapK .i64 ((k.tmod 2) * 4)))) + (i.tmod 4)))
theorem quarter_all : ∀ k : Fin 4, (it (quarterIn (k.val : Int)) 10 (0, [])).isSome = true ∧ (quarterL (k.val : Int)).length = 16 ∧ ∀ i : Fin 16, (quarterL (k.val : Int)).getD i.val 0 = quarterAt (k.val : Int) (i.val : Int) ∧ 0 ≤ quarterAt (k.val : Int) (i.val : Int) ∧ quarterAt (k.val : Int) (i.val : Int) < 64 := by decide +kernel
theorem impl_quarter_eq (k : Nat) (hk : k < 4) : impl_quarter k = some (quarterL k) ∧ (quarterL k).length = 16 ∧ ∀ i : Nat, i < 16 → (quarterL k).getD i 0 = quarterAt k i ∧ 0 ≤ quarterAt k i ∧ quarterAt k i < 64 := by
 obtain ⟨h1, h2, h3⟩ := quarter_all ⟨k, hk⟩
 refine ⟨?_, h2, fun i hi => h3 ⟨i, hi⟩⟩
 obtain ⟨o, ho⟩ := Option.isSome_iff_exists.1 h1
 have hl := loop_of 10 (it_of (fun v y => quarterIn_is (k := (k : Int))) 10 _ ho)
 unfold impl_quarter
 rw [hl, bnd_s]
 unfold quarterL; simp only at ho; rw [ho]; rfl
theorem LevelsBack_alike (p : List Int) (c : Cond) (hc : condOk c = true) (hp : lv64 p = true) : impl_LevelsBack p c = spec_LevelsBack p c := by
 have hq := condOk_qp hc
 obtain ⟨hl, hb⟩ := lv64_in hp
 unfold impl_LevelsBack spec_LevelsBack
 rw [spec_CondOk_eq, impl_CondOk_eq, impl_areLevels_eq p (by omega), hp, hc, l09All_yes p 64 5000 (by omega) (by omega) (by omega) hb]
 simp only [bnd_s, sel_t, Bool.not_true, sel_f]
 rw [Unscanned_alike 8 (Or.inr rfl) p (by omega)]
 refine sel_c (fun _ => rfl) fun _ => sel_c (fun _ => ?_) fun _ => ?_
 ·
  obtain ⟨w, ew, w1, w2⟩ := spec_Unscanned_ev 8 (Or.inr rfl) p 5000 (by omega) (by omega) hb
  rw [ew, bnd_s, bnd_s]
  have hloop : loop (impl_LevelsBack_l4 c (w, true)) (0, (w, true).1) = loop (spec_LevelsBack_l4 c) (0, (w, true).1) := by
   have : impl_LevelsBack_l4 c (w, true) = spec_LevelsBack_l4 c := by
    funext v
    unfold impl_LevelsBack_l4 spec_LevelsBack_l4
    simp only [LargeBack_alike _ _ hq, w1, hl]
    rfl
   rw [this]
  rw [hloop]
  obtain ⟨l, el, l1, l2⟩ := map_loop (f := spec_LevelsBack_l4 c) 64 (fun x => -5000 ≤ x ∧ x ≤ 5000) (fun x => -5760000 ≤ x ∧ x ≤ 5760000) (by
   intro i l hi hll hx
   obtain ⟨d, ed, d1, d2⟩ := spec_LargeBack_ev (l.getD i 0) c.Qp hx hq
   unfold spec_LevelsBack_l4
   simp only [Int.toNat_natCast]
   rw [sel_yes (by omega), req_p (by omega), req_p (by omega), ed, bnd_s, req_p (by omega), req_p (by omega), wk (e := (i : Int) + 1) (by omega) (by omega)]
   exact ⟨d, rfl, d1, d2⟩) (by intro s; unfold spec_LevelsBack_l4; rw [sel_no (by simp)]) w (by omega) w2
  simp only [el, bnd_s]
  rw [EightBack_alike l l1 (inB_mono l2 (by omega))]
 ·
  refine req_c fun _ => bnd_c ?_ fun _ _ => rfl
  refine loop_congr (fun v => (∃ k : Nat, v.1 = (k : Int) ∧ k ≤ 4) ∧ v.2.length = 64) ?_ ?_ ⟨⟨0, rfl, by omega⟩, by simp⟩
  ·
   intro ⟨k0, s⟩ ⟨⟨k, ek, hk⟩, hs⟩
   simp only at ek hs
   subst ek
   unfold impl_LevelsBack_l36 spec_LevelsBack_l36
   simp only
   refine sel_c (fun hk4 => ?_) fun _ => rfl
   have hk4 : k < 4 := by have := of_decide_eq_true hk4; omega
   rw [wk (e := 16 * (k : Int)) (by omega) (by omega), wk (e := 16 * (k : Int) + 16) (by omega) (by omega)]
   refine req_c fun _ => ?_
   rw [show (16 * (k : Int)).toNat = 16 * k by omega, show (16 * (k : Int) + 16).toNat - 16 * k = 16 by omega]
   have hcut : ((p.drop (16 * k)).take 16).length = 16 := by rw [List.length_take, List.length_drop]; omega
   obtain ⟨a, ea, a1, a2⟩ := spec_Unscanned_ev 4 (Or.inl rfl) ((p.drop (16 * k)).take 16) 5000 (by omega) (by omega) (inB_take (inB_drop hb _) _)
   rw [Unscanned_alike 4 (Or.inl rfl) _ (by omega), ea, bnd_s, bnd_s]
   have hloop : loop (impl_LevelsBack_l41 c (a, true)) (0, (a, true).1) = loop (spec_LevelsBack_l41 c) (0, (a, true).1) := by
    have : impl_LevelsBack_l41 c (a, true) = spec_LevelsBack_l41 c := by
     funext v
     unfold impl_LevelsBack_l41 spec_LevelsBack_l41
     simp only [show ((a.length : Nat) : Int) = 16 by omega]
     refine sel_c (fun h16 => ?_) fun _ => rfl
     have := of_decide_eq_true h16
     refine req_c fun h0 => req_c fun _ => ?_
     rw [SmallBack_alike _ _ _ hq (by omega)]
    rw [this]
   rw [hloop]
   obtain ⟨l, el, l1, l2⟩ := map_loop (f := spec_LevelsBack_l41 c) 16 (fun x => -5000 ≤ x ∧ x ≤ 5000) (fun x => -10000000 ≤ x ∧ x ≤ 10000000) (by
    intro i l hi hll hx
    obtain ⟨d, ed, d1, d2⟩ := spec_SmallBack_ev (l.getD i 0) c.Qp i hx hq (by omega)
    unfold spec_LevelsBack_l41
    simp only [Int.toNat_natCast]
    rw [sel_yes (by omega), req_p (by omega), req_p (by omega), ed, bnd_s, req_p (by omega), req_p (by omega), wk (e := (i : Int) + 1) (by omega) (by omega)]
    exact ⟨d, rfl, d1, d2⟩) (by intro s; unfold spec_LevelsBack_l41; rw [sel_no (by simp)]) a (by omega) a2
   obtain ⟨b, eb, b1, b2⟩ := spec_FourBack_ev l l1 l2
   obtain ⟨q1, q2, q3⟩ := impl_quarter_eq k hk4
   simp only [el, bnd_s]
   rw [FourBack_alike l l1 l2, eb, bnd_s, bnd_s, q1, bnd_s]
   refine bnd_c ?_ fun _ _ => rfl
   have : impl_LevelsBack_l42 b (quarterL k) = spec_LevelsBack_l42 ((k : Int), s) b := by
    funext v
    unfold impl_LevelsBack_l42 spec_LevelsBack_l42
    simp only [show (((quarterL k).length : Nat) : Int) = 16 by omega]
    refine sel_c (fun h16 => ?_) fun _ => rfl
    have h16 := of_decide_eq_true h16
    by_cases h0 : 0 ≤ v.1
    ·
     obtain ⟨i, hi⟩ : ∃ i : Nat, v.1 = (i : Int) := ⟨v.1.toNat, by omega⟩
     obtain ⟨v1, v2⟩ := v
     simp only at hi h0 h16
     subst hi
     obtain ⟨r1, r2, r3⟩ := q3 i (by omega)
     have e1 : (wrapK .i64 ((wrapK .i64 ((wrapK .i64 (8 * (wrapK .i64 ((wrapK .i64 ((wrapK .i64 ((k : Int).tdiv 2)) * 4)) + (wrapK .i64 ((i : Int).tdiv 4)))))) + (wrapK .i64 (((k : Int).tmod 2) * 4)))) + ((i : Int).tmod 4))) = quarterAt k i := rfl
     simp only [Int.toNat_natCast, r1, e1]
     refine req_pc (by omega) (req_pc (by omega) (req_pc (by omega) (req_pc (by omega) ?_)))
     refine (req_pc (by omega) (req_pc (by omega) (req_pc (by omega) (req_pc (by omega) (req_pc (by omega) (req_pc (by omega) ?_)))))).symm
     rfl
    ·
     unfold req
     rw [if_neg (by omega), if_pos (by omega), if_pos (by omega), if_pos (by omega), if_pos (by omega), if_neg (by omega)]
   rw [this]
  ·
   intro ⟨k0, s⟩ v' ⟨⟨k, ek, hk⟩, hs⟩ he
   simp only at ek hs
   subst ek
   unfold spec_LevelsBack_l36 at he
   simp only at he
   rcases sel_some he with ⟨hb4, he⟩ | ⟨_, he⟩
   ·
    have hk4 : k < 4 := by have := of_decide_eq_true hb4; omega
    obtain ⟨_, he⟩ := req_some he
    obtain ⟨a, _, he⟩ := bnd_some he
    obtain ⟨l, _, he⟩ := bnd_some he
    obtain ⟨b, _, he⟩ := bnd_some he
    obtain ⟨r, hr, he⟩ := bnd_some he
    rw [wk (e := (k : Int) + 1) (by omega) (by omega)] at he
    cases he
    refine ⟨⟨k + 1, rfl, by omega⟩, ?_⟩
    refine loop_keep (f := spec_LevelsBack_l42 ((k : Int), s) b) (fun v => v.2.length = 64) (fun o => o.length = 64) ?_ ?_ hr hs
    ·
     intro v v' hv he
     unfold spec_LevelsBack_l42 at he
     rcases sel_some he with ⟨_, he⟩ | ⟨_, he⟩
     ·
      obtain ⟨_, he⟩ := req_some he
      obtain ⟨_, he⟩ := req_some he
      obtain ⟨_, he⟩ := req_some he
      obtain ⟨_, he⟩ := req_some he
      obtain ⟨_, he⟩ := req_some he
      obtain ⟨_, he⟩ := req_some he
      obtain ⟨_, he⟩ := req_some he
      obtain ⟨_, he⟩ := req_some he
      cases he
      simp only [List.length_set]; exact hv
     ·
      cases he
    ·
     intro v o hv he
     unfold spec_LevelsBack_l42 at he
     rcases sel_some he with ⟨_, he⟩ | ⟨_, he⟩
     ·
      obtain ⟨_, he⟩ := req_some he
      obtain ⟨_, he⟩ := req_some he
      obtain ⟨_, he⟩ := req_some he
      obtain ⟨_, he⟩ := req_some he
      obtain ⟨_, he⟩ := req_some he
      obtain ⟨_, he⟩ := req_some he
      obtain ⟨_, he⟩ := req_some he
      obtain ⟨_, he⟩ := req_some he
      cases he
     ·
      cases he; exact hv
   ·
    cases he
theorem dot_alike {p : Pic} (ok : picOk p = true) (x y : Int) : impl_Pic_dot p x y = spec_DotAt p x y := by rw [impl_dot_eq ok, spec_DotAt_eq ok]
theorem isSquare_yes {p : Pic} (ok : picOk p = true) {x y : Int} (hx : x.tmod 8 = 0) (hy : y.tmod 8 = 0) (h : heldAt p x y = true) : impl_Pic_isSquare p x y = some true := impl_isSquare_eq ok x y hx hy h
theorem EdgesOf_alike {p : Pic} (ok : picOk p = true) {x y : Int} (hx : x.tmod 8 = 0) (hy : y.tmod 8 = 0) (h : heldAt p x y = true) : impl_EdgesOf p x y = spec_EdgesOf p x y := by
 unfold impl_EdgesOf spec_EdgesOf
 rw [impl_PicOk_eq, ok, isSquare_yes ok hx hy h, spec_l13Fits_yes ok hx hy h]
 have : impl_EdgesOf_l2 p x y = spec_EdgesOf_l2 p x y := by
  funext v
  unfold impl_EdgesOf_l2 spec_EdgesOf_l2
  simp only [dot_alike ok]
 simp only [bnd_s, sel_t, Bool.not_true, sel_f, this, dot_alike ok]
theorem EdgesOk_yes {e : Edges} (h : edgesP e) : impl_EdgesOk e = some true := by
 obtain ⟨h1, h2, h3, h4, h5, h6⟩ := h
 have side : ∀ l : List Int, (l.length = 0 ∨ l.length = 8) → (∀ x ∈ l, 0 ≤ x ∧ x ≤ 255) → bnd (sel (decide ((l.length : Int) > 0)) (bnd (impl_areIn l 8 0 255) fun q10 => some (!q10)) (some false)) (fun v9 => some v9) = some false := by
  intro l hl hb
  rcases hl with e | e
  ·
   rw [sel_no (by omega)]; rfl
  ·
   rw [sel_yes (by omega), impl_areIn_eq l 8 0 255 (by omega)]
   have : (l.all fun x => decide (0 ≤ x ∧ x ≤ 255)) = true := List.all_eq_true.2 fun x hx => decide_eq_true (hb x hx)
   rw [this, e]; rfl
 have go : ∀ (i : Nat) (l : List Int), i < 2 → ([e.Above, e.Left]).getD i dLInti64 = l → (l.length = 0 ∨ l.length = 8) → (∀ x ∈ l, 0 ≤ x ∧ x ≤ 255) → impl_EdgesOk_l2 e (i : Int) = some (.go ((i + 1 : Nat) : Int)) := by
  intro i l hi hg hl hb
  unfold impl_EdgesOk_l2
  simp only [Int.toNat_natCast, hg]
  have hs := side l hl hb
  rw [sel_yes (by simp only [List.length_cons, List.length_nil]; omega), req_p (by simp only [List.length_cons, List.length_nil]; omega), req_p (by simp only [List.length_cons, List.length_nil]; omega)]
  obtain ⟨a, ea, hs⟩ := bnd_some hs
  injection hs with hs
  subst hs
  rw [ea, bnd_s, sel_f, wk (by omega) (by omega)]
  rfl
 unfold impl_EdgesOk
 have : loop (impl_EdgesOk_l2 e) 0 = some (.out ()) := by
  refine lgo (go 0 e.Above (by omega) rfl h1 h3) (lgo (go 1 e.Left (by omega) rfl h2 h4) (ldone ?_))
  unfold impl_EdgesOk_l2
  rw [sel_no (by simp)]
 rw [this, bnd_s, impl_within_eq, bnd_s, decide_eq_true ⟨h5, h6⟩]
def sumI (l : List Int) : Nat → Int
 | 0 => 0
 | n + 1 => sumI l n + l.getD n 0
theorem sumI_range {l : List Int} (h : ∀ x ∈ l, 0 ≤ x ∧ x ≤ 255) : ∀ n : Nat, n ≤ l.length → 0 ≤ sumI l n ∧ sumI l n ≤ 255 * n
 | 0, _ => by simp [sumI]
 | n + 1, hn => by
  have a := sumI_range h n (by omega)
  have b := h (l.getD n 0) (by rw [getD_at l n (by omega)]; exact List.getElem_mem _)
  rw [sumI]; omega
theorem sum_loop {f : Int × Int → Option (Lp (Int × Int) Int)} {l : List Int} (hl : l.length ≤ 64) (h : ∀ x ∈ l, 0 ≤ x ∧ x ≤ 255) (hf : ∀ v, f v = sel (decide (v.2 < (l.length : Int))) (req (0 ≤ v.2 ∧ v.2 < l.length) <| some (.go (wrapK .i64 (v.1 + (l.getD v.2.toNat 0)), wrapK .i64 (v.2 + 1)))) (some (.done v.1))) (a : Int) (ha : 0 ≤ a ∧ a ≤ 100000) : loop f (a, 0) = some (a + sumI l l.length) := by
 obtain ⟨o, e, ho⟩ := acc_loop (f := f) l.length (fun i s => s = a + sumI l i) (by
  intro i s hi g
  have r := sumI_range h i (by omega)
  have b := h (l.getD i 0) (by rw [getD_at l i (by omega)]; exact List.getElem_mem _)
  rw [hf]
  simp only [Int.toNat_natCast]
  rw [sel_yes (by omega), req_p (by omega), wk (e := s + l.getD i 0) (by omega) (by omega), wk (e := (i : Int) + 1) (by omega) (by omega)]
  exact ⟨_, rfl, by rw [sumI]; omega⟩) (by intro s; rw [hf, sel_no (by simp)]) a (by simp [sumI])
 rw [e, ho]
theorem impl_sumOf_is {l : List Int} (hl : l.length ≤ 64) (h : ∀ x ∈ l, 0 ≤ x ∧ x ≤ 255) : impl_sumOf l = some (sumI l l.length) := by
 unfold impl_sumOf
 rw [sum_loop (f := impl_sumOf_l2 l) hl h (fun _ => rfl) 0 (by omega), bnd_s, Int.zero_add]
theorem mid_alike {e : Edges} (h : edgesP e) : (sel (decide ((wrapK .i64 ((e.Above.length : Int) + (e.Left.length : Int))) > 0)) (bnd (impl_sumOf e.Above) fun q5 => bnd (impl_sumOf e.Left) fun q6 => req ((2 : Int) ≠ 0) <| req ((wrapK .i64 ((e.Above.length : Int) + (e.Left.length : Int))) ≠ 0) <|
  some (wrapK .i64 ((wrapK .i64 ((wrapK .i64 (q5 + q6)) + (wrapK .i64 ((wrapK .i64 ((e.Above.length : Int) + (e.Left.length : Int))).tdiv 2)))).tdiv (wrapK .i64 ((e.Above.length : Int) + (e.Left.length : Int)))))) (some 128)) = spec_l13Mid e := by
 obtain ⟨h1, h2, h3, h4, h5, h6⟩ := h
 unfold spec_l13Mid
 have r1 := sumI_range h3 e.Above.length (Nat.le_refl _)
 have r2 := sumI_range h4 e.Left.length (Nat.le_refl _)
 rw [wk (e := (e.Above.length : Int) + (e.Left.length : Int)) (by omega) (by omega)]
 by_cases hz : (e.Above.length : Int) + (e.Left.length : Int) = 0
 ·
  rw [sel_no (by omega), sel_pos (by simpa using hz)]
 ·
  rw [sel_yes (by omega), sel_neg (by simpa using hz), impl_sumOf_is (by omega) h3, bnd_s, impl_sumOf_is (by omega) h4, bnd_s, req_p (by omega), req_p hz, req_p (by omega), tdiv_pos (a := (e.Above.length : Int) + (e.Left.length : Int)) (by omega), wk (e := ((e.Above.length : Int) + (e.Left.length : Int)) / 2) (by omega) (by omega),
   sum_loop (f := spec_l13Mid_l2 e) (by omega) h3 (fun _ => rfl) _ (by omega), bnd_s, sum_loop (f := spec_l13Mid_l4 e) (by omega) h4 (fun _ => rfl) _ (by omega), bnd_s, req_p hz, wk (e := sumI e.Above e.Above.length + sumI e.Left e.Left.length) (by omega) (by omega), wk (e := sumI e.Above e.Above.length + sumI e.Left e.Left.length + ((e.Above.length : Int) + (e.Left.length : Int)) / 2) (by omega) (by omega)]
  congr 3; omega
theorem orGrey_eq (l : List Int) (hl : l.length = 0 ∨ l.length = 8) : ∃ g, impl_orGrey l = some g ∧ g.length = 8 ∧ ∀ k : Nat, k < 8 → spec_l13Filled l k = some (g.getD k 0) := by
 unfold impl_orGrey
 rcases hl with e | e
 ·
  refine ⟨_, sel_pos (by rw [e]; rfl), rfl, fun k hk => ?_⟩
  unfold spec_l13Filled
  rw [sel_pos (by rw [e]; rfl)]
  congr 1
  obtain rfl | rfl | rfl | rfl | rfl | rfl | rfl | rfl : k = 0 ∨ k = 1 ∨ k = 2 ∨ k = 3 ∨ k = 4 ∨ k = 5 ∨ k = 6 ∨ k = 7 := by omega
  all_goals rfl
 ·
  refine ⟨l, sel_neg (by rw [e]; rfl), e, fun k hk => ?_⟩
  unfold spec_l13Filled
  rw [sel_neg (by rw [e]; rfl), req_p (by omega), Int.toNat_natCast]
theorem brought_alike (n a b : Int) : impl_Brought n a b = spec_Brought n a b := by rw [impl_Brought_eq, spec_Brought_eq]
def guessAt (m mid v : Int) (A B : List Int) (i : Nat) : Int := sel (m == 0) mid (sel (m == 1) (A.getD (i % 8) 0) (sel (m == 2) (B.getD (i / 8) 0) (brought (wrapK .i64 (wrapK .i64 (B.getD (i / 8) 0 + A.getD (i % 8) 0) - v)) 0 255)))
theorem grid_loops {f1 : Int × List Int → Option (Lp (Int × List Int) (List Int))} {f2 : Int × List Int → Int × List Int → Option (Lp (Int × List Int) (List Int))} (g : Nat → Int)
  (h1 : ∀ v, f1 v = sel (decide (v.1 < 8)) (bnd (loop (f2 v) (0, v.2)) fun w => some (.go (wrapK .i64 (v.1 + 1), w))) (some (.done v.2)))
  (h2 : ∀ (r c : Nat) (a s : List Int), r < 8 → c < 8 → s.length = 8 * r + c → f2 ((r : Int), a) ((c : Int), s) = some (.go (((c + 1 : Nat) : Int), s ++ [g (8 * r + c)])))
  (h3 : ∀ (r : Nat) (a s : List Int), f2 ((r : Int), a) (8, s) = some (.done s)) : loop f1 (0, []) = some ((List.range 64).map g) := by
 obtain ⟨o, e, ho⟩ := st_loop (f := f1) 8 (fun r s => s = (List.range (8 * r)).map g) (by
  intro r s hr hs
  obtain ⟨q, eq, hq⟩ := st_loop2 (f := f2 ((r : Int), s)) 8 (fun c s' => s' = (List.range (8 * r + c)).map g) (by
   intro c s' hc hs'
   exact ⟨_, h2 r c s s' hr hc (by rw [hs']; simp), by rw [hs', show 8 * r + (c + 1) = (8 * r + c) + 1 by omega, List.range_succ, List.map_append]; rfl⟩) (fun z _ => h3 r s z) s hs
  rw [h1]
  refine ⟨q, ?_, by rw [hq, show 8 * (r + 1) = 8 * r + 8 by omega]⟩
  simp only
  rw [sel_yes (by omega), eq, bnd_s, wk (by omega) (by omega)]
  rfl) (by intro s; rw [h1, sel_no (by simp)]) [] rfl
 rw [e, ho]
theorem GuessOf_both (m : Int) (hm0 : 0 ≤ m ∧ m ≤ 3) {e : Edges} (h : edgesP e) : ∃ g, impl_GuessOf m e = some g ∧ spec_GuessOf m e = some g := by
 have hm : maxLen = 9223372036854775807 := rfl
 obtain ⟨mid, em, m1, m2⟩ := spec_l13Mid_ev h
 obtain ⟨A, eA, hA, fA⟩ := orGrey_eq e.Above h.1
 obtain ⟨B, eB, hB, fB⟩ := orGrey_eq e.Left h.2.1
 obtain ⟨v, ev⟩ : ∃ v, sel (decide (e.Corner < 0)) (some (128 : Int)) (some e.Corner) = some v := by rw [sel_ss]; exact ⟨_, rfl⟩
 refine ⟨(List.range 64).map (guessAt m mid v A B), ?_, ?_⟩
 ·
  unfold impl_GuessOf
  rw [EdgesOk_yes h, bnd_s, sel_t, impl_within_eq, bnd_s, decide_eq_true hm0, Bool.not_true, bnd_s, sel_f, mid_alike h, em, bnd_s, eA, bnd_s, eB, bnd_s, ev, bnd_s, grid_loops (f1 := impl_GuessOf_l12 m mid A B v) (f2 := impl_GuessOf_l14 m mid A B v) (guessAt m mid v A B) (fun _ => rfl) ?_ ?_, bnd_s]
  ·
   intro r c a s hr hc hs
   unfold impl_GuessOf_l14 guessAt
   simp only [Int.toNat_natCast, impl_Brought_eq, bnd_s]
   rw [sel_yes (by omega), wk (e := (c : Int) + 1) (by omega) (by omega), show (8 * r + c) % 8 = c by omega, show (8 * r + c) / 8 = r by omega]
   cases (m == 0) with
   | true => rw [sel_t, req_p (by simp only [List.length_singleton]; omega), bnd_s]; rfl
   | false =>
    rw [sel_f]
    cases (m == 1) with
    | true => rw [sel_t, req_p (by omega), req_p (by simp only [List.length_singleton]; omega), bnd_s]; rfl
    | false =>
     rw [sel_f]
     cases (m == 2) with
     | true => rw [sel_t, req_p (by omega), req_p (by simp only [List.length_singleton]; omega), bnd_s]; rfl
     | false => rw [sel_f, req_p (by omega), req_p (by omega), req_p (by simp only [List.length_singleton]; omega), bnd_s]; rfl
  ·
   intro r a s
   unfold impl_GuessOf_l14
   rw [sel_no (by simp)]
 ·
  unfold spec_GuessOf
  rw [spec_EdgesOk_yes h, bnd_s, sel_t, spec_l01In_eq, bnd_s, decide_eq_true hm0, Bool.not_true, bnd_s, sel_f, ev, bnd_s]
  obtain ⟨o, eo, ho⟩ := st_loop (f := spec_GuessOf_l2 m e v) 64 (fun i s => s = (List.range i).map (guessAt m mid v A B)) (by
   intro i s hi hs
   have hlen : s.length = i := by rw [hs]; simp
   refine ⟨s ++ [guessAt m mid v A B i], ?_, by rw [hs, List.range_succ, List.map_append]; rfl⟩
   unfold spec_GuessOf_l2 guessAt
   simp only
   rw [sel_yes (by omega), req_p (by omega), tmod_pos (by omega), show (i : Int) % 8 = ((i % 8 : Nat) : Int) by omega, fA _ (by omega), bnd_s, req_p (by omega), tdiv_pos (by omega), wk (e := (i : Int) / 8) (by omega) (by omega), show (i : Int) / 8 = ((i / 8 : Nat) : Int) by omega, fB _ (by omega), bnd_s, wk (e := (i : Int) + 1) (by omega) (by omega), em]
   cases (m == 0) with
   | true => rw [sel_t, bnd_s, req_p (by simp only [List.length_singleton]; omega), bnd_s]; rfl
   | false =>
    rw [sel_f]
    cases (m == 1) with
    | true => rw [sel_t, req_p (by simp only [List.length_singleton]; omega), bnd_s]; rfl
    | false =>
     rw [sel_f]
     cases (m == 2) with
     | true => rw [sel_t, req_p (by simp only [List.length_singleton]; omega), bnd_s]; rfl
     | false => rw [sel_f, spec_Brought_eq, bnd_s, req_p (by simp only [List.length_singleton]; omega), bnd_s]; rfl) (by intro s; unfold spec_GuessOf_l2; rw [sel_no (by simp)]) [] rfl
  rw [eo, bnd_s, ho]
theorem GuessOf_alike (m : Int) (hm0 : 0 ≤ m ∧ m ≤ 3) {e : Edges} (h : edgesP e) : impl_GuessOf m e = spec_GuessOf m e := by
 obtain ⟨g, h1, h2⟩ := GuessOf_both m hm0 h
 rw [h1, h2]
theorem Joined_alike (g b : List Int) (hg : dots64 g = true) (hl : b.length = 64) (hb : inB 10000000 b) : impl_Joined g b = spec_Joined g b := by
 obtain ⟨g1, g2⟩ := dots64_at hg
 unfold impl_Joined spec_Joined
 rw [spec_l13Dots_yes g hg, impl_areDots_eq g (by omega), hg, areIn_yes b 64 10000000 (by omega) (by omega) hb, l09All_yes b 64 10000000 (by omega) (by omega) (by omega) hb]
 have : impl_Joined_l2 g b = spec_Joined_l2 g b := by
  funext v
  unfold impl_Joined_l2 spec_Joined_l2
  simp only [brought_alike, show ((g.length : Nat) : Int) = 64 by omega]
 simp only [bnd_s, sel_t, Bool.not_true, sel_f, this]
theorem sqOk_zero {s : Square} (h : sqOk s = true) (h1 : s.Kind = 0) : s.Dx = 0 ∧ s.Dy = 0 := by
 unfold sqOk at h
 rw [h1] at h
 simp at h
 exact ⟨h.2.1, h.2.2.1⟩
theorem sqOk_dxy {s : Square} (h : sqOk s = true) : (-16 ≤ s.Dx ∧ s.Dx ≤ 16) ∧ (-16 ≤ s.Dy ∧ s.Dy ≤ 16) := by
 have hk := sqOk_kind h
 obtain h1 | h1 | h1 : s.Kind = 0 ∨ s.Kind = 1 ∨ s.Kind = 2 := by omega
 ·
  obtain ⟨a, b⟩ := sqOk_zero h h1; omega
 ·
  obtain ⟨a, b, _⟩ := sqOk_one h h1; exact ⟨a, b⟩
 ·
  unfold sqOk at h
  rw [h1] at h
  simp at h
  omega
theorem impl_let_eq (s : Square) (c : Cond) : impl_Square_let s c = some (sqLet s c) := by
 unfold impl_Square_let sqLet
 cases c.Key <;> rfl
structure SdIn (now ref : Pic) (l t x y : Int) (c : Cond) (q : Square) : Prop where
 ok : picOk now = true
 hx : x.tmod 8 = 0
 hy : y.tmod 8 = 0
 h0 : heldAt now x y = true
 hl : 0 ≤ l ∧ l ≤ 256
 ht : 0 ≤ t ∧ t ≤ 256
 hc : condOk c = true
 hs : q.Levels.length ≤ 1048576
theorem SquareDots_both {now ref : Pic} {l t x y : Int} {c : Cond} {q : Square} (h : SdIn now ref l t x y c q) (hq : sqOk q = true) (hL : sqLet q c = true) (hr : c.Key = false → picOk ref = true) : ∃ d, impl_SquareDots now ref l t c x y q = some (d, true) ∧ spec_SquareDots now ref l t c x y q = some (d, true) ∧ dots64 d = true := by
 obtain ⟨ok, hx, hy, h0, hl, ht, hc, hs⟩ := h
 obtain ⟨k1, k2, k3⟩ := picOk_parts ok
 have h0' := h0
 unfold heldAt at h0'
 rw [decide_eq_true_eq] at h0'
 have dxy := sqOk_dxy hq
 unfold spec_SquareDots impl_SquareDots
 rw [spec_l13Fits_yes ok hx hy h0, bnd_s, sel_t, spec_l01In_eq, bnd_s, decide_eq_true hl, sel_t, spec_l01In_eq, bnd_s, decide_eq_true ht, sel_t, spec_SquareOk_eq, bnd_s, hq, sel_t, spec_CondOk_eq, bnd_s, hc, Bool.not_true, bnd_s, sel_f]
 rw [impl_PicOk_eq, bnd_s, ok, sel_t, isSquare_yes ok hx hy h0, bnd_s, sel_t, impl_within_eq, bnd_s, decide_eq_true hl, sel_t, impl_within_eq, bnd_s, decide_eq_true ht, sel_t, impl_SquareOk_eq q (by omega), bnd_s, hq, sel_t, impl_CondOk_eq, bnd_s, hc, sel_t, impl_let_eq, bnd_s, hL, sel_t]
 by_cases h2 : q.Kind = 2
 ·
  obtain ⟨hm, hlv⟩ := sqOk_two hq h2
  obtain ⟨e, ee, he⟩ := spec_EdgesOf_ev ok hx hy h0
  obtain ⟨b, eb, b1, b2⟩ := spec_LevelsBack_ev q.Levels c hc hlv
  obtain ⟨g, eg, hg⟩ := spec_GuessOf_ev q.Mode hm he
  obtain ⟨j, ej, hj⟩ := spec_Joined_ev g b hg b1 b2
  refine ⟨j, ?_, ?_, hj⟩
  ·
   rw [sel_neg (b := q.Kind != 2) (by simpa using h2), bnd_s, sel_f, sel_neg (by rw [h2]; rfl), LevelsBack_alike q.Levels c hc hlv, eb, bnd_s, sel_neg (by rw [h2]; rfl), EdgesOf_alike ok hx hy h0, ee, bnd_s, GuessOf_alike q.Mode hm he, eg, bnd_s, Joined_alike g b hg b1 b2, ej, bnd_s]
  ·
   rw [sel_pos (by simpa using h2), ee, bnd_s, eb, bnd_s, eg, bnd_s, ej, bnd_s]
 ·
  have hK : c.Key = false := by
   unfold sqLet at hL
   cases hk : c.Key with
   | false => rfl
   | true => rw [hk] at hL; simp at hL; exact absurd hL h2
  have rok := hr hK
  rw [sel_pos (b := q.Kind != 2) (by simpa using h2), impl_PicOk_eq, bnd_s, rok, Bool.not_true, bnd_s, sel_f]
  rw [sel_neg (b := q.Kind == 2) (by simpa using h2), hK, sel_f, spec_PicOk_eq, bnd_s, rok, Bool.not_true, bnd_s, sel_f]
  rw [wk (e := l + x) (by omega) (by omega), wk (e := l + x + q.Dx) (by omega) (by omega), wk (e := t + y) (by omega) (by omega), wk (e := t + y + q.Dy) (by omega) (by omega), spec_BlockOf_eq rok _ _ (by omega) (by omega), bnd_s, impl_block_eq rok _ _ (by omega) (by omega), bnd_s, impl_block_eq rok _ _ (by omega) (by omega)]
  by_cases h3 : q.Kind = 0
  ·
   obtain ⟨z1, z2⟩ := sqOk_zero hq h3
   rw [sel_pos (b := q.Kind == 0) (by simpa using h3), sel_pos (b := q.Kind == 0) (by simpa using h3), z1, z2, Int.add_zero, Int.add_zero]
   exact ⟨_, rfl, rfl, blkL_dots _ _ _⟩
  ·
   have h1 : q.Kind = 1 := by have := sqOk_kind hq; omega
   obtain ⟨_, _, hlv⟩ := sqOk_one hq h1
   obtain ⟨b, eb, b1, b2⟩ := spec_LevelsBack_ev q.Levels c hc hlv
   obtain ⟨j, ej, hj⟩ := spec_Joined_ev _ b (blkL_dots ref (l + x + q.Dx) (t + y + q.Dy)) b1 b2
   rw [sel_neg (b := q.Kind == 0) (by simpa using h3), sel_neg (b := q.Kind == 0) (by simpa using h3), LevelsBack_alike q.Levels c hc hlv, eb, bnd_s, bnd_s, sel_pos (b := q.Kind == 1) (by simpa using h1), bnd_s, Joined_alike _ b (blkL_dots _ _ _) b1 b2, ej, bnd_s]
   exact ⟨_, rfl, rfl, hj⟩
theorem req_swap {β : Type} {a b c : Prop} [Decidable a] [Decidable b] [Decidable c] (hb : b) (hc : c) (k : Option β) : req a (req b (req c k)) = req b (req c (req a k)) := by
 rw [req_p hb, req_p hc, req_p hb, req_p hc]
theorem dots_len {p : Pic} (ok : picOk p = true) : p.Dots.size ≤ 65536 := by
 obtain ⟨k1, k2, k3⟩ := picOk_parts ok
 have := area_small k1 k2
 omega
theorem put_alike {p : Pic} {x y : Int} {d : List Int} (hd : dots64 d = true) (hp : p.Dots.size ≤ maxLen) : impl_put p x y d = spec_l16Put p x y d := by
 obtain ⟨d1, d2⟩ := dots64_at hd
 unfold impl_put spec_l16Put impl_dots
 rw [req_p hp, bnd_s, req_p hp]
 have : impl_put_l2 p x y d = spec_l16Put_l2 p x y d := by
  funext v
  unfold impl_put_l2 spec_l16Put_l2
  simp only [show ((d.length : Nat) : Int) = 64 by omega]
  exact sel_c (fun _ => req_swap (by omega) (by omega) _) fun _ => rfl
 rw [this]
theorem map_const (n : Nat) (x : Int) : ((List.range n).map fun _ => x) = List.replicate n x := by
 apply List.ext_getElem
 ·
  simp
 ·
  intro i h1 h2; simp
theorem impl_Grey_eq (w h : Int) (hw : 1 ≤ w ∧ w ≤ 256) (hh : 1 ≤ h ∧ h ≤ 256) : impl_Grey w h = some ⟨w, h, strOfNums (List.replicate (w * h).toNat 128)⟩ := by
 have ar := area_small hw hh
 unfold impl_Grey
 rw [impl_within_eq, bnd_s, decide_eq_true hw, sel_t, impl_within_eq, bnd_s, decide_eq_true hh, Bool.not_true, bnd_s, sel_f, wk (e := w * h) (by omega) (by omega), req_p (by omega)]
 rw [place_loop (f := impl_Grey_l2 w h) (w * h).toNat (fun _ => 128) (List.replicate (w * h).toNat 0) (by simp) ?_ ?_, bnd_s, map_const]
 ·
  intro i s hi hs _
  unfold impl_Grey_l2
  simp only [List.length_replicate, Int.toNat_natCast]
  rw [wk (e := w * h) (by omega) (by omega), sel_yes (by omega), req_p (by omega), req_p (by omega), wk (by omega) (by omega)]
  rfl
 ·
  intro s hs
  unfold impl_Grey_l2
  simp only [List.length_replicate]
  rw [wk (e := w * h) (by omega) (by omega), sel_no (by omega)]
def holdsB (p : Pic) (r : Rect) : Bool := decide (1 ≤ r.Wide ∧ r.Wide ≤ p.Wide) && (decide (1 ≤ r.High ∧ r.High ≤ p.High) && (decide (0 ≤ r.Left ∧ r.Left ≤ p.Wide - r.Wide) && decide (0 ≤ r.Top ∧ r.Top ≤ p.High - r.High)))
theorem impl_holds_eq {p : Pic} (ok : picOk p = true) (r : Rect) : impl_Pic_holds p r = some (holdsB p r) := by
 obtain ⟨k1, k2, k3⟩ := picOk_parts ok
 unfold impl_Pic_holds holdsB
 rw [impl_within_eq, impl_within_eq, bnd_s, bnd_s]
 by_cases h1 : 1 ≤ r.Wide ∧ r.Wide ≤ p.Wide
 ·
  rw [decide_eq_true h1, sel_t, Bool.true_and]
  by_cases h2 : 1 ≤ r.High ∧ r.High ≤ p.High
  ·
   rw [decide_eq_true h2, sel_t, Bool.true_and, wk (e := p.Wide - r.Wide) (by omega) (by omega), wk (e := p.High - r.High) (by omega) (by omega), impl_within_eq, impl_within_eq, bnd_s, bnd_s, sel_and, bnd_s]
  ·
   rw [decide_eq_false h2, sel_f, Bool.false_and]; rfl
 ·
  rw [decide_eq_false h1, sel_f, Bool.false_and]; rfl
theorem holdsB_parts {p : Pic} {r : Rect} (h : holdsB p r = true) : (1 ≤ r.Wide ∧ r.Wide ≤ p.Wide) ∧ (1 ≤ r.High ∧ r.High ≤ p.High) ∧ (0 ≤ r.Left ∧ r.Left ≤ p.Wide - r.Wide) ∧ (0 ≤ r.Top ∧ r.Top ≤ p.High - r.High) := by
 unfold holdsB at h
 simp only [Bool.and_eq_true, decide_eq_true_eq] at h
 exact h
def cutRows (p : Pic) (r : Rect) : Nat → List Int
 | 0 => []
 | n + 1 => cutRows p r n ++ numsOf (p.Dots.extract ((r.Top + n) * p.Wide + r.Left).toNat ((r.Top + n) * p.Wide + r.Left + r.Wide).toNat)
theorem cut_row {p : Pic} {r : Rect} (ok : picOk p = true) (h : holdsB p r = true) (n : Nat) (hn : (n : Int) < r.High) : 0 ≤ (r.Top + n) * p.Wide ∧ (r.Top + n) * p.Wide + r.Left + r.Wide ≤ p.Dots.size ∧ (r.Top + n) * p.Wide ≤ 65536 ∧ (numsOf (p.Dots.extract ((r.Top + n) * p.Wide + r.Left).toNat ((r.Top + n) * p.Wide + r.Left + r.Wide).toNat)).length = r.Wide.toNat := by
 obtain ⟨k1, k2, k3⟩ := picOk_parts ok
 obtain ⟨a1, a2, a3, a4⟩ := holdsB_parts h
 have ar := area_small k1 k2
 have b1 : 0 ≤ (r.Top + n) * p.Wide := Int.mul_nonneg (by omega) (by omega)
 have b2 : (r.Top + n) * p.Wide ≤ (p.High - 1) * p.Wide := Int.mul_le_mul_of_nonneg_right (by omega) (by omega)
 have b3 : (p.High - 1) * p.Wide = p.Wide * p.High - p.Wide := by rw [Int.sub_mul, Int.one_mul, Int.mul_comm]
 refine ⟨b1, by omega, by omega, ?_⟩
 rw [numsOf_length, ByteArray.size_extract]
 omega
theorem cutRows_len {p : Pic} {r : Rect} (ok : picOk p = true) (h : holdsB p r = true) : ∀ n : Nat, (n : Int) ≤ r.High → ((cutRows p r n).length : Int) = n * r.Wide
 | 0, _ => by simp [cutRows]
 | n + 1, hn => by
  have a := holdsB_parts h
  have b := cut_row ok h n (by omega)
  rw [cutRows, List.length_append, Int.natCast_add, cutRows_len ok h n (by omega), b.2.2.2, Int.natCast_add, Int.add_mul]
  simp only [Int.natCast_one, Int.one_mul]
  omega
theorem cut_loop {p : Pic} {r : Rect} {f : Int × List Int → Option (Lp (Int × List Int) (List Int))} (ok : picOk p = true) (h : holdsB p r = true) (hf : f = spec_CutOf_l2 p r) : loop f (r.Top, []) = some (cutRows p r r.High.toNat) := by
 have hm : maxLen = 9223372036854775807 := rfl
 obtain ⟨k1, k2, k3⟩ := picOk_parts ok
 obtain ⟨a1, a2, a3, a4⟩ := holdsB_parts h
 subst hf
 have key : ∀ n : Nat, n ≤ r.High.toNat → loop (spec_CutOf_l2 p r) (r.Top + n, cutRows p r n) = some (cutRows p r r.High.toNat) := by
  refine down_to _ ?_ ?_
  ·
   refine ldone ?_
   unfold spec_CutOf_l2
   rw [wk (e := r.Top + r.High) (by omega) (by omega), sel_no (by simp only; omega)]
  ·
   intro n hn ih
   refine lgo (y := (r.Top + ((n + 1 : Nat) : Int), cutRows p r (n + 1))) ?_ ih
   obtain ⟨b1, b2, b3, b4⟩ := cut_row ok h n (by omega)
   have cl := cutRows_len ok h n (by omega)
   have cw : (n : Int) * r.Wide ≤ 256 * r.Wide := Int.mul_le_mul_of_nonneg_right (by omega) (by omega)
   unfold spec_CutOf_l2
   simp only
   rw [wk (e := r.Top + r.High) (by omega) (by omega), sel_yes (by omega), wk (e := (r.Top + n) * p.Wide) (by omega) (by omega), wk (e := (r.Top + n) * p.Wide + r.Left) (by omega) (by omega), wk (e := (r.Top + n) * p.Wide + r.Left + r.Wide) (by omega) (by omega), req_p (by omega), req_p (by rw [b4]; omega), wk (e := r.Top + n + 1) (by omega) (by omega), show r.Top + ((n + 1 : Nat) : Int) = r.Top + n + 1 by omega]
   rfl
 have := key 0 (by omega)
 simpa [cutRows] using this
def cutP (p : Pic) (r : Rect) : Pic := ⟨r.Wide, r.High, strOfNums (cutRows p r r.High.toNat)⟩
theorem cutP_ok {p : Pic} {r : Rect} (ok : picOk p = true) (h : holdsB p r = true) : picOk (cutP p r) = true := by
 obtain ⟨k1, k2, k3⟩ := picOk_parts ok
 obtain ⟨a1, a2, a3, a4⟩ := holdsB_parts h
 refine picOk_of (by show 1 ≤ r.Wide ∧ r.Wide ≤ 256; omega) (by show 1 ≤ r.High ∧ r.High ≤ 256; omega) ?_
 show ((strOfNums _).size : Int) = r.Wide * r.High
 rw [strOfNums_size, cutRows_len ok h _ (by omega), Int.mul_comm]
 congr 1; omega
theorem impl_CutOf_eq {p : Pic} {r : Rect} (ok : picOk p = true) (h : holdsB p r = true) : impl_CutOf p r = some (cutP p r, true) := by
 obtain ⟨k1, k2, k3⟩ := picOk_parts ok
 obtain ⟨a1, a2, a3, a4⟩ := holdsB_parts h
 have ar := area_small (w := r.Wide) (h := r.High) (by omega) (by omega)
 unfold impl_CutOf
 rw [impl_PicOk_eq, bnd_s, ok, sel_t, impl_holds_eq ok, bnd_s, h, Bool.not_true, bnd_s, sel_f, wk (e := r.Wide * r.High) (by omega) (by omega), req_p (by omega)]
 have := cut_loop (f := impl_CutOf_l2 p r) ok h rfl
 rw [show List.replicate (0 : Int).toNat (0 : Int) = [] from rfl, this, bnd_s]
 rfl
theorem impl_isTile_eq (n : Int) : impl_isTile n = some (sideB n) := by
 unfold impl_isTile sideB
 rw [req_p (by omega), impl_within_eq, bnd_s, sel_and, bnd_s, beq_dec]
theorem tile_place {w h : Int} (hw : sideB w = true) (hh : sideB h = true) (i : Nat) (hi : (i : Int) < w / 8 * (h / 8)) : (8 ≤ w ∧ w ≤ 64) ∧ (8 ≤ h ∧ h ≤ 64) ∧ 1 ≤ w / 8 ∧ w / 8 ≤ 8 ∧ 1 ≤ h / 8 ∧ h / 8 ≤ 8 ∧ 0 ≤ (i : Int) % (w / 8) * 8 ∧ (i : Int) % (w / 8) * 8 ≤ w - 8 ∧ 0 ≤ (i : Int) / (w / 8) * 8 ∧ (i : Int) / (w / 8) * 8 ≤ h - 8 := by
 unfold sideB at hw hh
 rw [Bool.and_eq_true, decide_eq_true_eq, decide_eq_true_eq] at hw hh
 rw [tmod_pos (by omega)] at hw hh
 have h1 : 1 ≤ w / 8 ∧ w / 8 ≤ 8 := by omega
 have h2 : 1 ≤ h / 8 ∧ h / 8 ≤ 8 := by omega
 have m0 : 0 ≤ (i : Int) % (w / 8) := Int.emod_nonneg _ (by omega)
 have m1 : (i : Int) % (w / 8) < w / 8 := Int.emod_lt_of_pos _ (by omega)
 have d0 : 0 ≤ (i : Int) / (w / 8) := Int.ediv_nonneg (by omega) (by omega)
 have d1 : (i : Int) / (w / 8) < h / 8 := Int.ediv_lt_of_lt_mul (by omega) (by rw [Int.mul_comm]; exact hi)
 exact ⟨hw.2, hh.2, h1.1, h1.2, h2.1, h2.2, by omega, by omega, by omega, by omega⟩
theorem sideB_parts {w : Int} (hw : sideB w = true) : w % 8 = 0 ∧ 8 ≤ w ∧ w ≤ 64 := by
 unfold sideB at hw
 rw [Bool.and_eq_true, decide_eq_true_eq, decide_eq_true_eq] at hw
 rw [tmod_pos (by omega)] at hw
 exact ⟨hw.1, hw.2⟩
def joinedL (g b : List Int) : List Int := (List.range 64).map fun i => brought (g.getD i 0 + b.getD i 0) 0 255
theorem spec_Joined_eq (g b : List Int) (hg : dots64 g = true) (hl : b.length = 64) (hb : inB 10000000 b) : spec_Joined g b = some (joinedL g b) := by
 have hm : maxLen = 9223372036854775807 := rfl
 obtain ⟨g1, g2⟩ := dots64_at hg
 unfold spec_Joined
 rw [spec_l13Dots_yes g hg, bnd_s, sel_t, l09All_yes b 64 10000000 (by omega) (by omega) (by omega) hb, bnd_s, Bool.not_true, bnd_s, sel_f]
 have := app_loop (f := spec_Joined_l2 g b) 64 (fun i => brought (g.getD i 0 + b.getD i 0) 0 255) [] (by
  intro i hi
  have ha := inB_at hb (i := i) (by omega)
  have hd := g2 i hi
  unfold spec_Joined_l2
  simp only [Int.toNat_natCast]
  rw [sel_yes (by omega), req_p (by omega), req_p (by omega), wk (e := g.getD i 0 + b.getD i 0) (by omega) (by omega), spec_Brought_eq, bnd_s, req_p (by simp only [List.length_append, List.length_nil, List.length_map, List.length_range, List.length_singleton]; omega), wk (e := (i : Int) + 1) (by omega) (by omega)]
  rfl) (by unfold spec_Joined_l2; rw [sel_no (by simp)])
 rw [List.nil_append] at this
 rw [this, bnd_s]; rfl
theorem brought_is {n : Int} (h : 0 ≤ n ∧ n ≤ 255) : brought n 0 255 = n := by
 unfold brought
 repeat' split
 all_goals omega
theorem SquareDots_val {now ref : Pic} {l t x y : Int} {c : Cond} {q : Square} (h : SdIn now ref l t x y c q) (hq : sqOk q = true) (hL : sqLet q c = true) (hr : c.Key = false → picOk ref = true) : ∃ d, spec_SquareDots now ref l t c x y q = some (d, true) ∧ dots64 d = true ∧
  ((q.Kind = 0 ∧ c.Key = false ∧ d = blkL ref (l + x) (t + y) 64) ∨ (q.Kind = 1 ∧ c.Key = false ∧ ∃ b, spec_LevelsBack q.Levels c = some (b, true) ∧ d = joinedL (blkL ref (l + x + q.Dx) (t + y + q.Dy) 64) b) ∨ (q.Kind = 2 ∧ ∃ e b g, spec_EdgesOf now x y = some (e, true) ∧ edgesP e ∧ spec_LevelsBack q.Levels c = some (b, true) ∧ spec_GuessOf q.Mode e = some g ∧ dots64 g = true ∧ d = joinedL g b)) := by
 obtain ⟨d, _, ed, hd⟩ := SquareDots_both h hq hL hr
 obtain ⟨ok, hx, hy, h0, hl, ht, hc, hs⟩ := h
 obtain ⟨k1, k2, k3⟩ := picOk_parts ok
 have h0' := h0
 unfold heldAt at h0'
 rw [decide_eq_true_eq] at h0'
 have dxy := sqOk_dxy hq
 refine ⟨d, ed, hd, ?_⟩
 unfold spec_SquareDots at ed
 rw [spec_l13Fits_yes ok hx hy h0, bnd_s, sel_t, spec_l01In_eq, bnd_s, decide_eq_true hl, sel_t, spec_l01In_eq, bnd_s, decide_eq_true ht, sel_t, spec_SquareOk_eq, bnd_s, hq, sel_t, spec_CondOk_eq, bnd_s, hc, Bool.not_true, bnd_s, sel_f] at ed
 by_cases h2 : q.Kind = 2
 ·
  obtain ⟨hm, hlv⟩ := sqOk_two hq h2
  obtain ⟨e, ee, he⟩ := spec_EdgesOf_ev ok hx hy h0
  obtain ⟨b, eb, b1, b2⟩ := spec_LevelsBack_ev q.Levels c hc hlv
  obtain ⟨g, eg, hg⟩ := spec_GuessOf_ev q.Mode hm he
  rw [sel_pos (by simpa using h2), ee, bnd_s, eb, bnd_s, eg, bnd_s, spec_Joined_eq g b hg b1 b2, bnd_s] at ed
  injection ed with ed
  injection ed with ed _
  exact .inr (.inr ⟨h2, e, b, g, ee, he, eb, eg, hg, ed.symm⟩)
 ·
  have hK : c.Key = false := by
   unfold sqLet at hL
   cases hk : c.Key with
   | false => rfl
   | true => rw [hk] at hL; simp at hL; exact absurd hL h2
  have rok := hr hK
  rw [sel_neg (b := q.Kind == 2) (by simpa using h2), hK, sel_f, spec_PicOk_eq, bnd_s, rok, Bool.not_true, bnd_s, sel_f, wk (e := l + x) (by omega) (by omega), wk (e := l + x + q.Dx) (by omega) (by omega), wk (e := t + y) (by omega) (by omega), wk (e := t + y + q.Dy) (by omega) (by omega), spec_BlockOf_eq rok _ _ (by omega) (by omega), bnd_s] at ed
  by_cases h3 : q.Kind = 0
  ·
   obtain ⟨z1, z2⟩ := sqOk_zero hq h3
   rw [sel_pos (b := q.Kind == 0) (by simpa using h3), z1, z2, Int.add_zero, Int.add_zero] at ed
   injection ed with ed
   injection ed with ed _
   exact .inl ⟨h3, hK, ed.symm⟩
  ·
   have h1 : q.Kind = 1 := by have := sqOk_kind hq; omega
   obtain ⟨_, _, hlv⟩ := sqOk_one hq h1
   obtain ⟨b, eb, b1, b2⟩ := spec_LevelsBack_ev q.Levels c hc hlv
   rw [sel_neg (b := q.Kind == 0) (by simpa using h3), eb, bnd_s, spec_Joined_eq _ b (blkL_dots _ _ _) b1 b2, bnd_s] at ed
   injection ed with ed
   injection ed with ed _
   exact .inr (.inl ⟨h1, hK, b, eb, ed.symm⟩)
theorem spec_l14Cond_ev (u : L01Cur) (hu : curOk u) : ∃ c u', spec_l14Cond u = some (c, u') ∧ condOk c = true ∧ curOk u' := by
 unfold spec_l14Cond
 obtain ⟨p, u1, e1, hp, h1⟩ := spec_l05ParRight_ev u hu
 obtain ⟨b, u2, e2, h2⟩ := spec_l01Once_ev u1 2 h1
 rw [e1, bnd_s, e2, bnd_s]
 refine ⟨_, _, rfl, ?_, h2⟩
 unfold condOk
 exact hp
theorem place_div {W x y : Int} (hx : 0 ≤ x ∧ x < W) : (y * W + x) / W = y ∧ (y * W + x) % W = x := by
 have hW : 0 < W := by omega
 constructor
 ·
  rw [Int.add_comm, Int.add_mul_ediv_right _ _ (by omega), Int.ediv_eq_zero_of_lt hx.1 hx.2, Int.zero_add]
 ·
  rw [Int.add_comm, Int.add_mul_emod_self_right, Int.emod_eq_of_lt hx.1 hx.2]
theorem place_in {W H x y : Int} (hx : 0 ≤ x ∧ x < W) (hy : 0 ≤ y ∧ y < H) : 0 ≤ y * W + x ∧ y * W + x < W * H := by
 have a : 0 ≤ y * W := Int.mul_nonneg hy.1 (by omega)
 have b : y * W ≤ (H - 1) * W := Int.mul_le_mul_of_nonneg_right (by omega) (by omega)
 have c : (H - 1) * W = W * H - W := by rw [Int.sub_mul, Int.one_mul, Int.mul_comm]
 omega
theorem brought_id {n m : Int} (h : 0 ≤ n ∧ n ≤ m) : brought n 0 m = n := by
 unfold brought
 repeat' split
 all_goals omega
theorem dotAt_in {p : Pic} {x y : Int} (hx : 0 ≤ x ∧ x < p.Wide) (hy : 0 ≤ y ∧ y < p.High) : dotAt p x y = btOf p.Dots (y * p.Wide + x) := by
 unfold dotAt
 rw [brought_id (by omega), brought_id (by omega)]
theorem numsOf_getD (s : ByteArray) (k : Nat) (hk : k < s.size) : (numsOf s).getD k 0 = btOf s k := by
 have := bt_str (numsOf s) (by intro x hx; obtain ⟨b, _, rfl⟩ := List.mem_map.1 hx; have := b.toNat_lt; omega) k (by rw [numsOf_length]; exact hk)
 rw [str_numsOf] at this
 exact this.symm
theorem byteL_nums (s : ByteArray) : byteL (numsOf s) := fun x hx => by
 obtain ⟨b, _, rfl⟩ := List.mem_map.1 hx
 have := b.toNat_lt
 omega
theorem byteL_set {l : List Int} (h : byteL l) (i : Nat) {y : Int} (hy : 0 ≤ y ∧ y ≤ 255) : byteL (l.set i y) := fun x hx => by
 rcases List.mem_or_eq_of_mem_set hx with hx | hx
 ·
  exact h x hx
 ·
  rw [hx]; exact hy
theorem pic_eq {p q : Pic} (hp : picOk p = true) (hq : picOk q = true) (hw : p.Wide = q.Wide) (hh : p.High = q.High) (h : ∀ x y : Int, 0 ≤ x ∧ x < p.Wide → 0 ≤ y ∧ y < p.High → dotAt p x y = dotAt q x y) : p = q := by
 obtain ⟨p1, p2, p3⟩ := picOk_parts hp
 obtain ⟨q1, q2, q3⟩ := picOk_parts hq
 have hd : p.Dots = q.Dots := by
  rw [← str_numsOf p.Dots, ← str_numsOf q.Dots]
  congr 1
  have hsz : p.Dots.size = q.Dots.size := by
   have : (p.Dots.size : Int) = q.Dots.size := by rw [p3, q3, hw, hh]
   omega
  refine list_eq (n := p.Dots.size) (numsOf_length _) ((numsOf_length _).trans hsz.symm) fun k hk => ?_
  have hkW : (k : Int) < p.Wide * p.High := by omega
  have m0 := Int.emod_nonneg (k : Int) (show p.Wide ≠ 0 by omega)
  have m1 := Int.emod_lt_of_pos (k : Int) (show 0 < p.Wide by omega)
  have d0 : 0 ≤ (k : Int) / p.Wide := Int.ediv_nonneg (by omega) (by omega)
  have d1 : (k : Int) / p.Wide < p.High := Int.ediv_lt_of_lt_mul (by omega) (by rw [Int.mul_comm]; exact hkW)
  have e := h ((k : Int) % p.Wide) ((k : Int) / p.Wide) ⟨m0, m1⟩ ⟨d0, d1⟩
  rw [dotAt_in ⟨m0, m1⟩ ⟨d0, d1⟩, dotAt_in (by rw [← hw]; exact ⟨m0, m1⟩) (by rw [← hh]; exact ⟨d0, d1⟩), ← hw, Int.ediv_mul_add_emod] at e
  rw [numsOf_getD _ k hk, numsOf_getD _ k (by omega)]
  exact e
 cases p; cases q
 simp only at hw hh hd
 rw [hw, hh, hd]
def inSq (x y X Y : Int) : Bool := decide (x ≤ X ∧ X < x + 8 ∧ y ≤ Y ∧ Y < y + 8)
theorem put_dots {p : Pic} {x y : Int} {d : List Int} (ok : picOk p = true) (h0 : heldAt p x y = true) (hd : dots64 d = true) : ∃ p', spec_l16Put p x y d = some p' ∧ picOk p' = true ∧ p'.Wide = p.Wide ∧ p'.High = p.High ∧ ∀ X Y : Int, 0 ≤ X ∧ X < p.Wide → 0 ≤ Y ∧ Y < p.High → dotAt p' X Y = if inSq x y X Y = true then d.getD ((Y - y) * 8 + (X - x)).toNat 0 else dotAt p X Y := by
 obtain ⟨k1, k2, k3⟩ := picOk_parts ok
 have ar := area_small k1 k2
 have hm : maxLen = 9223372036854775807 := rfl
 obtain ⟨d1, d2⟩ := dots64_at hd
 have h0' := h0
 unfold heldAt at h0'
 rw [decide_eq_true_eq] at h0'
 have hn := numsOf_length p.Dots
 unfold spec_l16Put
 rw [req_p (by omega)]
 obtain ⟨o, e, o1, o2, o3⟩ := st_loop2 (f := spec_l16Put_l2 p x y d) 64 (fun i s => s.length = p.Dots.size ∧ byteL s ∧ ∀ X Y : Int, 0 ≤ X ∧ X < p.Wide → 0 ≤ Y ∧ Y < p.High → s.getD (Y * p.Wide + X).toNat 0 = if inSq x y X Y = true ∧ ((Y - y) * 8 + (X - x)).toNat < i then d.getD ((Y - y) * 8 + (X - x)).toNat 0 else (numsOf p.Dots).getD (Y * p.Wide + X).toNat 0) (by
  intro i s hi ⟨g1, g2, g3⟩
  have di := d2 i hi
  have hxx : 0 ≤ x + (i : Int) % 8 ∧ x + (i : Int) % 8 < p.Wide := by omega
  have hyy : 0 ≤ y + (i : Int) / 8 ∧ y + (i : Int) / 8 < p.High := by omega
  have pin := place_in hxx hyy
  have b1 : 0 ≤ (y + (i : Int) / 8) * p.Wide := Int.mul_nonneg (by omega) (by omega)
  have b2 : (y + (i : Int) / 8) * p.Wide ≤ (p.High - 1) * p.Wide := Int.mul_le_mul_of_nonneg_right (by omega) (by omega)
  have b3 : (p.High - 1) * p.Wide = p.Wide * p.High - p.Wide := by rw [Int.sub_mul, Int.one_mul, Int.mul_comm]
  unfold spec_l16Put_l2
  simp only
  rw [sel_yes (by omega), req_p (by omega), req_p (by omega), req_p (by omega), tdiv_pos (by omega), tmod_pos (by omega), wk (e := (i : Int) / 8) (by omega) (by omega), wk (e := y + (i : Int) / 8) (by omega) (by omega), wk (e := (y + (i : Int) / 8) * p.Wide) (by omega) (by omega), wk (e := (y + (i : Int) / 8) * p.Wide + x) (by omega) (by omega), wk (e := (y + (i : Int) / 8) * p.Wide + x + (i : Int) % 8) (by omega) (by omega), req_p (by omega), req_p (by omega), wk (e := (i : Int) + 1) (by omega) (by omega), Int.toNat_natCast, w8 di.1 di.2]
  refine ⟨_, rfl, by rw [List.length_set]; exact g1, byteL_set g2 _ di, fun X Y hX hY => ?_⟩
  have pXY := place_in hX hY
  rw [getD_set_at _ _ _ _ (by omega)]
  by_cases heq : ((y + (i : Int) / 8) * p.Wide + x + (i : Int) % 8).toNat = (Y * p.Wide + X).toNat
  ·
   rw [if_pos heq]
   have heq' : (y + (i : Int) / 8) * p.Wide + (x + (i : Int) % 8) = Y * p.Wide + X := by omega
   have q1 := place_div (y := y + (i : Int) / 8) hxx
   have q2 := place_div (y := Y) hX
   rw [heq'] at q1
   have eY : Y = y + (i : Int) / 8 := q2.1.symm.trans q1.1
   have eX : X = x + (i : Int) % 8 := q2.2.symm.trans q1.2
   have hin : inSq x y X Y = true := by unfold inSq; rw [decide_eq_true_eq]; omega
   have hpl : ((Y - y) * 8 + (X - x)).toNat = i := by omega
   rw [if_pos ⟨hin, by omega⟩, hpl]
  ·
   rw [if_neg heq, g3 X Y hX hY]
   by_cases hin : inSq x y X Y = true
   ·
    have hin' := hin
    unfold inSq at hin'
    rw [decide_eq_true_eq] at hin'
    by_cases hlt : ((Y - y) * 8 + (X - x)).toNat < i
    ·
     rw [if_pos ⟨hin, hlt⟩, if_pos ⟨hin, by omega⟩]
    ·
     have hne : ((Y - y) * 8 + (X - x)).toNat ≠ i := fun h => heq (by
      have eY : Y = y + (i : Int) / 8 := by omega
      have eX : X = x + (i : Int) % 8 := by omega
      rw [eY, eX]; congr 1; omega)
     rw [if_neg (fun h => hlt h.2), if_neg (fun h => by omega)]
   ·
    rw [if_neg (fun h => hin h.1), if_neg (fun h => hin h.1)]) (fun s _ => by unfold spec_l16Put_l2; rw [sel_no (by simp)]) (numsOf p.Dots) ⟨hn, byteL_nums _, fun X Y hX hY => by rw [if_neg (fun h => by omega)]⟩
 refine ⟨_, (bnd_e e).trans rfl, picOk_of k1 k2 (by simp only; rw [strOfNums_size]; omega), rfl, rfl, fun X Y hX hY => ?_⟩
 have pXY := place_in hX hY
 rw [dotAt_in (p := ⟨p.Wide, p.High, strOfNums o⟩) hX hY, dotAt_in hX hY]
 simp only
 have e1 : btOf (strOfNums o) (Y * p.Wide + X) = o.getD (Y * p.Wide + X).toNat 0 := by
  have := bt_str o o2 (Y * p.Wide + X).toNat (by omega)
  rwa [show (((Y * p.Wide + X).toNat : Nat) : Int) = Y * p.Wide + X by omega] at this
 have e2 : btOf p.Dots (Y * p.Wide + X) = (numsOf p.Dots).getD (Y * p.Wide + X).toNat 0 := by
  rw [numsOf_getD _ _ (by omega), show (((Y * p.Wide + X).toNat : Nat) : Int) = Y * p.Wide + X by omega]
 rw [e1, e2, o3 X Y hX hY]
 by_cases hin : inSq x y X Y = true
 ·
  have hin' := hin
  unfold inSq at hin'
  rw [decide_eq_true_eq] at hin'
  rw [if_pos ⟨hin, by omega⟩, if_pos hin]
 ·
  rw [if_neg (fun h => hin h.1), if_neg hin]
theorem cutP_dots {p : Pic} {r : Rect} (ok : picOk p = true) (h : holdsB p r = true) (X Y : Int) (hX : 0 ≤ X ∧ X < r.Wide) (hY : 0 ≤ Y ∧ Y < r.High) : dotAt (cutP p r) X Y = dotAt p (r.Left + X) (r.Top + Y) := by
 obtain ⟨k1, k2, k3⟩ := picOk_parts ok
 obtain ⟨a1, a2, a3, a4⟩ := holdsB_parts h
 have key : ∀ n : Nat, (n : Int) ≤ r.High → byteL (cutRows p r n) ∧ ∀ X Y : Int, 0 ≤ X ∧ X < r.Wide → 0 ≤ Y ∧ Y < n → (cutRows p r n).getD (Y * r.Wide + X).toNat 0 = dotAt p (r.Left + X) (r.Top + Y) := by
  intro n
  induction n with
  | zero => intro _; exact ⟨fun x hx => by simp [cutRows] at hx, fun X Y hX hY => by omega⟩
  | succ n ih =>
   intro hn
   obtain ⟨i1, i2⟩ := ih (by omega)
   obtain ⟨b1, b2, b3, b4⟩ := cut_row ok h n (by omega)
   have cl := cutRows_len ok h n (by omega)
   refine ⟨fun x hx => ?_, fun X Y hX hY => ?_⟩
   ·
    rw [cutRows] at hx
    rcases List.mem_append.1 hx with hx | hx
    ·
     exact i1 x hx
    ·
     exact byteL_nums _ x hx
   ·
    have pXY := place_in (H := (n : Int) + 1) (y := Y) hX (by omega)
    rw [cutRows, List.getD_eq_getElem?_getD, List.getElem?_append]
    by_cases hlt : Y < n
    ·
     have := place_in (H := n) hX (y := Y) (by omega)
     have h2 : r.Wide * n = n * r.Wide := Int.mul_comm _ _
     rw [if_pos (by omega), ← List.getD_eq_getElem?_getD]
     exact i2 X Y hX (by omega)
    ·
     have eY : Y = n := by omega
     subst eY
     rw [if_neg (by omega), ← List.getD_eq_getElem?_getD]
     have hk : ((n : Int) * r.Wide + X).toNat - (cutRows p r n).length = X.toNat := by omega
     rw [hk, numsOf_getD _ _ (by rw [numsOf_length] at b4; omega), dotAt_in (p := p) (x := r.Left + X) (y := r.Top + n) (by omega) (by omega)]
     unfold btOf
     have hs : (p.Dots.extract ((r.Top + n) * p.Wide + r.Left).toNat ((r.Top + n) * p.Wide + r.Left + r.Wide).toNat).size = r.Wide.toNat := by rw [← numsOf_length]; exact b4
     rw [dif_pos (by rw [hs]; omega), dif_pos (show ((r.Top + (n : Int)) * p.Wide + (r.Left + X)).toNat < p.Dots.size by omega)]
     rw [ByteArray.getElem_extract]
     congr 2
     congr 1
     omega
 obtain ⟨c1, c2⟩ := key r.High.toNat (by omega)
 have cl := cutRows_len ok h r.High.toNat (by omega)
 have pXY := place_in hX hY
 have cm : ((r.High.toNat : Nat) : Int) * r.Wide = r.Wide * r.High := by rw [Int.mul_comm]; congr 1; omega
 rw [dotAt_in (p := cutP p r) hX hY]
 show btOf (strOfNums (cutRows p r r.High.toNat)) (Y * r.Wide + X) = _
 have := bt_str _ c1 (Y * r.Wide + X).toNat (by omega)
 rw [show (((Y * r.Wide + X).toNat : Nat) : Int) = Y * r.Wide + X by omega] at this
 rw [this]
 exact c2 X Y hX (by omega)
def tX (W : Int) (i : Nat) : Int := (i : Int) % (W / 8) * 8
def tY (W : Int) (i : Nat) : Int := (i : Int) / (W / 8) * 8
theorem grey_ok {w h : Int} (hw : 1 ≤ w ∧ w ≤ 256) (hh : 1 ≤ h ∧ h ≤ 256) : picOk ⟨w, h, strOfNums (List.replicate (w * h).toNat 128)⟩ = true := by
 have ar := area_small hw hh
 refine picOk_of hw hh ?_
 simp only
 rw [strOfNums_size, List.length_replicate]; omega
theorem blkL_at (p : Pic) (x y : Int) {i : Nat} (hi : i < 64) : (blkL p x y 64).getD i 0 = dotAt p (x + ((i % 8 : Nat) : Int)) (y + ((i / 8 : Nat) : Int)) := getD_map _ hi
theorem side_of {n : Int} (h : n = 8 ∨ n = 16) : sideB n = true := by rcases h with rfl | rfl <;> rfl
theorem picEq_self (p : Pic) : ((p.Wide == p.Wide) && ((p.High == p.High) && (p.Dots.toList == p.Dots.toList))) = true := by
 simp only [beq_self_eq_true, Bool.and_self]
theorem ue0_len : (ueL 0).length = 1 := by
 have := seSz_zero
 unfold seSz at this
 have e : seL 0 = ueL 0 := rfl
 rw [e] at this
 omega
theorem tiles_skips (n : Nat) (c : Cond) (hK : c.Key = false) : (tilesL (List.replicate n ⟨0, 0, 0, 0, []⟩) c).length = n := by
 induction n with
 | zero => rfl
 | succ n ih =>
  rw [List.replicate_succ, tilesL, List.length_append, ih]
  have : (sqL (⟨0, 0, 0, 0, []⟩ : Square) c).length = 1 := by
   unfold sqL
   rw [hK, if_neg (by decide), if_neg (by simp), if_neg (by simp), List.append_nil]
   exact ue0_len
  omega
theorem getD_r (a b : List Int) (i : Nat) : (a ++ b).getD (a.length + i) 0 = b.getD i 0 := by
 rw [List.getD_eq_getElem?_getD, List.getD_eq_getElem?_getD, List.getElem?_append_right (by omega)]
 congr 2; omega
theorem getD_l (a b : List Int) (i : Nat) (hi : i < a.length) : (a ++ b).getD i 0 = a.getD i 0 := by
 rw [List.getD_eq_getElem?_getD, List.getD_eq_getElem?_getD, List.getElem?_append_left hi]
theorem or_one (v x : Int) (h0 : 0 ≤ v) (h1 : v ≤ 1000000000000000000) (hx : x = 0 ∨ x = 1) : IntKind.wrap .i64 (BitVec.ofInt (IntKind.bits .i64) (v * 2) ||| BitVec.ofInt (IntKind.bits .i64) x).toNat = v * 2 + x := by
 obtain ⟨a, rfl⟩ : ∃ a : Nat, v = a := ⟨v.toNat, by omega⟩
 obtain ⟨b, rfl⟩ : ∃ b : Nat, x = b := ⟨x.toNat, by omega⟩
 have h : (BitVec.ofInt 64 ((a : Int) * 2) ||| BitVec.ofInt 64 (b : Int)).toNat = a * 2 + b := by
  rw [BitVec.toNat_or, BitVec.toNat_ofInt, BitVec.toNat_ofInt]
  have e1 : (((a : Int) * 2) % ((2 ^ 64 : Nat) : Int)).toNat = a * 2 := by omega
  have e2 : ((b : Int) % ((2 ^ 64 : Nat) : Int)).toNat = b := by omega
  rw [e1, e2]
  have := Nat.two_pow_add_eq_or_of_lt (i := 1) (b := b) (by omega) a
  rw [show 2 ^ 1 * a = a * 2 by omega] at this
  exact this.symm
 show IntKind.wrap .i64 ((BitVec.ofInt 64 ((a : Int) * 2) ||| BitVec.ofInt 64 (b : Int)).toNat : Int) = _
 rw [h, ← wrapK_eq, wk (by omega) (by omega)]
 omega
theorem pow_small {i : Nat} (h : i ≤ 40) : (2 : Int) ^ i ≤ 1099511627776 := by
 have h2 : (2 : Nat) ^ i ≤ 1099511627776 := Nat.pow_le_pow_right (n := 2) (by omega) h
 have := Int.ofNat_le.2 h2
 rw [Int.natCast_pow] at this
 exact this
theorem scan_fix_eq {L a f b : List Int} (hL : L = a ++ (f ++ b)) (hb : bitL L) (hl : L.length ≤ 400000) (hf : f.length ≤ 41) : impl_scan_fix ⟨strOfNums L, (a.length : Int), false⟩ (f.length : Int) = some (val8 f, ⟨strOfNums L, ((a.length + f.length : Nat) : Int), false⟩) := by
 have hLl : L.length = a.length + (f.length + b.length) := by rw [hL]; simp only [List.length_append]
 have hfb : bitL f := fun x hx => hb x (by rw [hL]; simp [hx])
 unfold impl_scan_fix
 simp only
 rw [sel_f, strOfNums_size, wk (by omega) (by omega), bnd_s, sel_no (by omega)]
 have key : ∀ i : Nat, i ≤ f.length → loop (impl_scan_fix_l2 ⟨strOfNums L, (a.length : Int), false⟩ (f.length : Int)) (val8 (f.take i), (i : Int)) = some (val8 f) := by
  refine down_to _ ?_ ?_
  ·
   refine ldone ?_
   unfold impl_scan_fix_l2
   simp only
   rw [sel_no (by omega), List.take_length]
  ·
   intro i hi ih
   refine lgo ?_ ih
   have hx : L.getD (a.length + i) 0 = f.getD i 0 := by rw [hL, getD_r, getD_l _ _ _ hi]
   have hbt : btOf (strOfNums L) ((a.length : Int) + i) = f.getD i 0 := by
    rw [show (a.length : Int) + i = ((a.length + i : Nat) : Int) by omega, bt_str L (bitL_byte hb) _ (by omega), hx]
   have h2 : f.getD i 0 = 48 ∨ f.getD i 0 = 49 := hfb _ (by rw [getD_at f i hi]; exact List.getElem_mem hi)
   have ht : bitL (f.take i) := fun x hx => hfb x (List.mem_of_mem_take hx)
   have hr := val_range ht
   have hp : (2 : Int) ^ (f.take i).length ≤ 1099511627776 := pow_small (by rw [List.length_take]; omega)
   have hv : val8 (f.take (i + 1)) = val8 (f.take i) * 2 + (f.getD i 0 - 48) := by
    rw [List.take_add_one, val_app, getD_at f i hi, List.getElem?_eq_getElem hi]
    simp [val8]
   unfold impl_scan_fix_l2
   simp only
   rw [sel_yes (by omega), req_p (by omega), wk (e := (a.length : Int) + i) (by omega) (by omega), req_p (by rw [strOfNums_size]; omega), hbt, w8 (by omega) (by omega), wk (e := f.getD i 0 - 48) (by omega) (by omega), show (2 : Int) ^ min (1 : Int).toNat (IntKind.bits .i64) = 2 from rfl, wk (e := val8 (f.take i) * 2) (by omega) (by omega), or_one _ _ (by omega) (by omega) (by omega), wk (by omega) (by omega), hv]
   rfl
 have := key 0 (by omega)
 rw [List.take_zero] at this
 refine (bnd_e this).trans ?_
 rw [wk (by omega) (by omega)]
 rfl
theorem binL_head (m : Nat) (h : m ≠ 0) : ∃ r, binL m = 49 :: r := by
 induction m using Nat.strongRecOn with
 | _ m ih =>
  rw [binL, dif_neg h]
  by_cases h1 : m / 2 = 0
  ·
   have : m = 1 := by omega
   subst this
   rw [binL, dif_pos h1]
   exact ⟨[], rfl⟩
  ·
   obtain ⟨r, e⟩ := ih (m / 2) (by omega) h1
   rw [e]
   exact ⟨r ++ [48 + ((m % 2 : Nat) : Int)], rfl⟩
theorem val_bin (m : Nat) : val8 (binL m) = m := by
 induction m using Nat.strongRecOn with
 | _ m ih =>
  rw [binL]
  by_cases h : m = 0
  ·
   rw [dif_pos h, h]; rfl
  ·
   rw [dif_neg h, val_app, ih (m / 2) (by omega)]
   simp [val8]
   omega
theorem scan_ue_eq {L a b : List Int} {n : Nat} (hL : L = a ++ (ueL n ++ b)) (hb : bitL L) (hl : L.length ≤ 400000) (hn : n ≤ 1000000) : impl_scan_ue ⟨strOfNums L, (a.length : Int), false⟩ = some ((n : Int), ⟨strOfNums L, ((a.length + (ueL n).length : Nat) : Int), false⟩) := by
 have hLl : L.length = a.length + ((ueL n).length + b.length) := by rw [hL]; simp only [List.length_append]
 have f1 := figs_le (m := n + 1) (j := 20) (by omega)
 have f2 := figs_pos (m := n + 1) (by omega)
 have ul : (ueL n).length = figs (n + 1) - 1 + figs (n + 1) := by unfold ueL; rw [List.length_append, List.length_replicate, binL_len]
 obtain ⟨r, er⟩ := binL_head (n + 1) (by omega)
 have hc : ∀ i : Nat, i < (ueL n).length → L.getD (a.length + i) 0 = (ueL n).getD i 0 := fun i hi => by rw [hL, getD_r, getD_l _ _ _ hi]
 have key : ∀ i : Nat, i ≤ figs (n + 1) - 1 → loop (impl_scan_ue_l2 ⟨strOfNums L, (a.length : Int), false⟩) (i : Int) = some ((figs (n + 1) - 1 : Nat) : Int) := by
  refine down_to _ ?_ ?_
  ·
   refine ldone ?_
   have hx : (ueL n).getD (figs (n + 1) - 1) 0 = 49 := by
    have := getD_r (List.replicate (figs (n + 1) - 1) 48) (binL (n + 1)) 0
    rw [List.length_replicate] at this
    unfold ueL
    exact this.trans (by rw [er]; rfl)
   unfold impl_scan_ue_l2
   simp only
   rw [sel_f, wk (by omega) (by omega), strOfNums_size, sel_yes (by omega), req_p (by omega), show (a.length : Int) + ((figs (n + 1) - 1 : Nat) : Int) = ((a.length + (figs (n + 1) - 1) : Nat) : Int) by omega, bt_str L (bitL_byte hb) _ (by omega), hc _ (by omega), hx, bnd_s]
   rfl
  ·
   intro i hi ih
   refine lgo ?_ ih
   have hx : (ueL n).getD i 0 = 48 := by
    unfold ueL
    rw [getD_l _ _ _ (by rw [List.length_replicate]; exact hi), getD_at _ i (by rw [List.length_replicate]; exact hi), List.getElem_replicate]
   unfold impl_scan_ue_l2
   simp only
   rw [sel_f, wk (e := (a.length : Int) + i) (by omega) (by omega), strOfNums_size, sel_yes (by omega), req_p (by omega), show (a.length : Int) + (i : Int) = ((a.length + i : Nat) : Int) by omega, bt_str L (bitL_byte hb) _ (by omega), hc _ (by omega), hx, bnd_s, wk (by omega) (by omega)]
   rfl
 have hf := scan_fix_eq hL hb hl (by omega)
 have hv : val8 (ueL n) = (n : Int) + 1 := by unfold ueL; rw [val_app, val_rep, val_bin, Int.zero_mul, Int.zero_add]; omega
 unfold impl_scan_ue
 refine (bnd_e (key 0 (by omega))).trans ?_
 simp only
 rw [sel_no (by omega), bnd_s, wk (e := 2 * ((figs (n + 1) - 1 : Nat) : Int)) (by omega) (by omega), wk (e := 2 * ((figs (n + 1) - 1 : Nat) : Int) + 1) (by omega) (by omega), show 2 * ((figs (n + 1) - 1 : Nat) : Int) + 1 = ((ueL n).length : Int) by omega, hf, bnd_s]
 simp only
 rw [sel_f, hv, wk (by omega) (by omega), bnd_s, sel_no (by omega), show (n : Int) + 1 - 1 = n by omega]
theorem scan_se_eq {L a b : List Int} {n : Int} (hL : L = a ++ (seL n ++ b)) (hb : bitL L) (hl : L.length ≤ 400000) (hn : -500000 ≤ n ∧ n ≤ 500000) : impl_scan_se ⟨strOfNums L, (a.length : Int), false⟩ = some (n, ⟨strOfNums L, ((a.length + (seL n).length : Nat) : Int), false⟩) := by
 have hf := foldN_le n hn
 unfold impl_scan_se
 rw [scan_ue_eq hL hb hl hf, bnd_s]
 have ho : impl_OpenSe ((foldN n : Nat) : Int) = some (n, true) := by
  unfold impl_OpenSe
  rw [impl_within_eq, bnd_s, decide_eq_true (by omega), Bool.not_true, sel_f, req_p (by omega), tmod_pos (by omega)]
  unfold foldN
  split
  ·
   rw [sel_pos (by rw [beq_iff_eq]; omega), req_p (by omega), wk (e := (((2 * n - 1).toNat : Nat) : Int) + 1) (by omega) (by omega), tdiv_pos (by omega), wk (by omega) (by omega)]
   congr 2; omega
  ·
   rw [sel_neg (by rw [beq_eq_false_iff_ne]; omega), req_p (by omega), wk (e := 0 - _) (by omega) (by omega)]
   have : (0 - (((-2 * n).toNat : Nat) : Int)).tdiv 2 = n := by
    rw [show (0 - (((-2 * n).toNat : Nat) : Int)) = n * 2 by omega]
    exact Int.mul_tdiv_cancel n (by omega)
   rw [this, wk (by omega) (by omega)]
 simp only
 rw [ho, bnd_s]
 rfl
theorem nz_runs (l : List Int) (hl : l.length ≤ 64) : nz l ≤ 64 := by have := nz_le l; omega
theorem scan_runs_eq {L a b l : List Int} (hL : L = a ++ (runsL l ++ b)) (hb : bitL L) (hl : L.length ≤ 400000) (hall : l.all lvIn = true) (h64 : l.length ≤ 64) : impl_scan_runs ⟨strOfNums L, (a.length : Int), false⟩ (l.length : Int) = some (l, ⟨strOfNums L, ((a.length + (runsL l).length : Nat) : Int), false⟩) := by
 have key : ∀ (r pre : List Int) (g : Nat) (a' b' : List Int), l = pre ++ r → g ≤ pre.length → L = a' ++ (runsB g r ++ b') → loop (impl_scan_runs_l2 (l.length : Int)) (((pre.length - g : Nat) : Int), (nz r : Int), strOfNums L, (a'.length : Int), false, pre ++ List.replicate r.length 0) = some (l, strOfNums L, ((a'.length + (runsB g r).length : Nat) : Int), false) := by
  intro r
  induction r with
  | nil =>
   intro pre g a' b' h1 h2 h3
   refine ldone ?_
   unfold impl_scan_runs_l2
   simp only
   rw [sel_no (by rw [nz]; omega), bnd_s, sel_f, h1]
   simp only [runsB, List.length_nil, List.replicate_zero, Nat.add_zero]
  | cons x r ih =>
   intro pre g a' b' h1 h2 h3
   have hlen : l.length = pre.length + (r.length + 1) := by rw [h1]; simp
   have hx : -5000 ≤ x ∧ x ≤ 5000 := lvIn_iff.1 (List.all_eq_true.1 hall x (by rw [h1]; simp))
   by_cases e : x = 0
   ·
    rw [runsB, if_pos e] at h3
    have := ih (pre ++ [x]) (g + 1) a' b' (by rw [h1]; simp) (by simp; omega) h3
    rw [nz, if_pos e, runsB, if_pos e, ← this, List.length_append, List.length_singleton, show pre.length + 1 - (g + 1) = pre.length - g by omega, List.append_assoc, List.length_cons, List.replicate_succ, e]
    rfl
   ·
    rw [runsB, if_neg e] at h3
    have u1 := ueL_len g (by omega)
    have u2 := seL_len x (by omega)
    have u3 := nz_le r
    have e1 := scan_ue_eq (L := L) (a := a') (b := seL x ++ runsB 0 r ++ b') (n := g) (by rw [h3]; simp only [List.append_assoc]) hb hl (by omega)
    have e2 := scan_se_eq (L := L) (a := a' ++ ueL g) (b := runsB 0 r ++ b') (n := x) (by rw [h3]; simp only [List.append_assoc]) hb hl (by omega)
    have := ih (pre ++ [x]) 0 (a' ++ ueL g ++ seL x) b' (by rw [h1]; simp) (by simp) (by rw [h3]; simp only [List.append_assoc])
    rw [List.length_append] at e2
    simp only [List.length_append, List.length_singleton] at this
    rw [nz, if_neg e, runsB, if_neg e]
    refine lgo ?_ (this.trans ?_)
    ·
     unfold impl_scan_runs_l2
     simp only
     rw [sel_yes (by omega), Bool.not_false, bnd_s, sel_t, e1, bnd_s]
     simp only
     rw [e2, bnd_s]
     simp only
     have hp : ((pre.length - g : Nat) : Int) + (g : Int) = (pre.length : Int) := by omega
     rw [hp, wk (e := (pre.length : Int)) (by omega) (by omega), sel_no (by omega), sel_neg (by rw [beq_eq_false_iff_ne]; exact e), impl_within_eq, bnd_s, decide_eq_true (by omega), Bool.not_true, bnd_s, sel_f, Int.toNat_natCast, req_p (by simp only [List.length_append, List.length_replicate, List.length_cons]; omega), req_p (by simp only [List.length_append, List.length_replicate, List.length_cons]; omega), wk (by omega) (by omega), wk (by omega) (by omega), List.length_cons, List.replicate_succ, set_mid]
     rw [show ((nz r + 1 : Nat) : Int) - 1 = (nz r : Int) by omega, show pre ++ [x] ++ List.replicate r.length 0 = pre ++ x :: List.replicate r.length 0 by simp, show ((pre.length + 1 - 0 : Nat) : Int) = (pre.length : Int) + 1 by omega]
    ·
     simp only [List.length_append]
     rw [show a'.length + (ueL g).length + (seL x).length + (runsB 0 r).length = a'.length + ((ueL g).length + (seL x).length + (runsB 0 r).length) by omega]
 have hz := nz_runs l h64
 have e0 := scan_ue_eq (L := L) (a := a) (b := runsB 0 l ++ b) (n := nz l) (by rw [hL]; unfold runsL; simp only [List.append_assoc]) hb hl (by omega)
 have := key l [] 0 (a ++ ueL (nz l)) b rfl (by simp) (by rw [hL]; unfold runsL; simp only [List.append_assoc])
 unfold impl_scan_runs
 rw [req_p (by omega), e0, bnd_s]
 simp only
 rw [List.length_append] at this
 simp only [List.nil_append, List.length_nil] at this
 rw [Int.toNat_natCast]
 refine (bnd_e this).trans ?_
 simp only
 unfold runsL
 rw [List.length_append, Nat.add_assoc]
theorem scan_levels_eq {L a b l : List Int} {c : Cond} (hL : L = a ++ (levL l c ++ b)) (hb : bitL L) (hl : L.length ≤ 400000) (h : lv64 l = true) : impl_scan_levels ⟨strOfNums L, (a.length : Int), false⟩ c = some (l, ⟨strOfNums L, ((a.length + (levL l c).length : Nat) : Int), false⟩) := by
 have hm : maxLen = 9223372036854775807 := rfl
 obtain ⟨h1, h2⟩ := lv64_parts h
 unfold impl_scan_levels
 rw [sel_or, bnd_s]
 unfold levL at hL ⊢
 by_cases e : (c.Large || c.Exact) = true
 ·
  rw [if_pos e] at hL
  rw [sel_pos e, if_pos e]
  have := scan_runs_eq hL hb hl h2 (by omega)
  rw [h1] at this
  exact (bnd_e this).trans rfl
 ·
  rw [if_neg e] at hL
  rw [sel_neg (by simpa using e), if_neg e]
  have step : ∀ (n : Nat) (s q : List Int) (a' b' : List Int), n < 4 → q.length = 16 → q.all lvIn = true → s.length ≤ 64 → L = a' ++ (runsL q ++ b') → impl_scan_levels_l2 ((n : Int), strOfNums L, (a'.length : Int), false, s) = some (.go (((n + 1 : Nat) : Int), strOfNums L, (((a' ++ runsL q).length : Nat) : Int), false, s ++ q)) := by
   intro n s q a' b' hn hq hqa hs hLL
   have := scan_runs_eq hLL hb hl hqa (by omega)
   rw [hq] at this
   unfold impl_scan_levels_l2
   simp only
   rw [sel_yes (by omega)]
   refine (bnd_e this).trans ?_
   simp only
   rw [req_p (by omega), wk (by omega) (by omega), List.length_append]
   rfl
  have q0 : (l.take 16).length = 16 := by rw [List.length_take]; omega
  have q1 : ((l.drop 16).take 16).length = 16 := by rw [List.length_take, List.length_drop]; omega
  have q2 : ((l.drop 32).take 16).length = 16 := by rw [List.length_take, List.length_drop]; omega
  have q3 : (l.drop 48).length = 16 := by rw [List.length_drop]; omega
  have hcat : l.take 16 ++ (l.drop 16).take 16 ++ (l.drop 32).take 16 ++ l.drop 48 = l := by
   have e1 : (l.drop 32).take 16 ++ l.drop 48 = l.drop 32 := by
    have := List.take_append_drop 16 (l.drop 32)
    rwa [List.drop_drop] at this
   have e2 : (l.drop 16).take 16 ++ l.drop 32 = l.drop 16 := by
    have := List.take_append_drop 16 (l.drop 16)
    rwa [List.drop_drop] at this
   rw [List.append_assoc, e1, List.append_assoc, e2, List.take_append_drop]
  have g0 := step 0 [] _ a (runsL ((l.drop 16).take 16) ++ runsL ((l.drop 32).take 16) ++ runsL (l.drop 48) ++ b) (by omega) q0 (all_take h2 _) (by simp) (by rw [hL]; simp only [List.append_assoc])
  have g1 := step 1 ([] ++ l.take 16) _ (a ++ runsL (l.take 16)) (runsL ((l.drop 32).take 16) ++ runsL (l.drop 48) ++ b) (by omega) q1 (all_take (all_drop h2 _) _) (by simp only [List.length_append, List.length_nil]; omega) (by rw [hL]; simp only [List.append_assoc])
  have g2 := step 2 ([] ++ l.take 16 ++ (l.drop 16).take 16) _ (a ++ runsL (l.take 16) ++ runsL ((l.drop 16).take 16)) (runsL (l.drop 48) ++ b) (by omega) q2 (all_take (all_drop h2 _) _) (by simp only [List.length_append, List.length_nil]; omega) (by rw [hL]; simp only [List.append_assoc])
  have g3 := step 3 ([] ++ l.take 16 ++ (l.drop 16).take 16 ++ (l.drop 32).take 16) _ (a ++ runsL (l.take 16) ++ runsL ((l.drop 16).take 16) ++ runsL ((l.drop 32).take 16)) b (by omega) q3 (all_drop h2 _) (by simp only [List.length_append, List.length_nil]; omega) (by rw [hL]; simp only [List.append_assoc])
  have l4 : ∀ s, impl_scan_levels_l2 (((4 : Nat) : Int), s) = some (.done (s.2.2.2, s.1, s.2.1, s.2.2.1)) := by intro s; unfold impl_scan_levels_l2; simp only; rw [sel_no (by omega)]
  have e : loop impl_scan_levels_l2 (((0 : Nat) : Int), strOfNums L, (a.length : Int), false, []) = _ := (loop_go g0).trans ((loop_go g1).trans ((loop_go g2).trans ((loop_go g3).trans (loop_done (l4 _)))))
  refine (bnd_e e).trans ?_
  simp only [List.nil_append, hcat]
  simp only [List.length_append, Nat.add_assoc]
theorem sqOk_k0 {s : Square} (h : sqOk s = true) (h1 : s.Kind = 0) : s = ⟨0, 0, 0, 0, []⟩ := by
 unfold sqOk at h
 rw [if_pos h1, decide_eq_true_eq] at h
 obtain ⟨k, m, x, y, l⟩ := s
 simp only at h h1
 obtain ⟨a, b, c, d⟩ := h
 rw [h1, a, b, c, List.length_eq_zero_iff.1 d]
theorem scan_square_eq {L a b : List Int} {s : Square} {c : Cond} (hL : L = a ++ (sqL s c ++ b)) (hb : bitL L) (hl : L.length ≤ 400000) (h : sqOk s = true) (hlet : sqLet s c = true) : impl_scan_square ⟨strOfNums L, (a.length : Int), false⟩ c = some (s, ⟨strOfNums L, ((a.length + (sqL s c).length : Nat) : Int), false⟩) := by
 have hk := sqOk_kind h
 have hl6 : s.Levels.length ≤ 64 := by
  by_cases h0 : s.Kind = 0
  ·
   rw [sqOk_k0 h h0]; simp
  ·
   by_cases h1 : s.Kind = 1
   ·
    have := lv64_parts (sqOk_one h h1).2.2; omega
   ·
    have := lv64_parts (sqOk_two h (by omega)).2; omega
 have hok := impl_SquareOk_eq s (by omega)
 rw [h] at hok
 unfold impl_scan_square
 simp only
 obtain ⟨p, hp, hL2, e1⟩ : ∃ p : List Int, p = (if c.Key = true then [] else ueL s.Kind.toNat) ∧ L = (a ++ p) ++ ((if s.Kind = 1 then seL s.Dx ++ seL s.Dy ++ levL s.Levels c else if s.Kind = 2 then ueL s.Mode.toNat ++ levL s.Levels c else []) ++ b) ∧ (sel (!c.Key) (bnd (impl_scan_ue ⟨strOfNums L, (a.length : Int), false⟩) fun q2 => some (q2.2.row_, q2.2.at_, q2.2.bad_, q2.1)) (some (strOfNums L, (a.length : Int), false, 2))) = some (strOfNums L, (((a ++ p).length : Nat) : Int), false, s.Kind) := by
  refine ⟨_, rfl, by rw [hL]; unfold sqL; simp only [List.append_assoc], ?_⟩
  cases hK : c.Key with
  | true =>
   unfold sqLet at hlet
   rw [hK, Bool.not_true, Bool.false_or, beq_iff_eq] at hlet
   rw [Bool.not_true, sel_f, if_pos rfl, List.append_nil, hlet]
  | false =>
   have := scan_ue_eq (L := L) (a := a) (n := s.Kind.toNat) (b := (if s.Kind = 1 then seL s.Dx ++ seL s.Dy ++ levL s.Levels c else if s.Kind = 2 then ueL s.Mode.toNat ++ levL s.Levels c else []) ++ b) (by rw [hL]; unfold sqL; rw [hK, if_neg (by decide)]; simp only [List.append_assoc]) hb hl (by omega)
   rw [Bool.not_false, sel_t, this, bnd_s, if_neg (by decide), List.length_append]
   simp only
   rw [show ((s.Kind.toNat : Nat) : Int) = s.Kind by omega]
 rw [e1, bnd_s]
 simp only
 have e2 : (sel false (some (strOfNums L, (((a ++ p).length : Nat) : Int), false, (0 : Int), (0 : Int), (0 : Int), ([] : List Int))) (
   sel (s.Kind == 1) (
   bnd (impl_scan_se (⟨strOfNums L, (((a ++ p).length : Nat) : Int), false⟩ : Scan)) fun q4 =>
   bnd (impl_scan_se q4.2) fun q5 =>
   bnd (impl_scan_levels q5.2 c) fun q6 =>
   some (q6.2.row_, q6.2.at_, q6.2.bad_, 0, q4.1, q5.1, q6.1)) (
   sel (s.Kind == 2) (
   bnd (impl_scan_ue (⟨strOfNums L, (((a ++ p).length : Nat) : Int), false⟩ : Scan)) fun q7 =>
   bnd (impl_scan_levels q7.2 c) fun q8 =>
   some (q8.2.row_, q8.2.at_, q8.2.bad_, q7.1, 0, 0, q8.1)) (
   some (strOfNums L, (((a ++ p).length : Nat) : Int), false, 0, 0, 0, []))))) = some (strOfNums L, ((a.length + (sqL s c).length : Nat) : Int), false, s.Mode, s.Dx, s.Dy, s.Levels) := by
  rw [sel_f]
  unfold sqL
  rw [← hp]
  by_cases h1 : s.Kind = 1
  ·
   obtain ⟨x1, x2, x3⟩ := sqOk_one h h1
   have hm0 : s.Mode = 0 := by
    unfold sqOk at h
    rw [if_neg (by omega), if_pos h1] at h
    simp only [Bool.and_eq_true, decide_eq_true_eq] at h
    exact h.1
   rw [if_pos h1] at hL2
   have y1 := scan_se_eq (L := L) (a := a ++ p) (b := seL s.Dy ++ levL s.Levels c ++ b) (n := s.Dx) (by rw [hL2]; simp only [List.append_assoc]) hb hl (by omega)
   have y2 := scan_se_eq (L := L) (a := a ++ p ++ seL s.Dx) (b := levL s.Levels c ++ b) (n := s.Dy) (by rw [hL2]; simp only [List.append_assoc]) hb hl (by omega)
   have y3 := scan_levels_eq (L := L) (a := a ++ p ++ seL s.Dx ++ seL s.Dy) (b := b) (l := s.Levels) (c := c) (by rw [hL2]; simp only [List.append_assoc]) hb hl x3
   rw [List.length_append (as := a ++ p)] at y2
   rw [List.length_append (as := a ++ p ++ seL s.Dx), List.length_append (as := a ++ p)] at y3
   rw [sel_pos (by rw [beq_iff_eq]; exact h1), y1, bnd_s]
   simp only
   rw [y2, bnd_s]
   simp only
   rw [y3, bnd_s, if_pos h1, hm0]
   simp only [List.length_append, Nat.add_assoc]
  ·
   rw [sel_neg (by rw [beq_eq_false_iff_ne]; exact h1), if_neg h1]
   rw [if_neg h1] at hL2
   by_cases h2 : s.Kind = 2
   ·
    obtain ⟨x1, x3⟩ := sqOk_two h h2
    have hd0 : s.Dx = 0 ∧ s.Dy = 0 := by
     unfold sqOk at h
     rw [if_neg (by omega), if_neg (by omega), if_pos h2] at h
     simp only [Bool.and_eq_true, decide_eq_true_eq] at h
     exact ⟨h.2.1, h.2.2.1⟩
    rw [if_pos h2] at hL2
    have y1 := scan_ue_eq (L := L) (a := a ++ p) (b := levL s.Levels c ++ b) (n := s.Mode.toNat) (by rw [hL2]; simp only [List.append_assoc]) hb hl (by omega)
    have y3 := scan_levels_eq (L := L) (a := a ++ p ++ ueL s.Mode.toNat) (b := b) (l := s.Levels) (c := c) (by rw [hL2]; simp only [List.append_assoc]) hb hl x3
    rw [List.length_append (as := a ++ p)] at y3
    rw [sel_pos (by rw [beq_iff_eq]; exact h2), y1, bnd_s]
    simp only
    rw [y3, bnd_s, if_pos h2, hd0.1, hd0.2, show ((s.Mode.toNat : Nat) : Int) = s.Mode by omega]
    simp only [List.length_append, Nat.add_assoc]
   ·
    have h0 := sqOk_k0 h (by omega)
    rw [sel_neg (by rw [beq_eq_false_iff_ne]; exact h2), if_neg h2, List.append_nil, List.length_append]
    rw [h0]
 rw [e2, bnd_s]
 simp only
 rw [sel_f, show (⟨s.Kind, s.Mode, s.Dx, s.Dy, s.Levels⟩ : Square) = s from rfl, hok, bnd_s, bnd_s]
 rfl
theorem impl_ReadTile_back {l : List Square} {c : Cond} (hs : sqAll l c = true) (hc : condOk c = true) (hl : 1 ≤ l.length ∧ l.length ≤ 64) (h64 : ∀ q ∈ l, q.Levels.length ≤ 64) : impl_ReadTile (strOfNums (tilesL l c)) 0 (l.length : Int) c = some (l, true) := by
 have hm : maxLen = 9223372036854775807 := rfl
 have hLl := tilesL_len hs
 generalize hLe : tilesL l c = L at hLl
 have hb : bitL L := by rw [← hLe]; exact tilesL_bit l c
 have hL4 : L.length ≤ 400000 := by omega
 have key : ∀ (r pre : List Square) (a : List Int), l = pre ++ r → L = a ++ tilesL r c → loop (impl_ReadTile_l2 (l.length : Int) c) ((pre.length : Int), strOfNums L, (a.length : Int), false, pre) = some (.out (strOfNums L, (L.length : Int), false, l)) := by
  intro r
  induction r with
  | nil =>
   intro pre a h1 h2
   refine ldone ?_
   rw [List.append_nil] at h1
   rw [tilesL, List.append_nil] at h2
   unfold impl_ReadTile_l2
   simp only
   rw [sel_no (by rw [h1]; omega), h1, h2]
  | cons s r ih =>
   intro pre a h1 h2
   have hlen : l.length = pre.length + (r.length + 1) := by rw [h1]; simp
   have hmem : s ∈ l := by rw [h1]; simp
   have hq := List.all_eq_true.1 hs s hmem
   simp only [Bool.and_eq_true] at hq
   obtain ⟨q1, q2, q3⟩ := hq
   rw [tilesL] at h2
   have hsc := scan_square_eq h2 hb hL4 q1 q3
   have := ih (pre ++ [s]) (a ++ sqL s c) (by rw [h1]; simp) (by rw [h2]; simp only [List.append_assoc])
   refine lgo ?_ this
   unfold impl_ReadTile_l2
   simp only
   rw [sel_yes (by omega), hsc, bnd_s]
   simp only
   rw [req_p (by simp only [List.length_singleton]; omega), sel_f, wk (by omega) (by omega), List.length_append, List.length_append, List.length_singleton]
   rfl
 have := key l [] [] rfl (by rw [hLe]; rfl)
 unfold impl_ReadTile impl_opened
 rw [impl_RowOk_eq L hb hL4, bnd_s, sel_t, impl_within_eq, bnd_s, strOfNums_size, decide_eq_true (by omega), bnd_s, bnd_s, impl_within_eq, bnd_s, decide_eq_true (by omega), sel_t, impl_CondOk_eq, bnd_s, hc, bnd_s, Bool.not_true, sel_f]
 refine (bnd_e this).trans ?_
 simp only
 rw [bne_self_eq_false, sel_f]
def sumN (t : Nat → Int) : Nat → Int
 | 0 => 0
 | k + 1 => sumN t k + t k
theorem sumN_le {t : Nat → Int} {B : Int} : ∀ n : Nat, (∀ k, k < n → -B ≤ t k ∧ t k ≤ B) → -(n * B) ≤ sumN t n ∧ sumN t n ≤ n * B
 | 0, _ => by simp [sumN]
 | n + 1, h => by
  have a := sumN_le n (fun k hk => h k (by omega))
  have b := h n (by omega)
  rw [sumN, show ((n + 1 : Nat) : Int) * B = n * B + B by rw [Int.natCast_add, Int.add_mul]; simp]
  omega
def eT (f : Nat → Int) (u : Nat) : Int := sumN (fun k => signPlace (u : Int) (k : Int) * f k) 8
theorem eT_le {f : Nat → Int} {B : Int} (h : ∀ k, k < 8 → -B ≤ f k ∧ f k ≤ B) {u : Nat} (hu : u < 8) : -(8 * B) ≤ eT f u ∧ eT f u ≤ 8 * B :=
 sumN_le 8 fun k hk => (mul_sign (h k hk) (sign_ok ⟨u, hu⟩ ⟨k, hk⟩)).2
def eS (X : Nat → Nat → Int) (u v : Nat) : Int := eT (fun i => eT (X i) v) u
theorem eS_le {X : Nat → Nat → Int} {B : Int} (h : ∀ i k, i < 8 → k < 8 → -B ≤ X i k ∧ X i k ≤ B) {u v : Nat} (hu : u < 8) (hv : v < 8) : -(64 * B) ≤ eS X u v ∧ eS X u v ≤ 64 * B := by
 have := eT_le (B := 8 * B) (f := fun i => eT (X i) v) (fun i hi => eT_le (fun k hk => h i k hi hk) hv) hu
 unfold eS
 omega
theorem acc_sum {t u : Nat → Int} {B : Int} (hB : B ≤ 1000000000000) (h : ∀ k, k < 8 → t k = u k ∧ -B ≤ u k ∧ u k ≤ B) : ∀ n : Nat, n ≤ 8 → acc8 t n = sumN u n
 | 0, _ => rfl
 | n + 1, hn => by
  have a := h n (by omega)
  have b := sumN_le (t := u) (B := B) n (fun k hk => (h k (by omega)).2)
  have c : (n : Int) * B ≤ 8 * 1000000000000 := by
   have : (n : Int) * B ≤ (n : Int) * 1000000000000 := Int.mul_le_mul_of_nonneg_left hB (by omega)
   omega
  rw [acc8, acc_sum hB h n (by omega), sumN, a.1, wk (by omega) (by omega)]
def rowsOf (p : List Int) (i k : Nat) : Int := p.getD (8 * i + k) 0
theorem half8_at {p : List Int} {B : Int} (hB : B ≤ 100000000000) (hl : p.length = 64) (hb : inB B p) {i v : Nat} (hi : i < 8) (hv : v < 8) : (half8 p).getD (8 * i + v) 0 = eT (rowsOf p i) v := by
 unfold half8
 rw [getD_map _ (by omega), show (8 * i + v) / 8 = i by omega, show (8 * i + v) % 8 = v by omega]
 refine acc_sum (B := B) (by omega) (fun k hk => ?_) 8 (by omega)
 have hp := inB_at hb (i := 8 * i + k) (by omega)
 have := (mul_sign hp (sign_ok ⟨v, hv⟩ ⟨k, hk⟩)).2
 exact ⟨by unfold rowT rowsOf; rw [wk (by simp only at this; omega) (by simp only at this; omega)], this⟩
theorem sums8_at {p : List Int} {B : Int} (hB : B ≤ 10000000000) (hl : p.length = 64) (hb : inB B p) {u v : Nat} (hu : u < 8) (hv : v < 8) : (sums8 p).getD (8 * u + v) 0 = eS (rowsOf p) u v := by
 unfold sums8
 rw [getD_map _ (by omega), show (8 * u + v) / 8 = u by omega, show (8 * u + v) % 8 = v by omega]
 refine acc_sum (B := 8 * B) (by omega) (fun k hk => ?_) 8 (by omega)
 have hh := half8_at (by omega) hl hb hk hv
 have hp := eT_le (f := rowsOf p k) (B := B) (fun j hj => inB_at hb (i := 8 * k + j) (by omega)) hv
 have := (mul_sign hp (sign_ok ⟨u, hu⟩ ⟨k, hk⟩)).2
 exact ⟨by unfold colT; rw [hh, wk (by simp only at this; omega) (by simp only at this; omega)], this⟩
theorem LargeBack_val {l qp s : Int} (hl : -5000 ≤ l ∧ l ≤ 5000) (es : spec_StepOf qp = some s) (hs : 10 ≤ s ∧ s ≤ 1152) : spec_LargeBack l qp = some (l * s) := by
 unfold spec_LargeBack
 rw [spec_l01In_eq, bnd_s, decide_eq_true hl, Bool.not_true, sel_f, es, bnd_s]
 have m1 : l * s ≤ 5000 * s := Int.mul_le_mul_of_nonneg_right hl.2 (by omega)
 have m2 : -5000 * s ≤ l * s := Int.mul_le_mul_of_nonneg_right hl.1 (by omega)
 rw [wk (by omega) (by omega)]
theorem inB_map {n : Nat} {g : Nat → Int} {B : Int} (h : ∀ i, i < n → -B ≤ g i ∧ g i ≤ B) : inB B ((List.range n).map g) := fun x hx => by
 obtain ⟨i, hi, rfl⟩ := List.mem_map.1 hx
 exact h i (List.mem_range.1 hi)
theorem EightBack_val {p : List Int} (hl : p.length = 64) (hb : inB 5760000 p) : spec_EightBack p = some ((List.range 64).map fun i => ((sums8 p).getD i 0 + 32) / 64) := by
 unfold spec_EightBack
 have hb2 : inB 368640000 (sums8 p) := by
  obtain ⟨o, e, _, h2⟩ := spec_l10Sums_ev p 5760000 (by omega) hl hb
  rw [spec_l10Sums_eq p hl] at e
  injection e with e
  rw [e]; exact h2
 rw [l09All_yes p 64 10000000 (by omega) (by omega) (by omega) (inB_mono hb (by omega)), bnd_s, Bool.not_true, sel_f, spec_l10Sums_eq p hl, bnd_s]
 rw [place_loop (f := spec_EightBack_l2) 64 (fun i => ((sums8 p).getD i 0 + 32) / 64) (sums8 p) (sums8_len p) (by
  intro i s hi hs hx
  have hx2 := inB_at hb2 (i := i) (by rw [sums8_len]; exact hi)
  obtain ⟨d, ed, d1, d2⟩ := spec_l09Down_ev (s.getD i 0 + 32) 64 (by omega) (Or.inr rfl)
  unfold spec_EightBack_l2
  simp only [Int.toNat_natCast]
  rw [sel_yes (by omega), req_p (by omega), req_p (by omega), wk (e := s.getD i 0 + 32) (by omega) (by omega), ed, bnd_s, req_p (by omega), req_p (by omega), wk (e := (i : Int) + 1) (by omega) (by omega), show d = ((sums8 p).getD i 0 + 32) / 64 by omega]
  rfl) (by intro s _; unfold spec_EightBack_l2; rw [sel_no (by simp)]), bnd_s]
theorem spec_l11Levels_ev (c : L01Cur) (hc : curOk c) : ∃ l c', spec_l11Levels c 64 = some (l, c') ∧ l.length = 64 ∧ curOk c' := by
 unfold spec_l11Levels
 rw [req_p (by omega)]
 obtain ⟨o, h, h2, h3⟩ := loop_inv (f := spec_l11Levels_l2 64) (fun v => 0 ≤ v.1 ∧ v.1 ≤ 6 ∧ curOk ⟨v.2.1, v.2.2.1, v.2.2.2.1⟩ ∧ v.2.2.2.2.length = 64) (fun v => (6 - v.1).toNat) (fun _ o => o.1.length = 64 ∧ curOk ⟨o.2.1, o.2.2.1, o.2.2.2⟩) (by
  intro ⟨i, b, j, h, l⟩ ⟨h1, h2, h3, h4⟩
  unfold spec_l11Levels_l2
  simp only at h1 h2 h3 h4 ⊢
  obtain ⟨x, c', ex, x0, x1, _, hx⟩ := spec_l01Below_ev _ 7 h3
  rw [ex, bnd_s]
  simp only
  by_cases hi : i < x
  ·
   rw [sel_yes hi, bnd_s]
   simp only
   rw [decide_eq_true (by omega), sel_t]
   obtain ⟨y, c2, ey, y0, y1, _, hy⟩ := spec_l01Below_ev c' 64 hx
   have ey' : spec_l01Below ⟨c'.b_, c'.i_, c'.h_⟩ 64 = some (y, c2) := ey
   rw [ey', bnd_s]
   obtain ⟨w, c3, ew, hw⟩ := spec_l01Once_ev c2 2 hy
   simp only
   rw [ew, bnd_s]
   simp only
   have step : ∃ p, (sel w (req ((5 : Int) ≠ 0) <| some ((y.tmod 5), c3.b_, c3.i_, c3.h_)) (some (y, c3.b_, c3.i_, c3.h_))) = some (p, c3.b_, c3.i_, c3.h_) ∧ 0 ≤ p ∧ p < 64 := by
    cases w with
    | true => rw [sel_t, req_p (by omega)]; exact ⟨_, rfl, by rw [tmod_pos y0]; omega, by rw [tmod_pos y0]; omega⟩
    | false => rw [sel_f]; exact ⟨_, rfl, y0, by omega⟩
   obtain ⟨p, ep, p0, p1⟩ := step
   rw [ep, bnd_s]
   simp only
   obtain ⟨z, c4, ez, z0, z1, _, hz⟩ := spec_l01Below_ev c3 21 hw
   have ez' : spec_l01Below ⟨c3.b_, c3.i_, c3.h_⟩ 21 = some (z, c4) := ez
   rw [ez', bnd_s]
   simp only
   obtain ⟨u, c5, eu, hu⟩ := spec_l01Once_ev c4 6 hz
   rw [req_p (by omega), req_p (by omega), eu, bnd_s]
   simp only
   cases u with
   | true =>
    obtain ⟨t, c6, et, t0, t1, _, ht⟩ := spec_l01Below_ev c5 10001 hu
    rw [sel_t, et, bnd_s, req_p (by rw [List.length_set]; omega), req_p (by rw [List.length_set]; omega), bnd_s]
    refine .inr ⟨_, rfl, ⟨?_, ?_, ht, ?_⟩, ?_, fun _ h => h⟩
    ·
     simp only; rw [wk (by omega) (by omega)]; omega
    ·
     simp only; rw [wk (by omega) (by omega)]; omega
    ·
     simp only [List.length_set]; exact h4
    ·
     simp only; rw [wk (by omega) (by omega)]; omega
   | false =>
    rw [sel_f, bnd_s]
    refine .inr ⟨_, rfl, ⟨?_, ?_, hu, ?_⟩, ?_, fun _ h => h⟩
    ·
     simp only; rw [wk (by omega) (by omega)]; omega
    ·
     simp only; rw [wk (by omega) (by omega)]; omega
    ·
     simp only [List.length_set]; exact h4
    ·
     simp only; rw [wk (by omega) (by omega)]; omega
  ·
   rw [sel_no hi, bnd_s]
   simp only
   rw [sel_f]
   exact .inl ⟨_, rfl, h4, hx⟩) (0, c.b_, c.i_, c.h_, List.replicate (64 : Int).toNat 0) ⟨by simp, by simp, hc, by simp⟩
 rw [h, bnd_s]
 exact ⟨_, _, rfl, h2, h3⟩
theorem spec_l15Square_ev (u : L01Cur) (hu : curOk u) (c : Cond) : ∃ q u', spec_l15Square u c = some (q, u') ∧ q.Levels.length ≤ 64 ∧ curOk u' := by
 unfold spec_l15Square
 have s1 : ∃ (b : Bool) (v : L01Cur), (sel c.Key (some (false, u.b_, u.i_, u.h_)) (bnd (spec_l01Once u 4) fun q2 => some (q2.1, q2.2.b_, q2.2.i_, q2.2.h_))) = some (b, v.b_, v.i_, v.h_) ∧ curOk v := by
  obtain ⟨w, v, ew, hv⟩ := spec_l01Once_ev u 4 hu
  cases c.Key with
  | true => exact ⟨false, u, rfl, hu⟩
  | false => rw [sel_f, ew, bnd_s]; exact ⟨w, v, rfl, hv⟩
 obtain ⟨b, v, e1, hv⟩ := s1
 rw [e1, bnd_s]
 simp only
 cases b with
 | true => rw [sel_t]; exact ⟨_, _, rfl, by simp, hv⟩
 | false =>
  rw [sel_f]
  have s2 : ∃ (b : Bool) (w : L01Cur), (sel c.Key (some (false, v.b_, v.i_, v.h_)) (bnd (spec_l01Once (⟨v.b_, v.i_, v.h_⟩ : L01Cur) 2) fun q4 => some (q4.1, q4.2.b_, q4.2.i_, q4.2.h_))) = some (b, w.b_, w.i_, w.h_) ∧ curOk w := by
   obtain ⟨w, v', ew, hv'⟩ := spec_l01Once_ev v 2 hv
   cases c.Key with
   | true => exact ⟨false, v, rfl, hv⟩
   | false =>
    have ew' : spec_l01Once ⟨v.b_, v.i_, v.h_⟩ 2 = some (w, v') := ew
    rw [sel_f, ew', bnd_s]; exact ⟨w, v', rfl, hv'⟩
  obtain ⟨b2, w, e2, hw⟩ := s2
  rw [e2, bnd_s]
  simp only
  cases b2 with
  | true =>
   rw [sel_t]
   obtain ⟨x, c1, ex, x0, x1, _, h1⟩ := spec_l01Below_ev w 7 hw
   have ex' : spec_l01Below ⟨w.b_, w.i_, w.h_⟩ 7 = some (x, c1) := ex
   obtain ⟨y, c2, ey, y0, y1, _, h2⟩ := spec_l01Below_ev c1 7 h1
   obtain ⟨l, c3, el, hl, h3⟩ := spec_l11Levels_ev c2 h2
   obtain ⟨z, c4, ez, h4⟩ := spec_l01Once_ev c3 6 h3
   rw [ex', bnd_s]
   simp only
   rw [ey, bnd_s]
   simp only
   rw [el, bnd_s]
   simp only
   rw [ez, bnd_s]
   simp only
   cases z with
   | true =>
    obtain ⟨t, c5, et, _, _, _, h5⟩ := spec_l01Below_ev c4 33 h4
    rw [sel_t, et, bnd_s, bnd_s]
    exact ⟨_, _, rfl, by simp only; omega, h5⟩
   | false =>
    rw [sel_f, bnd_s]
    exact ⟨_, _, rfl, by simp only; omega, h4⟩
  | false =>
   rw [sel_f]
   obtain ⟨x, c1, ex, x0, x1, _, h1⟩ := spec_l01Below_ev w 4 hw
   have ex' : spec_l01Below ⟨w.b_, w.i_, w.h_⟩ 4 = some (x, c1) := ex
   obtain ⟨l, c3, el, hl, h3⟩ := spec_l11Levels_ev c1 h1
   rw [ex', bnd_s]
   simp only
   rw [el, bnd_s]
   exact ⟨_, _, rfl, by simp only; omega, h3⟩
theorem spec_l16Squares_ev (u : L01Cur) (hu : curOk u) (n : Int) (h0 : 0 ≤ n) (h1 : n ≤ 1000) (c : Cond) : ∃ l u', spec_l16Squares u n c = some (l, u') ∧ curOk u' := by
 have hm : maxLen = 9223372036854775807 := rfl
 unfold spec_l16Squares
 obtain ⟨o, h, h2⟩ := loop_inv (f := spec_l16Squares_l2 n c) (fun v => 0 ≤ v.1 ∧ v.1 ≤ n ∧ curOk ⟨v.2.1, v.2.2.1, v.2.2.2.1⟩ ∧ (v.2.2.2.2.length : Int) = v.1) (fun v => (n - v.1).toNat) (fun _ o => curOk ⟨o.2.1, o.2.2.1, o.2.2.2⟩) (by
  intro ⟨i, b, j, h, l⟩ ⟨h1, h2, h3, h4⟩
  unfold spec_l16Squares_l2
  simp only at h1 h2 h3 h4 ⊢
  by_cases hi : i < n
  ·
   obtain ⟨q, c', eq, _, hq⟩ := spec_l15Square_ev _ h3 c
   rw [sel_yes hi, eq, bnd_s, req_p (by simp only [List.length_singleton]; omega)]
   refine .inr ⟨_, rfl, ⟨?_, ?_, hq, ?_⟩, ?_, fun _ h => h⟩
   ·
    simp only; rw [wk (by omega) (by omega)]; omega
   ·
    simp only; rw [wk (by omega) (by omega)]; omega
   ·
    simp only [List.length_append, List.length_singleton]; rw [wk (by omega) (by omega)]; omega
   ·
    simp only; rw [wk (by omega) (by omega)]; omega
  ·
   rw [sel_no hi]
   exact .inl ⟨_, rfl, h3⟩) (0, u.b_, u.i_, u.h_, []) ⟨by simp, h0, hu, by simp⟩
 rw [h, bnd_s]
 exact ⟨_, _, rfl, h2⟩
theorem spec_DrawTile_ev (b : List Int) (hb : b.length ≤ 1048576) : ∃ p r c cf l, spec_DrawTile b = some (p, r, c, cf, l) ∧ picOk p = true ∧ holdsB p r = true ∧ (r.Wide = 8 ∨ r.Wide = 16) ∧ (r.High = 8 ∨ r.High = 16) ∧ (r.Left = 0 ∨ r.Left = 8) ∧ (r.Top = 0 ∨ r.Top = 8) ∧ condOk c = true := by
 unfold spec_DrawTile spec_l16Drawn
 obtain ⟨u, e, hu⟩ := spec_l01New_ev b hb
 rw [e, bnd_s]
 obtain ⟨x1, u1, e1, a1, b1, _, h1⟩ := spec_l01Below_ev u 2 hu
 obtain ⟨x2, u2, e2, a2, b2, _, h2⟩ := spec_l01Below_ev u1 2 h1
 obtain ⟨x3, u3, e3, a3, b3, _, h3⟩ := spec_l01Below_ev u2 2 h2
 obtain ⟨x4, u4, e4, a4, b4, _, h4⟩ := spec_l01Below_ev u3 2 h3
 obtain ⟨x5, u5, e5, a5, b5, _, h5⟩ := spec_l01Below_ev u4 2 h4
 obtain ⟨x6, u6, e6, a6, b6, _, h6⟩ := spec_l01Below_ev u5 5 h5
 have b1 := b1 (by omega)
 have b2 := b2 (by omega)
 have b3 := b3 (by omega)
 have b4 := b4 (by omega)
 have b5 := b5 (by omega)
 have b6 := b6 (by omega)
 obtain ⟨p, u7, e7, pw, ph, ok, h7⟩ := spec_l12Sized_ev u6 (8 * x1 + (8 + 8 * x3) + 8 * x5) (8 * x2 + (8 + 8 * x4) + x6) h6 (by omega) (by omega)
 obtain ⟨c, u8, e8, hc, h8⟩ := spec_l14Cond_ev u7 h7
 obtain ⟨cf, u9, e9, h9⟩ := spec_l01Once_ev u8 3 h8
 have mb : (8 + 8 * x3) / 8 * ((8 + 8 * x4) / 8) ≤ 2 * 2 := Int.mul_le_mul (by omega) (by omega) (by omega) (by omega)
 have m0 : 0 ≤ (8 + 8 * x3) / 8 * ((8 + 8 * x4) / 8) := Int.mul_nonneg (by omega) (by omega)
 obtain ⟨l, u10, e10, _⟩ := spec_l16Squares_ev u9 h9 ((8 + 8 * x3) / 8 * ((8 + 8 * x4) / 8)) m0 (by omega) c
 rw [e1, bnd_s]
 simp only
 rw [e2, bnd_s]
 simp only
 rw [e3, bnd_s]
 simp only
 rw [e4, bnd_s]
 simp only
 rw [e5, bnd_s]
 simp only
 rw [e6, bnd_s]
 simp only
 rw [wk (e := 8 * x1) (by omega) (by omega), wk (e := 8 * x2) (by omega) (by omega), wk (e := 8 * x3) (by omega) (by omega), wk (e := 8 * x4) (by omega) (by omega), wk (e := 8 * x5) (by omega) (by omega), wk (e := 8 + 8 * x3) (by omega) (by omega), wk (e := 8 + 8 * x4) (by omega) (by omega), wk (e := 8 * x1 + (8 + 8 * x3)) (by omega) (by omega), wk (e := 8 * x2 + (8 + 8 * x4)) (by omega) (by omega), wk (e := 8 * x1 + (8 + 8 * x3) + 8 * x5) (by omega) (by omega), wk (e := 8 * x2 + (8 + 8 * x4) + x6) (by omega) (by omega), e7, bnd_s]
 simp only
 rw [e8, bnd_s]
 simp only
 rw [e9, bnd_s, req_p (by omega), req_p (by omega), tdiv_pos (a := 8 + 8 * x3) (by omega), tdiv_pos (a := 8 + 8 * x4) (by omega), wk (e := (8 + 8 * x3) / 8) (by omega) (by omega), wk (e := (8 + 8 * x4) / 8) (by omega) (by omega), wk (e := (8 + 8 * x3) / 8 * ((8 + 8 * x4) / 8)) (by omega) (by omega)]
 simp only
 rw [e10, bnd_s, bnd_s]
 refine ⟨_, _, _, _, _, rfl, ok, ?_, ?_, ?_, ?_, ?_, hc⟩
 ·
  unfold holdsB
  simp only [Bool.and_eq_true, decide_eq_true_eq]
  omega
 ·
  simp only; omega
 ·
  simp only; omega
 ·
  simp only; omega
 ·
  simp only; omega
theorem spec_l05Sides_ev (c : L01Cur) (hc : curOk c) : ∃ l c', spec_l05Sides c = some (l, c') ∧ l.length ≤ 10 ∧ curOk c' := by
 have hm : maxLen = 9223372036854775807 := rfl
 unfold spec_l05Sides
 obtain ⟨o, h, h2, h3⟩ := loop_inv (f := spec_l05Sides_l2) (fun v => 0 ≤ v.1 ∧ v.1 ≤ 3 ∧ curOk ⟨v.2.1, v.2.2.1, v.2.2.2.1⟩ ∧ (v.2.2.2.2.length : Int) ≤ v.1) (fun v => (3 - v.1).toNat) (fun _ o => o.1.length ≤ 10 ∧ curOk ⟨o.2.1, o.2.2.1, o.2.2.2⟩) (by
  intro ⟨i, b, j, h, l⟩ ⟨h1, h2, h3, h4⟩
  unfold spec_l05Sides_l2
  simp only at h1 h2 h3 h4 ⊢
  obtain ⟨x, c', ex, x0, x1, _, hx⟩ := spec_l01Below_ev _ 3 h3
  rw [ex, bnd_s]
  simp only
  by_cases hi : i ≤ x
  ·
   obtain ⟨y, c2, ey, y0, y1, _, hy⟩ := spec_l01Below_ev c' 2 hx
   rw [sel_yes hi, ey, bnd_s, req_p (by simp only [List.length_singleton]; omega)]
   refine .inr ⟨_, rfl, ⟨?_, ?_, hy, ?_⟩, ?_, fun _ h => h⟩
   ·
    simp only; rw [wk (by omega) (by omega)]; omega
   ·
    simp only; rw [wk (by omega) (by omega)]; omega
   ·
    simp only [List.length_append, List.length_singleton]; rw [wk (e := i + 1) (by omega) (by omega)]; omega
   ·
    simp only; rw [wk (by omega) (by omega)]; omega
  ·
   rw [sel_no hi]
   exact .inl ⟨_, rfl, by simp only; omega, hx⟩) (0, c.b_, c.i_, c.h_, []) ⟨by simp, by simp, hc, by simp⟩
 rw [h, bnd_s]
 exact ⟨_, _, rfl, h2, h3⟩
theorem spec_l05Right_ev (c : L01Cur) (hc : curOk c) : ∃ s c', spec_l05Right c = some (s, c') ∧ s.Cols.length ≤ 10 ∧ s.Rows.length ≤ 10 ∧ (3 ≤ s.Bits ∧ s.Bits ≤ 5) ∧ curOk c' := by
 unfold spec_l05Right
 obtain ⟨x, c1, ex, x0, x1, _, h1⟩ := spec_l01Below_ev c 3 hc
 obtain ⟨l, c2, el, hl, h2⟩ := spec_l05Sides_ev c1 h1
 obtain ⟨m, c3, em, hm, h3⟩ := spec_l05Sides_ev c2 h2
 obtain ⟨z, c4, ez, h4⟩ := spec_l01Once_ev c3 2 h3
 rw [ex, bnd_s]
 simp only
 rw [el, bnd_s]
 simp only
 rw [em, bnd_s]
 simp only
 rw [ez, bnd_s]
 simp only
 rw [wk (e := 3 + x) (by omega) (by omega)]
 cases z with
 | true =>
  rw [sel_t, spec_SquaresOf_eq, bnd_s, bnd_s]
  simp only
  cases decide (squares ⟨3, 3 + x, l, m⟩ ≤ 16) <;> (simp only [sel_t, sel_f, bnd_s]; exact ⟨_, _, rfl, hl, hm, by simp only; omega, h4⟩)
 | false =>
  rw [sel_f, bnd_s]
  simp only [sel_t, sel_f, bnd_s]
  exact ⟨_, _, rfl, hl, hm, by simp only; omega, h4⟩
theorem spec_DrawSets_ev (b : List Int) (hb : b.length ≤ 1048576) : ∃ s p h, spec_DrawSets b = some (s, p, h) ∧ parOk p = true := by
 unfold spec_DrawSets
 obtain ⟨u, e, hu⟩ := spec_l01New_ev b hb
 obtain ⟨s, c1, es, s1, s2, s3, h1⟩ := spec_l05Right_ev u hu
 obtain ⟨p, c2, ep, hp, h2⟩ := spec_l05ParRight_ev c1 h1
 rw [e, bnd_s, es, bnd_s]
 simp only
 rw [ep, bnd_s]
 simp only
 unfold spec_l07Head_m1
 obtain ⟨x, c3, ex, _, _, _, h3⟩ := spec_l01Below_ev c2 (tilesOf s) h2
 obtain ⟨y, c4, ey, _, _, _, h4⟩ := spec_l01Below_ev c3 41 h3
 rw [spec_TilesOf_eq, bnd_s, ex, bnd_s]
 simp only
 rw [ey, bnd_s]
 simp only
 have hw : 0 ≤ wrapK .u64 s.Bits := by unfold wrapK; simp only; exact Int.emod_nonneg _ (by decide)
 rw [spec_l01In_eq, bnd_s, decide_eq_true (by omega), sel_t, req_p hw]
 obtain ⟨z, c5, ez, _, _, _, h5⟩ := spec_l01Below_ev c4 (wrapK .i64 (1 * 2 ^ min (wrapK .u64 s.Bits).toNat (IntKind.bits .i64))) h4
 rw [ez, bnd_s, bnd_s, bnd_s]
 exact ⟨_, _, _, rfl, hp⟩
theorem dot_128 {p : Pic} (hg : ∀ x y : Int, dotAt p x y = 128) (x y : Int) : 128 ≤ dotAt p x y ∧ dotAt p x y ≤ 128 := by
 rw [hg]; omega
theorem EdgesOf_128 {p : Pic} (ok : picOk p = true) {x y : Int} (hx : x.tmod 8 = 0) (hy : y.tmod 8 = 0) (h : heldAt p x y = true) (hg : ∀ x y : Int, dotAt p x y = 128) : ∃ e, spec_EdgesOf p x y = some (e, true) ∧ edgesP e ∧ (∀ z ∈ e.Above, 128 ≤ z ∧ z ≤ 128) ∧ (∀ z ∈ e.Left, 128 ≤ z ∧ z ≤ 128) := by
 have hm : maxLen = 9223372036854775807 := rfl
 obtain ⟨k1, k2, k3⟩ := picOk_parts ok
 have h' := h
 unfold heldAt at h'
 rw [decide_eq_true_eq] at h'
 unfold spec_EdgesOf
 rw [spec_l13Fits_yes ok hx hy h, bnd_s, Bool.not_true, sel_f]
 obtain ⟨o, e, o1, o2, o3, o4, o5, o6⟩ := st_loop (f := spec_EdgesOf_l2 p x y) 8 (fun i s => (y > 0 → s.1.length = i) ∧ (¬ y > 0 → s.1.length = 0) ∧ (x > 0 → s.2.length = i) ∧ (¬ x > 0 → s.2.length = 0) ∧ (∀ z ∈ s.1, 128 ≤ z ∧ z ≤ 128) ∧ (∀ z ∈ s.2, 128 ≤ z ∧ z ≤ 128)) (by
  intro i s hi ⟨g1, g2, g3, g4, g5, g6⟩
  obtain ⟨a, b⟩ := s
  simp only at g1 g2 g3 g4 g5 g6
  have d1 := dot_128 hg (x + i) (y - 1)
  have d2 := dot_128 hg (x - 1) (y + i)
  have st1 : ∃ a', (sel (decide (y > 0)) (bnd (spec_DotAt p (wrapK .i64 (x + (i : Int))) (wrapK .i64 (y - 1))) fun q16 => req ((a.length + ([q16]).length) * 8 ≤ 140737488355328 ∧ a.length + ([q16]).length ≤ maxLen) <| some (a ++ ([q16]))) (some a)) = some a' ∧ (y > 0 → a'.length = i + 1) ∧ (¬ y > 0 → a'.length = 0) ∧ (∀ z ∈ a', 128 ≤ z ∧ z ≤ 128) := by
   by_cases c : y > 0
   ·
    rw [sel_yes c, wk (e := x + (i : Int)) (by omega) (by omega), wk (e := y - 1) (by omega) (by omega), spec_DotAt_eq ok, bnd_s, req_p (by simp only [List.length_singleton]; have := g1 c; omega)]
    refine ⟨_, rfl, fun _ => by simp; exact g1 c, fun hn => absurd c hn, fun z hz => ?_⟩
    rcases List.mem_append.1 hz with hz | hz
    ·
     exact g5 z hz
    ·
     rw [List.mem_singleton.1 hz]; exact d1
   ·
    rw [sel_no c]
    exact ⟨_, rfl, fun hn => absurd hn c, fun _ => g2 c, g5⟩
  obtain ⟨a', ea, a1, a2, a3⟩ := st1
  have st2 : ∃ b', (sel (decide (x > 0)) (bnd (spec_DotAt p (wrapK .i64 (x - 1)) (wrapK .i64 (y + (i : Int)))) fun q17 => req ((b.length + ([q17]).length) * 8 ≤ 140737488355328 ∧ b.length + ([q17]).length ≤ maxLen) <| some (a', (b ++ ([q17])))) (some (a', b))) = some (a', b') ∧ (x > 0 → b'.length = i + 1) ∧ (¬ x > 0 → b'.length = 0) ∧ (∀ z ∈ b', 128 ≤ z ∧ z ≤ 128) := by
   by_cases c : x > 0
   ·
    rw [sel_yes c, wk (e := y + (i : Int)) (by omega) (by omega), wk (e := x - 1) (by omega) (by omega), spec_DotAt_eq ok, bnd_s, req_p (by simp only [List.length_singleton]; have := g3 c; omega)]
    refine ⟨_, rfl, fun _ => by simp; exact g3 c, fun hn => absurd c hn, fun z hz => ?_⟩
    rcases List.mem_append.1 hz with hz | hz
    ·
     exact g6 z hz
    ·
     rw [List.mem_singleton.1 hz]; exact d2
   ·
    rw [sel_no c]
    exact ⟨_, rfl, fun hn => absurd hn c, fun _ => g4 c, g6⟩
  obtain ⟨b', eb, b1, b2, b3⟩ := st2
  unfold spec_EdgesOf_l2
  simp only
  rw [sel_yes (by omega), ea, bnd_s, eb, bnd_s, wk (e := (i : Int) + 1) (by omega) (by omega)]
  exact ⟨(a', b'), rfl, a1, a2, b1, b2, a3, b3⟩) (by intro s; unfold spec_EdgesOf_l2; rw [sel_no (by simp)]) ([], []) ⟨fun _ => rfl, fun _ => rfl, fun _ => rfl, fun _ => rfl, fun z hz => by simp at hz, fun z hz => by simp at hz⟩
 rw [e, bnd_s, sel_and, bnd_s]
 have d3 := dot_128 hg (x - 1) (y - 1)
 have ha : o.1.length = 0 ∨ o.1.length = 8 := by
  by_cases c : y > 0
  ·
   exact Or.inr (o1 c)
  ·
   exact Or.inl (o2 c)
 have hb : o.2.length = 0 ∨ o.2.length = 8 := by
  by_cases c : x > 0
  ·
   exact Or.inr (o3 c)
  ·
   exact Or.inl (o4 c)
 cases hc : (decide (x > 0) && decide (y > 0)) with
 | true =>
  rw [sel_t, wk (e := x - 1) (by omega) (by omega), wk (e := y - 1) (by omega) (by omega), spec_DotAt_eq ok, bnd_s, bnd_s]
  exact ⟨_, rfl, ⟨ha, hb, fun z hz => by have := o5 z hz; omega, fun z hz => by have := o6 z hz; omega, by simp only; omega, by simp only; omega⟩, o5, o6⟩
 | false =>
  rw [sel_f, bnd_s]
  exact ⟨_, rfl, ⟨ha, hb, fun z hz => by have := o5 z hz; omega, fun z hz => by have := o6 z hz; omega, by simp only; omega, by simp only; omega⟩, o5, o6⟩
theorem Mid_128 {e : Edges} (h : edgesP e) (ha : ∀ z ∈ e.Above, 128 ≤ z ∧ z ≤ 128) (hb : ∀ z ∈ e.Left, 128 ≤ z ∧ z ≤ 128) : spec_l13Mid e = some 128 := by
 obtain ⟨h1, h2, h3, h4, _, _⟩ := h
 unfold spec_l13Mid
 rw [wk (e := (e.Above.length : Int) + (e.Left.length : Int)) (by omega) (by omega)]
 by_cases hz : (e.Above.length : Int) + (e.Left.length : Int) = 0
 ·
  rw [sel_pos (by simpa using hz)]
 ·
  rw [sel_neg (by simpa using hz), req_p (by omega), tdiv_pos (by omega), wk (e := ((e.Above.length : Int) + (e.Left.length : Int)) / 2) (by omega) (by omega)]
  obtain ⟨a, ea, a1, a2⟩ := acc_loop (f := spec_l13Mid_l2 e) e.Above.length (fun i s => ((e.Above.length : Int) + (e.Left.length : Int)) / 2 + 128 * i ≤ s ∧ s ≤ ((e.Above.length : Int) + (e.Left.length : Int)) / 2 + 128 * i) (by
   intro i s hi ⟨g1, g2⟩
   have := ha (e.Above.getD i 0) (by rw [getD_at _ i hi]; exact List.getElem_mem _)
   unfold spec_l13Mid_l2
   simp only [Int.toNat_natCast]
   rw [sel_yes (by omega), req_p (by omega), wk (e := s + e.Above.getD i 0) (by omega) (by omega), wk (e := (i : Int) + 1) (by omega) (by omega)]
   exact ⟨_, rfl, by omega, by omega⟩) (by intro s; unfold spec_l13Mid_l2; rw [sel_no (by simp)]) (((e.Above.length : Int) + (e.Left.length : Int)) / 2) ⟨by omega, by omega⟩
  obtain ⟨b, eb, b1, b2⟩ := acc_loop (f := spec_l13Mid_l4 e) e.Left.length (fun i s => ((e.Above.length : Int) + (e.Left.length : Int)) / 2 + 128 * e.Above.length + 128 * i ≤ s ∧ s ≤ ((e.Above.length : Int) + (e.Left.length : Int)) / 2 + 128 * e.Above.length + 128 * i) (by
   intro i s hi ⟨g1, g2⟩
   have := hb (e.Left.getD i 0) (by rw [getD_at _ i hi]; exact List.getElem_mem _)
   unfold spec_l13Mid_l4
   simp only [Int.toNat_natCast]
   rw [sel_yes (by omega), req_p (by omega), wk (e := s + e.Left.getD i 0) (by omega) (by omega), wk (e := (i : Int) + 1) (by omega) (by omega)]
   exact ⟨_, rfl, by omega, by omega⟩) (by intro s; unfold spec_l13Mid_l4; rw [sel_no (by simp)]) a ⟨by omega, by omega⟩
  have hn : (e.Above.length : Int) + (e.Left.length : Int) = 8 ∨ (e.Above.length : Int) + (e.Left.length : Int) = 16 := by omega
  rw [ea, bnd_s, eb, bnd_s, req_p hz, tdiv_pos (by omega)]
  have hr : b / ((e.Above.length : Int) + (e.Left.length : Int)) = 128 := by
   rcases hn with hn | hn <;> rw [hn] <;> omega
  rw [hr, wk (by omega) (by omega)]
theorem GuessOf_128 {e : Edges} (h : edgesP e) (ha : ∀ z ∈ e.Above, 128 ≤ z ∧ z ≤ 128) (hb : ∀ z ∈ e.Left, 128 ≤ z ∧ z ≤ 128) : spec_GuessOf 0 e = some ((List.range 64).map fun _ => 128) := by
 have hm : maxLen = 9223372036854775807 := rfl
 have h' := h
 obtain ⟨h1, h2, h3, h4, h5, h6⟩ := h'
 unfold spec_GuessOf
 rw [spec_EdgesOk_yes h, bnd_s, sel_t, spec_l01In_eq, bnd_s, decide_eq_true (by omega), Bool.not_true, bnd_s, sel_f]
 have hc : ∃ v, sel (decide (e.Corner < 0)) (some (128 : Int)) (some e.Corner) = some v := by
  cases decide (e.Corner < 0) <;> exact ⟨_, rfl⟩
 obtain ⟨v, ev⟩ := hc
 rw [ev, bnd_s]
 have := app_loop (f := spec_GuessOf_l2 0 e v) 64 (fun _ => (128 : Int)) [] (by
  intro i hi
  obtain ⟨a, ea, a1, a2⟩ := spec_l13Filled_ev e.Above (i % 8) (by omega) h1 h3
  obtain ⟨b, eb, b1, b2⟩ := spec_l13Filled_ev e.Left (i / 8) (by omega) h2 h4
  unfold spec_GuessOf_l2
  simp only
  rw [sel_yes (by omega), req_p (by omega), tmod_pos (by omega), show (i : Int) % 8 = ((i % 8 : Nat) : Int) by omega, ea, bnd_s, req_p (by omega), tdiv_pos (by omega), wk (e := (i : Int) / 8) (by omega) (by omega), show (i : Int) / 8 = ((i / 8 : Nat) : Int) by omega, eb, bnd_s, wk (e := (i : Int) + 1) (by omega) (by omega), Mid_128 h ha hb, show ((0 : Int) == 0) = true from rfl, sel_t, bnd_s, req_p (by simp only [List.length_append, List.length_nil, List.length_map, List.length_range, List.length_singleton]; omega), bnd_s]
  rfl) (by unfold spec_GuessOf_l2; rw [sel_no (by simp)])
 rw [List.nil_append] at this
 rw [this, bnd_s]
theorem inB_zero {l : List Int} (h : inB 0 l) (i : Nat) : l.getD i 0 = 0 := by
 rcases Nat.lt_or_ge i l.length with hi | hi
 ·
  have := inB_at h hi; omega
 ·
  rw [List.getD_eq_getElem?_getD, List.getElem?_eq_none (by omega)]; rfl
theorem FourBack_zero {p : List Int} (hl : p.length = 16) (hb : inB 0 p) : ∃ o, spec_FourBack p = some o ∧ o.length = 16 ∧ inB 0 o := by
 unfold spec_FourBack
 obtain ⟨a, ea, a1, a2⟩ := spec_l09Backs_ev p 0 (by omega) hl hb
 obtain ⟨b, eb, b1, b2⟩ := spec_l09Flip_ev a 2 (by omega) a1 (inB_mono a2 (by omega))
 obtain ⟨d, ed, d1, d2⟩ := spec_l09Backs_ev b 2 (by omega) b1 b2
 obtain ⟨e, ee, e1, e2⟩ := spec_l09Flip_ev d 10 (by omega) d1 (inB_mono d2 (by omega))
 rw [l09All_yes p 16 10000000 (by omega) (by omega) (by omega) (inB_mono hb (by omega)), bnd_s, Bool.not_true, sel_f, ea, bnd_s, eb, bnd_s, ed, bnd_s, ee, bnd_s]
 obtain ⟨r, er, r1, r2⟩ := map_loop (f := spec_FourBack_l2) 16 (fun x => -10 ≤ x ∧ x ≤ 10) (fun x => -0 ≤ x ∧ x ≤ 0) (by
  intro i l hi hll hx
  obtain ⟨d, ed, d1, d2⟩ := spec_l09Down_ev (l.getD i 0 + 32) 64 (by omega) (Or.inr rfl)
  unfold spec_FourBack_l2
  simp only [Int.toNat_natCast]
  rw [sel_yes (by omega), req_p (by omega), req_p (by omega), wk (e := l.getD i 0 + 32) (by omega) (by omega), ed, bnd_s, req_p (by omega), req_p (by omega), wk (e := (i : Int) + 1) (by omega) (by omega)]
  exact ⟨d, rfl, by omega, by omega⟩) (by intro s; unfold spec_FourBack_l2; rw [sel_no (by simp)]) e e1 (fun x hx => by have := e2 x hx; omega)
 exact ⟨r, (bnd_e er).trans rfl, r1, r2⟩
theorem LargeBack_zero (l qp : Int) (hl : -0 ≤ l ∧ l ≤ 0) (h0 : 0 ≤ qp ∧ qp ≤ 40) : ∃ o, spec_LargeBack l qp = some o ∧ -0 ≤ o ∧ o ≤ 0 := by
 obtain ⟨s, es, hs⟩ := spec_StepOf_ev qp h0
 have : l = 0 := by omega
 subst this
 rw [LargeBack_val (by omega) es hs, Int.zero_mul]
 exact ⟨0, rfl, by omega, by omega⟩
theorem SmallBack_zero (l qp p : Int) (hl : -0 ≤ l ∧ l ≤ 0) (h0 : 0 ≤ qp ∧ qp ≤ 40) (hp : 0 ≤ p ∧ p ≤ 15) : ∃ o, spec_SmallBack l qp p = some o ∧ -0 ≤ o ∧ o ≤ 0 := by
 unfold spec_SmallBack
 obtain ⟨s, es, q0, q1⟩ := spec_ScaleOf_ev qp p h0 hp
 have : l = 0 := by omega
 subst this
 rw [spec_l01In_eq, bnd_s, decide_eq_true (by omega), Bool.not_true, sel_f, es, bnd_s, Int.zero_mul, wk (by omega) (by omega)]
 exact ⟨0, rfl, by omega, by omega⟩
theorem EightBack_zero {p : List Int} (hl : p.length = 64) (hb : inB 0 p) : ∃ o, spec_EightBack p = some o ∧ o.length = 64 ∧ inB 0 o := by
 refine ⟨_, EightBack_val hl (inB_mono hb (by omega)), by simp, inB_map fun j hj => ?_⟩
 have ej : j = 8 * (j / 8) + j % 8 := by omega
 have hu : j / 8 < 8 := by omega
 have hv : j % 8 < 8 := by omega
 rw [ej, sums8_at (B := 0) (by omega) hl hb hu hv]
 have := eS_le (X := rowsOf p) (B := 0) (fun i k hi hk => inB_at hb (i := 8 * i + k) (by omega)) hu hv
 omega
theorem LevelsBack_zero (p : List Int) (c : Cond) (hc : condOk c = true) (hl : p.length = 64) (hb : inB 0 p) : ∃ o, spec_LevelsBack p c = some (o, true) ∧ o.length = 64 ∧ inB 0 o := by
 have hm : maxLen = 9223372036854775807 := rfl
 have hq := condOk_qp hc
 unfold spec_LevelsBack
 rw [spec_CondOk_eq, bnd_s, hc, sel_t, l09All_yes p 64 5000 (by omega) (by omega) (by omega) (inB_mono hb (by omega)), bnd_s, Bool.not_true, bnd_s, sel_f]
 cases hE : c.Exact with
 | true =>
  obtain ⟨o, e, h1, h2⟩ := spec_Unscanned_ev 8 (Or.inr rfl) p 0 (by omega) (by omega) hb
  rw [sel_t, e, bnd_s]
  exact ⟨o, rfl, by omega, h2⟩
 | false =>
  rw [sel_f]
  cases hL : c.Large with
  | true =>
   obtain ⟨w, ew, w1, w2⟩ := spec_Unscanned_ev 8 (Or.inr rfl) p 0 (by omega) (by omega) hb
   obtain ⟨l, el, l1, l2⟩ := map_loop (f := spec_LevelsBack_l4 c) 64 (fun x => -0 ≤ x ∧ x ≤ 0) (fun x => -0 ≤ x ∧ x ≤ 0) (by
    intro i l hi hll hx
    obtain ⟨d, ed, d1, d2⟩ := LargeBack_zero (l.getD i 0) c.Qp hx hq
    unfold spec_LevelsBack_l4
    simp only [Int.toNat_natCast]
    rw [sel_yes (by omega), req_p (by omega), req_p (by omega), ed, bnd_s, req_p (by omega), req_p (by omega), wk (e := (i : Int) + 1) (by omega) (by omega)]
    exact ⟨d, rfl, d1, d2⟩) (by intro s; unfold spec_LevelsBack_l4; rw [sel_no (by simp)]) w (by omega) w2
   obtain ⟨o, e, h1, h2⟩ := EightBack_zero l1 l2
   rw [sel_t, ew, bnd_s, el, bnd_s, e, bnd_s]
   exact ⟨o, rfl, h1, h2⟩
  | false =>
   obtain ⟨o, eo, o1, o2⟩ := st_loop (f := spec_LevelsBack_l36 p c) 4 (fun k s => s.length = 64 ∧ inB 0 s) (by
    intro k s hk ⟨g1, g2⟩
    have hcut : ((p.drop (16 * k)).take 16).length = 16 := by rw [List.length_take, List.length_drop]; omega
    obtain ⟨a, ea, a1, a2⟩ := spec_Unscanned_ev 4 (Or.inl rfl) ((p.drop (16 * k)).take 16) 0 (by omega) (by omega) (inB_take (inB_drop hb _) _)
    obtain ⟨l, el, l1, l2⟩ := map_loop (f := spec_LevelsBack_l41 c) 16 (fun x => -0 ≤ x ∧ x ≤ 0) (fun x => -0 ≤ x ∧ x ≤ 0) (by
     intro i l hi hll hx
     obtain ⟨d, ed, d1, d2⟩ := SmallBack_zero (l.getD i 0) c.Qp i hx hq (by omega)
     unfold spec_LevelsBack_l41
     simp only [Int.toNat_natCast]
     rw [sel_yes (by omega), req_p (by omega), req_p (by omega), ed, bnd_s, req_p (by omega), req_p (by omega), wk (e := (i : Int) + 1) (by omega) (by omega)]
     exact ⟨d, rfl, d1, d2⟩) (by intro s; unfold spec_LevelsBack_l41; rw [sel_no (by simp)]) a (by omega) a2
    obtain ⟨b, eb, b1, b2⟩ := FourBack_zero l1 l2
    obtain ⟨r, er, r1, r2⟩ := st_loop (f := spec_LevelsBack_l42 ((k : Int), s) b) 16 (fun i s => s.length = 64 ∧ inB 0 s) (by
     intro i s hi ⟨g1, g2⟩
     have ha := inB_at b2 (i := i) (by omega)
     unfold spec_LevelsBack_l42
     simp only
     rw [sel_yes (by omega), req_p (by omega), req_p (by omega), req_p (by omega), req_p (by omega), req_p (by omega), req_p (by omega), tdiv_pos (a := (k : Int)) (by omega), tdiv_pos (a := (i : Int)) (by omega), tmod_pos (a := (k : Int)) (by omega), tmod_pos (a := (i : Int)) (by omega), wk (e := (k : Int) / 2) (by omega) (by omega), wk (e := (k : Int) / 2 * 4) (by omega) (by omega), wk (e := (i : Int) / 4) (by omega) (by omega), wk (e := (k : Int) / 2 * 4 + (i : Int) / 4) (by omega) (by omega), wk (e := 8 * ((k : Int) / 2 * 4 + (i : Int) / 4)) (by omega) (by omega), wk (e := (k : Int) % 2 * 4) (by omega) (by omega), wk (e := 8 * ((k : Int) / 2 * 4 + (i : Int) / 4) + (k : Int) % 2 * 4) (by omega) (by omega), wk (e := 8 * ((k : Int) / 2 * 4 + (i : Int) / 4) + (k : Int) % 2 * 4 + (i : Int) % 4) (by omega) (by omega), req_p (by omega), req_p (by omega), wk (e := (i : Int) + 1) (by omega) (by omega), Int.toNat_natCast]
     exact ⟨_, rfl, by rw [List.length_set]; exact g1, inB_set g2 _ ha⟩) (by intro s; unfold spec_LevelsBack_l42; rw [sel_no (by simp)]) s ⟨g1, g2⟩
    unfold spec_LevelsBack_l36
    simp only
    rw [sel_yes (by omega), wk (e := 16 * (k : Int)) (by omega) (by omega), wk (e := 16 * (k : Int) + 16) (by omega) (by omega), req_p (by omega), show (16 * (k : Int)).toNat = 16 * k by omega, show (16 * (k : Int) + 16).toNat - 16 * k = 16 by omega, ea, bnd_s, el, bnd_s, eb, bnd_s, er, bnd_s, wk (e := (k : Int) + 1) (by omega) (by omega)]
    exact ⟨_, rfl, r1, r2⟩) (by intro s; unfold spec_LevelsBack_l36; rw [sel_no (by simp)]) (List.replicate (64 : Int).toNat 0) ⟨by simp, inB_rep _ (by omega)⟩
   rw [sel_f, req_p (by omega), eo, bnd_s]
   exact ⟨o, rfl, o1, o2⟩
def greyP (w h : Int) : Pic := ⟨w, h, strOfNums (List.replicate (w * h).toNat 128)⟩
theorem greyP_dot {w h : Int} (hw : 1 ≤ w ∧ w ≤ 256) (hh : 1 ≤ h ∧ h ≤ 256) (x y : Int) : dotAt (greyP w h) x y = 128 := by
 unfold dotAt greyP
 simp only
 have bx := brought_in (n := x) (a := 0) (b := w - 1) (by omega)
 have by_ := brought_in (n := y) (a := 0) (b := h - 1) (by omega)
 have pin := place_in (W := w) (H := h) (x := brought x 0 (w - 1)) (y := brought y 0 (h - 1)) (by omega) (by omega)
 generalize brought y 0 (h - 1) * w + brought x 0 (w - 1) = k at *
 have := bt_str (List.replicate (w * h).toNat 128) (fun x hx => by rw [List.eq_of_mem_replicate hx]; omega) k.toNat (by rw [List.length_replicate]; omega)
 rw [show ((k.toNat : Nat) : Int) = k by omega] at this
 rw [this, getD_at _ _ (by rw [List.length_replicate]; omega), List.getElem_replicate]
def greyS : Square := ⟨2, 0, 0, 0, List.replicate 64 0⟩
theorem greyS_ok (c : Cond) : sqOk greyS = true ∧ sqLet greyS c = true := by
 refine ⟨by rfl, ?_⟩
 unfold sqLet greyS
 simp
theorem grey_step {w h : Int} (hw : sideB w = true) (hh : sideB h = true) {ref : Pic} {l t x y : Int} {c : Cond} (SD : SdIn (greyP w h) ref l t x y c greyS) (hr : c.Key = false → picOk ref = true) : ∃ d, impl_SquareDots (greyP w h) ref l t c x y greyS = some (d, true) ∧ dots64 d = true ∧ spec_l16Put (greyP w h) x y d = some (greyP w h) := by
 have sw := sideB_parts hw
 have sh := sideB_parts hh
 obtain ⟨g1, g2⟩ := greyS_ok c
 have hg := greyP_dot (w := w) (h := h) (by omega) (by omega)
 obtain ⟨d0, e0, es0, _⟩ := SquareDots_both SD g1 g2 hr
 obtain ⟨d, es, hd, hv⟩ := SquareDots_val SD g1 g2 hr
 rw [es] at es0
 injection es0 with es0
 injection es0 with es0 _
 subst es0
 refine ⟨d, e0, hd, ?_⟩
 have hd128 : ∀ i : Nat, i < 64 → d.getD i 0 = 128 := by
  rcases hv with ⟨k, _⟩ | ⟨k, _⟩ | ⟨_, e, b, g, ee, he, eb, eg, hgd, ed⟩
  ·
   exact absurd k (by decide)
  ·
   exact absurd k (by decide)
  ·
   obtain ⟨e', ee', he', ha, hb⟩ := EdgesOf_128 SD.ok SD.hx SD.hy SD.h0 hg
   rw [ee] at ee'
   injection ee' with ee'
   injection ee' with ee' _
   subst ee'
   have eg' : spec_GuessOf 0 e = some g := eg
   rw [GuessOf_128 he ha hb] at eg'
   injection eg' with eg'
   obtain ⟨b', eb', _, hb0⟩ := LevelsBack_zero (List.replicate 64 0) c SD.hc (by simp) (inB_rep _ (by omega))
   have eb2 : spec_LevelsBack (List.replicate 64 0) c = some (b, true) := eb
   rw [eb'] at eb2
   injection eb2 with eb2
   injection eb2 with eb2 _
   intro i hi
   rw [ed, joinedL, getD_map _ hi, ← eg', getD_map _ hi, ← eb2, inB_zero hb0]
   exact brought_is (by omega)
 obtain ⟨p', ep, p1, p2, p3, p4⟩ := put_dots SD.ok SD.h0 hd
 rw [ep]
 refine congrArg some (pic_eq p1 SD.ok p2 p3 fun X Y hX hY => ?_)
 rw [p2] at hX
 rw [p3] at hY
 rw [p4 X Y hX hY, hg]
 by_cases hin : inSq x y X Y = true
 ·
  rw [if_pos hin]
  unfold inSq at hin
  rw [decide_eq_true_eq] at hin
  exact hd128 _ (by omega)
 ·
  rw [if_neg hin]
theorem tb_put {r : Rect} (hw : sideB r.Wide = true) (hh : sideB r.High = true) {l : List Square} {i : Nat} (hi : i < l.length) (h64 : l.length ≤ 64) (hn : (i : Int) < r.Wide / 8 * (r.High / 8)) {c : Cond} {le tp : Int} {ref now now' : Pic} {d : List Int} (ok : picOk now = true)
  (hd : impl_SquareDots now ref le tp c (tX r.Wide i) (tY r.Wide i) (l.getD i dSquare) = some (d, true)) (hd64 : dots64 d = true) (hp : spec_l16Put now (tX r.Wide i) (tY r.Wide i) d = some now') : impl_TileBack_l2 r c l (le, tp, ref.Wide, ref.High, ref.Dots) ((i : Int), now.Wide, now.High, now.Dots) = some (.go (((i + 1 : Nat) : Int), now'.Wide, now'.High, now'.Dots)) := by
 have sw := sideB_parts hw
 have sh := sideB_parts hh
 obtain ⟨p1, p2, p3, p4, p5, p6, p7, p8, p9, p10⟩ := tile_place hw hh i hn
 have hd' : impl_SquareDots now ref le tp c ((i : Int) % (r.Wide / 8) * 8) ((i : Int) / (r.Wide / 8) * 8) (l.getD i dSquare) = some (d, true) := hd
 have hp' : spec_l16Put now ((i : Int) % (r.Wide / 8) * 8) ((i : Int) / (r.Wide / 8) * 8) d = some now' := hp
 unfold impl_TileBack_l2
 simp only [Int.toNat_natCast]
 rw [sel_yes (by omega), req_p (by omega), req_p (by omega), tdiv_pos (a := r.Wide) (by omega), wk (e := r.Wide / 8) (by omega) (by omega), req_p (by omega), req_p (by omega), req_p (by omega), tmod_pos (a := (i : Int)) (by omega), tdiv_pos (a := (i : Int)) (by omega), wk (e := (i : Int) % (r.Wide / 8) * 8) (by omega) (by omega), wk (e := (i : Int) / (r.Wide / 8)) (by omega) (by omega), wk (e := (i : Int) / (r.Wide / 8) * 8) (by omega) (by omega), wk (e := (i : Int) + 1) (by omega) (by omega), show (⟨now.Wide, now.High, now.Dots⟩ : Pic) = now from rfl, show (⟨ref.Wide, ref.High, ref.Dots⟩ : Pic) = ref from rfl, show (⟨(l.getD i dSquare).Kind, (l.getD i dSquare).Mode, (l.getD i dSquare).Dx, (l.getD i dSquare).Dy, (l.getD i dSquare).Levels⟩ : Square) = l.getD i dSquare from rfl, hd', bnd_s]
 simp only
 rw [Bool.not_true, sel_f, put_alike hd64 (by have := dots_len ok; have hm : maxLen = 9223372036854775807 := rfl; omega), hp', bnd_s]
 rfl
theorem TileBack_run {ref : Pic} {r : Rect} {c : Cond} {cf : Bool} {l : List Square} (hw : sideB r.Wide = true) (hh : sideB r.High = true) (hL : 0 ≤ r.Left ∧ r.Left ≤ 256) (hT : 0 ≤ r.Top ∧ r.Top ≤ 256) (hc : condOk c = true) (hn : (l.length : Int) = r.Wide / 8 * (r.High / 8)) (hr : c.Key = false → picOk ref = true ∧ holdsB ref r = true) (G : Pic → Prop)
  (H : ∀ (rI : Pic) (lI tI : Int), 0 ≤ lI ∧ lI ≤ 256 → 0 ≤ tI ∧ tI ≤ 256 → (c.Key = false → picOk rI = true ∧ ∀ X Y : Int, 0 ≤ X ∧ X < r.Wide → 0 ≤ Y ∧ Y < r.High → dotAt rI (lI + X) (tI + Y) = dotAt ref (r.Left + X) (r.Top + Y)) → ∃ out : Pic, loop (impl_TileBack_l2 r c l (lI, tI, rI.Wide, rI.High, rI.Dots)) (0, (greyP r.Wide r.High).Wide, (greyP r.Wide r.High).High, (greyP r.Wide r.High).Dots) = some (.out (out.Wide, out.High, out.Dots)) ∧ G out) : ∃ out, impl_TileBack ref r c cf l = some (out, true) ∧ G out := by
 have sw := sideB_parts hw
 have sh := sideB_parts hh
 have mb : r.Wide / 8 * (r.High / 8) ≤ 8 * 8 := Int.mul_le_mul (by omega) (by omega) (by omega) (by omega)
 have m0 : 1 * 1 ≤ r.Wide / 8 * (r.High / 8) := Int.mul_le_mul (by omega) (by omega) (by omega) (by omega)
 have key : ∃ (rI : Pic) (lI tI : Int), (sel cf (sel (!c.Key) (bnd (impl_CutOf ref r) fun q11 => some ((0 : Int), (0 : Int), q11.1.Wide, q11.1.High, q11.1.Dots)) (some (0, 0, ref.Wide, ref.High, ref.Dots))) (some (r.Left, r.Top, ref.Wide, ref.High, ref.Dots))) = some (lI, tI, rI.Wide, rI.High, rI.Dots) ∧ (0 ≤ lI ∧ lI ≤ 256) ∧ (0 ≤ tI ∧ tI ≤ 256) ∧ (c.Key = false → picOk rI = true ∧ ∀ X Y : Int, 0 ≤ X ∧ X < r.Wide → 0 ≤ Y ∧ Y < r.High → dotAt rI (lI + X) (tI + Y) = dotAt ref (r.Left + X) (r.Top + Y)) ∧ (sel c.Key (some false) (bnd (impl_PicOk ref) fun q8 => sel q8 (bnd (impl_Pic_holds ref r) fun q9 => some (!q9)) (some true))) = some false := by
  cases hK : c.Key with
  | true =>
   cases cf with
   | true => exact ⟨ref, 0, 0, rfl, by omega, by omega, (fun h => by cases h), rfl⟩
   | false => exact ⟨ref, r.Left, r.Top, rfl, hL, hT, (fun h => by cases h), rfl⟩
  | false =>
   obtain ⟨a1, a2⟩ := hr hK
   have hf : (sel false (some false) (bnd (impl_PicOk ref) fun q8 => sel q8 (bnd (impl_Pic_holds ref r) fun q9 => some (!q9)) (some true))) = some false := by
    rw [sel_f, impl_PicOk_eq, bnd_s, a1, sel_t, impl_holds_eq a1, bnd_s, a2]; rfl
   cases cf with
   | true =>
    refine ⟨cutP ref r, 0, 0, ?_, by omega, by omega, fun _ => ⟨cutP_ok a1 a2, fun X Y hX hY => ?_⟩, hf⟩
    ·
     rw [sel_t, Bool.not_false, sel_t, impl_CutOf_eq a1 a2, bnd_s]
    ·
     rw [Int.zero_add, Int.zero_add]
     exact cutP_dots a1 a2 X Y hX hY
   | false => exact ⟨ref, r.Left, r.Top, rfl, hL, hT, fun _ => ⟨a1, fun _ _ _ _ => rfl⟩, hf⟩
 obtain ⟨rI, lI, tI, e1, b1, b2, b3, e2⟩ := key
 obtain ⟨out, el, hG⟩ := H rI lI tI b1 b2 b3
 refine ⟨out, ?_, hG⟩
 unfold impl_TileBack
 rw [impl_isTile_eq, bnd_s, hw, sel_t, impl_isTile_eq, bnd_s, hh, sel_t, impl_within_eq, bnd_s, decide_eq_true hL, sel_t, impl_within_eq, bnd_s, decide_eq_true hT, sel_t, impl_CondOk_eq, bnd_s, hc, sel_t, req_p (by omega), req_p (by omega), tdiv_pos (a := r.Wide) (by omega), tdiv_pos (a := r.High) (by omega), wk (e := r.Wide / 8) (by omega) (by omega), wk (e := r.High / 8) (by omega) (by omega), wk (e := r.Wide / 8 * (r.High / 8)) (by omega) (by omega), show (((l.length : Nat) : Int) != r.Wide / 8 * (r.High / 8)) = false by rw [bne_eq_false_iff_eq]; omega, bnd_s, sel_f, e2, bnd_s, sel_f, e1, bnd_s, impl_Grey_eq _ _ (by omega) (by omega), bnd_s]
 simp only
 have el' : loop (impl_TileBack_l2 r c l (lI, tI, rI.Wide, rI.High, rI.Dots)) (0, r.Wide, r.High, strOfNums (List.replicate (r.Wide * r.High).toNat 128)) = some (.out (out.Wide, out.High, out.Dots)) := el
 rw [el', bnd_s]
theorem rep_getD (n i : Nat) (q : Square) (h : i < n) : (List.replicate n q).getD i dSquare = q := by rw [getD_at _ i (by rw [List.length_replicate]; exact h), List.getElem_replicate]
theorem sdIn_at {r : Rect} (hw : sideB r.Wide = true) (hh : sideB r.High = true) {i : Nat} (hn : (i : Int) < r.Wide / 8 * (r.High / 8)) {now rI : Pic} (ok : picOk now = true) (nw : now.Wide = r.Wide) (nh : now.High = r.High) {lI tI : Int} (hl : 0 ≤ lI ∧ lI ≤ 256) (ht : 0 ≤ tI ∧ tI ≤ 256) {c : Cond} (hc : condOk c = true) {q : Square} (hq : q.Levels.length ≤ 1048576) : SdIn now rI lI tI (tX r.Wide i) (tY r.Wide i) c q := by
 obtain ⟨p1, p2, p3, p4, p5, p6, p7, p8, p9, p10⟩ := tile_place hw hh i hn
 exact ⟨ok, by unfold tX; rw [tmod_pos p7]; omega, by unfold tY; rw [tmod_pos p9]; omega, by unfold heldAt tX tY; rw [decide_eq_true_eq, nw, nh]; exact ⟨p7, p8, p9, p10⟩, hl, ht, hc, hq⟩
theorem grey_tile {ref : Pic} {r : Rect} {c : Cond} {cf : Bool} {n : Nat} (hw : sideB r.Wide = true) (hh : sideB r.High = true) (hL : 0 ≤ r.Left ∧ r.Left ≤ 256) (hT : 0 ≤ r.Top ∧ r.Top ≤ 256) (hc : condOk c = true) (hn : (n : Int) = r.Wide / 8 * (r.High / 8)) (hr : c.Key = false → picOk ref = true ∧ holdsB ref r = true) : impl_TileBack ref r c cf (List.replicate n greyS) = some (greyP r.Wide r.High, true) := by
 have sw := sideB_parts hw
 have sh := sideB_parts hh
 have mb : r.Wide / 8 * (r.High / 8) ≤ 8 * 8 := Int.mul_le_mul (by omega) (by omega) (by omega) (by omega)
 obtain ⟨out, e, hG⟩ := TileBack_run (cf := cf) (l := List.replicate n greyS) hw hh hL hT hc (by rw [List.length_replicate]; exact hn) hr (fun out => out = greyP r.Wide r.High) (by
  intro rI lI tI hl ht hk
  refine ⟨greyP r.Wide r.High, ?_, rfl⟩
  have key : ∀ i : Nat, i ≤ n → loop (impl_TileBack_l2 r c (List.replicate n greyS) (lI, tI, rI.Wide, rI.High, rI.Dots)) ((i : Int), (greyP r.Wide r.High).Wide, (greyP r.Wide r.High).High, (greyP r.Wide r.High).Dots) = some (.out ((greyP r.Wide r.High).Wide, (greyP r.Wide r.High).High, (greyP r.Wide r.High).Dots)) := by
   refine down_to _ ?_ ?_
   ·
    refine ldone ?_
    unfold impl_TileBack_l2
    rw [sel_no (by simp)]
   ·
    intro i hi ih
    have gok : picOk (greyP r.Wide r.High) = true := grey_ok (by omega) (by omega)
    have SD := sdIn_at (rI := rI) hw hh (i := i) (by omega) gok rfl rfl hl ht hc (q := greyS) (by decide)
    obtain ⟨d, d1, d2, d3⟩ := grey_step hw hh SD (fun h => (hk h).1)
    exact lgo (tb_put hw hh (by rw [List.length_replicate]; exact hi) (by rw [List.length_replicate]; omega) (by omega) gok (by rw [rep_getD n i greyS hi]; exact d1) d2 d3) ih
  exact key 0 (by omega))
 rw [e, hG]
def skipS : Square := ⟨0, 0, 0, 0, []⟩
theorem skip_tile {ref : Pic} {r : Rect} {c : Cond} {cf : Bool} {n : Nat} (hw : sideB r.Wide = true) (hh : sideB r.High = true) (hL : 0 ≤ r.Left ∧ r.Left ≤ 256) (hT : 0 ≤ r.Top ∧ r.Top ≤ 256) (hc : condOk c = true) (hn : (n : Int) = r.Wide / 8 * (r.High / 8)) (hK : c.Key = false) (ok : picOk ref = true) (ho : holdsB ref r = true) : impl_TileBack ref r c cf (List.replicate n skipS) = some (cutP ref r, true) := by
 have sw := sideB_parts hw
 have sh := sideB_parts hh
 have mb : r.Wide / 8 * (r.High / 8) ≤ 8 * 8 := Int.mul_le_mul (by omega) (by omega) (by omega) (by omega)
 obtain ⟨out, e, hG⟩ := TileBack_run (cf := cf) (l := List.replicate n skipS) hw hh hL hT hc (by rw [List.length_replicate]; exact hn) (fun _ => ⟨ok, ho⟩) (fun out => out = cutP ref r) (by
  intro rI lI tI hl ht hk
  obtain ⟨rok, rd⟩ := hk hK
  have key : ∀ i : Nat, i ≤ n → ∀ now : Pic, picOk now = true → now.Wide = r.Wide → now.High = r.High → (∀ X Y : Int, 0 ≤ X ∧ X < r.Wide → 0 ≤ Y ∧ Y < r.High → Y / 8 * (r.Wide / 8) + X / 8 < i → dotAt now X Y = dotAt ref (r.Left + X) (r.Top + Y)) → ∃ out : Pic, loop (impl_TileBack_l2 r c (List.replicate n skipS) (lI, tI, rI.Wide, rI.High, rI.Dots)) ((i : Int), now.Wide, now.High, now.Dots) = some (.out (out.Wide, out.High, out.Dots)) ∧ out = cutP ref r := by
   refine down_to _ ?_ ?_
   ·
    intro now nok nw nh hd
    refine ⟨now, ldone ?_, ?_⟩
    ·
     unfold impl_TileBack_l2
     rw [sel_no (by simp)]
    ·
     refine pic_eq nok (cutP_ok ok ho) nw nh fun X Y hX hY => ?_
     rw [nw] at hX
     rw [nh] at hY
     have p := place_in (W := r.Wide / 8) (H := r.High / 8) (x := X / 8) (y := Y / 8) ⟨by omega, by omega⟩ ⟨by omega, by omega⟩
     rw [hd X Y hX hY (by omega), cutP_dots ok ho X Y hX hY]
   ·
    intro i hi ih now nok nw nh hd
    have SD := sdIn_at (rI := rI) hw hh (i := i) (by omega) nok nw nh hl ht hc (q := skipS) (by decide)
    have hlet : sqLet skipS c = true := by unfold sqLet; rw [hK]; rfl
    obtain ⟨d0, e0, es0, hd64⟩ := SquareDots_both SD (by rfl) hlet (fun _ => rok)
    obtain ⟨d, es, _, hv⟩ := SquareDots_val SD (by rfl) hlet (fun _ => rok)
    rw [es] at es0
    injection es0 with es0
    injection es0 with es0 _
    subst es0
    obtain ⟨now', ep, p1, p2, p3, p4⟩ := put_dots nok SD.h0 hd64
    obtain ⟨out, eo, ho2⟩ := ih now' p1 (by rw [p2, nw]) (by rw [p3, nh]) (fun X Y hX hY hlt => by
     rw [p4 X Y (by rw [nw]; exact hX) (by rw [nh]; exact hY)]
     have dv := place_div (W := r.Wide / 8) (x := X / 8) (y := Y / 8) ⟨by omega, by omega⟩
     by_cases hin : inSq (tX r.Wide i) (tY r.Wide i) X Y = true
     ·
      rw [if_pos hin]
      unfold inSq at hin
      rw [decide_eq_true_eq] at hin
      rcases hv with ⟨_, _, e⟩ | ⟨k, _⟩ | ⟨k, _⟩
      ·
       rw [e, blkL_at _ _ _ (by omega)]
       have e1 : lI + tX r.Wide i + (((((Y - tY r.Wide i) * 8 + (X - tX r.Wide i)).toNat % 8 : Nat)) : Int) = lI + X := by omega
       have e2 : tI + tY r.Wide i + (((((Y - tY r.Wide i) * 8 + (X - tX r.Wide i)).toNat / 8 : Nat)) : Int) = tI + Y := by omega
       rw [e1, e2]
       exact rd X Y hX hY
      ·
       exact absurd k (by decide)
      ·
       exact absurd k (by decide)
     ·
      rw [if_neg hin]
      refine hd X Y hX hY ?_
      have hne : Y / 8 * (r.Wide / 8) + X / 8 ≠ i := fun e => hin (by
       rw [e] at dv
       unfold inSq tX tY
       rw [dv.1, dv.2, decide_eq_true_eq]
       omega)
      omega)
    exact ⟨out, lgo (tb_put hw hh (by rw [List.length_replicate]; exact hi) (by rw [List.length_replicate]; omega) (by omega) nok (by rw [rep_getD n i skipS hi]; exact e0) hd64 ep) eo, ho2⟩
  exact key 0 (by omega) (greyP r.Wide r.High) (grey_ok (by omega) (by omega)) rfl rfl (fun X Y hX hY hlt => by
   have := Int.mul_nonneg (show 0 ≤ Y / 8 by omega) (show 0 ≤ r.Wide / 8 by omega)
   omega))
 rw [e, hG]
theorem impl_alike_eq (n : Nat) (p : Par) (key : Bool) (q : Square) (hp : parOk p = true) (hn : 1 ≤ n ∧ n ≤ 64) (hq : q.Levels.length ≤ 64) : impl_alike (n : Int) p key q = some (⟨key, p.Qp, (tileRow (List.replicate n q) ⟨key, p.Qp, p.Large, p.Exact⟩).1⟩, true) := by
 have hm : maxLen = 9223372036854775807 := rfl
 unfold impl_alike
 rw [impl_ParOk_eq, bnd_s, hp, sel_t, impl_within_eq, bnd_s, decide_eq_true (by omega), Bool.not_true, bnd_s, sel_f]
 have key2 : ∀ k : Nat, k ≤ n → loop (impl_alike_l2 (n : Int) q) ((k : Int), List.replicate k q) = some (List.replicate n q) := by
  refine down_to _ (ldone (by unfold impl_alike_l2; rw [sel_no (by simp)])) ?_
  intro k hk ih
  refine lgo ?_ ih
  unfold impl_alike_l2
  simp only
  rw [sel_yes (by omega), req_p (by simp only [List.length_replicate, List.length_singleton]; omega), wk (by omega) (by omega), List.replicate_succ']
  rfl
 have := key2 0 (by omega)
 refine (bnd_e this).trans ?_
 unfold impl_CondFor
 rw [bnd_s, impl_TileRow_eq _ _ (fun s hs => by rw [List.eq_of_mem_replicate hs]; omega), bnd_s]
theorem condFor_ok {p : Par} (hp : parOk p = true) (key : Bool) : condOk ⟨key, p.Qp, p.Large, p.Exact⟩ = true := by
 unfold condOk
 unfold parOk at hp
 exact hp
theorem sqAll_rep {n : Nat} {q : Square} {c : Cond} (hq : sqOk q = true) (hl : sqLet q c = true) (hc : condOk c = true) : sqAll (List.replicate n q) c = true := by
 unfold sqAll
 rw [List.all_eq_true]
 intro s hs
 rw [List.eq_of_mem_replicate hs, hq, hl, hc]; rfl
theorem PartShows_of {ref : Pic} {r : Rect} {p : Par} {key : Bool} {l : List Square} {out : Pic} (hw : sideB r.Wide = true) (hh : sideB r.High = true) (hp : parOk p = true) (hn : (l.length : Int) = r.Wide / 8 * (r.High / 8)) (hs : sqAll l ⟨key, p.Qp, p.Large, p.Exact⟩ = true) (h64 : ∀ q ∈ l, q.Levels.length ≤ 64) (ht : impl_TileBack ref r ⟨key, p.Qp, p.Large, p.Exact⟩ p.Confined l = some (out, true)) :
  tileRow l ⟨key, p.Qp, p.Large, p.Exact⟩ = (strOfNums (tilesL l ⟨key, p.Qp, p.Large, p.Exact⟩), true) ∧ impl_PartShows ref r p ⟨key, p.Qp, strOfNums (tilesL l ⟨key, p.Qp, p.Large, p.Exact⟩)⟩ = some (out, true) ∧ impl_PartOk p ⟨key, p.Qp, strOfNums (tilesL l ⟨key, p.Qp, p.Large, p.Exact⟩)⟩ (r.Wide / 8 * (r.High / 8)) = some true := by
 have sw := sideB_parts hw
 have sh := sideB_parts hh
 have mb : r.Wide / 8 * (r.High / 8) ≤ 8 * 8 := Int.mul_le_mul (by omega) (by omega) (by omega) (by omega)
 have m0 : 1 * 1 ≤ r.Wide / 8 * (r.High / 8) := Int.mul_le_mul (by omega) (by omega) (by omega) (by omega)
 have rd := impl_ReadTile_back hs (condFor_ok hp key) (by omega) h64
 rw [hn] at rd
 refine ⟨?_, ?_, ?_⟩
 ·
  unfold tileRow
  rw [decide_eq_true (show 1 ≤ l.length ∧ l.length ≤ 64 by omega), hs]; rfl
 ·
  unfold impl_PartShows impl_CondFor
  rw [impl_isTile_eq, bnd_s, hw, sel_t, impl_isTile_eq, bnd_s, hh, sel_t, impl_ParOk_eq, bnd_s, hp, Bool.not_true, bnd_s, sel_f, bnd_s, req_p (by omega), req_p (by omega), tdiv_pos (a := r.Wide) (by omega), tdiv_pos (a := r.High) (by omega), wk (e := r.Wide / 8) (by omega) (by omega), wk (e := r.High / 8) (by omega) (by omega), wk (e := r.Wide / 8 * (r.High / 8)) (by omega) (by omega)]
  simp only
  rw [rd, bnd_s]
  simp only
  rw [Bool.not_true, sel_f, ht, bnd_s]
 ·
  unfold impl_PartOk impl_CondFor
  rw [bnd_s]
  simp only
  rw [rd, bnd_s, impl_ParOk_eq, bnd_s, hp]
  rfl
theorem tiles_skips_len (n : Nat) (c : Cond) (hK : c.Key = false) : (tilesL (List.replicate n skipS) c).length = n := tiles_skips n c hK
theorem FnFills {p0 : List Int} (h0 : p0.length ≤ maxLen ∧ ∀ y ∈ p0, (Lit.int .u8 y).wf = true) : laws_FnFills p0 = some true := by
 have hm : maxLen = 9223372036854775807 := rfl
 unfold laws_FnFills
 rw [laws_big_eq, bnd_s]
 by_cases hb : (p0.length : Int) > 1048576
 ·
  rw [sel_yes hb]
 rw [sel_no hb]
 obtain ⟨ref, r, c, cf, ls, e, ok, ho, rw_, rh, rl, rt, hc⟩ := spec_DrawTile_ev p0 (by omega)
 obtain ⟨s, p, hd, e2, hp⟩ := spec_DrawSets_ev p0 (by omega)
 have hw := side_of rw_
 have hh := side_of rh
 have sw := sideB_parts hw
 have sh := sideB_parts hh
 have mb : r.Wide / 8 * (r.High / 8) ≤ 8 * 8 := Int.mul_le_mul (by omega) (by omega) (by omega) (by omega)
 have m0 : 1 * 1 ≤ r.Wide / 8 * (r.High / 8) := Int.mul_le_mul (by omega) (by omega) (by omega) (by omega)
 obtain ⟨n, hn⟩ : ∃ n : Nat, (n : Int) = r.Wide / 8 * (r.High / 8) := ⟨(r.Wide / 8 * (r.High / 8)).toNat, by omega⟩
 rw [e, bnd_s, e2, bnd_s]
 simp only
 rw [req_p (by omega), req_p (by omega), tdiv_pos (a := r.Wide) (by omega), tdiv_pos (a := r.High) (by omega), wk (e := r.Wide / 8) (by omega) (by omega), wk (e := r.High / 8) (by omega) (by omega), wk (e := r.Wide / 8 * (r.High / 8)) (by omega) (by omega)]
 have cg := condFor_ok hp true
 have cs := condFor_ok hp false
 have gt := grey_tile (ref := ref) (r := r) (c := ⟨true, p.Qp, p.Large, p.Exact⟩) (cf := p.Confined) (n := n) hw hh (by omega) (by omega) cg hn (fun h => by cases h)
 have st := skip_tile (ref := ref) (r := r) (c := ⟨false, p.Qp, p.Large, p.Exact⟩) (cf := p.Confined) (n := n) hw hh (by omega) (by omega) cs hn rfl ok ho
 obtain ⟨g1, g2, g3⟩ := PartShows_of (key := true) hw hh hp (by rw [List.length_replicate]; exact hn) (sqAll_rep (q := greyS) (greyS_ok ⟨true, p.Qp, p.Large, p.Exact⟩).1 (greyS_ok ⟨true, p.Qp, p.Large, p.Exact⟩).2 cg) (fun q hq => by rw [List.eq_of_mem_replicate hq]; decide) gt
 obtain ⟨s1, s2, s3⟩ := PartShows_of (key := false) hw hh hp (by rw [List.length_replicate]; exact hn) (sqAll_rep (q := skipS) (by rfl) (by rfl) cs) (fun q hq => by rw [List.eq_of_mem_replicate hq]; decide) st
 have ga : impl_GreyPart (r.Wide / 8 * (r.High / 8)) p = some (⟨true, p.Qp, strOfNums (tilesL (List.replicate n greyS) ⟨true, p.Qp, p.Large, p.Exact⟩)⟩, true) := by
  unfold impl_GreyPart
  rw [req_p (by omega), ← hn]
  have := impl_alike_eq n p true greyS hp (by omega) (by decide)
  rw [g1] at this
  exact (bnd_e this).trans rfl
 have sa : impl_SkipPart (r.Wide / 8 * (r.High / 8)) p = some (⟨false, p.Qp, strOfNums (tilesL (List.replicate n skipS) ⟨false, p.Qp, p.Large, p.Exact⟩)⟩, true) := by
  unfold impl_SkipPart
  rw [← hn]
  have := impl_alike_eq n p false skipS hp (by omega) (by decide)
  rw [s1] at this
  exact (bnd_e this).trans rfl
 rw [ga, bnd_s, sa, bnd_s]
 simp only
 rw [g2, bnd_s, s2, bnd_s, impl_CutOf_eq ok ho, bnd_s]
 simp only
 rw [sel_t, sel_t, sel_t, sel_t, impl_Grey_eq _ _ (by omega) (by omega), bnd_s]
 have pe := picEq_self (greyP r.Wide r.High)
 unfold greyP at pe ⊢
 simp only at pe ⊢
 have pc := picEq_self (cutP ref r)
 have cw : (cutP ref r).Wide = r.Wide := rfl
 rw [pe, sel_pos (by rfl), sel_pos (by simp), pc, sel_pos (by rfl), cw, sel_pos (by simp), g3, bnd_s, sel_t, s3, bnd_s, sel_t, sel_t, sel_f, strOfNums_size, tiles_skips_len n _ rfl, sel_pos (by rw [beq_iff_eq]; exact hn), impl_CondOk_eq, bnd_s, hc]
 rfl
end Go.Proofs.Ytjfkbpgdghijfaa.A.Pure
