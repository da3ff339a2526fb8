/- The pure statement of the law FnSource, part 2: over numbers, texts and lists alone, what the law computes is true. Conditions: the sizes of what a machine holds. -/
import Derived.Test.YtnhflbeahbcklaaGreatPureFnSourcex0
namespace Go.Proofs.YtnhflbeahbcklaaGreat.A.Pure
open Go Go.Proofs Go.Proofs.YtnhflbeahbcklaaGreatAL Go.RowKit
set_option linter.unusedVariables false
set_option linter.unusedSimpArgs false
set_option maxHeartbeats 1000000
theorem Yxq {f1 : Int × List Int → Option (Lp (Int × List Int) (List Int))} {f2 : Int × List Int → Int × List Int → Option (Lp (Int × List Int) (List Int))} {f3 : Int × List Int → Int × List Int → Int × List Int → Option (Lp (Int × List Int) (List Int))} (t : Nat → Nat → Nat → Int)
  (h1 : ∀ v, f1 v = sel (decide (v.1 < 8)) (bnd (loop (f2 v) (0, v.2)) fun w => some (.go (Xaa .i64 (v.1 + 1), w))) (some (.done v.2)))
  (h2 : ∀ v w, f2 v w = sel (decide (w.1 < 8)) (bnd (loop (f3 v w) (0, w.2)) fun x => some (.go (Xaa .i64 (w.1 + 1), x))) (some (.done w.2)))
  (h3 : ∀ (i v k : Nat) (a b s : List Int), i < 8 → v < 8 → k < 8 → s.length = 64 → f3 ((i : Int), a) ((v : Int), b) ((k : Int), s) = some (.go (((k + 1 : Nat) : Int), s.set (8 * i + v) (Xaa .i64 (s.getD (8 * i + v) 0 + t i v k)))))
  (h4 : ∀ (i v : Nat) (a b s : List Int), f3 ((i : Int), a) ((v : Int), b) (8, s) = some (.done s)) : loop f1 (0, List.replicate 64 0) = some ((List.range 64).map fun j => Yvg (t (j / 8) (j % 8)) 8) := by
 obtain ⟨o, e, o1, o2, _⟩ := Xoy (f := f1) 8 (fun i s => s.length = 64 ∧ (∀ j, j < 8 * i → s.getD j 0 = Yvg (t (j / 8) (j % 8)) 8) ∧ ∀ j, 8 * i ≤ j → s.getD j 0 = 0) (by
  intro i s hi ⟨g1, g2, g3⟩
  obtain ⟨r, er, r1, r2, r3⟩ := Xoy (f := f2 ((i : Int), s)) 8 (fun v s => s.length = 64 ∧ (∀ j, j < 8 * i + v → s.getD j 0 = Yvg (t (j / 8) (j % 8)) 8) ∧ ∀ j, 8 * i + v ≤ j → s.getD j 0 = 0) (by
   intro v s' hv ⟨k1, k2, k3⟩
   obtain ⟨q, eq, q1, q2, q3⟩ := Xoy (f := f3 ((i : Int), s) ((v : Int), s')) 8 (fun k s => s.length = 64 ∧ (∀ j, j ≠ 8 * i + v → s.getD j 0 = s'.getD j 0) ∧ s.getD (8 * i + v) 0 = Yvg (t i v) k) (by
    intro k s'' hk ⟨m1, m2, m3⟩
    refine ⟨_, h3 i v k s s' s'' hi hv hk m1, by rw [List.length_set]; exact m1, fun j hj => ?_, ?_⟩
    ·
     rw [Xft _ _ _ _ (by omega), if_neg (fun h => hj h.symm)]; exact m2 j hj
    ·
     rw [Xft _ _ _ _ (by omega), if_pos rfl, m3]; rfl) (fun z _ => h4 i v s s' z) s' ⟨k1, fun _ _ => rfl, by rw [k3 _ (Nat.le_refl _)]; rfl⟩
   refine ⟨q, by rw [h2, Xbf (by simp only; omega), eq, Xad, wk (by simp only; omega) (by simp only; omega)]; rfl, q1, fun j hj => ?_, fun j hj => ?_⟩
   ·
    by_cases h : j = 8 * i + v
    ·
     rw [h, q3, show (8 * i + v) / 8 = i by omega, show (8 * i + v) % 8 = v by omega]
    ·
     rw [q2 j h]; exact k2 j (by omega)
   ·
    rw [q2 j (by omega)]; exact k3 j (by omega)) (fun z _ => by rw [h2, Xav (by simp)]) s ⟨g1, g2, g3⟩
  refine ⟨r, by rw [h1, Xbf (by simp only; omega), er, Xad, wk (by simp only; omega) (by simp only; omega)]; rfl, r1, fun j hj => r2 j (by omega), fun j hj => r3 j (by omega)⟩) (fun z _ => by rw [h1, Xav (by simp)]) (List.replicate 64 0) ⟨by simp, fun j hj => by omega, fun j _ => by
   by_cases h : j < 64
   ·
    rw [Xcd _ _ (by rw [List.length_replicate]; exact h)]; exact List.getElem_replicate ..
   ·
    rw [List.getD_eq_getElem?_getD, List.getElem?_eq_none (by rw [List.length_replicate]; omega)]; rfl⟩
 rw [e]
 congr 1
 exact Yff o1 (by simp) fun j hj => by rw [o2 j (by omega), Xh9 (fun j => Yvg (t (j / 8) (j % 8)) 8) hj]
theorem Yg0 (p : List Int) (hp : p.length = 64) : Xtb p = some (Zbu p) := by
 unfold Xtb
 rw [rqA]
 have e1 : loop (Xue p) (0, List.replicate (64 : Int).toNat 0) = some (Xvz p) :=
  Yxq (f2 := Xuf p) (f3 := Xms p) (fun i v k => Zhb p i v k) (fun _ => rfl) (fun _ _ => rfl) (fun i v k a b s hi hv hk hs => by
   unfold Xms
   simp only
   rw [syA, wkA (e := 8 * (i : Int)), wkA (e := 8 * (i : Int) + (v : Int)), wkA (e := 8 * (i : Int) + (k : Int)), rqA, rqA, Ygp v k hv hk, Xad, rqA, rqA, rqA, wkA (e := (k : Int) + 1), show (8 * (i : Int) + (v : Int)).toNat = 8 * i + v by omega, show (8 * (i : Int) + (k : Int)).toNat = 8 * i + k by omega]
   rfl) (fun i v a b s => by unfold Xms; rw [Xav (by simp)])
 have e2 : loop (Xsd (Xvz p)) (0, List.replicate (64 : Int).toNat 0) = some (Zbu p) :=
  Yxq (f2 := Xse (Xvz p)) (f3 := Xki (Xvz p)) (fun i v k => Zgu (Xvz p) i v k) (fun _ => rfl) (fun _ _ => rfl) (fun i v k a b s hi hv hk hs => by
   have hl := Yv9 p
   unfold Xki
   simp only
   rw [syA, wkA (e := 8 * (i : Int)), wkA (e := 8 * (i : Int) + (v : Int)), wkA (e := 8 * (k : Int)), wkA (e := 8 * (k : Int) + (v : Int)), rqA, rqA, Ygp i k hi hk, Xad, rqA, rqA, rqA, rqA, wkA (e := (k : Int) + 1), show (8 * (i : Int) + (v : Int)).toNat = 8 * i + v by omega, show (8 * (k : Int) + (v : Int)).toNat = 8 * k + v by omega]
   rfl) (fun i v a b s => by unfold Xki; rw [Xav (by simp)])
 rw [e1, Xad, rqA, e2, Xad]
theorem Yr3 (p : List Int) (hp : p.length = 64) (i v : Nat) (hi : i < 8) (hv : v < 8) : Xli p i v = some (Yvg (Zhb p i v) 8) := by
 obtain ⟨o, e, h⟩ := Xrm (f := Xen p i v) 8 (fun k s => s = Yvg (Zhb p i v) k) (by
  intro k s hk g
  subst g
  unfold Xen
  simp only
  rw [syA, wkA (e := 8 * (i : Int)), wkA (e := 8 * (i : Int) + (k : Int)), rqA, Xzc v k hv hk, Xad, wkA (e := (k : Int) + 1), show (8 * (i : Int) + (k : Int)).toNat = 8 * i + k by omega, Int.mul_comm (p.getD _ _)]
  exact ⟨_, rfl, rfl⟩) (by intro s; unfold Xen; rw [Xav (by simp)]) 0 rfl
 unfold Xli
 rw [e, Xad, h]
theorem Xw8 (p : List Int) (hp : p.length = 64) : Xg0 p = some (Zbu p) := by
 have hm : maxLen = 9223372036854775807 := rfl
 unfold Xg0
 obtain ⟨o, e, ho⟩ := Xea (f := Xc4 p) 8 (fun i s => s = (List.range (8 * i)).map fun j => Yvg (Zhb p (j / 8) (j % 8)) 8) (by
  intro i s hi g
  subst g
  obtain ⟨r, er, hr⟩ := Xea (f := Xc5 p ((i : Int), (List.range (8 * i)).map fun j => Yvg (Zhb p (j / 8) (j % 8)) 8)) 8 (fun v s => s = (List.range (8 * i + v)).map fun j => Yvg (Zhb p (j / 8) (j % 8)) 8) (by
   intro v s hv g
   subst g
   unfold Xc5
   simp only
   rw [syA, Yr3 p hp i v hi hv, Xad, Xax (by simp only [List.length_singleton, List.length_map, List.length_range]; omega), wkA (e := (v : Int) + 1)]
   refine ⟨_, rfl, ?_⟩
   rw [show 8 * i + (v + 1) = (8 * i + v) + 1 by omega, List.range_succ, List.map_append, List.map_singleton, show (8 * i + v) / 8 = i by omega, show (8 * i + v) % 8 = v by omega]) (by intro s; unfold Xc5; rw [Xav (by simp)]) _ rfl
  rw [Nat.add_zero] at er
  unfold Xc4
  simp only
  rw [syA, er, Xad, wkA (e := (i : Int) + 1)]
  exact ⟨_, rfl, by rw [hr, show 8 * (i + 1) = 8 * i + 8 by omega]⟩) (by intro s; unfold Xc4; rw [Xav (by simp)]) [] rfl
 have ho' : o = Xvz p := by rw [ho]; rfl
 rw [e, Xad, ho']
 obtain ⟨o2, e2, ho2⟩ := Xea (f := Xcp (Xvz p)) 8 (fun i s => s = (List.range (8 * i)).map fun j => Yvg (Zgu (Xvz p) (j / 8) (j % 8)) 8) (by
  intro i s hi g
  subst g
  obtain ⟨r, er, hr⟩ := Xea (f := Xcq (Xvz p) ((i : Int), (List.range (8 * i)).map fun j => Yvg (Zgu (Xvz p) (j / 8) (j % 8)) 8)) 8 (fun v s => s = (List.range (8 * i + v)).map fun j => Yvg (Zgu (Xvz p) (j / 8) (j % 8)) 8) (by
   intro v s hv g
   obtain ⟨c, ec, hc⟩ := Xrm (f := Xcr (Xvz p) ((i : Int), (List.range (8 * i)).map fun j => Yvg (Zgu (Xvz p) (j / 8) (j % 8)) 8) ((v : Int), s)) 8 (fun k x => x = Yvg (Zgu (Xvz p) i v) k) (by
    intro k x hk g
    subst g
    have hl := Yv9 p
    unfold Xcr
    simp only
    rw [syA, Xzc i k hi hk, Xad, wkA (e := 8 * (k : Int)), wkA (e := 8 * (k : Int) + (v : Int)), rqA, rqA, wkA (e := (k : Int) + 1), show (8 * (k : Int) + (v : Int)).toNat = 8 * k + v by omega]
    exact ⟨_, rfl, rfl⟩) (by intro s; unfold Xcr; rw [Xav (by simp)]) 0 rfl
   subst g
   unfold Xcq
   simp only
   rw [syA, ec, Xad, Xax (by simp only [List.length_singleton, List.length_map, List.length_range]; omega), wkA (e := (v : Int) + 1)]
   refine ⟨_, rfl, ?_⟩
   rw [hc, show 8 * i + (v + 1) = (8 * i + v) + 1 by omega, List.range_succ, List.map_append, List.map_singleton, show (8 * i + v) / 8 = i by omega, show (8 * i + v) % 8 = v by omega]) (by intro s; unfold Xcq; rw [Xav (by simp)]) _ rfl
  rw [Nat.add_zero] at er
  unfold Xcp
  simp only
  rw [syA, er, Xad, wkA (e := (i : Int) + 1)]
  exact ⟨_, rfl, by rw [hr, show 8 * (i + 1) = 8 * i + 8 by omega]⟩) (by intro s; unfold Xcp; rw [Xav (by simp)]) [] rfl
 rw [e2, Xad, ho2]
 rfl
theorem Xsw (l : List Int) (n B : Int) (hn : (l.length : Int) = n) (hn2 : n ≤ 1000000) (h : inB B l) : Xbp l n (-B) B = some true := by
 rw [Xmn l n (-B) B (by omega), hn, beq_self_eq_true, Bool.and_true]
 congr 1
 rw [List.all_eq_true]
 intro x hx
 rw [decide_eq_true_eq]; exact h x hx
theorem Yc4 (o : List Int) {f : Int × List Int → Option (Lp (Int × List Int) (List Int))} (n : Nat) (hn : n ≤ 64) (hl : o.length = n) (hf : ∀ v : Int × List Int, f v = sel (decide (v.1 < (n : Int))) (req (0 ≤ v.1 ∧ v.1 < v.2.length) <| req (v.1.toNat < v.2.length) <| bnd (Xc3 (Xaa .i64 ((v.2.getD v.1.toNat 0) + 32)) 64) fun q => req (0 ≤ v.1 ∧ v.1 < v.2.length) <| req (v.1.toNat < v.2.length) <| some (.go (Xaa .i64 (v.1 + 1), (v.2.set v.1.toNat q)))) (some (.done v.2))) : bnd (Xlu o) (fun q => some q.2) = bnd (loop f (0, o)) fun q => some q := by
 unfold Xlu
 have : Xqs o = f := by
  funext v
  rw [hf, ← hl]; rfl
 rw [this]
 cases loop f (0, o) <;> rfl
theorem Yk0 (p : List Int) (hl : p.length = 64) (hb : inB 10000000 p) : Xkc p = Xf1 p := by
 unfold Xkc Xf1
 rw [Xsw p 64 10000000 (by omega) (by omega) hb, Xcy p 64 10000000 (by omega) (by omega) (by omega) hb, Xad, Xad, Bool.not_true, Xaw, Xaw, Yg0 p hl, Xw8 p hl, Xad, Xad]
 exact Yc4 (Zbu p) 64 (by omega) (Zdw p) (fun _ => rfl)
theorem Yxu (p : List Int) (hl : p.length = 64) (hb : inB 1000 p) : Xs0 p = Xoe p := by
 unfold Xs0 Xoe
 rw [Xsw p 64 1000 (by omega) (by omega) hb, Xcy p 64 1000 (by omega) (by omega) (by omega) hb, Xad, Xad, Bool.not_true, Xaw, Xaw, Yg0 p hl, Xw8 p hl, Xad]
def tgA (q : Int → Int → Int → Int → Option (Int × Int × Int × Int)) (v4 : (Int × (List Int))) : Option (Lp (Int × (List Int)) (List Int)) :=
 sel (decide (v4.1 < 16)) (
 req (0 ≤ v4.1 ∧ v4.1 < v4.2.length) <|
 req (v4.1.toNat < v4.2.length) <|
 req (0 ≤ (Xaa .i64 (v4.1 + 1)) ∧ (Xaa .i64 (v4.1 + 1)) < v4.2.length) <|
 req ((Xaa .i64 (v4.1 + 1)).toNat < v4.2.length) <|
 req (0 ≤ (Xaa .i64 (v4.1 + 2)) ∧ (Xaa .i64 (v4.1 + 2)) < v4.2.length) <|
 req ((Xaa .i64 (v4.1 + 2)).toNat < v4.2.length) <|
 req (0 ≤ (Xaa .i64 (v4.1 + 3)) ∧ (Xaa .i64 (v4.1 + 3)) < v4.2.length) <|
 req ((Xaa .i64 (v4.1 + 3)).toNat < v4.2.length) <|
 bnd (q (v4.2.getD v4.1.toNat 0) (v4.2.getD ((Xaa .i64 (v4.1 + 1)).toNat) 0) (v4.2.getD ((Xaa .i64 (v4.1 + 2)).toNat) 0) (v4.2.getD ((Xaa .i64 (v4.1 + 3)).toNat) 0)) fun q8 =>
 req (0 ≤ v4.1 ∧ v4.1 ≤ (Xaa .i64 (v4.1 + 4)) ∧ (Xaa .i64 (v4.1 + 4)) ≤ (v4.2.length : Int)) <|
 req ((v4.1.toNat + ((Xaa .i64 (v4.1 + 4)).toNat - v4.1.toNat) ≤ v4.2.length ∧ ([q8.1, q8.2.1, q8.2.2.1, q8.2.2.2]).length ≤ ((Xaa .i64 (v4.1 + 4)).toNat - v4.1.toNat))) <|
 some (.go (Xaa .i64 (v4.1 + 4), (over v4.2 v4.1.toNat ([q8.1, q8.2.1, q8.2.2.1, q8.2.2.2]))))) (
 some (.done v4.2))
def tgB (v17 : (Int × (List Int))) (q26 : (Int × Int × Int × Int)) (v28 : (Int × (List Int))) : Option (Lp (Int × (List Int)) (List Int)) :=
 sel (decide (v28.1 < 4)) (
 req (0 ≤ v28.1 ∧ v28.1 < ([q26.1, q26.2.1, q26.2.2.1, q26.2.2.2] : List Int).length) <|
 req (0 ≤ (Xaa .i64 (v17.1 + (Xaa .i64 (4 * v28.1)))) ∧ (Xaa .i64 (v17.1 + (Xaa .i64 (4 * v28.1)))) < v28.2.length) <|
 req ((Xaa .i64 (v17.1 + (Xaa .i64 (4 * v28.1)))).toNat < v28.2.length) <|
 some (.go (Xaa .i64 (v28.1 + 1), (v28.2.set ((Xaa .i64 (v17.1 + (Xaa .i64 (4 * v28.1)))).toNat) (([q26.1, q26.2.1, q26.2.2.1, q26.2.2.2] : List Int).getD v28.1.toNat 0))))) (
 some (.done v28.2))
noncomputable def tgC (q : Int → Int → Int → Int → Option (Int × Int × Int × Int)) (v17 : (Int × (List Int))) : Option (Lp (Int × (List Int)) (List Int)) :=
 sel (decide (v17.1 < 4)) (
 req (0 ≤ v17.1 ∧ v17.1 < v17.2.length) <|
 req (v17.1.toNat < v17.2.length) <|
 req (0 ≤ (Xaa .i64 (v17.1 + 4)) ∧ (Xaa .i64 (v17.1 + 4)) < v17.2.length) <|
 req ((Xaa .i64 (v17.1 + 4)).toNat < v17.2.length) <|
 req (0 ≤ (Xaa .i64 (v17.1 + 8)) ∧ (Xaa .i64 (v17.1 + 8)) < v17.2.length) <|
 req ((Xaa .i64 (v17.1 + 8)).toNat < v17.2.length) <|
 req (0 ≤ (Xaa .i64 (v17.1 + 12)) ∧ (Xaa .i64 (v17.1 + 12)) < v17.2.length) <|
 req ((Xaa .i64 (v17.1 + 12)).toNat < v17.2.length) <|
 bnd (q (v17.2.getD v17.1.toNat 0) (v17.2.getD ((Xaa .i64 (v17.1 + 4)).toNat) 0) (v17.2.getD ((Xaa .i64 (v17.1 + 8)).toNat) 0) (v17.2.getD ((Xaa .i64 (v17.1 + 12)).toNat) 0)) fun q26 =>
 bnd (loop (tgB v17 q26) (0, v17.2)) fun v30 =>
 some (.go (Xaa .i64 (v17.1 + 1), v30))) (
 some (.done v17.2))
noncomputable def Zf0 (q : Int → Int → Int → Int → Option (Int × Int × Int × Int)) (p0 : (List Int)) : Option (List Int) :=
 bnd (Xed p0) fun q1 =>
 bnd (loop (tgA q) (0, q1)) fun v7 =>
 bnd (loop (tgC q) (0, v7)) fun v25 =>
 some v25
theorem Zdy : Xcu = Zf0 Xev := rfl
theorem Zdz : Xef = Zf0 Xnv := rfl
abbrev Q4 := Int × Int × Int × Int
def Yw6 (q : Q4) (i : Nat) : Int := [q.1, q.2.1, q.2.2.1, q.2.2.2].getD i 0
def Xx8 (t : Int → Int → Int → Int → Q4) (p : List Int) : List Int := (List.range 16).map fun j => Yw6 (t (p.getD (4 * (j / 4)) 0) (p.getD (4 * (j / 4) + 1) 0) (p.getD (4 * (j / 4) + 2) 0) (p.getD (4 * (j / 4) + 3) 0)) (j % 4)
def Ybc (p : List Int) : List Int := (List.range 16).map fun j => p.getD (j % 4 * 4 + j / 4) 0
theorem Xtj (t : Int → Int → Int → Int → Q4) (p : List Int) : (Xx8 t p).length = 16 := by simp [Xx8]
theorem Xvy (p : List Int) : (Ybc p).length = 16 := by simp [Ybc]
theorem Yw4 {l m : List Int} {i : Nat} (h : i + m.length ≤ l.length) (j : Nat) : (over l i m).getD j 0 = if i ≤ j ∧ j < i + m.length then m.getD (j - i) 0 else l.getD j 0 := by
 rw [List.getD_eq_getElem?_getD, Yz4 h]
 split <;> rw [List.getD_eq_getElem?_getD]
theorem Zan {q : Int → Int → Int → Int → Option Q4} {t : Int → Int → Int → Int → Q4} (hq : ∀ a b c d, q a b c d = some (t a b c d)) (p : List Int) (hp : p.length = 16) : Zf0 q p = some (Ybc (Xx8 t (Ybc (Xx8 t p)))) := by
 have hm : maxLen = 9223372036854775807 := rfl
 unfold Zf0 Xed
 rw [Xax (by simp only [List.length_nil]; omega), Xad, List.nil_append]
 have hA : loop (tgA q) (0, p) = some (Xx8 t p) := by
  have key : ∀ r : Nat, r ≤ 4 → ∀ s : List Int, s.length = 16 → (∀ j, j < 4 * r → s.getD j 0 = (Xx8 t p).getD j 0) → (∀ j, 4 * r ≤ j → s.getD j 0 = p.getD j 0) → loop (tgA q) (((4 * r : Nat) : Int), s) = some (Xx8 t p) := by
   refine Xgb _ ?_ ?_
   ·
    intro s h1 h2 _
    refine Xd8 ?_
    unfold tgA
    rw [Xav (by simp), Yff h1 (Xtj t p) h2]
   ·
    intro r hr ih s h1 h2 h3
    refine lgo (y := (((4 * (r + 1) : Nat) : Int), over s (4 * r) [Yw6 (t (p.getD (4 * r) 0) (p.getD (4 * r + 1) 0) (p.getD (4 * r + 2) 0) (p.getD (4 * r + 3) 0)) 0, Yw6 (t (p.getD (4 * r) 0) (p.getD (4 * r + 1) 0) (p.getD (4 * r + 2) 0) (p.getD (4 * r + 3) 0)) 1, Yw6 (t (p.getD (4 * r) 0) (p.getD (4 * r + 1) 0) (p.getD (4 * r + 2) 0) (p.getD (4 * r + 3) 0)) 2, Yw6 (t (p.getD (4 * r) 0) (p.getD (4 * r + 1) 0) (p.getD (4 * r + 2) 0) (p.getD (4 * r + 3) 0)) 3])) ?_ (ih _ ?_ ?_ ?_)
    ·
     unfold tgA
     simp only
     rw [syA, wkA (e := ((4 * r : Nat) : Int) + 1), wkA (e := ((4 * r : Nat) : Int) + 2), wkA (e := ((4 * r : Nat) : Int) + 3), wkA (e := ((4 * r : Nat) : Int) + 4)]
     rw [rqA, rqA, rqA, rqA, rqA, rqA, rqA, rqA, hq, Xad, rqA, Xax (by simp only [List.length_cons, List.length_nil]; omega)]
     rw [show (((4 * r : Nat) : Int) + 1).toNat = 4 * r + 1 by omega, show (((4 * r : Nat) : Int) + 2).toNat = 4 * r + 2 by omega, show (((4 * r : Nat) : Int) + 3).toNat = 4 * r + 3 by omega, Int.toNat_natCast, h3 _ (by omega), h3 _ (by omega), h3 _ (by omega), h3 _ (by omega)]
     rfl
    ·
     rw [Yna (by simp only [List.length_cons, List.length_nil]; omega)]; exact h1
    ·
     intro j hj
     rw [Yw4 (by simp only [List.length_cons, List.length_nil]; omega)]
     simp only [List.length_cons, List.length_nil]
     by_cases h : 4 * r ≤ j
     ·
      rw [if_pos (by omega)]
      unfold Xx8
      rw [Xh9 _ (by omega), show 4 * (j / 4) = 4 * r by omega]
      obtain h | h | h | h : j = 4 * r ∨ j = 4 * r + 1 ∨ j = 4 * r + 2 ∨ j = 4 * r + 3 := by omega
      ·
       rw [h, show 4 * r - 4 * r = 0 by omega, show (4 * r) % 4 = 0 by omega]; rfl
      ·
       rw [h, show 4 * r + 1 - 4 * r = 1 by omega, show (4 * r + 1) % 4 = 1 by omega]; rfl
      ·
       rw [h, show 4 * r + 2 - 4 * r = 2 by omega, show (4 * r + 2) % 4 = 2 by omega]; rfl
      ·
       rw [h, show 4 * r + 3 - 4 * r = 3 by omega, show (4 * r + 3) % 4 = 3 by omega]; rfl
     ·
      rw [if_neg (by omega)]; exact h2 j (by omega)
    ·
     intro j hj
     rw [Yw4 (by simp only [List.length_cons, List.length_nil]; omega), if_neg (by simp only [List.length_cons, List.length_nil]; omega)]
     exact h3 j (by omega)
  exact key 0 (by omega) p hp (fun j hj => by omega) fun _ _ => rfl
 rw [hA, Xad]
 generalize hR : Xx8 t p = R
 have hl : R.length = 16 := by rw [← hR]; exact Xtj t p
 have hC : loop (tgC q) (0, R) = some (Ybc (Xx8 t (Ybc R))) := by
  have at4 : ∀ j : Nat, j < 16 → (Ybc (Xx8 t (Ybc R))).getD j 0 = Yw6 (t (R.getD (j % 4) 0) (R.getD (j % 4 + 4) 0) (R.getD (j % 4 + 8) 0) (R.getD (j % 4 + 12) 0)) (j / 4) := by
   intro j hj
   rw [Ybc, Xh9 _ hj, Xx8, Xh9 _ (by omega), Ybc, Xh9 _ (by omega), Xh9 _ (by omega), Xh9 _ (by omega), Xh9 _ (by omega)]
   rw [show (j % 4 * 4 + j / 4) / 4 = j % 4 by omega, show (j % 4 * 4 + j / 4) % 4 = j / 4 by omega, show 4 * (j % 4) % 4 * 4 + 4 * (j % 4) / 4 = j % 4 by omega, show (4 * (j % 4) + 1) % 4 * 4 + (4 * (j % 4) + 1) / 4 = j % 4 + 4 by omega, show (4 * (j % 4) + 2) % 4 * 4 + (4 * (j % 4) + 2) / 4 = j % 4 + 8 by omega, show (4 * (j % 4) + 3) % 4 * 4 + (4 * (j % 4) + 3) / 4 = j % 4 + 12 by omega]
  obtain ⟨o, e, o1, o2, _⟩ := Xoy (f := tgC q) 4 (fun c s => s.length = 16 ∧ (∀ j, j < 16 → j % 4 < c → s.getD j 0 = (Ybc (Xx8 t (Ybc R))).getD j 0) ∧ ∀ j, j < 16 → c ≤ j % 4 → s.getD j 0 = R.getD j 0) (by
   intro c s hc ⟨g1, g2, g3⟩
   obtain ⟨r, er, r1, r2, r3⟩ := Xoy (f := tgB ((c : Int), s) (t (R.getD c 0) (R.getD (c + 4) 0) (R.getD (c + 8) 0) (R.getD (c + 12) 0))) 4 (fun i s' => s'.length = 16 ∧ (∀ j, j < 16 → j % 4 ≠ c → s'.getD j 0 = s.getD j 0) ∧ ∀ j, j < 16 → j % 4 = c → j / 4 < i → s'.getD j 0 = Yw6 (t (R.getD c 0) (R.getD (c + 4) 0) (R.getD (c + 8) 0) (R.getD (c + 12) 0)) (j / 4)) (by
    intro i s' hi ⟨k1, k2, k3⟩
    unfold tgB
    simp only
    rw [syA, Xax (by simp only [List.length_cons, List.length_nil]; omega), wkA (e := 4 * (i : Int)), wkA (e := (c : Int) + 4 * (i : Int)), rqA, rqA, wkA (e := (i : Int) + 1), show ((c : Int) + 4 * (i : Int)).toNat = c + 4 * i by omega, Int.toNat_natCast]
    refine ⟨_, rfl, by rw [List.length_set]; exact k1, fun j hj hjc => ?_, fun j hj hjc hji => ?_⟩
    ·
     rw [Xft _ _ _ _ (by omega), if_neg (by omega)]; exact k2 j hj hjc
    ·
     rw [Xft _ _ _ _ (by omega)]
     by_cases h : c + 4 * i = j
     ·
      rw [if_pos h, show j / 4 = i by omega]; rfl
     ·
      rw [if_neg h]; exact k3 j hj hjc (by omega)) (fun z _ => by unfold tgB; rw [Xav (by simp)]) s ⟨g1, fun _ _ _ => rfl, fun j hj hjc hji => by omega⟩
   unfold tgC
   simp only
   rw [syA, wkA (e := (c : Int) + 4), wkA (e := (c : Int) + 8), wkA (e := (c : Int) + 12), rqA, rqA, rqA, rqA, rqA, rqA, rqA, rqA, hq, Xad, show ((c : Int) + 4).toNat = c + 4 by omega, show ((c : Int) + 8).toNat = c + 8 by omega, show ((c : Int) + 12).toNat = c + 12 by omega, Int.toNat_natCast, g3 c (by omega) (by omega), g3 (c + 4) (by omega) (by omega), g3 (c + 8) (by omega) (by omega), g3 (c + 12) (by omega) (by omega), er, Xad, wkA (e := (c : Int) + 1)]
   refine ⟨r, rfl, r1, fun j hj hjc => ?_, fun j hj hjc => ?_⟩
   ·
    by_cases h : j % 4 = c
    ·
     rw [r3 j hj h (by omega), at4 j hj, h]
    ·
     rw [r2 j hj h]; exact g2 j hj (by omega)
   ·
    rw [r2 j hj (by omega)]; exact g3 j hj (by omega)) (fun z _ => by unfold tgC; rw [Xav (by simp)]) R ⟨hl, fun j hj hjc => by omega, fun _ _ _ => rfl⟩
  rw [e]
  congr 1
  exact Yff o1 (Xvy _) fun j hj => o2 j hj (by omega)
 rw [hC, Xad]
theorem Xnd (p : List Int) (hl : p.length = 16) : Xem p = some (Ybc p) := by
 unfold Xem
 rw [rqA]
 obtain ⟨o, e, o1, o2⟩ := Xoy (f := Xd3 p) 16 (fun i s => s.length = 16 ∧ ∀ j, j < 16 → j % 4 * 4 + j / 4 < i → s.getD j 0 = p.getD (j % 4 * 4 + j / 4) 0) (by
  intro i s hi ⟨g1, g2⟩
  unfold Xd3
  simp only
  rw [syA, rqA, rqA, rqA, Xb1 (by omega), Xb2 (by omega), wkA (e := (i : Int) / 4), wkA (e := (i : Int) % 4 * 4), wkA (e := (i : Int) % 4 * 4 + (i : Int) / 4), rqA, rqA, wkA (e := (i : Int) + 1), Int.toNat_natCast, show ((i : Int) % 4 * 4 + (i : Int) / 4).toNat = i % 4 * 4 + i / 4 by omega]
  refine ⟨_, rfl, by rw [List.length_set]; exact g1, fun j hj hji => ?_⟩
  rw [Xft _ _ _ _ (by omega)]
  by_cases h : i % 4 * 4 + i / 4 = j
  ·
   rw [if_pos h, show j % 4 * 4 + j / 4 = i by omega]
  ·
   rw [if_neg h]; exact g2 j hj (by omega)) (fun z _ => by unfold Xd3; rw [Xav (by simp)]) (List.replicate (16 : Int).toNat 0) ⟨by simp, fun j hj h => by omega⟩
 rw [e, Xad]
 congr 1
 exact Yff o1 (Xvy p) fun j hj => by rw [o2 j hj (by omega), Ybc, Xh9 _ hj]
theorem Yxb {f : Int × List Int → Option (Lp (Int × List Int) (List Int))} {t : Int → Int → Int → Int → Q4} (p : List Int) (h : ∀ (i : Nat) (s : List Int), i < 4 → s.length = 4 * i → f ((i : Int), s) = some (.go (((i + 1 : Nat) : Int), s ++ [(t (p.getD (4 * i) 0) (p.getD (4 * i + 1) 0) (p.getD (4 * i + 2) 0) (p.getD (4 * i + 3) 0)).1, (t (p.getD (4 * i) 0) (p.getD (4 * i + 1) 0) (p.getD (4 * i + 2) 0) (p.getD (4 * i + 3) 0)).2.1, (t (p.getD (4 * i) 0) (p.getD (4 * i + 1) 0) (p.getD (4 * i + 2) 0) (p.getD (4 * i + 3) 0)).2.2.1, (t (p.getD (4 * i) 0) (p.getD (4 * i + 1) 0) (p.getD (4 * i + 2) 0) (p.getD (4 * i + 3) 0)).2.2.2]))) (he : ∀ s, f (4, s) = some (.done s)) : loop f (0, []) = some (Xx8 t p) := by
 obtain ⟨o, e, ho⟩ := Xoy (f := f) 4 (fun i s => s = (List.range (4 * i)).map fun j => Yw6 (t (p.getD (4 * (j / 4)) 0) (p.getD (4 * (j / 4) + 1) 0) (p.getD (4 * (j / 4) + 2) 0) (p.getD (4 * (j / 4) + 3) 0)) (j % 4)) (by
  intro i s hi g
  refine ⟨_, h i s hi (by rw [g]; simp), ?_⟩
  rw [g, show 4 * (i + 1) = 4 * i + 1 + 1 + 1 + 1 by omega]
  simp only [List.range_succ, List.map_append, List.map_singleton, List.append_assoc]
  rw [show (4 * i + 1 + 1 + 1) / 4 = i by omega, show (4 * i + 1 + 1) / 4 = i by omega, show (4 * i + 1) / 4 = i by omega, show 4 * i / 4 = i by omega, show (4 * i + 1 + 1 + 1) % 4 = 3 by omega, show (4 * i + 1 + 1) % 4 = 2 by omega, show (4 * i + 1) % 4 = 1 by omega, show 4 * i % 4 = 0 by omega]
  rfl) (fun z _ => he z) [] rfl
 rw [e, ho]; rfl
def t4F (a b c d : Int) : Q4 := (Xaa .i64 ((Xaa .i64 ((Xaa .i64 (a + b)) + c)) + d), Xaa .i64 ((Xaa .i64 ((Xaa .i64 ((Xaa .i64 (2 * a)) + b)) - c)) - (Xaa .i64 (2 * d))), Xaa .i64 ((Xaa .i64 ((Xaa .i64 (a - b)) - c)) + d), Xaa .i64 ((Xaa .i64 ((Xaa .i64 (a - (Xaa .i64 (2 * b)))) + (Xaa .i64 (2 * c)))) - d))
theorem Ypw (a b c d : Int) : Xnv a b c d = some (t4F a b c d) := rfl
def Ysi (a b : Int) : Int := Xaa .i64 (if a.tmod b < 0 then Xaa .i64 (a.tdiv b) - 1 else a.tdiv b)
theorem Xxr (a b : Int) (hb : b ≠ 0) : Xc3 a b = some (Ysi a b) := by
 unfold Xc3 Ysi
 rw [Xax hb, Xax hb, Ynl]
 split <;> rfl
def t4B (a b c d : Int) : Q4 := (Xaa .i64 ((Xaa .i64 (a + c)) + (Xaa .i64 (b + Ysi d 2))), Xaa .i64 ((Xaa .i64 (a - c)) + (Xaa .i64 (Ysi b 2 - d))), Xaa .i64 ((Xaa .i64 (a - c)) - (Xaa .i64 (Ysi b 2 - d))), Xaa .i64 ((Xaa .i64 (a + c)) - (Xaa .i64 (b + Ysi d 2))))
theorem Ybj (a b c d : Int) : Xev a b c d = some (t4B a b c d) := by
 unfold Xev
 rw [Yx7, Xxr b 2 (by omega), Xxr d 2 (by omega), Xad, Xad]; rfl
theorem Xvd (p : List Int) (hl : p.length = 16) : Xfr p = some (Xx8 t4B p) := by
 have hm : maxLen = 9223372036854775807 := rfl
 unfold Xfr
 rw [Yxb (f := Xc2 p) (t := t4B) p (by
  intro i s hi hs
  unfold Xc2
  simp only
  rw [syA, wkA (e := 4 * (i : Int)), wkA (e := 4 * (i : Int) + 1), wkA (e := 4 * (i : Int) + 2), wkA (e := 4 * (i : Int) + 3), rqA, rqA, rqA, rqA, show (4 * (i : Int)).toNat = 4 * i by omega, show (4 * (i : Int) + 1).toNat = 4 * i + 1 by omega, show (4 * (i : Int) + 2).toNat = 4 * i + 2 by omega, show (4 * (i : Int) + 3).toNat = 4 * i + 3 by omega, Xxr _ 2 (by omega), Xad, Xxr _ 2 (by omega), Xad, wkA (e := (i : Int) + 1), Xax (by simp only [List.length_cons, List.length_nil]; omega)]
  rfl) (by intro s; unfold Xc2; rw [Xav (by simp)]), Xad]
theorem Xw5 (p : List Int) (hl : p.length = 16) : Xgz p = some (Xx8 t4F p) := by
 have hm : maxLen = 9223372036854775807 := rfl
 unfold Xgz
 rw [Yxb (f := Xd4 p) (t := t4F) p (by
  intro i s hi hs
  unfold Xd4
  simp only
  rw [syA, wkA (e := 4 * (i : Int)), wkA (e := 4 * (i : Int) + 1), wkA (e := 4 * (i : Int) + 2), wkA (e := 4 * (i : Int) + 3), rqA, rqA, rqA, rqA, show (4 * (i : Int)).toNat = 4 * i by omega, show (4 * (i : Int) + 1).toNat = 4 * i + 1 by omega, show (4 * (i : Int) + 2).toNat = 4 * i + 2 by omega, show (4 * (i : Int) + 3).toNat = 4 * i + 3 by omega, wkA (e := (i : Int) + 1), Xax (by simp only [List.length_cons, List.length_nil]; omega)]
  rfl) (by intro s; unfold Xd4; rw [Xav (by simp)]), Xad]
theorem Ypn (p : List Int) (hl : p.length = 16) (hb : inB 10000000 p) : Xmd p = Xhb p := by
 unfold Xmd Xhb
 rw [Xsw p 16 10000000 (by omega) (by omega) hb, Xcy p 16 10000000 (by omega) (by omega) (by omega) hb, Xad, Xad, Bool.not_true, Xaw, Xaw, Zdy, Zan Ybj p hl, Xvd p hl, Xad, Xad, Xnd _ (Xtj _ _), Xad, Xvd _ (Xvy _), Xad, Xnd _ (Xtj _ _), Xad]
 exact Yc4 _ 16 (by omega) (Xvy _) (fun _ => rfl)
theorem Zat (p : List Int) (hl : p.length = 16) (hb : inB 1000 p) : Xv4 p = Xqz p := by
 unfold Xv4 Xqz
 rw [Xsw p 16 1000 (by omega) (by omega) hb, Xcy p 16 1000 (by omega) (by omega) (by omega) hb, Xad, Xad, Bool.not_true, Xaw, Xaw, Zdz, Zan Ypw p hl, Xw5 p hl, Xad, Xad, Xnd _ (Xtj _ _), Xad, Xw5 _ (Xvy _), Xad, Xnd _ (Xtj _ _), Xad]
theorem Zbh {β : Type} {c : Prop} [Decidable c] {k k' : Option β} (h : c → k = k') : req c k = req c k' := by
 by_cases hc : c
 ·
  rw [Xax hc, Xax hc, h hc]
 ·
  unfold req; rw [if_neg hc, if_neg hc]
theorem Xnq {β : Type} {c : Prop} [Decidable c] {k k' : Option β} (h0 : c) (h : k = k') : req c k = k' := by rw [Xax h0, h]
theorem Yc1 {β : Type} {b : Bool} {x x' y y' : β} (h : b = true → x = x') (h2 : b = false → y = y') : sel b x y = sel b x' y' := by
 cases b
 ·
  exact h2 rfl
 ·
  exact h rfl
theorem Za0 {α β : Type} {x x' : Option α} {f f' : α → Option β} (h : x = x') (h2 : ∀ a, x' = some a → f a = f' a) : bnd x f = bnd x' f' := by
 subst h
 cases x with
 | none => rfl
 | some a => exact h2 a rfl
theorem Zc4 {V O : Type} {f : V → Option (Lp V O)} (I : V → Prop) (J : O → Prop) (h1 : ∀ v v', I v → f v = some (.go v') → I v') (h2 : ∀ v o, I v → f v = some (.done o) → J o) {v : V} {o : O} (h : loop f v = some o) (hv : I v) : J o := by
 obtain ⟨k, hk⟩ := Xj6.1 h
 clear h
 induction k generalizing v with
 | zero => cases hk
 | succ k ih =>
  rw [it] at hk
  cases e : f v with
  | none => rw [e] at hk; cases hk
  | some s =>
   rw [e] at hk
   cases s with
   | go y => exact ih (h1 v y hv e) hk
   | done o' => cases hk; exact h2 v o hv e
theorem Yk2 (l qp p : Int) (h0 : 0 ≤ qp ∧ qp ≤ 40) (hp : 0 ≤ p ∧ p ≤ 15) : Xkf l qp p = Xf4 l qp p := by
 unfold Xkf Xf4
 rw [Xaq, Xaj, Ys3 qp p h0 hp]
theorem Yk1 (l qp : Int) (h0 : 0 ≤ qp ∧ qp ≤ 40) : Xkd l qp = Xf3 l qp := by
 unfold Xkd Xf3
 rw [Xaq, Xaj, Ygq qp h0]
theorem Yno (x : Int) (h : -1000000000000 ≤ x ∧ x ≤ 1000000000000) : Xo4 x = Xej x := by
 unfold Xo4 Xej
 rw [wkA]
 by_cases hx : x < 0
 ·
  rw [Xbf hx, if_pos (by omega)]
 ·
  rw [Xav hx, if_neg (by omega)]
theorem Zdo : ∀ q : Fin 41, ∀ p : Fin 16, Xo2 (q.val : Int) (p.val : Int) = Xiz (q.val : Int) (p.val : Int) := by decide +kernel
theorem Ys4 (qp p : Int) (h0 : 0 ≤ qp ∧ qp ≤ 40) (hp : 0 ≤ p ∧ p ≤ 15) : Xo2 qp p = Xiz qp p := by
 have := Zdo ⟨qp.toNat, by omega⟩ ⟨p.toNat, by omega⟩
 simp only at this
 rwa [show ((qp.toNat : Nat) : Int) = qp by omega, show ((p.toNat : Nat) : Int) = p by omega] at this
theorem Yxi (x w : Int) : Xqt x w = Xf6 w x := rfl
theorem Yhb (w qp : Int) (h0 : 0 ≤ qp ∧ qp ≤ 40) : Xie w qp = Xe3 w qp := by
 unfold Xie Xe3
 rw [Xaq, Xaj, Xaq, Xaj, Ygq qp h0]
 by_cases hw : -20000 ≤ w ∧ w ≤ 20000
 ·
  rw [Yno w (by omega)]; rfl
 ·
  rw [decide_eq_false hw]; rfl
theorem Zkb (qp : Int) (h0 : 0 ≤ qp ∧ qp ≤ 40) : Xaa .u64 (Xaa .i64 (15 + (Xaa .i64 (qp.tdiv 6)))) = Xaa .i64 (15 + (Xaa .i64 (qp.tdiv 6))) := by
 have h : ∀ q : Fin 41, Xaa .u64 (Xaa .i64 (15 + (Xaa .i64 ((q.val : Int).tdiv 6)))) = Xaa .i64 (15 + (Xaa .i64 ((q.val : Int).tdiv 6))) := by decide +kernel
 have := h ⟨qp.toNat, by omega⟩
 simp only at this
 rwa [show ((qp.toNat : Nat) : Int) = qp by omega] at this
theorem Yhc (w qp p : Int) (h0 : 0 ≤ qp ∧ qp ≤ 40) (hp : 0 ≤ p ∧ p ≤ 15) : Xii w qp p = Xe5 w qp p := by
 unfold Xii Xe5
 have h15 := Zkb qp h0
 simp only [Xaq, Xaj, Ys4 qp p h0 hp, h15, Yxi]
 by_cases hw : -20000 ≤ w ∧ w ≤ 20000
 ·
  simp only [Yno w (by omega)]
 ·
  simp only [decide_eq_false hw, Xad, Xaw, Xay]
def Ycx (k : Int) (v7 : Int × List Int) : Option (Lp (Int × List Int) (List Int)) :=
 sel (decide (v7.1 < 4)) (
 bnd (it (Xpm k v7) 10 (0, v7.2)) fun v18 =>
 some (.go (Xaa .i64 (v7.1 + 1), v18))) (
 some (.done v7.2))
theorem Yw9 {k : Int} {v : Int × List Int} {x : Lp (Int × List Int) (List Int)} (h : Ycx k v = some x) : Xky k v = some x := by
 unfold Ycx at h
 unfold Xky
 rcases Xkz h with ⟨hb, h⟩ | ⟨hb, h⟩
 ·
  rw [hb, Xay]
  obtain ⟨a, h1, h2⟩ := Xa8 h
  rw [Xj6.2 ⟨10, h1⟩, Xad]
  exact h2
 ·
  rw [hb, Xaw]; exact h
def Xmw (k : Int) : List Int := (it (Ycx k) 10 (0, [])).getD []
def Xo8 (k i : Int) : Int := (Xaa .i64 ((Xaa .i64 ((Xaa .i64 (8 * (Xaa .i64 ((Xaa .i64 ((Xaa .i64 (k.tdiv 2)) * 4)) + (Xaa .i64 (i.tdiv 4)))))) + (Xaa .i64 ((k.tmod 2) * 4)))) + (i.tmod 4)))
theorem Yyn : ∀ k : Fin 4, (it (Ycx (k.val : Int)) 10 (0, [])).isSome = true ∧ (Xmw (k.val : Int)).length = 16 ∧ ∀ i : Fin 16, (Xmw (k.val : Int)).getD i.val 0 = Xo8 (k.val : Int) (i.val : Int) ∧ 0 ≤ Xo8 (k.val : Int) (i.val : Int) ∧ Xo8 (k.val : Int) (i.val : Int) < 64 := by decide +kernel
theorem Xqq (k : Nat) (hk : k < 4) : Xlr k = some (Xmw k) ∧ (Xmw k).length = 16 ∧ ∀ i : Nat, i < 16 → (Xmw k).getD i 0 = Xo8 k i ∧ 0 ≤ Xo8 k i ∧ Xo8 k i < 64 := by
 obtain ⟨h1, h2, h3⟩ := Yyn ⟨k, hk⟩
 refine ⟨?_, h2, fun i hi => h3 ⟨i, hi⟩⟩
 obtain ⟨o, ho⟩ := Option.isSome_iff_exists.1 h1
 have hl := Yyj 10 (Ze3 (fun v y => Yw9 (k := (k : Int))) 10 _ ho)
 unfold Xlr
 rw [hl, Xad]
 unfold Xmw; simp only at ho; rw [ho]; rfl
theorem Xux (p : List Int) (c : Xf7) (hc : Xj9 c = true) (hp : Ykt p = true) : Xif p c = Xdy p c := by
 have hq := Ya8 hc
 obtain ⟨hl, hb⟩ := Ym7 hp
 unfold Xif Xdy
 rw [Xf0, Xhv, Xs2 p (by omega), hp, hc, Xcy p 64 5000 (by omega) (by omega) (by omega) hb]
 simp only [Xad, Xay, Bool.not_true, Xaw]
 rw [Xvr 8 (Or.inr rfl) p (by omega)]
 refine Yc1 (fun _ => rfl) fun _ => Yc1 (fun _ => ?_) fun _ => ?_
 ·
  obtain ⟨w, ew, w1, w2⟩ := Xgr 8 (Or.inr rfl) p 5000 (by omega) (by omega) hb
  rw [ew, Xad, Xad]
  have hloop : loop (Xfj c (w, true)) (0, (w, true).1) = loop (Xbk c) (0, (w, true).1) := by
   have : Xfj c (w, true) = Xbk c := by
    funext v
    unfold Xfj Xbk
    simp only [Yk1 _ _ hq, w1, hl]
    rfl
   rw [this]
  rw [hloop]
  obtain ⟨l, el, l1, l2⟩ := Xoq (f := Xbk c) 64 (fun x => -5000 ≤ x ∧ x ≤ 5000) (fun x => -5760000 ≤ x ∧ x ≤ 5760000) (by
   intro i l hi hll hx
   obtain ⟨d, ed, d1, d2⟩ := Xtn (l.getD i 0) c.Qp hx hq
   unfold Xbk
   simp only [Int.toNat_natCast]
   rw [syA, rqA, rqA, ed, Xad, rqA, rqA, wkA (e := (i : Int) + 1)]
   exact ⟨d, rfl, d1, d2⟩) (by intro s; unfold Xbk; rw [Xav (by simp)]) w (by omega) w2
  simp only [el, Xad]
  rw [Yk0 l l1 (Xrv l2 (by omega))]
 ·
  refine Zbh fun _ => Za0 ?_ fun _ _ => rfl
  refine Xoa (fun v => (∃ k : Nat, v.1 = (k : Int) ∧ k ≤ 4) ∧ v.2.length = 64) ?_ ?_ ⟨⟨0, rfl, by omega⟩, by simp⟩
  ·
   intro ⟨k0, s⟩ ⟨⟨k, ek, hk⟩, hs⟩
   simp only at ek hs
   subst ek
   unfold Xk8 Xck
   simp only
   refine Yc1 (fun hk4 => ?_) fun _ => rfl
   have hk4 : k < 4 := by have := of_decide_eq_true hk4; omega
   rw [wkA (e := 16 * (k : Int)), wkA (e := 16 * (k : Int) + 16)]
   refine Zbh fun _ => ?_
   rw [show (16 * (k : Int)).toNat = 16 * k by omega, show (16 * (k : Int) + 16).toNat - 16 * k = 16 by omega]
   have hcut : ((p.drop (16 * k)).take 16).length = 16 := by rw [List.length_take, List.length_drop]; omega
   obtain ⟨a, ea, a1, a2⟩ := Xgr 4 (Or.inl rfl) ((p.drop (16 * k)).take 16) 5000 (by omega) (by omega) (Yzl (Yzj hb _) _)
   rw [Xvr 4 (Or.inl rfl) _ (by omega), ea, Xad, Xad]
   have hloop : loop (Xew c (a, true)) (0, (a, true).1) = loop (Xbg c) (0, (a, true).1) := by
    have : Xew c (a, true) = Xbg c := by
     funext v
     unfold Xew Xbg
     simp only [show ((a.length : Nat) : Int) = 16 by omega]
     refine Yc1 (fun h16 => ?_) fun _ => rfl
     have := of_decide_eq_true h16
     refine Zbh fun h0 => Zbh fun _ => ?_
     rw [Yk2 _ _ _ hq (by omega)]
    rw [this]
   rw [hloop]
   obtain ⟨l, el, l1, l2⟩ := Xoq (f := Xbg c) 16 (fun x => -5000 ≤ x ∧ x ≤ 5000) (fun x => -10000000 ≤ x ∧ x ≤ 10000000) (by
    intro i l hi hll hx
    obtain ⟨d, ed, d1, d2⟩ := Xts (l.getD i 0) c.Qp i hx hq (by omega)
    unfold Xbg
    simp only [Int.toNat_natCast]
    rw [syA, rqA, rqA, ed, Xad, rqA, rqA, wkA (e := (i : Int) + 1)]
    exact ⟨d, rfl, d1, d2⟩) (by intro s; unfold Xbg; rw [Xav (by simp)]) a (by omega) a2
   obtain ⟨b, eb, b1, b2⟩ := Xu9 l l1 l2
   obtain ⟨q1, q2, q3⟩ := Xqq k hk4
   simp only [el, Xad]
   rw [Ypn l l1 l2, eb, Xad, Xad, q1, Xad]
   refine Za0 ?_ fun _ _ => rfl
   have : Xg4 b (Xmw k) = Xbm ((k : Int), s) b := by
    funext v
    unfold Xg4 Xbm
    simp only [show (((Xmw k).length : Nat) : Int) = 16 by omega]
    refine Yc1 (fun h16 => ?_) fun _ => rfl
    have h16 := of_decide_eq_true h16
    by_cases h0 : 0 ≤ v.1
    ·
     obtain ⟨i, hi⟩ : ∃ i : Nat, v.1 = (i : Int) := ⟨v.1.toNat, by omega⟩
     obtain ⟨v1, v2⟩ := v
     simp only at hi h0 h16
     subst hi
     obtain ⟨r1, r2, r3⟩ := q3 i (by omega)
     have e1 : (Xaa .i64 ((Xaa .i64 ((Xaa .i64 (8 * (Xaa .i64 ((Xaa .i64 ((Xaa .i64 ((k : Int).tdiv 2)) * 4)) + (Xaa .i64 ((i : Int).tdiv 4)))))) + (Xaa .i64 (((k : Int).tmod 2) * 4)))) + ((i : Int).tmod 4))) = Xo8 k i := rfl
     simp only [Int.toNat_natCast, r1, e1]
     refine Xnq (by omega) (Xnq (by omega) (Xnq (by omega) (Xnq (by omega) ?_)))
     refine (Xnq (by omega) (Xnq (by omega) (Xnq (by omega) (Xnq (by omega) (Xnq (by omega) (Xnq (by omega) ?_)))))).symm
     rfl
    ·
     unfold req
     rw [if_neg (by omega), if_pos (by omega), if_pos (by omega), if_pos (by omega), if_pos (by omega), if_neg (by omega)]
   rw [this]
  ·
   intro ⟨k0, s⟩ v' ⟨⟨k, ek, hk⟩, hs⟩ he
   simp only at ek hs
   subst ek
   unfold Xck at he
   simp only at he
   rcases Xkz he with ⟨hb4, he⟩ | ⟨_, he⟩
   ·
    have hk4 : k < 4 := by have := of_decide_eq_true hb4; omega
    obtain ⟨_, he⟩ := Xa0 he
    obtain ⟨a, _, he⟩ := Xa8 he
    obtain ⟨l, _, he⟩ := Xa8 he
    obtain ⟨b, _, he⟩ := Xa8 he
    obtain ⟨r, hr, he⟩ := Xa8 he
    rw [wkA (e := (k : Int) + 1)] at he
    cases he
    refine ⟨⟨k + 1, rfl, by omega⟩, ?_⟩
    refine Zc4 (f := Xbm ((k : Int), s) b) (fun v => v.2.length = 64) (fun o => o.length = 64) ?_ ?_ hr hs
    ·
     intro v v' hv he
     unfold Xbm at he
     rcases Xkz he with ⟨_, he⟩ | ⟨_, he⟩
     ·
      obtain ⟨_, he⟩ := Xa0 he
      obtain ⟨_, he⟩ := Xa0 he
      obtain ⟨_, he⟩ := Xa0 he
      obtain ⟨_, he⟩ := Xa0 he
      obtain ⟨_, he⟩ := Xa0 he
      obtain ⟨_, he⟩ := Xa0 he
      obtain ⟨_, he⟩ := Xa0 he
      obtain ⟨_, he⟩ := Xa0 he
      cases he
      simp only [List.length_set]; exact hv
     ·
      cases he
    ·
     intro v o hv he
     unfold Xbm at he
     rcases Xkz he with ⟨_, he⟩ | ⟨_, he⟩
     ·
      obtain ⟨_, he⟩ := Xa0 he
      obtain ⟨_, he⟩ := Xa0 he
      obtain ⟨_, he⟩ := Xa0 he
      obtain ⟨_, he⟩ := Xa0 he
      obtain ⟨_, he⟩ := Xa0 he
      obtain ⟨_, he⟩ := Xa0 he
      obtain ⟨_, he⟩ := Xa0 he
      obtain ⟨_, he⟩ := Xa0 he
      cases he
     ·
      cases he; exact hv
   ·
    cases he
theorem Yzz {S O : Type} {f g : Int × S → Option (Lp (Int × S) O)} (n : Nat) (I : Nat → S → Prop) (h : ∀ (i : Nat) (s : S), i ≤ n → I i s → f ((i : Int), s) = g ((i : Int), s)) (hI : ∀ (i : Nat) (s : S) (v' : Int × S), i ≤ n → I i s → g ((i : Int), s) = some (.go v') → v'.1 = ((i + 1 : Nat) : Int) ∧ i + 1 ≤ n ∧ I (i + 1) v'.2) {s0 : S} (h0 : I 0 s0) : loop f (0, s0) = loop g (0, s0) := by
 refine Xoa (fun v => ∃ i : Nat, v.1 = (i : Int) ∧ i ≤ n ∧ I i v.2) ?_ ?_ ⟨0, rfl, by omega, h0⟩
 ·
  intro ⟨k, s⟩ ⟨i, e, hi, hs⟩
  simp only at e hs
  subst e
  exact h i s hi hs
 ·
  intro ⟨k, s⟩ v' ⟨i, e, hi, hs⟩ he
  simp only at e hs
  subst e
  obtain ⟨a, b, c⟩ := hI i s v' hi hs he
  exact ⟨i + 1, a, b, c⟩
theorem Yxa (p : List Int) (hl : p.length = 64) (k : Nat) (hk : k < 4) : loop (Xgf p (Xmw k)) (0, ([] : List Int)) = Xe7 p k := by
 obtain ⟨q1, q2, q3⟩ := Xqq k hk
 unfold Xe7
 rw [Yzz (f := Xgf p (Xmw k)) (g := Xb0 p k) 16 (fun _ _ => True) ?_ ?_ trivial]
 ·
  cases loop (Xb0 p k) (0, ([] : List Int)) <;> rfl
 ·
  intro i s hi _
  unfold Xgf Xb0
  simp only [show (((Xmw k).length : Nat) : Int) = 16 by omega]
  refine Yc1 (fun h16 => ?_) fun _ => rfl
  have h16 := of_decide_eq_true h16
  obtain ⟨r1, r2, r3⟩ := q3 i (by omega)
  have e1 : (Xaa .i64 ((Xaa .i64 ((Xaa .i64 (8 * (Xaa .i64 ((Xaa .i64 ((Xaa .i64 ((k : Int).tdiv 2)) * 4)) + (Xaa .i64 ((i : Int).tdiv 4)))))) + (Xaa .i64 (((k : Int).tmod 2) * 4)))) + ((i : Int).tmod 4))) = Xo8 k i := rfl
  simp only [Int.toNat_natCast, r1, e1]
  refine Xnq (by omega) (Xnq (by omega) (Xnq (by omega) ?_))
  refine (Xnq (by omega) (Xnq (by omega) (Xnq (by omega) (Xnq (by omega) (Xnq (by omega) ?_))))).symm
  rfl
 ·
  intro i s v' hi _ he
  unfold Xb0 at he
  rcases Xkz he with ⟨hb, he⟩ | ⟨_, he⟩
  ·
   have h16 := of_decide_eq_true hb
   simp only at h16 he
   obtain ⟨_, he⟩ := Xa0 he
   obtain ⟨_, he⟩ := Xa0 he
   obtain ⟨_, he⟩ := Xa0 he
   obtain ⟨_, he⟩ := Xa0 he
   obtain ⟨_, he⟩ := Xa0 he
   obtain ⟨_, he⟩ := Xa0 he
   injection he with he
   injection he with he
   subst he
   exact ⟨wkA, by omega, trivial⟩
  ·
   cases he
theorem Xyg (p : List Int) (c : Xf7) (hc : Xj9 c = true) (hl : p.length = 64) (hb : inB 255 p) : Xg5 p c = Xcw p c := by
 have hq := Ya8 hc
 unfold Xg5 Xcw
 rw [Xf0, Xhv, Xsw p 64 255 (by omega) (by omega) hb, hc, Xcy p 64 255 (by omega) (by omega) (by omega) hb]
 simp only [Xad, Xay, Bool.not_true, Xaw]
 rw [Xt1 8 (Or.inr rfl) p (by omega)]
 refine Yc1 (fun _ => rfl) fun _ => Yc1 (fun _ => ?_) fun _ => ?_
 ·
  obtain ⟨w, ew, w1⟩ := Ydb p hl hb
  rw [Yxu p hl (Xrv hb (by omega)), ew, Xad, Xad]
  have : Xkv c w = Xb9 c := by
   funext v
   unfold Xkv Xb9
   simp only [Yhb _ _ hq, w1]
   rfl
  rw [this]
  obtain ⟨l, el, l1, l2⟩ := Xoq (f := Xb9 c) 64 (fun _ => True) (fun x => -5000 ≤ x ∧ x ≤ 5000) (by
   intro i l hi hll _
   obtain ⟨d, ed, d1, d2⟩ := Xr2 (l.getD i 0) c.Qp hq
   unfold Xb9
   simp only [Int.toNat_natCast]
   rw [syA, rqA, rqA, ed, Xad, rqA, rqA, wkA (e := (i : Int) + 1)]
   exact ⟨d, rfl, d1, d2⟩) (by intro s; unfold Xb9; rw [Xav (by simp)]) w w1 (fun _ _ => trivial)
  rw [el, Xad, Xad, Xt1 8 (Or.inr rfl) l (by omega)]
 ·
  refine Za0 ?_ fun _ _ => rfl
  refine Yzz 4 (fun _ _ => True) ?_ ?_ trivial
  ·
   intro k s hk _
   unfold Xnx Xdj
   refine Yc1 (fun h4 => ?_) fun _ => rfl
   have hk4 : k < 4 := by have := of_decide_eq_true h4; simp only at this; omega
   obtain ⟨q1, q2, q3⟩ := Xqq k hk4
   simp only [q1, Xad]
   rw [Yxa p hl k hk4]
   obtain ⟨a, ea, a1, a2⟩ := Xr6 p k hk4 255 hl hb
   obtain ⟨b, eb, b1, b2⟩ := Yg7 a a1 a2
   rw [ea, Xad, Xad, Zat a a1 (Xrv a2 (by omega)), eb, Xad, Xad]
   have : Xjk c b = Xbv c := by
    funext v
    unfold Xjk Xbv
    simp only [show ((b.length : Nat) : Int) = 16 by omega]
    refine Yc1 (fun h16 => ?_) fun _ => rfl
    have := of_decide_eq_true h16
    refine Zbh fun h0 => Zbh fun _ => ?_
    rw [Yhc _ _ _ hq (by omega)]
   rw [this]
   obtain ⟨l, el, l1, l2⟩ := Xoq (f := Xbv c) 16 (fun x => -9180 ≤ x ∧ x ≤ 9180) (fun x => -5000 ≤ x ∧ x ≤ 5000) (by
    intro i l hi hll hx
    obtain ⟨d, ed, d1, d2⟩ := Xr5 (l.getD i 0) c.Qp i hx hq (by omega)
    unfold Xbv
    simp only [Int.toNat_natCast]
    rw [syA, rqA, rqA, ed, Xad, rqA, rqA, wkA (e := (i : Int) + 1)]
    exact ⟨d, rfl, d1, d2⟩) (by intro s; unfold Xbv; rw [Xav (by simp)]) b b1 b2
   rw [el, Xad, Xad, Xt1 4 (Or.inl rfl) l (by omega)]
  ·
   intro k s v' hk _ he
   unfold Xdj at he
   rcases Xkz he with ⟨hb4, he⟩ | ⟨_, he⟩
   ·
    have hk4 := of_decide_eq_true hb4
    simp only at hk4 he
    obtain ⟨a, _, he⟩ := Xa8 he
    obtain ⟨l, _, he⟩ := Xa8 he
    obtain ⟨b, _, he⟩ := Xa8 he
    obtain ⟨r, _, he⟩ := Xa8 he
    obtain ⟨_, he⟩ := Xa0 he
    injection he with he
    injection he with he
    subst he
    exact ⟨wkA, by omega, trivial⟩
   ·
    cases he
theorem Yvz {p : Pic} (ok : Xdg p = true) (x y : Int) : Xfm p x y = Xff p x y := by rw [Yms ok, Xjw ok]
theorem Xwg {p : Pic} (ok : Xdg p = true) {x y : Int} (hx : x.tmod 8 = 0) (hy : y.tmod 8 = 0) (h : Xd6 p x y = true) : Xca p x y = some true := Xpl ok x y hx hy h
theorem Ya2 {p : Pic} (ok : Xdg p = true) {x y : Int} (hx : x.tmod 8 = 0) (hy : y.tmod 8 = 0) (h : Xd6 p x y = true) : Xll p x y = Xfo p x y := by
 unfold Xll Xfo
 rw [Xdl, ok, Xwg ok hx hy h, Xht ok hx hy h]
 have : Xmc p x y = Xe2 p x y := by
  funext v
  unfold Xmc Xe2
  simp only [Yvz ok]
 simp only [Xad, Xay, Bool.not_true, Xaw, this, Yvz ok]
theorem Ykz {e : Xji} (h : Xvu e) : Xlm e = some true := by
 obtain ⟨h1, h2, h3, h4, h5, h6⟩ := h
 have side : ∀ l : List Int, (l.length = 0 ∨ l.length = 8) → (∀ x ∈ l, 0 ≤ x ∧ x ≤ 255) → bnd (sel (decide ((l.length : Int) > 0)) (bnd (Xbp l 8 0 255) fun q10 => some (!q10)) (some false)) (fun v9 => some v9) = some false := by
  intro l hl hb
  rcases hl with e | e
  ·
   rw [snA]; rfl
  ·
   rw [syA, Xmn l 8 0 255 (by omega)]
   have : (l.all fun x => decide (0 ≤ x ∧ x ≤ 255)) = true := List.all_eq_true.2 fun x hx => decide_eq_true (hb x hx)
   rw [this, e]; rfl
 have go : ∀ (i : Nat) (l : List Int), i < 2 → ([e.Above, e.Left]).getD i Xg3 = l → (l.length = 0 ∨ l.length = 8) → (∀ x ∈ l, 0 ≤ x ∧ x ≤ 255) → Xgd e (i : Int) = some (.go ((i + 1 : Nat) : Int)) := by
  intro i l hi hg hl hb
  unfold Xgd
  simp only [Int.toNat_natCast, hg]
  have hs := side l hl hb
  rw [Xbf (by simp only [List.length_cons, List.length_nil]; omega), Xax (by simp only [List.length_cons, List.length_nil]; omega), Xax (by simp only [List.length_cons, List.length_nil]; omega)]
  obtain ⟨a, ea, hs⟩ := Xa8 hs
  injection hs with hs
  subst hs
  rw [ea, Xad, Xaw, wkA]
  rfl
 unfold Xlm
 have : loop (Xgd e) 0 = some (.out ()) := by
  refine lgo (go 0 e.Above (by omega) rfl h1 h3) (lgo (go 1 e.Left (by omega) rfl h2 h4) (Xd8 ?_))
  unfold Xgd
  rw [Xav (by simp)]
 rw [this, Xad, Xaq, Xad, decide_eq_true ⟨h5, h6⟩]
def Zak (l : List Int) : Nat → Int
 | 0 => 0
 | n + 1 => Zak l n + l.getD n 0
theorem Xx3 {l : List Int} (h : ∀ x ∈ l, 0 ≤ x ∧ x ≤ 255) : ∀ n : Nat, n ≤ l.length → 0 ≤ Zak l n ∧ Zak l n ≤ 255 * n
 | 0, _ => by simp [Zak]
 | n + 1, hn => by
  have a := Xx3 h n (by omega)
  have b := h (l.getD n 0) (by rw [Xcd l n (by omega)]; exact List.getElem_mem _)
  rw [Zak]; omega
theorem Yu9 {f : Int × Int → Option (Lp (Int × Int) Int)} {l : List Int} (hl : l.length ≤ 64) (h : ∀ x ∈ l, 0 ≤ x ∧ x ≤ 255) (hf : ∀ v, f v = sel (decide (v.2 < (l.length : Int))) (req (0 ≤ v.2 ∧ v.2 < l.length) <| some (.go (Xaa .i64 (v.1 + (l.getD v.2.toNat 0)), Xaa .i64 (v.2 + 1)))) (some (.done v.1))) (a : Int) (ha : 0 ≤ a ∧ a ≤ 100000) : loop f (a, 0) = some (a + Zak l l.length) := by
 obtain ⟨o, e, ho⟩ := Xrm (f := f) l.length (fun i s => s = a + Zak l i) (by
  intro i s hi g
  have r := Xx3 h i (by omega)
  have b := h (l.getD i 0) (by rw [Xcd l i (by omega)]; exact List.getElem_mem _)
  rw [hf]
  simp only [Int.toNat_natCast]
  rw [syA, rqA, wkA (e := s + l.getD i 0), wkA (e := (i : Int) + 1)]
  exact ⟨_, rfl, by rw [Zak]; omega⟩) (by intro s; rw [hf, Xav (by simp)]) a (by simp [Zak])
 rw [e, ho]
theorem Ycj {l : List Int} (hl : l.length ≤ 64) (h : ∀ x ∈ l, 0 ≤ x ∧ x ≤ 255) : Xcl l = some (Zak l l.length) := by
 unfold Xcl
 rw [Yu9 (f := Xee l) hl h (fun _ => rfl) 0 (by omega), Xad, Int.zero_add]
theorem Zc9 {e : Xji} (h : Xvu e) : (sel (decide ((Xaa .i64 ((e.Above.length : Int) + (e.Left.length : Int))) > 0)) (bnd (Xcl e.Above) fun q5 => bnd (Xcl e.Left) fun q6 => req ((2 : Int) ≠ 0) <| req ((Xaa .i64 ((e.Above.length : Int) + (e.Left.length : Int))) ≠ 0) <|
  some (Xaa .i64 ((Xaa .i64 ((Xaa .i64 (q5 + q6)) + (Xaa .i64 ((Xaa .i64 ((e.Above.length : Int) + (e.Left.length : Int))).tdiv 2)))).tdiv (Xaa .i64 ((e.Above.length : Int) + (e.Left.length : Int)))))) (some 128)) = Xlj e := by
 obtain ⟨h1, h2, h3, h4, h5, h6⟩ := h
 unfold Xlj
 have r1 := Xx3 h3 e.Above.length (Nat.le_refl _)
 have r2 := Xx3 h4 e.Left.length (Nat.le_refl _)
 rw [wkA (e := (e.Above.length : Int) + (e.Left.length : Int))]
 by_cases hz : (e.Above.length : Int) + (e.Left.length : Int) = 0
 ·
  rw [snA, Xbt (by simpa using hz)]
 ·
  rw [syA, Xbh (by simpa using hz), Ycj (by omega) h3, Xad, Ycj (by omega) h4, Xad, rqA, Xax hz, rqA, Xb2 (a := (e.Above.length : Int) + (e.Left.length : Int)) (by omega), wkA (e := ((e.Above.length : Int) + (e.Left.length : Int)) / 2),
   Yu9 (f := Xh4 e) (by omega) h3 (fun _ => rfl) _ (by omega), Xad, Yu9 (f := Xh5 e) (by omega) h4 (fun _ => rfl) _ (by omega), Xad, Xax hz, wkA (e := Zak e.Above e.Above.length + Zak e.Left e.Left.length), wkA (e := Zak e.Above e.Above.length + Zak e.Left e.Left.length + ((e.Above.length : Int) + (e.Left.length : Int)) / 2)]
  congr 3; omega
theorem Yw3 (l : List Int) (hl : l.length = 0 ∨ l.length = 8) : ∃ g, Xn6 l = some g ∧ g.length = 8 ∧ ∀ k : Nat, k < 8 → Xdp l k = some (g.getD k 0) := by
 unfold Xn6
 rcases hl with e | e
 ·
  refine ⟨_, Xbt (by rw [e]; rfl), rfl, fun k hk => ?_⟩
  unfold Xdp
  rw [Xbt (by rw [e]; rfl)]
  congr 1
  obtain rfl | rfl | rfl | rfl | rfl | rfl | rfl | rfl : k = 0 ∨ k = 1 ∨ k = 2 ∨ k = 3 ∨ k = 4 ∨ k = 5 ∨ k = 6 ∨ k = 7 := by omega
  all_goals rfl
 ·
  refine ⟨l, Xbh (by rw [e]; rfl), e, fun k hk => ?_⟩
  unfold Xdp
  rw [Xbh (by rw [e]; rfl), rqA, Int.toNat_natCast]
theorem Ytb (n a b : Int) : Xc0 n a b = Xcm n a b := by rw [Xid, Xdv]
def Yef (m mid v : Int) (A B : List Int) (i : Nat) : Int := sel (m == 0) mid (sel (m == 1) (A.getD (i % 8) 0) (sel (m == 2) (B.getD (i / 8) 0) (Xbl (Xaa .i64 (Xaa .i64 (B.getD (i / 8) 0 + A.getD (i % 8) 0) - v)) 0 255)))
theorem Zbb {f1 : Int × List Int → Option (Lp (Int × List Int) (List Int))} {f2 : Int × List Int → Int × List Int → Option (Lp (Int × List Int) (List Int))} (g : Nat → Int)
  (h1 : ∀ v, f1 v = sel (decide (v.1 < 8)) (bnd (loop (f2 v) (0, v.2)) fun w => some (.go (Xaa .i64 (v.1 + 1), w))) (some (.done v.2)))
  (h2 : ∀ (r c : Nat) (a s : List Int), r < 8 → c < 8 → s.length = 8 * r + c → f2 ((r : Int), a) ((c : Int), s) = some (.go (((c + 1 : Nat) : Int), s ++ [g (8 * r + c)])))
  (h3 : ∀ (r : Nat) (a s : List Int), f2 ((r : Int), a) (8, s) = some (.done s)) : loop f1 (0, []) = some ((List.range 64).map g) := by
 obtain ⟨o, e, ho⟩ := Xea (f := f1) 8 (fun r s => s = (List.range (8 * r)).map g) (by
  intro r s hr hs
  obtain ⟨q, eq, hq⟩ := Xoy (f := f2 ((r : Int), s)) 8 (fun c s' => s' = (List.range (8 * r + c)).map g) (by
   intro c s' hc hs'
   exact ⟨_, h2 r c s s' hr hc (by rw [hs']; simp), by rw [hs', show 8 * r + (c + 1) = (8 * r + c) + 1 by omega, List.range_succ, List.map_append]; rfl⟩) (fun z _ => h3 r s z) s hs
  rw [h1]
  refine ⟨q, ?_, by rw [hq, show 8 * (r + 1) = 8 * r + 8 by omega]⟩
  simp only
  rw [syA, eq, Xad, wkA]
  rfl) (by intro s; rw [h1, Xav (by simp)]) [] rfl
 rw [e, ho]
theorem Yvj (m : Int) (hm0 : 0 ≤ m ∧ m ≤ 3) {e : Xji} (h : Xvu e) : ∃ g, Xgw m e = some g ∧ Xdw m e = some g := by
 have hm : maxLen = 9223372036854775807 := rfl
 obtain ⟨mid, em, m1, m2⟩ := Xzg h
 obtain ⟨A, eA, hA, fA⟩ := Yw3 e.Above h.1
 obtain ⟨B, eB, hB, fB⟩ := Yw3 e.Left h.2.1
 obtain ⟨v, ev⟩ : ∃ v, sel (decide (e.Corner < 0)) (some (128 : Int)) (some e.Corner) = some v := by rw [Zad]; exact ⟨_, rfl⟩
 refine ⟨(List.range 64).map (Yef m mid v A B), ?_, ?_⟩
 ·
  unfold Xgw
  rw [Ykz h, Xad, Xay, Xaq, Xad, decide_eq_true hm0, Bool.not_true, Xad, Xaw, Zc9 h, em, Xad, eA, Xad, eB, Xad, ev, Xad, Zbb (f1 := Xpg m mid A B v) (f2 := Xhg m mid A B v) (Yef m mid v A B) (fun _ => rfl) ?_ ?_, Xad]
  ·
   intro r c a s hr hc hs
   unfold Xhg Yef
   simp only [Int.toNat_natCast, Xid, Xad]
   rw [syA, wkA (e := (c : Int) + 1), show (8 * r + c) % 8 = c by omega, show (8 * r + c) / 8 = r by omega]
   cases (m == 0) with
   | true => rw [Xay, Xax (by simp only [List.length_singleton]; omega), Xad]; rfl
   | false =>
    rw [Xaw]
    cases (m == 1) with
    | true => rw [Xay, rqA, Xax (by simp only [List.length_singleton]; omega), Xad]; rfl
    | false =>
     rw [Xaw]
     cases (m == 2) with
     | true => rw [Xay, rqA, Xax (by simp only [List.length_singleton]; omega), Xad]; rfl
     | false => rw [Xaw, rqA, rqA, Xax (by simp only [List.length_singleton]; omega), Xad]; rfl
  ·
   intro r a s
   unfold Xhg
   rw [Xav (by simp)]
 ·
  unfold Xdw
  rw [Xk0 h, Xad, Xay, Xaj, Xad, decide_eq_true hm0, Bool.not_true, Xad, Xaw, ev, Xad]
  obtain ⟨o, eo, ho⟩ := Xea (f := Xdx m e v) 64 (fun i s => s = (List.range i).map (Yef m mid v A B)) (by
   intro i s hi hs
   have hlen : s.length = i := by rw [hs]; simp
   refine ⟨s ++ [Yef m mid v A B i], ?_, by rw [hs, List.range_succ, List.map_append]; rfl⟩
   unfold Xdx Yef
   simp only
   rw [syA, rqA, Xb1 (by omega), show (i : Int) % 8 = ((i % 8 : Nat) : Int) by omega, fA _ (by omega), Xad, rqA, Xb2 (by omega), wkA (e := (i : Int) / 8), show (i : Int) / 8 = ((i / 8 : Nat) : Int) by omega, fB _ (by omega), Xad, wkA (e := (i : Int) + 1), em]
   cases (m == 0) with
   | true => rw [Xay, Xad, Xax (by simp only [List.length_singleton]; omega), Xad]; rfl
   | false =>
    rw [Xaw]
    cases (m == 1) with
    | true => rw [Xay, Xax (by simp only [List.length_singleton]; omega), Xad]; rfl
    | false =>
     rw [Xaw]
     cases (m == 2) with
     | true => rw [Xay, Xax (by simp only [List.length_singleton]; omega), Xad]; rfl
     | false => rw [Xaw, Xdv, Xad, Xax (by simp only [List.length_singleton]; omega), Xad]; rfl) (by intro s; unfold Xdx; rw [Xav (by simp)]) [] rfl
  rw [eo, Xad, ho]
theorem Xt0 (m : Int) (hm0 : 0 ≤ m ∧ m ≤ 3) {e : Xji} (h : Xvu e) : Xgw m e = Xdw m e := by
 obtain ⟨g, h1, h2⟩ := Yvj m hm0 h
 rw [h1, h2]
theorem Ygo (g b : List Int) (hg : Xb4 g = true) (hl : b.length = 64) (hb : inB 10000000 b) : Xnw g b = Xix g b := by
 obtain ⟨g1, g2⟩ := Xbx hg
 unfold Xnw Xix
 rw [Xhs g hg, Xil g (by omega), hg, Xsw b 64 10000000 (by omega) (by omega) hb, Xcy b 64 10000000 (by omega) (by omega) (by omega) hb]
 have : Xon g b = Xf2 g b := by
  funext v
  unfold Xon Xf2
  simp only [Ytb, show ((g.length : Nat) : Int) = 64 by omega]
 simp only [Xad, Xay, Bool.not_true, Xaw, this]
theorem Yxn {s : Xau} (h : Xye s = true) (h1 : s.Kind = 0) : s.Dx = 0 ∧ s.Dy = 0 := by
 unfold Xye at h
 rw [h1] at h
 simp at h
 exact ⟨h.2.1, h.2.2.1⟩
theorem Zfl {s : Xau} (h : Xye s = true) : (-16 ≤ s.Dx ∧ s.Dx ≤ 16) ∧ (-16 ≤ s.Dy ∧ s.Dy ≤ 16) := by
 have hk := Xxi h
 obtain h1 | h1 | h1 : s.Kind = 0 ∨ s.Kind = 1 ∨ s.Kind = 2 := by omega
 ·
  obtain ⟨a, b⟩ := Yxn h h1; omega
 ·
  obtain ⟨a, b, _⟩ := Yd5 h h1; exact ⟨a, b⟩
 ·
  unfold Xye at h
  rw [h1] at h
  simp at h
  omega
theorem Yx9 (s : Xau) (c : Xf7) : Xe0 s c = some (Xxh s c) := by
 unfold Xe0 Xxh
 cases c.Key <;> rfl
structure Zj9 (now ref : Pic) (l t x y : Int) (c : Xf7) (q : Xau) : Prop where
 ok : Xdg now = true
 hx : x.tmod 8 = 0
 hy : y.tmod 8 = 0
 h0 : Xd6 now x y = true
 hl : 0 ≤ l ∧ l ≤ 256
 ht : 0 ≤ t ∧ t ≤ 256
 hc : Xj9 c = true
 hs : q.Levels.length ≤ 1048576
theorem Xvq {now ref : Pic} {l t x y : Int} {c : Xf7} {q : Xau} (h : Zj9 now ref l t x y c q) (hq : Xye q = true) (hL : Xxh q c = true) (hr : c.Key = false → Xdg ref = true) : ∃ d, Xez now ref l t c x y q = some (d, true) ∧ Xd0 now ref l t c x y q = some (d, true) ∧ Xb4 d = true := by
 obtain ⟨ok, hx, hy, h0, hl, ht, hc, hs⟩ := h
 obtain ⟨k1, k2, k3⟩ := Xbq ok
 have h0' := h0
 unfold Xd6 at h0'
 rw [decide_eq_true_eq] at h0'
 have dxy := Zfl hq
 unfold Xd0 Xez
 rw [Xht ok hx hy h0, Xad, Xay, Xaj, Xad, decide_eq_true hl, Xay, Xaj, Xad, decide_eq_true ht, Xay, Yja, Xad, hq, Xay, Xf0, Xad, hc, Bool.not_true, Xad, Xaw]
 rw [Xdl, Xad, ok, Xay, Xwg ok hx hy h0, Xad, Xay, Xaq, Xad, decide_eq_true hl, Xay, Xaq, Xad, decide_eq_true ht, Xay, Xu2 q (by omega), Xad, hq, Xay, Xhv, Xad, hc, Xay, Yx9, Xad, hL, Xay]
 by_cases h2 : q.Kind = 2
 ·
  obtain ⟨hm, hlv⟩ := Ykw hq h2
  obtain ⟨e, ee, he⟩ := Xwm ok hx hy h0
  obtain ⟨b, eb, b1, b2⟩ := Xr4 q.Levels c hc hlv
  obtain ⟨g, eg, hg⟩ := Xmz q.Mode hm he
  obtain ⟨j, ej, hj⟩ := Xy6 g b hg b1 b2
  refine ⟨j, ?_, ?_, hj⟩
  ·
   rw [Xbh (b := q.Kind != 2) (by simpa using h2), Xad, Xaw, Xbh (by rw [h2]; rfl), Xux q.Levels c hc hlv, eb, Xad, Xbh (by rw [h2]; rfl), Ya2 ok hx hy h0, ee, Xad, Xt0 q.Mode hm he, eg, Xad, Ygo g b hg b1 b2, ej, Xad]
  ·
   rw [Xbt (by simpa using h2), ee, Xad, eb, Xad, eg, Xad, ej, Xad]
 ·
  have hK : c.Key = false := by
   unfold Xxh at hL
   cases hk : c.Key with
   | false => rfl
   | true => rw [hk] at hL; simp at hL; exact absurd hL h2
  have rok := hr hK
  rw [Xbt (b := q.Kind != 2) (by simpa using h2), Xdl, Xad, rok, Bool.not_true, Xad, Xaw]
  rw [Xbh (b := q.Kind == 2) (by simpa using h2), hK, Xaw, Xei, Xad, rok, Bool.not_true, Xad, Xaw]
  rw [wkA (e := l + x), wkA (e := l + x + q.Dx), wkA (e := t + y), wkA (e := t + y + q.Dy), Xiv rok _ _ (by omega) (by omega), Xad, Xg7 rok _ _ (by omega) (by omega), Xad, Xg7 rok _ _ (by omega) (by omega)]
  by_cases h3 : q.Kind = 0
  ·
   obtain ⟨z1, z2⟩ := Yxn hq h3
   rw [Xbt (b := q.Kind == 0) (by simpa using h3), Xbt (b := q.Kind == 0) (by simpa using h3), z1, z2, Int.add_zero, Int.add_zero]
   exact ⟨_, rfl, rfl, Xmb _ _ _⟩
  ·
   have h1 : q.Kind = 1 := by have := Xxi hq; omega
   obtain ⟨_, _, hlv⟩ := Yd5 hq h1
   obtain ⟨b, eb, b1, b2⟩ := Xr4 q.Levels c hc hlv
   obtain ⟨j, ej, hj⟩ := Xy6 _ b (Xmb ref (l + x + q.Dx) (t + y + q.Dy)) b1 b2
   rw [Xbh (b := q.Kind == 0) (by simpa using h3), Xbh (b := q.Kind == 0) (by simpa using h3), Xux q.Levels c hc hlv, eb, Xad, Xad, Xbt (b := q.Kind == 1) (by simpa using h1), Xad, Ygo _ b (Xmb _ _ _) b1 b2, ej, Xad]
   exact ⟨_, rfl, rfl, hj⟩
theorem Zfc {β : Type} {a b c : Prop} [Decidable a] [Decidable b] [Decidable c] (hb : b) (hc : c) (k : Option β) : req a (req b (req c k)) = req b (req c (req a k)) := by
 rw [Xax hb, Xax hc, Xax hb, Xax hc]
theorem Zet {p : Pic} (ok : Xdg p = true) : p.Dots.size ≤ 65536 := by
 obtain ⟨k1, k2, k3⟩ := Xbq ok
 have := Xga k1 k2
 omega
theorem Zdd {p : Pic} {x y : Int} {d : List Int} (hd : Xb4 d = true) (hp : p.Dots.size ≤ maxLen) : Yce p x y d = Xe8 p x y d := by
 obtain ⟨d1, d2⟩ := Xbx hd
 unfold Yce Xe8 Yb9
 rw [Xax hp, Xad, Xax hp]
 have : Xud p x y d = Xcs p x y d := by
  funext v
  unfold Xud Xcs
  simp only [show ((d.length : Nat) : Int) = 64 by omega]
  exact Yc1 (fun _ => Zfc (by omega) (by omega) _) fun _ => rfl
 rw [this]
theorem Zc7 (n : Nat) (x : Int) : ((List.range n).map fun _ => x) = List.replicate n x := by
 apply List.ext_getElem
 ·
  simp
 ·
  intro i h1 h2; simp
theorem Ywf (w h : Int) (hw : 1 ≤ w ∧ w ≤ 256) (hh : 1 ≤ h ∧ h ≤ 256) : Xv5 w h = some ⟨w, h, strOfNums (List.replicate (w * h).toNat 128)⟩ := by
 have ar := Xga hw hh
 unfold Xv5
 rw [Xaq, Xad, decide_eq_true hw, Xay, Xaq, Xad, decide_eq_true hh, Bool.not_true, Xad, Xaw, wkA (e := w * h), rqA]
 rw [Zbg (f := Xoz w h) (w * h).toNat (fun _ => 128) (List.replicate (w * h).toNat 0) (by simp) ?_ ?_, Xad, Zc7]
 ·
  intro i s hi hs _
  unfold Xoz
  simp only [List.length_replicate, Int.toNat_natCast]
  rw [wkA (e := w * h), syA, rqA, rqA, wkA]
  rfl
 ·
  intro s hs
  unfold Xoz
  simp only [List.length_replicate]
  rw [wkA (e := w * h), snA]
theorem Yxm (w h : Int) (hw : 1 ≤ w ∧ w ≤ 256) (hh : 1 ≤ h ∧ h ≤ 256) : Xwo w h = some ⟨w, h, strOfNums (List.replicate (w * h).toNat 128)⟩ := by
 have ar := Xga hw hh
 unfold Xwo
 rw [Xaj, Xad, decide_eq_true hw, Xay, Xaj, Xad, decide_eq_true hh, Bool.not_true, Xad, Xaw, wkA (e := w * h), show w * h = (((w * h).toNat : Nat) : Int) by omega, Xwt _ _ (by omega), Xad, Int.toNat_natCast]
theorem Xyw (n : Int) : Xn4 n = some (Xwk n) := by
 unfold Xn4 Xwk
 rw [rqA, Xaq, Xad, Xdh, Xad, Ys9]
theorem Zby {w h : Int} (hw : Xwk w = true) (hh : Xwk h = true) (i : Nat) (hi : (i : Int) < w / 8 * (h / 8)) : (8 ≤ w ∧ w ≤ 64) ∧ (8 ≤ h ∧ h ≤ 64) ∧ 1 ≤ w / 8 ∧ w / 8 ≤ 8 ∧ 1 ≤ h / 8 ∧ h / 8 ≤ 8 ∧ 0 ≤ (i : Int) % (w / 8) * 8 ∧ (i : Int) % (w / 8) * 8 ≤ w - 8 ∧ 0 ≤ (i : Int) / (w / 8) * 8 ∧ (i : Int) / (w / 8) * 8 ≤ h - 8 := by
 unfold Xwk at hw hh
 rw [Bool.and_eq_true, decide_eq_true_eq, decide_eq_true_eq] at hw hh
 rw [Xb1 (by omega)] at hw hh
 have h1 : 1 ≤ w / 8 ∧ w / 8 ≤ 8 := by omega
 have h2 : 1 ≤ h / 8 ∧ h / 8 ≤ 8 := by omega
 have m0 : 0 ≤ (i : Int) % (w / 8) := Int.emod_nonneg _ (by omega)
 have m1 : (i : Int) % (w / 8) < w / 8 := Int.emod_lt_of_pos _ (by omega)
 have d0 : 0 ≤ (i : Int) / (w / 8) := Int.ediv_nonneg (by omega) (by omega)
 have d1 : (i : Int) / (w / 8) < h / 8 := Int.ediv_lt_of_lt_mul (by omega) (by rw [Int.mul_comm]; exact hi)
 exact ⟨hw.2, hh.2, h1.1, h1.2, h2.1, h2.2, by omega, by omega, by omega, by omega⟩
theorem Xg9 {w : Int} (hw : Xwk w = true) : w % 8 = 0 ∧ 8 ≤ w ∧ w ≤ 64 := by
 unfold Xwk at hw
 rw [Bool.and_eq_true, decide_eq_true_eq, decide_eq_true_eq] at hw
 rw [Xb1 (by omega)] at hw
 exact ⟨hw.1, hw.2⟩
theorem Yo2 (l : List Int) : Xeo l = some (Xb4 l) := by
 unfold Xeo Xb4
 by_cases h : l.length = 64
 ·
  rw [Xbh (by simp only [bne_eq_false_iff_eq]; omega), Ykl Yx5 l (Xd5 l) (by
   intro i hi
   unfold Xd5
   rw [syA, rqA, Xaj, Xad, wkA, Int.toNat_natCast]
   rfl) (by unfold Xd5; rw [snA]), Xad, decide_eq_true h, Bool.true_and]
  cases l.all Yx5 <;> rfl
 ·
  rw [Xbt (by simp only [bne_iff_ne, ne_eq]; omega), decide_eq_false h, Bool.false_and]
theorem Zf1 (m : Int) (h : 0 ≤ m ∧ m ≤ 3) : ∃ s, Xn0 m = some s ∧ Xi4 m = some s := by
 have e1 : Xi4 m = some (((strOfNums (ueL m.toNat)).size : Nat) : Int) := by
  unfold Xi4 Xtt
  rw [Xaj, Xad, decide_eq_true (by omega), Bool.not_true, Xaw]
  have : Xcz m = some (strOfNums (ueL m.toNat)) := by
   have := Xcx m.toNat (by omega)
   rwa [show ((m.toNat : Nat) : Int) = m by omega] at this
  rw [this, Xad, Xad]
 have e2 : Xn0 m = some (((strOfNums (ueL m.toNat)).size : Nat) : Int) := by
  unfold Xn0 Xqb
  rw [Xaq, Xad, decide_eq_true (by omega), Bool.not_true, Xaw]
  have : Xj5 m = some (strOfNums (ueL m.toNat)) := by
   have := Xgj m.toNat (by omega)
   rwa [show ((m.toNat : Nat) : Int) = m by omega] at this
  rw [this, Xad, Xad]
 exact ⟨_, e2, e1⟩
theorem Yky {w : List Int} (hw : Xb4 w = true) {e : Xji} (h : Xvu e) : Xkb w e = Xfz w e := by
 have hwl := (Xbx hw).1
 unfold Xkb Xfz
 rw [Ykz h, Xk0 h, Xil w (by omega), Yo2, hw]
 have : loop (Xjj w e) (0, -1, 0) = loop (Xdi w e) (0, -1, 0) := by
  refine Xoa (fun v => 0 ≤ v.2.2 ∧ v.2.2 ≤ 4) ?_ ?_ (by simp)
  ·
   intro ⟨m, c, i⟩ ⟨h1, h2⟩
   simp only at h1 h2
   unfold Xjj Xdi
   simp only
   by_cases hi : i < 4
   ·
    obtain ⟨g, eg, hg⟩ := Xmz i ⟨h1, by omega⟩ h
    obtain ⟨s, e1, e2⟩ := Zf1 i ⟨h1, by omega⟩
    rw [Xbf (show i ≤ 3 by omega), Xbf hi, Xt0 i ⟨h1, by omega⟩ h, eg, Xad, Xad, Xuc hw hg, Xuo hw hg, Xad, Xad, e1, e2]
   ·
    rw [Xav (show ¬ i ≤ 3 by omega), Xav hi]
  ·
   intro ⟨m, c, i⟩ v' ⟨h1, h2⟩ he
   simp only at h1 h2
   unfold Xdi at he
   rcases Xkz he with ⟨hb, he⟩ | ⟨_, he⟩
   ·
    have hi := of_decide_eq_true hb
    simp only at hi
    obtain ⟨q, _, he⟩ := Xa8 he
    injection he with he
    injection he with he
    subst he
    simp only
    rw [wkA]; omega
   ·
    cases he
 simp only [Xad, Xay, Bool.not_true, Xaw, this]
theorem Ypm {p : Pic} {w : List Int} {x y r : Int} (ok : Xdg p = true) (hw : Xb4 w = true) (hr : 0 ≤ r ∧ r ≤ 4) (hx : x.tmod 8 = 0) (hy : y.tmod 8 = 0) (h0 : Xd6 p x y = true) : Xeb p w x y r = Xjt p w x y r := by
 obtain ⟨k1, k2, k3⟩ := Xbq ok
 have hwl := (Xbx hw).1
 have h0' := h0
 unfold Xd6 at h0'
 rw [decide_eq_true_eq] at h0'
 unfold Xeb Xjt
 rw [Xdl, Xad, ok, Xay, Xil w (by omega), Xad, hw, Xay, Xaq, Xad, decide_eq_true hr, Xay, Xpl ok x y hx hy h0, Xad, Bool.not_true, Xad, Xaw]
 rw [Xhs w hw, Xad, Xay, Xaj, Xad, decide_eq_true hr, Xay, Xht ok hx hy h0, Xad, Bool.not_true, Xad, Xaw, wkA (e := 0 - r)]
 refine Za0 ?_ fun _ _ => rfl
 refine Xoa (fun s => -r ≤ s.2.2.2 ∧ s.2.2.2 ≤ r + 1) ?_ ?_ (by simp only; omega)
 ·
  intro s ⟨g1, g2⟩
  unfold Xgc Xju
  refine Yc1 (fun hs => ?_) fun _ => rfl
  have hs := of_decide_eq_true hs
  rw [wkA (e := 0 - r)]
  refine Za0 ?_ fun _ _ => rfl
  refine Xoa (fun v => -r ≤ v.2.2.2 ∧ v.2.2.2 ≤ r + 1) ?_ ?_ (by simp only; omega)
  ·
   intro v ⟨f1, f2⟩
   unfold Xc9 Xjv
   refine Yc1 (fun hv => ?_) fun _ => rfl
   have hv := of_decide_eq_true hv
   rw [wkA (e := x + v.2.2.2), wkA (e := y + s.2.2.2), Ygw ok, Xvh ok, Xad, Xad]
   refine Za0 ?_ fun _ _ => rfl
   refine Yc1 (fun _ => rfl) fun _ => ?_
   have hb := Xmb p (x + v.2.2.2) (y + s.2.2.2)
   rw [Xiv ok _ _ (by omega) (by omega), Xg7 ok _ _ (by omega) (by omega), Xad, Xad, Xuo hw hb, Xuc hw hb, Xad, Xad, Xza _ (by omega), Xoo _ (by omega), Xad, Xad, Xza _ (by omega), Xoo _ (by omega), Xad]
  ·
   intro v v' ⟨f1, f2⟩ he
   unfold Xjv at he
   rcases Xkz he with ⟨hb, he⟩ | ⟨_, he⟩
   ·
    have hi := of_decide_eq_true hb
    obtain ⟨q, _, he⟩ := Xa8 he
    injection he with he
    injection he with he
    subst he
    simp only
    rw [wkA]; omega
   ·
    cases he
 ·
  intro s v' ⟨g1, g2⟩ he
  unfold Xju at he
  rcases Xkz he with ⟨hb, he⟩ | ⟨_, he⟩
  ·
   have hi := of_decide_eq_true hb
   obtain ⟨q, _, he⟩ := Xa8 he
   injection he with he
   injection he with he
   subst he
   simp only
   rw [wkA]; omega
  ·
   cases he
def Yaf (a b : List Int) : List Int := (List.range 64).map fun i => a.getD i 0 - b.getD i 0
theorem Xqx (a b : List Int) : (Yaf a b).length = 64 := by simp [Yaf]
theorem Yuc (a b : List Int) {i : Nat} (hi : i < 64) : (Yaf a b).getD i 0 = a.getD i 0 - b.getD i 0 := Xh9 _ hi
theorem Yks {a b : List Int} (ha : Xb4 a = true) (hb : Xb4 b = true) : inB 255 (Yaf a b) := by
 intro x hx
 obtain ⟨i, hi, rfl⟩ := List.mem_map.1 hx
 rw [List.mem_range] at hi
 have p := (Xbx ha).2 i hi
 have q := (Xbx hb).2 i hi
 omega
theorem Yws {a b : List Int} (ha : Xb4 a = true) (hb : Xb4 b = true) {f : Int × List Int → Option (Lp (Int × List Int) (List Int))} (hf : ∀ v, f v = sel (decide (v.1 < 64)) (req (0 ≤ v.1 ∧ v.1 < a.length) <| req (0 ≤ v.1 ∧ v.1 < b.length) <| req ((v.2.length + ([Xaa .i64 ((a.getD v.1.toNat 0) - (b.getD v.1.toNat 0))]).length) * 8 ≤ 140737488355328 ∧ v.2.length + ([Xaa .i64 ((a.getD v.1.toNat 0) - (b.getD v.1.toNat 0))]).length ≤ maxLen) <| some (.go (Xaa .i64 (v.1 + 1), (v.2 ++ ([Xaa .i64 ((a.getD v.1.toNat 0) - (b.getD v.1.toNat 0))]))))) (some (.done v.2))) : loop f (0, []) = some (Yaf a b) := by
 have hm : maxLen = 9223372036854775807 := rfl
 obtain ⟨a1, a2⟩ := Xbx ha
 obtain ⟨b1, b2⟩ := Xbx hb
 have := Yy7 (f := f) 64 (fun i => a.getD i 0 - b.getD i 0) [] (by
  intro i hi
  have x := a2 i hi
  have y := b2 i hi
  rw [hf]
  simp only [Int.toNat_natCast]
  rw [syA, rqA, rqA, Xax (by simp only [List.length_append, List.length_nil, List.length_map, List.length_range, List.length_singleton]; omega), wkA (e := a.getD i 0 - b.getD i 0), wkA (e := (i : Int) + 1)]
  rfl) (by rw [hf, Xav (by simp)])
 rw [List.nil_append] at this
 exact this
theorem Xu6 {a b : List Int} (ha : Xb4 a = true) (hb : Xb4 b = true) : Xg8 a b = some (Yaf a b) := by
 have a1 := (Xbx ha).1
 unfold Xg8
 rw [Yws ha hb (f := Xkx a b) (fun v => by unfold Xkx; rw [show ((a.length : Nat) : Int) = 64 by omega]), Xad]
theorem Xni {a b : List Int} (ha : Xb4 a = true) (hb : Xb4 b = true) : Xje a b = some (Yaf a b) := by
 have a1 := (Xbx ha).1
 unfold Xje
 rw [Yws ha hb (f := Xnj a b) (fun v => by unfold Xnj; rw [show ((a.length : Nat) : Int) = 64 by omega]), Xad]
theorem Xxg (l : List Int) (hl : l.length ≤ 1000000) : Xl9 l = some (l.all fun x => x == 0) := by
 unfold Xl9
 rw [Ykl (fun x => x == 0) l (Xjf l) (by
  intro i hi
  unfold Xjf
  rw [syA, rqA, Int.toNat_natCast, wkA]
  rfl) (by unfold Xjf; rw [snA]), Xad]
 cases l.all (fun x => x == 0) <;> rfl
theorem Ze2 {a b : List Int} (ha : Xb4 a = true) (hb : Xb4 b = true) : (Xqg a b 64 == 0) = ((Yaf a b).all fun x => x == 0) := by
 have key : ∀ n : Nat, n ≤ 64 → (Xqg a b n = 0 ↔ ∀ i, i < n → a.getD i 0 - b.getD i 0 = 0) := by
  intro n
  induction n with
  | zero => intro _; exact ⟨fun _ i hi => by omega, fun _ => rfl⟩
  | succ n ih =>
   intro hn
   have g := Xlk ha hb n (by omega)
   have e : Xqg a b (n + 1) = Xqg a b n + Ygr (a.getD n 0 - b.getD n 0) := rfl
   have ab : 0 ≤ Ygr (a.getD n 0 - b.getD n 0) ∧ (Ygr (a.getD n 0 - b.getD n 0) = 0 ↔ a.getD n 0 - b.getD n 0 = 0) := by unfold Ygr; split <;> omega
   rw [e]
   constructor
   ·
    intro h i hi
    rcases Nat.lt_or_ge i n with h1 | h1
    ·
     exact (ih (by omega)).1 (by omega) i h1
    ·
     have : i = n := by omega
     subst this
     exact ab.2.1 (by omega)
   ·
    intro h
    have h1 := (ih (by omega)).2 fun i hi => h i (by omega)
    have h2 := ab.2.2 (h n (by omega))
    omega
 rw [Bool.eq_iff_iff, beq_iff_eq, List.all_eq_true, key 64 (by omega)]
 constructor
 ·
  intro h x hx
  obtain ⟨i, hi, rfl⟩ := List.mem_map.1 hx
  rw [List.mem_range] at hi
  rw [beq_iff_eq]; exact h i hi
 ·
  intro h i hi
  have := h ((Yaf a b).getD i 0) (by rw [Xcd _ i (by rw [Xqx]; exact hi)]; exact List.getElem_mem _)
  rw [beq_iff_eq, Yuc a b hi] at this
  exact this
theorem Zav (l : List Int) (hl : l.length = 64) : Xbp l 64 0 0 = some (l.all fun x => x == 0) := by
 rw [Xmn l 64 0 0 (by omega), show ((l.length : Int) == 64) = true by rw [beq_iff_eq]; omega, Bool.and_true]
 congr 2
 funext x
 rw [Bool.eq_iff_iff, decide_eq_true_eq, beq_iff_eq]; omega
structure Zh1 (now ref : Pic) (w : List Int) (x y : Int) (c : Xf7) (r : Int) : Prop where
 ok : Xdg now = true
 hx : x.tmod 8 = 0
 hy : y.tmod 8 = 0
 h0 : Xd6 now x y = true
 hw : Xb4 w = true
 hc : Xj9 c = true
 hr : 0 ≤ r ∧ r ≤ 4
 hk : c.Key = false → Xdg ref = true ∧ ref.Wide = now.Wide ∧ ref.High = now.High
inductive Xuw (now ref : Pic) (w : List Int) (x y : Int) (c : Xf7) (r : Int) : Xau → Prop
 | same (hK : c.Key = false) (h : ∀ i : Nat, i < 64 → w.getD i 0 = (Xsv ref x y 64).getD i 0) : Xuw now ref w x y c r ⟨0, 0, 0, 0, []⟩
 | still (hK : c.Key = false) (l : List Int) (h : Xcw (Yaf w (Xsv ref x y 64)) c = some (l, true)) (hl : Ykt l = true) (hz : ∀ i : Nat, i < 64 → l.getD i 0 = 0) : Xuw now ref w x y c r ⟨0, 0, 0, 0, []⟩
 | move (hK : c.Key = false) (dx dy : Int) (hdx : -r ≤ dx ∧ dx ≤ r) (hdy : -r ≤ dy ∧ dy ≤ r) (hh : Xd6 ref (x + dx) (y + dy) = true) (l : List Int) (h : Xcw (Yaf w (Xsv ref (x + dx) (y + dy) 64)) c = some (l, true)) (hl : Ykt l = true) (hn : ¬ ∀ i : Nat, i < 64 → w.getD i 0 = (Xsv ref x y 64).getD i 0) : Xuw now ref w x y c r ⟨1, 0, dx, dy, l⟩
 | guess (e : Xji) (he : Xfo now x y = some (e, true)) (hp : Xvu e) (m : Int) (hm : 0 ≤ m ∧ m ≤ 3) (g : List Int) (hg : Xdw m e = some g) (hd : Xb4 g = true) (l : List Int) (h : Xcw (Yaf w g) c = some (l, true)) (hl : Ykt l = true) (hn : c.Key = false → ¬ ∀ i : Nat, i < 64 → w.getD i 0 = (Xsv ref x y 64).getD i 0) : Xuw now ref w x y c r ⟨2, m, 0, 0, l⟩
theorem Xuw.ok {now ref : Pic} {w : List Int} {x y : Int} {c : Xf7} {r : Int} {q : Xau} (hr : 0 ≤ r ∧ r ≤ 4) (h : Xuw now ref w x y c r q) : Xye q = true ∧ Xxh q c = true ∧ q.Levels.length ≤ 64 := by
 cases h with
 | same hK _ => exact ⟨rfl, by unfold Xxh; rw [hK]; rfl, by simp⟩
 | still hK l _ _ _ => exact ⟨rfl, by unfold Xxh; rw [hK]; rfl, by simp⟩
 | move hK dx dy hdx hdy hh l h hl hn => exact ⟨Zdt (by omega) (by omega) hl, by unfold Xxh; rw [hK]; rfl, by simp only; have := (Ym7 hl).1; omega⟩
 | guess e he hp m hm g hg hd l h hl hn => exact ⟨Zbr hm hl, by unfold Xxh; simp, by simp only; have := (Ym7 hl).1; omega⟩
theorem Zar {l : List Int} (hl : l.length = 64) : (l.all fun x => x == 0) = true ↔ ∀ i : Nat, i < 64 → l.getD i 0 = 0 := by
 rw [List.all_eq_true]
 constructor
 ·
  intro h i hi
  have := h (l.getD i 0) (by rw [Xcd l i (by omega)]; exact List.getElem_mem _)
  rwa [beq_iff_eq] at this
 ·
  intro h x hx
  obtain ⟨i, hi, rfl⟩ := List.getElem_of_mem hx
  rw [beq_iff_eq, ← Xcd l i hi 0]
  exact h i (by omega)
theorem Ysy {p : Pic} {w : List Int} {x y r : Int} (ok : Xdg p = true) (hw : Xb4 w = true) (hr : 0 ≤ r ∧ r ≤ 4) (hx : x.tmod 8 = 0) (hy : y.tmod 8 = 0) (h0 : Xd6 p x y = true) :
  ∃ b, Xeb p w x y r = some b ∧ Xjt p w x y r = some b ∧ (-r ≤ b.1 ∧ b.1 ≤ r) ∧ (-r ≤ b.2.1 ∧ b.2.1 ≤ r) ∧ Xd6 p (x + b.1) (y + b.2.1) = true := by
 obtain ⟨b, e, h1, h2, h3, _⟩ := Yhf ok hw hr hx hy h0
 exact ⟨b, e, by rw [← Ypm ok hw hr hx hy h0]; exact e, h1, h2, h3⟩
theorem Xt2 {now ref : Pic} {w : List Int} {x y : Int} {c : Xf7} {r : Int} (H : Zh1 now ref w x y c r) : ∃ q d, Xfv now ref w x y c r = some (q, d, true) ∧ Xf5 now ref w x y c r = some (q, d, true) ∧ Xuw now ref w x y c r q ∧ Xez now ref 0 0 c x y q = some (d, true) ∧ Xb4 d = true := by
 obtain ⟨ok, hx, hy, h0, hw, hc, hr, hk⟩ := H
 have hwl := (Xbx hw).1
 obtain ⟨e, ee, he⟩ := Xwm ok hx hy h0
 obtain ⟨m, co, eb, hm⟩ := Yfm hw he
 obtain ⟨g, eg, hg⟩ := Xmz m hm he
 obtain ⟨l, el, hl⟩ := Xvb (Yaf w g) c hc (Xqx w g) (Yks hw hg)
 have hh := h0
 unfold Xd6 at hh
 rw [decide_eq_true_eq] at hh
 obtain ⟨k1, k2, k3⟩ := Xbq ok
 -- the square
 have main : ∃ q, Xuw now ref w x y c r q ∧ Xkt now ref w x y c r = some q ∧
   (sel (!c.Key) (bnd (Xb8 ref x y) fun q15 => bnd (Xru w q15) fun q16 => sel (q16 == 0) (some ((0 : Int), (0 : Int), (0 : Int), (0 : Int), ([] : List Int))) (bnd (Xeb ref w x y r) fun q17 => sel (decide (q17.2.2 ≤ co)) (bnd (Xb8 ref (Xaa .i64 (x + q17.1)) (Xaa .i64 (y + q17.2.1))) fun q18 => bnd (Xg8 w q18) fun q19 => bnd (Xg5 q19 c) fun q20 =>
    bnd (sel (q17.1 == 0) (sel (q17.2.1 == 0) (bnd (Xbp q20.1 64 0 0) fun q22 => some q22) (some false)) (some false)) fun v21 => sel v21 (some (0, 0, 0, 0, [])) (some (1, 0, q17.1, q17.2.1, q20.1))) (some (2, m, 0, 0, l)))) (some (2, m, 0, 0, l))) = some (q.Kind, q.Mode, q.Dx, q.Dy, q.Levels) := by
  unfold Xkt
  cases hK : c.Key with
  | true =>
   refine ⟨⟨2, m, 0, 0, l⟩, .guess e ee he m hm g eg hg l el hl (fun h => by rw [hK] at h; cases h), ?_, rfl⟩
   rw [Xay, Xad, Xaw, ee, Xad, eb, Xad, Bool.not_true]
   simp only [Zcx, Xaw, eg, Xad, Xni hw hg, el]
  | false =>
   obtain ⟨rok, rw', rh⟩ := hk hK
   have hb := Xmb ref x y
   have r0 : Xd6 ref x y = true := by unfold Xd6; rw [decide_eq_true_eq, rw', rh]; exact hh
   have gz := Ze2 hw hb
   have lz := Zar (Xqx w (Xsv ref x y 64))
   rw [Bool.not_false, Xay, Xaw, Xg7 rok x y (by omega) (by omega), Xad, Xuc hw hb, Xad, Xiv rok x y (by omega) (by omega), Xad, Xni hw hb, Xad, Xxg _ (by rw [Xqx]; omega), Xad, Xad, gz]
   cases hz : ((Yaf w (Xsv ref x y 64)).all fun x => x == 0) with
   | true =>
    refine ⟨⟨0, 0, 0, 0, []⟩, .same hK fun i hi => ?_, rfl, rfl⟩
    have := lz.1 hz i hi
    rw [Yuc _ _ hi] at this; omega
   | false =>
    have hne : ¬ ∀ i : Nat, i < 64 → w.getD i 0 = (Xsv ref x y 64).getD i 0 := fun hall => by
     have := lz.2 fun i hi => by rw [Yuc _ _ hi, hall i hi]; omega
     rw [hz] at this; cases this
    obtain ⟨b, bi, bs, b1, b2, b3⟩ := Ysy rok hw hr hx hy r0
    rw [Xaw, Xaw, ee, Xad, eb, Xad, bi, Xad]
    simp only [Zcx, Xay, bs, Xad]
    by_cases hco : b.2.2 ≤ co
    ·
     have hb2 := Xmb ref (x + b.1) (y + b.2.1)
     obtain ⟨l2, el2, hl2⟩ := Xvb (Yaf w (Xsv ref (x + b.1) (y + b.2.1) 64)) c hc (Xqx _ _) (Yks hw hb2)
     have hl2n := (Ym7 hl2).1
     rw [Xbf hco, Xbf hco, wkA (e := x + b.1), wkA (e := y + b.2.1), Xiv rok _ _ (by omega) (by omega), Xg7 rok _ _ (by omega) (by omega), Xad, Xad, Xu6 hw hb2, Xni hw hb2, Xad, Xad, Xyg _ c hc (Xqx _ _) (Yks hw hb2), el2, Xad, Xad, Zav l2 hl2n, Xad, Xxg l2 (by omega), Xad]
     simp only [Xdh, Xad]
     cases hst : (b.1 == 0 && (b.2.1 == 0 && l2.all fun x => x == 0)) with
     | true =>
      simp only [Bool.and_eq_true, beq_iff_eq] at hst
      obtain ⟨z1, z2, z3⟩ := hst
      rw [z1, z2, Int.add_zero, Int.add_zero] at el2
      exact ⟨⟨0, 0, 0, 0, []⟩, .still hK l2 el2 hl2 ((Zar hl2n).1 z3), rfl, rfl⟩
     | false => exact ⟨⟨1, 0, b.1, b.2.1, l2⟩, .move hK b.1 b.2.1 b1 b2 b3 l2 el2 hl2 hne, rfl, rfl⟩
    ·
     rw [Xav hco, Xav hco]
     refine ⟨⟨2, m, 0, 0, l⟩, .guess e ee he m hm g eg hg l el hl (fun _ => hne), ?_, rfl⟩
     simp only [eg, Xad, Xni hw hg, el]
 obtain ⟨q, hq, es, ei⟩ := main
 obtain ⟨q1, q2, q3⟩ := hq.ok hr
 obtain ⟨d, di, ds, hd⟩ := Xvq (now := now) (ref := ref) (l := 0) (t := 0) (x := x) (y := y) (c := c) (q := q) ⟨ok, hx, hy, h0, by omega, by omega, hc, by omega⟩ q1 q2 (fun h => (hk h).1)
 refine ⟨q, d, ?_, ?_, hq, di, hd⟩
 ·
  unfold Xfv
  have hl7 : (sel c.Key (some false) (bnd (Xda ref) fun q8 => sel q8 (sel (ref.Wide != now.Wide) (some true) (some (ref.High != now.High))) (some true))) = some false := by
   cases hK : c.Key with
   | true => rfl
   | false =>
    obtain ⟨a1, a2, a3⟩ := hk hK
    rw [Xaw, Xdl, Xad, a1, a2, a3, Xay, bne_self_eq_false, Xaw, bne_self_eq_false]
  rw [Xdl, Xad, ok, Xay, Xwg ok hx hy h0, Xad, Xay, Xil w (by omega), Xad, hw, Xay, Xhv, Xad, hc, Xay, Xaq, Xad, decide_eq_true hr, Bool.not_true, Xad, Xaw, hl7, Xad, Xaw, Ya2 ok hx hy h0, ee, Xad, Yky hw he, eb, Xad, Xt0 m hm he, eg, Xad, Xu6 hw hg, Xad, Xyg _ c hc (Xqx _ _) (Yks hw hg), el, Xad]
  simp only
  rw [ei, Xad]
  simp only
  rw [show (⟨q.Kind, q.Mode, q.Dx, q.Dy, q.Levels⟩ : Xau) = q from rfl, di, Xad]
  rfl
 ·
  unfold Xf5
  have hl7 : (sel c.Key (some false) (bnd (Xg2 now ref) fun q6 => some (!q6))) = some false := by
   cases hK : c.Key with
   | true => rfl
   | false =>
    obtain ⟨a1, a2, a3⟩ := hk hK
    rw [Xaw, Xxe, Xad, Yzu ok a1 a2 a3]; rfl
  rw [Xht ok hx hy h0, Xad, Xay, Xhs w hw, Xad, Xay, Xf0, Xad, hc, Xay, Xaj, Xad, decide_eq_true hr, Xay, hl7, Xad, Xaw, es, Xad, ds, Xad]
theorem Xry (l : List Int) (hl : l.length ≤ 1000000000) : Xjq l l = some true := by
 unfold Xjq
 rw [bne_self_eq_false, Xaw, Xtl l.length (f := Xhk l l) (by
  intro i hi
  unfold Xhk
  rw [syA, rqA, rqA, bne_self_eq_false, Xaw, wkA]
  rfl) (by unfold Xhk; rw [snA]), Xad]
theorem Ycu {W x y : Int} (hx : 0 ≤ x ∧ x < W) : (y * W + x) / W = y ∧ (y * W + x) % W = x := by
 have hW : 0 < W := by omega
 constructor
 ·
  rw [Int.add_comm, Int.add_mul_ediv_right _ _ (by omega), Int.ediv_eq_zero_of_lt hx.1 hx.2, Int.zero_add]
 ·
  rw [Int.add_comm, Int.add_mul_emod_self_right, Int.emod_eq_of_lt hx.1 hx.2]
theorem Ycv {W H x y : Int} (hx : 0 ≤ x ∧ x < W) (hy : 0 ≤ y ∧ y < H) : 0 ≤ y * W + x ∧ y * W + x < W * H := by
 have a : 0 ≤ y * W := Int.mul_nonneg hy.1 (by omega)
 have b : y * W ≤ (H - 1) * W := Int.mul_le_mul_of_nonneg_right (by omega) (by omega)
 have c : (H - 1) * W = W * H - W := by rw [Int.sub_mul, Int.one_mul, Int.mul_comm]
 omega
theorem Ysh {n m : Int} (h : 0 ≤ n ∧ n ≤ m) : Xbl n 0 m = n := by
 unfold Xbl
 repeat' split
 all_goals omega
theorem Yko {p : Pic} {x y : Int} (hx : 0 ≤ x ∧ x < p.Wide) (hy : 0 ≤ y ∧ y < p.High) : Xt4 p x y = Xno p.Dots (y * p.Wide + x) := by
 unfold Xt4
 rw [Ysh (by omega), Ysh (by omega)]
theorem Yag (s : ByteArray) (k : Nat) (hk : k < s.size) : (Xbb s).getD k 0 = Xno s k := by
 have := Xvt (Xbb s) (by intro x hx; obtain ⟨b, _, rfl⟩ := List.mem_map.1 hx; have := b.toNat_lt; omega) k (by rw [Xdm]; exact hk)
 rw [Xx2] at this
 exact this.symm
theorem Za1 (s : ByteArray) : Ytc (Xbb s) := fun x hx => by
 obtain ⟨b, _, rfl⟩ := List.mem_map.1 hx
 have := b.toNat_lt
 omega
theorem Zcd {l : List Int} (h : Ytc l) (i : Nat) {y : Int} (hy : 0 ≤ y ∧ y ≤ 255) : Ytc (l.set i y) := fun x hx => by
 rcases List.mem_or_eq_of_mem_set hx with hx | hx
 ·
  exact h x hx
 ·
  rw [hx]; exact hy
theorem Zij {p q : Pic} (hp : Xdg p = true) (hq : Xdg q = true) (hw : p.Wide = q.Wide) (hh : p.High = q.High) (h : ∀ x y : Int, 0 ≤ x ∧ x < p.Wide → 0 ≤ y ∧ y < p.High → Xt4 p x y = Xt4 q x y) : p = q := by
 obtain ⟨p1, p2, p3⟩ := Xbq hp
 obtain ⟨q1, q2, q3⟩ := Xbq hq
 have hd : p.Dots = q.Dots := by
  rw [← Xx2 p.Dots, ← Xx2 q.Dots]
  congr 1
  have hsz : p.Dots.size = q.Dots.size := by
   have : (p.Dots.size : Int) = q.Dots.size := by rw [p3, q3, hw, hh]
   omega
  refine Yff (n := p.Dots.size) (Xdm _) ((Xdm _).trans hsz.symm) fun k hk => ?_
  have hkW : (k : Int) < p.Wide * p.High := by omega
  have m0 := Int.emod_nonneg (k : Int) (show p.Wide ≠ 0 by omega)
  have m1 := Int.emod_lt_of_pos (k : Int) (show 0 < p.Wide by omega)
  have d0 : 0 ≤ (k : Int) / p.Wide := Int.ediv_nonneg (by omega) (by omega)
  have d1 : (k : Int) / p.Wide < p.High := Int.ediv_lt_of_lt_mul (by omega) (by rw [Int.mul_comm]; exact hkW)
  have e := h ((k : Int) % p.Wide) ((k : Int) / p.Wide) ⟨m0, m1⟩ ⟨d0, d1⟩
  rw [Yko ⟨m0, m1⟩ ⟨d0, d1⟩, Yko (by rw [← hw]; exact ⟨m0, m1⟩) (by rw [← hh]; exact ⟨d0, d1⟩), ← hw, Int.ediv_mul_add_emod] at e
  rw [Yag _ k hk, Yag _ k (by omega)]
  exact e
 cases p; cases q
 simp only at hw hh hd
 rw [hw, hh, hd]
def Zcu (x y X Y : Int) : Bool := decide (x ≤ X ∧ X < x + 8 ∧ y ≤ Y ∧ Y < y + 8)
theorem Zfa {p : Pic} {x y : Int} {d : List Int} (ok : Xdg p = true) (h0 : Xd6 p x y = true) (hd : Xb4 d = true) : ∃ p', Xe8 p x y d = some p' ∧ Xdg p' = true ∧ p'.Wide = p.Wide ∧ p'.High = p.High ∧ ∀ X Y : Int, 0 ≤ X ∧ X < p.Wide → 0 ≤ Y ∧ Y < p.High → Xt4 p' X Y = if Zcu x y X Y = true then d.getD ((Y - y) * 8 + (X - x)).toNat 0 else Xt4 p X Y := by
 obtain ⟨k1, k2, k3⟩ := Xbq ok
 have ar := Xga k1 k2
 have hm : maxLen = 9223372036854775807 := rfl
 obtain ⟨d1, d2⟩ := Xbx hd
 have h0' := h0
 unfold Xd6 at h0'
 rw [decide_eq_true_eq] at h0'
 have hn := Xdm p.Dots
 unfold Xe8
 rw [rqA]
 obtain ⟨o, e, o1, o2, o3⟩ := Xoy (f := Xcs p x y d) 64 (fun i s => s.length = p.Dots.size ∧ Ytc s ∧ ∀ X Y : Int, 0 ≤ X ∧ X < p.Wide → 0 ≤ Y ∧ Y < p.High → s.getD (Y * p.Wide + X).toNat 0 = if Zcu x y X Y = true ∧ ((Y - y) * 8 + (X - x)).toNat < i then d.getD ((Y - y) * 8 + (X - x)).toNat 0 else (Xbb p.Dots).getD (Y * p.Wide + X).toNat 0) (by
  intro i s hi ⟨g1, g2, g3⟩
  have di := d2 i hi
  have hxx : 0 ≤ x + (i : Int) % 8 ∧ x + (i : Int) % 8 < p.Wide := by omega
  have hyy : 0 ≤ y + (i : Int) / 8 ∧ y + (i : Int) / 8 < p.High := by omega
  have pin := Ycv hxx hyy
  have b1 : 0 ≤ (y + (i : Int) / 8) * p.Wide := Int.mul_nonneg (by omega) (by omega)
  have b2 : (y + (i : Int) / 8) * p.Wide ≤ (p.High - 1) * p.Wide := Int.mul_le_mul_of_nonneg_right (by omega) (by omega)
  have b3 : (p.High - 1) * p.Wide = p.Wide * p.High - p.Wide := by rw [Int.sub_mul, Int.one_mul, Int.mul_comm]
  unfold Xcs
  simp only
  rw [syA, rqA, rqA, rqA, Xb2 (by omega), Xb1 (by omega), wkA (e := (i : Int) / 8), wkA (e := y + (i : Int) / 8), wkA (e := (y + (i : Int) / 8) * p.Wide), wkA (e := (y + (i : Int) / 8) * p.Wide + x), wkA (e := (y + (i : Int) / 8) * p.Wide + x + (i : Int) % 8), rqA, rqA, wkA (e := (i : Int) + 1), Int.toNat_natCast, w8 di.1 di.2]
  refine ⟨_, rfl, by rw [List.length_set]; exact g1, Zcd g2 _ di, fun X Y hX hY => ?_⟩
  have pXY := Ycv hX hY
  rw [Xft _ _ _ _ (by omega)]
  by_cases heq : ((y + (i : Int) / 8) * p.Wide + x + (i : Int) % 8).toNat = (Y * p.Wide + X).toNat
  ·
   rw [if_pos heq]
   have heq' : (y + (i : Int) / 8) * p.Wide + (x + (i : Int) % 8) = Y * p.Wide + X := by omega
   have q1 := Ycu (y := y + (i : Int) / 8) hxx
   have q2 := Ycu (y := Y) hX
   rw [heq'] at q1
   have eY : Y = y + (i : Int) / 8 := q2.1.symm.trans q1.1
   have eX : X = x + (i : Int) % 8 := q2.2.symm.trans q1.2
   have hin : Zcu x y X Y = true := by unfold Zcu; rw [decide_eq_true_eq]; omega
   have hpl : ((Y - y) * 8 + (X - x)).toNat = i := by omega
   rw [if_pos ⟨hin, by omega⟩, hpl]
  ·
   rw [if_neg heq, g3 X Y hX hY]
   by_cases hin : Zcu x y X Y = true
   ·
    have hin' := hin
    unfold Zcu at hin'
    rw [decide_eq_true_eq] at hin'
    by_cases hlt : ((Y - y) * 8 + (X - x)).toNat < i
    ·
     rw [if_pos ⟨hin, hlt⟩, if_pos ⟨hin, by omega⟩]
    ·
     have hne : ((Y - y) * 8 + (X - x)).toNat ≠ i := fun h => heq (by
      have eY : Y = y + (i : Int) / 8 := by omega
      have eX : X = x + (i : Int) % 8 := by omega
      rw [eY, eX]; congr 1; omega)
     rw [if_neg (fun h => hlt h.2), if_neg (fun h => by omega)]
   ·
    rw [if_neg (fun h => hin h.1), if_neg (fun h => hin h.1)]) (fun s _ => by unfold Xcs; rw [Xav (by simp)]) (Xbb p.Dots) ⟨hn, Za1 _, fun X Y hX hY => by rw [if_neg (fun h => by omega)]⟩
 refine ⟨_, (Xh6 e).trans rfl, Yct k1 k2 (by simp only; rw [strOfNums_size]; omega), rfl, rfl, fun X Y hX hY => ?_⟩
 have pXY := Ycv hX hY
 rw [Yko (p := ⟨p.Wide, p.High, strOfNums o⟩) hX hY, Yko hX hY]
 simp only
 have e1 : Xno (strOfNums o) (Y * p.Wide + X) = o.getD (Y * p.Wide + X).toNat 0 := by
  have := Xvt o o2 (Y * p.Wide + X).toNat (by omega)
  rwa [show (((Y * p.Wide + X).toNat : Nat) : Int) = Y * p.Wide + X by omega] at this
 have e2 : Xno p.Dots (Y * p.Wide + X) = (Xbb p.Dots).getD (Y * p.Wide + X).toNat 0 := by
  rw [Yag _ _ (by omega), show (((Y * p.Wide + X).toNat : Nat) : Int) = Y * p.Wide + X by omega]
 rw [e1, e2, o3 X Y hX hY]
 by_cases hin : Zcu x y X Y = true
 ·
  have hin' := hin
  unfold Zcu at hin'
  rw [decide_eq_true_eq] at hin'
  rw [if_pos ⟨hin, by omega⟩, if_pos hin]
 ·
  rw [if_neg (fun h => hin h.1), if_neg hin]
def tX (W : Int) (i : Nat) : Int := (i : Int) % (W / 8) * 8
def tY (W : Int) (i : Nat) : Int := (i : Int) / (W / 8) * 8
structure Zef (src ref : Pic) (c : Xf7) (r : Int) : Prop where
 ok : Xdg src = true
 hw : Xwk src.Wide = true
 hh : Xwk src.High = true
 hc : Xj9 c = true
 hr : 0 ≤ r ∧ r ≤ 4
 hk : c.Key = false → Xdg ref = true ∧ ref.Wide = src.Wide ∧ ref.High = src.High
inductive Xpe (src ref : Pic) (c : Xf7) (r : Int) : Nat → List Xau → Pic → Prop
 | zero : Xpe src ref c r 0 [] ⟨src.Wide, src.High, strOfNums (List.replicate (src.Wide * src.High).toNat 128)⟩
 | succ {n : Nat} {l : List Xau} {now : Pic} (h : Xpe src ref c r n l now) (hn : (n : Int) < src.Wide / 8 * (src.High / 8)) (q : Xau) (d : List Int) (now' : Pic)
   (hi : Xfv now ref (Xsv src (tX src.Wide n) (tY src.Wide n) 64) (tX src.Wide n) (tY src.Wide n) c r = some (q, d, true)) (hs : Xf5 now ref (Xsv src (tX src.Wide n) (tY src.Wide n) 64) (tX src.Wide n) (tY src.Wide n) c r = some (q, d, true)) (hq : Xuw now ref (Xsv src (tX src.Wide n) (tY src.Wide n) 64) (tX src.Wide n) (tY src.Wide n) c r q)
   (hd : Xez now ref 0 0 c (tX src.Wide n) (tY src.Wide n) q = some (d, true)) (hp : Xe8 now (tX src.Wide n) (tY src.Wide n) d = some now') : Xpe src ref c r (n + 1) (l ++ [q]) now'
theorem Zgz {w h : Int} (hw : 1 ≤ w ∧ w ≤ 256) (hh : 1 ≤ h ∧ h ≤ 256) : Xdg ⟨w, h, strOfNums (List.replicate (w * h).toNat 128)⟩ = true := by
 have ar := Xga hw hh
 refine Yct hw hh ?_
 simp only
 rw [strOfNums_size, List.length_replicate]; omega
theorem Yyt {src ref now : Pic} {c : Xf7} {r : Int} (H : Zef src ref c r) {n : Nat} (hn : (n : Int) < src.Wide / 8 * (src.High / 8)) (ok : Xdg now = true) (hw : now.Wide = src.Wide) (hh : now.High = src.High) : Zh1 now ref (Xsv src (tX src.Wide n) (tY src.Wide n) 64) (tX src.Wide n) (tY src.Wide n) c r := by
 obtain ⟨p1, p2, p3, p4, p5, p6, p7, p8, p9, p10⟩ := Zby H.hw H.hh n hn
 refine ⟨ok, by unfold tX; rw [Xb1 p7]; omega, by unfold tY; rw [Xb1 p9]; omega, by unfold Xd6 tX tY; rw [decide_eq_true_eq, hw, hh]; exact ⟨p7, p8, p9, p10⟩, Xmb _ _ _, H.hc, H.hr, fun hK => ?_⟩
 obtain ⟨a, b, c⟩ := H.hk hK
 exact ⟨a, by rw [b, hw], by rw [c, hh]⟩
theorem Xpe.pic {src ref : Pic} {c : Xf7} {r : Int} (H : Zef src ref c r) {n : Nat} {l : List Xau} {now : Pic} (h : Xpe src ref c r n l now) : Xdg now = true ∧ now.Wide = src.Wide ∧ now.High = src.High ∧ l.length = n ∧ (∀ q ∈ l, Xye q = true ∧ Xxh q c = true ∧ q.Levels.length ≤ 64) := by
 induction h with
 | zero =>
  obtain ⟨k1, k2, k3⟩ := Xbq H.ok
  exact ⟨Zgz k1 k2, rfl, rfl, rfl, fun q hq => by simp at hq⟩
 | succ h hn q d now' hi hs hq hd hp ih =>
  obtain ⟨ok, w, hh, hl, hall⟩ := ih
  have SF := Yyt H hn ok w hh
  obtain ⟨q2, d2, e2, _, _, _, hd64⟩ := Xt2 SF
  rw [hi] at e2
  injection e2 with e2
  injection e2 with e2 e3
  injection e3 with e3 _
  subst e2; subst e3
  obtain ⟨p', ep, p1, p2, p3⟩ := Xzj ok SF.h0 hd64
  rw [hp] at ep
  injection ep with ep
  subst ep
  refine ⟨p1, by rw [p2, w], by rw [p3, hh], by rw [List.length_append, hl]; rfl, fun x hx => ?_⟩
  rcases List.mem_append.1 hx with hx | hx
  ·
   exact hall x hx
  ·
   rw [List.mem_singleton.1 hx]; exact hq.ok H.hr
theorem Xpe.step {src ref : Pic} {c : Xf7} {r : Int} (H : Zef src ref c r) {n : Nat} {l : List Xau} {now : Pic} (h : Xpe src ref c r n l now) (hn : (n : Int) < src.Wide / 8 * (src.High / 8)) : ∃ q d now', Xfv now ref (Xsv src (tX src.Wide n) (tY src.Wide n) 64) (tX src.Wide n) (tY src.Wide n) c r = some (q, d, true) ∧ Xf5 now ref (Xsv src (tX src.Wide n) (tY src.Wide n) 64) (tX src.Wide n) (tY src.Wide n) c r = some (q, d, true) ∧ Xb4 d = true ∧ Xe8 now (tX src.Wide n) (tY src.Wide n) d = some now' ∧ Xpe src ref c r (n + 1) (l ++ [q]) now' := by
 obtain ⟨ok, w, hh, hl, _⟩ := h.pic H
 have SF := Yyt H hn ok w hh
 obtain ⟨q, d, e1, e2, hq, ed, hd64⟩ := Xt2 SF
 obtain ⟨p', ep, p1, p2, p3⟩ := Xzj ok SF.h0 hd64
 exact ⟨q, d, p', e1, e2, hd64, ep, .succ h hn q d p' e1 e2 hq ed ep⟩
theorem Zi3 {W : Int} (hW : Xwk W = true) (a b : Nat) (hb : (b : Int) < W / 8) : tX W ((W / 8).toNat * a + b) = 8 * b ∧ tY W ((W / 8).toNat * a + b) = 8 * a := by
 have s := Xg9 hW
 have e : (((W / 8).toNat * a + b : Nat) : Int) = (a : Int) * (W / 8) + b := by
  rw [Int.natCast_add, Int.natCast_mul, show (((W / 8).toNat : Nat) : Int) = W / 8 by omega, Int.mul_comm]
 have d := Ycu (W := W / 8) (x := b) (y := a) ⟨by omega, hb⟩
 unfold tX tY
 rw [e, d.1, d.2]
 omega
theorem Zgh {W H : Int} (hW : Xwk W = true) (a b : Nat) (hb : (b : Int) < W / 8) (ha : (a : Int) < H / 8) : (((W / 8).toNat * a + b : Nat) : Int) < W / 8 * (H / 8) := by
 have s := Xg9 hW
 have p := Ycv (W := W / 8) (H := H / 8) (x := b) (y := a) ⟨by omega, hb⟩ ⟨by omega, ha⟩
 rw [Int.natCast_add, Int.natCast_mul, show (((W / 8).toNat : Nat) : Int) = W / 8 by omega, Int.mul_comm (W / 8)]
 exact p.2
theorem Xpe.dots {src ref : Pic} {c : Xf7} {r : Int} (H : Zef src ref c r) (P : Int → Int → Int → Prop)
  (hP : ∀ (n : Nat) (now : Pic) (q : Xau) (d : List Int), (n : Int) < src.Wide / 8 * (src.High / 8) → Zh1 now ref (Xsv src (tX src.Wide n) (tY src.Wide n) 64) (tX src.Wide n) (tY src.Wide n) c r → Xuw now ref (Xsv src (tX src.Wide n) (tY src.Wide n) 64) (tX src.Wide n) (tY src.Wide n) c r q → Xd0 now ref 0 0 c (tX src.Wide n) (tY src.Wide n) q = some (d, true) → ∀ i : Nat, i < 64 → P (tX src.Wide n + ((i % 8 : Nat) : Int)) (tY src.Wide n + ((i / 8 : Nat) : Int)) (d.getD i 0))
  {n : Nat} {l : List Xau} {now : Pic} (h : Xpe src ref c r n l now) : ∀ X Y : Int, 0 ≤ X ∧ X < src.Wide → 0 ≤ Y ∧ Y < src.High → Y / 8 * (src.Wide / 8) + X / 8 < n → P X Y (Xt4 now X Y) := by
 induction h with
 | zero =>
  intro X Y hX hY hlt
  have := Int.mul_nonneg (show 0 ≤ Y / 8 by omega) (show 0 ≤ src.Wide / 8 by omega)
  omega
 | succ h hn q d now' hi hs hq hd hp ih =>
  rename_i n0 l0 now0
  obtain ⟨ok, w, hh, hl, hall⟩ := h.pic H
  have SF := Yyt H hn ok w hh
  obtain ⟨q2, d2, e2, _, _, _, hd64⟩ := Xt2 SF
  rw [hi] at e2
  injection e2 with e2
  injection e2 with e2 e3
  injection e3 with e3 _
  subst e2; subst e3
  obtain ⟨p', ep, p1, p2, p3, p4⟩ := Zfa ok SF.h0 hd64
  rw [hp] at ep
  injection ep with ep
  subst ep
  obtain ⟨q1, q2', q3⟩ := hq.ok H.hr
  obtain ⟨d', ei', es', _⟩ := Xvq (now := now0) (ref := ref) (l := 0) (t := 0) (x := tX src.Wide n0) (y := tY src.Wide n0) (c := c) (q := q) ⟨ok, SF.hx, SF.hy, SF.h0, by omega, by omega, H.hc, by omega⟩ q1 q2' (fun hK => (H.hk hK).1)
  rw [hd] at ei'
  injection ei' with ei'
  injection ei' with ei' _
  subst ei'
  have hPd := hP n0 now0 q d hn SF hq es'
  intro X Y hX hY hlt
  rw [p4 X Y (by rw [w]; exact hX) (by rw [hh]; exact hY)]
  have sw := Xg9 H.hw
  have dv := Ycu (W := src.Wide / 8) (x := X / 8) (y := Y / 8) ⟨by omega, by omega⟩
  by_cases hin : Zcu (tX src.Wide n0) (tY src.Wide n0) X Y = true
  ·
   rw [if_pos hin]
   unfold Zcu at hin
   rw [decide_eq_true_eq] at hin
   have := hPd ((Y - tY src.Wide n0) * 8 + (X - tX src.Wide n0)).toNat (by omega)
   have e1 : tX src.Wide n0 + (((((Y - tY src.Wide n0) * 8 + (X - tX src.Wide n0)).toNat % 8 : Nat)) : Int) = X := by omega
   have e2 : tY src.Wide n0 + (((((Y - tY src.Wide n0) * 8 + (X - tX src.Wide n0)).toNat / 8 : Nat)) : Int) = Y := by omega
   rw [e1, e2] at this
   exact this
  ·
   rw [if_neg hin]
   refine ih X Y hX hY ?_
   have hne : Y / 8 * (src.Wide / 8) + X / 8 ≠ n0 := fun e => hin (by
    rw [e] at dv
    unfold Zcu tX tY
    rw [dv.1, dv.2, decide_eq_true_eq]
    omega)
   omega
theorem Xpe.all {src ref : Pic} {c : Xf7} {r : Int} (H : Zef src ref c r) (P : Int → Int → Int → Prop)
  (hP : ∀ (n : Nat) (now : Pic) (q : Xau) (d : List Int), (n : Int) < src.Wide / 8 * (src.High / 8) → Zh1 now ref (Xsv src (tX src.Wide n) (tY src.Wide n) 64) (tX src.Wide n) (tY src.Wide n) c r → Xuw now ref (Xsv src (tX src.Wide n) (tY src.Wide n) 64) (tX src.Wide n) (tY src.Wide n) c r q → Xd0 now ref 0 0 c (tX src.Wide n) (tY src.Wide n) q = some (d, true) → ∀ i : Nat, i < 64 → P (tX src.Wide n + ((i % 8 : Nat) : Int)) (tY src.Wide n + ((i / 8 : Nat) : Int)) (d.getD i 0))
  {l : List Xau} {now : Pic} (h : Xpe src ref c r ((src.Wide / 8).toNat * (src.High / 8).toNat) l now) : ∀ X Y : Int, 0 ≤ X ∧ X < src.Wide → 0 ≤ Y ∧ Y < src.High → P X Y (Xt4 now X Y) := by
 intro X Y hX hY
 refine h.dots H P hP X Y hX hY ?_
 have sw := Xg9 H.hw
 have sh := Xg9 H.hh
 have p := Ycv (W := src.Wide / 8) (H := src.High / 8) (x := X / 8) (y := Y / 8) ⟨by omega, by omega⟩ ⟨by omega, by omega⟩
 rw [Int.natCast_mul, show (((src.Wide / 8).toNat : Nat) : Int) = src.Wide / 8 by omega, show (((src.High / 8).toNat : Nat) : Int) = src.High / 8 by omega]
 exact p.2
theorem Zgq (p : Pic) (x y : Int) {i : Nat} (hi : i < 64) : (Xsv p x y 64).getD i 0 = Xt4 p (x + ((i % 8 : Nat) : Int)) (y + ((i / 8 : Nat) : Int)) := Xh9 _ hi
theorem Xpe.same {src ref : Pic} {c : Xf7} {r : Int} (H : Zef src ref c r) (hd : ∀ (now : Pic) (w : List Int) (x y : Int) (q : Xau) (d : List Int), Zh1 now ref w x y c r → w = Xsv src x y 64 → Xuw now ref w x y c r q → Xd0 now ref 0 0 c x y q = some (d, true) → d = w) {l : List Xau} {now : Pic} (h : Xpe src ref c r ((src.Wide / 8).toNat * (src.High / 8).toNat) l now) : now = src := by
 obtain ⟨ok, w, hh, _, _⟩ := h.pic H
 refine Zij ok H.ok w hh fun X Y hX hY => ?_
 rw [w] at hX
 rw [hh] at hY
 refine h.all H (fun X Y v => v = Xt4 src X Y) (fun n now q d hn SF hq hs i hi => ?_) X Y hX hY
 rw [hd now _ _ _ q d SF rfl hq hs]
 exact Zgq _ _ _ hi
theorem Zbx {src : Pic} (hw : Xwk src.Wide = true) (hh : Xwk src.High = true) : (((src.Wide / 8).toNat * (src.High / 8).toNat : Nat) : Int) = src.Wide / 8 * (src.High / 8) ∧ 1 ≤ src.Wide / 8 * (src.High / 8) ∧ src.Wide / 8 * (src.High / 8) ≤ 64 := by
 have a := Xg9 hw
 have b := Xg9 hh
 have m1 : src.Wide / 8 * (src.High / 8) ≤ 8 * 8 := Int.mul_le_mul (by omega) (by omega) (by omega) (by omega)
 have m2 : 1 * 1 ≤ src.Wide / 8 * (src.High / 8) := Int.mul_le_mul (by omega) (by omega) (by omega) (by omega)
 rw [Int.natCast_mul, show (((src.Wide / 8).toNat : Nat) : Int) = src.Wide / 8 by omega, show (((src.High / 8).toNat : Nat) : Int) = src.High / 8 by omega]
 exact ⟨rfl, by omega, by omega⟩
theorem Xpe.still {src : Pic} {c : Xf7} {r : Int} (H : Zef src src c r) (hK : c.Key = false) {n : Nat} {l : List Xau} {now : Pic} (h : Xpe src src c r n l now) : l = List.replicate n ⟨0, 0, 0, 0, []⟩ := by
 induction h with
 | zero => rfl
 | succ h hn q d now' hi hs hq hd hp ih =>
  have : q = ⟨0, 0, 0, 0, []⟩ := by
   cases hq with
   | same => rfl
   | still => rfl
   | move _ _ _ _ _ _ _ _ _ hn => exact absurd (fun _ _ => rfl) hn
   | guess _ _ _ _ _ _ _ _ _ _ _ hn => exact absurd (fun _ _ => rfl) (hn hK)
  rw [ih, this, List.replicate_succ']
theorem Yv7 (a b : List Int) (i : Nat) : (a ++ b).getD (a.length + i) 0 = b.getD i 0 := by
 rw [List.getD_eq_getElem?_getD, List.getD_eq_getElem?_getD, List.getElem?_append_right (by omega)]
 congr 2; omega
theorem Zcn (a b : List Int) (i : Nat) (hi : i < a.length) : (a ++ b).getD i 0 = a.getD i 0 := by
 rw [List.getD_eq_getElem?_getD, List.getD_eq_getElem?_getD, List.getElem?_append_left hi]
theorem Zih (v x : Int) (h0 : 0 ≤ v) (h1 : v ≤ 1000000000000000000) (hx : x = 0 ∨ x = 1) : IntKind.wrap .i64 (BitVec.ofInt (IntKind.bits .i64) (v * 2) ||| BitVec.ofInt (IntKind.bits .i64) x).toNat = v * 2 + x := by
 obtain ⟨a, rfl⟩ : ∃ a : Nat, v = a := ⟨v.toNat, by omega⟩
 obtain ⟨b, rfl⟩ : ∃ b : Nat, x = b := ⟨x.toNat, by omega⟩
 have h : (BitVec.ofInt 64 ((a : Int) * 2) ||| BitVec.ofInt 64 (b : Int)).toNat = a * 2 + b := by
  rw [BitVec.toNat_or, BitVec.toNat_ofInt, BitVec.toNat_ofInt]
  have e1 : (((a : Int) * 2) % ((2 ^ 64 : Nat) : Int)).toNat = a * 2 := by omega
  have e2 : ((b : Int) % ((2 ^ 64 : Nat) : Int)).toNat = b := by omega
  rw [e1, e2]
  have := Nat.two_pow_add_eq_or_of_lt (i := 1) (b := b) (by omega) a
  rw [show 2 ^ 1 * a = a * 2 by omega] at this
  exact this.symm
 show IntKind.wrap .i64 ((BitVec.ofInt 64 ((a : Int) * 2) ||| BitVec.ofInt 64 (b : Int)).toNat : Int) = _
 rw [h, ← Xr7, wkA]
 omega
theorem Ycw {i : Nat} (h : i ≤ 40) : (2 : Int) ^ i ≤ 1099511627776 := by
 have h2 : (2 : Nat) ^ i ≤ 1099511627776 := Nat.pow_le_pow_right (n := 2) (by omega) h
 have := Int.ofNat_le.2 h2
 rw [Int.natCast_pow] at this
 exact this
theorem Xlc {L a f b : List Int} (hL : L = a ++ (f ++ b)) (hb : Xjh L) (hl : L.length ≤ 400000) (hf : f.length ≤ 41) : Xa2 ⟨strOfNums L, (a.length : Int), false⟩ (f.length : Int) = some (Xhf f, ⟨strOfNums L, ((a.length + f.length : Nat) : Int), false⟩) := by
 have hLl : L.length = a.length + (f.length + b.length) := by rw [hL]; simp only [List.length_append]
 have hfb : Xjh f := fun x hx => hb x (by rw [hL]; simp [hx])
 unfold Xa2
 simp only
 rw [Xaw, strOfNums_size, wkA, Xad, snA]
 have key : ∀ i : Nat, i ≤ f.length → loop (Xhi ⟨strOfNums L, (a.length : Int), false⟩ (f.length : Int)) (Xhf (f.take i), (i : Int)) = some (Xhf f) := by
  refine Xgb _ ?_ ?_
  ·
   refine Xd8 ?_
   unfold Xhi
   simp only
   rw [snA, List.take_length]
  ·
   intro i hi ih
   refine lgo ?_ ih
   have hx : L.getD (a.length + i) 0 = f.getD i 0 := by rw [hL, Yv7, Zcn _ _ _ hi]
   have hbt : Xno (strOfNums L) ((a.length : Int) + i) = f.getD i 0 := by
    rw [show (a.length : Int) + i = ((a.length + i : Nat) : Int) by omega, Xvt L (Xc8 hb) _ (by omega), hx]
   have h2 : f.getD i 0 = 48 ∨ f.getD i 0 = 49 := hfb _ (by rw [Xcd f i hi]; exact List.getElem_mem hi)
   have ht : Xjh (f.take i) := fun x hx => hfb x (List.mem_of_mem_take hx)
   have hr := Xjg ht
   have hp : (2 : Int) ^ (f.take i).length ≤ 1099511627776 := Ycw (by rw [List.length_take]; omega)
   have hv : Xhf (f.take (i + 1)) = Xhf (f.take i) * 2 + (f.getD i 0 - 48) := by
    rw [List.take_add_one, Xpu, Xcd f i hi, List.getElem?_eq_getElem hi]
    simp [Xhf]
   unfold Xhi
   simp only
   rw [syA, rqA, wkA (e := (a.length : Int) + i), Xax (by rw [strOfNums_size]; omega), hbt, w8 (by omega) (by omega), wkA (e := f.getD i 0 - 48), show (2 : Int) ^ min (1 : Int).toNat (IntKind.bits .i64) = 2 from rfl, wkA (e := Xhf (f.take i) * 2), Zih _ _ (by omega) (by omega) (by omega), wkA, hv]
   rfl
 have := key 0 (by omega)
 rw [List.take_zero] at this
 refine (Xh6 this).trans ?_
 rw [wkA]
 rfl
theorem Zca (m : Nat) (h : m ≠ 0) : ∃ r, Yvh m = 49 :: r := by
 induction m using Nat.strongRecOn with
 | _ m ih =>
  rw [Yvh, dif_neg h]
  by_cases h1 : m / 2 = 0
  ·
   have : m = 1 := by omega
   subst this
   rw [Yvh, dif_pos h1]
   exact ⟨[], rfl⟩
  ·
   obtain ⟨r, e⟩ := ih (m / 2) (by omega) h1
   rw [e]
   exact ⟨r ++ [48 + ((m % 2 : Nat) : Int)], rfl⟩
theorem Zhx (m : Nat) : Xhf (Yvh m) = m := by
 induction m using Nat.strongRecOn with
 | _ m ih =>
  rw [Yvh]
  by_cases h : m = 0
  ·
   rw [dif_pos h, h]; rfl
  ·
   rw [dif_neg h, Xpu, ih (m / 2) (by omega)]
   simp [Xhf]
   omega
theorem Yfj {L a b : List Int} {n : Nat} (hL : L = a ++ (ueL n ++ b)) (hb : Xjh L) (hl : L.length ≤ 400000) (hn : n ≤ 1000000) : Xc1 ⟨strOfNums L, (a.length : Int), false⟩ = some ((n : Int), ⟨strOfNums L, ((a.length + (ueL n).length : Nat) : Int), false⟩) := by
 have hLl : L.length = a.length + ((ueL n).length + b.length) := by rw [hL]; simp only [List.length_append]
 have f1 := Yth (m := n + 1) (j := 20) (by omega)
 have f2 := Ykp (m := n + 1) (by omega)
 have ul : (ueL n).length = Xvv (n + 1) - 1 + Xvv (n + 1) := by unfold ueL; rw [List.length_append, List.length_replicate, Yta]
 obtain ⟨r, er⟩ := Zca (n + 1) (by omega)
 have hc : ∀ i : Nat, i < (ueL n).length → L.getD (a.length + i) 0 = (ueL n).getD i 0 := fun i hi => by rw [hL, Yv7, Zcn _ _ _ hi]
 have key : ∀ i : Nat, i ≤ Xvv (n + 1) - 1 → loop (Xcg ⟨strOfNums L, (a.length : Int), false⟩) (i : Int) = some ((Xvv (n + 1) - 1 : Nat) : Int) := by
  refine Xgb _ ?_ ?_
  ·
   refine Xd8 ?_
   have hx : (ueL n).getD (Xvv (n + 1) - 1) 0 = 49 := by
    have := Yv7 (List.replicate (Xvv (n + 1) - 1) 48) (Yvh (n + 1)) 0
    rw [List.length_replicate] at this
    unfold ueL
    exact this.trans (by rw [er]; rfl)
   unfold Xcg
   simp only
   rw [Xaw, wkA, strOfNums_size, syA, rqA, show (a.length : Int) + ((Xvv (n + 1) - 1 : Nat) : Int) = ((a.length + (Xvv (n + 1) - 1) : Nat) : Int) by omega, Xvt L (Xc8 hb) _ (by omega), hc _ (by omega), hx, Xad]
   rfl
  ·
   intro i hi ih
   refine lgo ?_ ih
   have hx : (ueL n).getD i 0 = 48 := by
    unfold ueL
    rw [Zcn _ _ _ (by rw [List.length_replicate]; exact hi), Xcd _ i (by rw [List.length_replicate]; exact hi), List.getElem_replicate]
   unfold Xcg
   simp only
   rw [Xaw, wkA (e := (a.length : Int) + i), strOfNums_size, syA, rqA, show (a.length : Int) + (i : Int) = ((a.length + i : Nat) : Int) by omega, Xvt L (Xc8 hb) _ (by omega), hc _ (by omega), hx, Xad, wkA]
   rfl
 have hf := Xlc hL hb hl (by omega)
 have hv : Xhf (ueL n) = (n : Int) + 1 := by unfold ueL; rw [Xpu, Yvc, Zhx, Int.zero_mul, Int.zero_add]; omega
 unfold Xc1
 refine (Xh6 (key 0 (by omega))).trans ?_
 simp only
 rw [snA, Xad, wkA (e := 2 * ((Xvv (n + 1) - 1 : Nat) : Int)), wkA (e := 2 * ((Xvv (n + 1) - 1 : Nat) : Int) + 1), show 2 * ((Xvv (n + 1) - 1 : Nat) : Int) + 1 = ((ueL n).length : Int) by omega, hf, Xad]
 simp only
 rw [Xaw, hv, wkA, Xad, snA, show (n : Int) + 1 - 1 = n by omega]
def Zjv (t : Nat → Int) : Nat → Int
 | 0 => 0
 | k + 1 => Zjv t k + t k
def eT (f : Nat → Int) (u : Nat) : Int := Zjv (fun k => Xkk (u : Int) (k : Int) * f k) 8
def eS (X : Nat → Nat → Int) (u v : Nat) : Int := eT (fun i => eT (X i) v) u
theorem Zbv {L : List Int} {i w : Nat} (h : i + w ≤ L.length) : L = L.take i ++ ((L.drop i).take w ++ L.drop (i + w)) ∧ (L.take i).length = i ∧ ((L.drop i).take w).length = w := by
 refine ⟨?_, by rw [List.length_take]; omega, by rw [List.length_take, List.length_drop]; omega⟩
 rw [← List.drop_drop, List.take_append_drop, List.take_append_drop]
theorem Ymt {L : List Int} (hb : Xjh L) (hl : L.length ≤ 400000) {i w : Nat} (h : i + w ≤ L.length) (hw : w ≤ 41) : Xa2 ⟨strOfNums L, (i : Int), false⟩ (w : Int) = some (Xhf ((L.drop i).take w), ⟨strOfNums L, ((i + w : Nat) : Int), false⟩) := by
 obtain ⟨h1, h2, h3⟩ := Zbv h
 have := Xlc h1 hb hl (by omega)
 rw [h2, h3] at this
 exact this
theorem Ygt {L : List Int} (hb : Xjh L) {i : Nat} (h : i < L.length) : Xno (strOfNums L) (i : Int) = L.getD i 0 ∧ (L.getD i 0 = 48 ∨ L.getD i 0 = 49) := ⟨Xvt L (Xc8 hb) i h, hb _ (by rw [Xcd L i h]; exact List.getElem_mem h)⟩
theorem Xuv {L : List Int} {i k : Nat} (h : i + k < L.length) : Xhf ((L.drop i).take (k + 1)) = 2 * Xhf ((L.drop i).take k) + L.getD (i + k) 0 - 48 := by
 rw [List.take_add_one, Xpu, List.getElem?_eq_getElem (by rw [List.length_drop]; omega), List.getElem_drop, Xcd L _ h]
 simp [Xhf]
 omega
theorem Yax {L : List Int} (hb : Xjh L) (hl : L.length ≤ 400000) {i w : Nat} (hi : i ≤ L.length) (hw : w ≤ 41) : Xd2 (strOfNums L) (i : Int) (w : Int) = some (if i + w ≤ L.length then (Xhf ((L.drop i).take w), ((i + w : Nat) : Int), true) else (0, 0, false)) := by
 unfold Xd2
 rw [strOfNums_size, wkA (e := (L.length : Int) - i)]
 by_cases h : i + w ≤ L.length
 ·
  rw [snA, if_pos h]
  have key : ∀ k : Nat, k ≤ w → loop (Xm7 (strOfNums L) (i : Int) (w : Int)) (Xhf ((L.drop i).take k), ((i + k : Nat) : Int)) = some (Xhf ((L.drop i).take w)) := by
   refine Xgb _ ?_ ?_
   ·
    refine Xd8 ?_
    unfold Xm7
    simp only
    rw [Xav (by rw [wkA]; omega)]
   ·
    intro k hk ih
    refine lgo ?_ ih
    obtain ⟨b1, b2⟩ := Ygt hb (i := i + k) (by omega)
    have hr := Xjg (l := (L.drop i).take k) (fun x hx => hb x (List.mem_of_mem_drop (List.mem_of_mem_take hx)))
    have hp : (2 : Int) ^ ((L.drop i).take k).length ≤ 1099511627776 := Ycw (by rw [List.length_take]; omega)
    have hv := Xuv (L := L) (i := i) (k := k) (by omega)
    unfold Xm7
    simp only
    rw [Xbf (by rw [wkA]; omega), Xax (by rw [strOfNums_size]; omega), b1, wkA (e := 2 * Xhf ((L.drop i).take k)), wkA (e := L.getD (i + k) 0), wkA (e := 2 * Xhf ((L.drop i).take k) + L.getD (i + k) 0), wkA (e := 2 * Xhf ((L.drop i).take k) + L.getD (i + k) 0 - 48), wkA (e := ((i + k : Nat) : Int) + 1), ← hv]
    rfl
  have := key 0 (by omega)
  refine (Xh6 this).trans ?_
  rw [wkA]
  rfl
 ·
  rw [syA, if_neg h]
theorem Zas {L : List Int} (hb : Xjh L) : ∀ n i : Nat, i + n = L.length → ∃ z : Nat, i + z ≤ L.length ∧ (∀ k, k < z → L.getD (i + k) 0 = 48) ∧ (i + z < L.length → L.getD (i + z) 0 = 49)
 | 0, i, h => ⟨0, by omega, fun k hk => by omega, fun h2 => by omega⟩
 | n + 1, i, h => by
  rcases (Ygt hb (i := i) (by omega)).2 with e | e
  ·
   obtain ⟨z, h1, h2, h3⟩ := Zas hb n (i + 1) (by omega)
   refine ⟨z + 1, by omega, fun k hk => ?_, fun hz => ?_⟩
   ·
    cases k with
    | zero => exact e
    | succ k => have := h2 k (by omega); rwa [show i + 1 + k = i + (k + 1) by omega] at this
   ·
    have := h3 (by omega)
    rwa [show i + 1 + z = i + (z + 1) by omega] at this
  ·
   exact ⟨0, by omega, fun k hk => by omega, fun _ => e⟩
theorem Yxt {L : List Int} {i : Nat} : ∀ z : Nat, i + z ≤ L.length → (∀ k, k < z → L.getD (i + k) 0 = 48) → Xhf ((L.drop i).take z) = 0
 | 0, _, _ => rfl
 | z + 1, h, hz => by rw [Xuv (by omega), Yxt z (by omega) (fun k hk => hz k (by omega)), hz z (by omega)]; rfl
theorem Yxs {L : List Int} {i z w : Nat} (h : i + z + w ≤ L.length) (hz : ∀ k, k < z → L.getD (i + k) 0 = 48) : Xhf ((L.drop i).take (z + w)) = Xhf ((L.drop (i + z)).take w) := by
 induction w with
 | zero => rw [Nat.add_zero, Yxt z (by omega) hz]; rfl
 | succ w ih =>
  rw [← Nat.add_assoc, Xuv (by omega), Xuv (by omega), ih (by omega)]
  rw [Nat.add_assoc]
theorem Zd3 {L : List Int} (hb : Xjh L) {i w : Nat} (h : i + (w + 1) ≤ L.length) (h1 : L.getD i 0 = 49) : (2 : Int) ^ w ≤ Xhf ((L.drop i).take (w + 1)) := by
 induction w with
 | zero => rw [Xuv (by omega)]; simp only [Nat.add_zero]; rw [h1, show Xhf ((L.drop i).take 0) = 0 from rfl]; decide
 | succ w ih =>
  have := ih (by omega)
  have := (Ygt hb (i := i + (w + 1)) (by omega)).2
  rw [Xuv (by omega), Int.pow_succ]
  omega
theorem Yw8 (z : Nat) (h : z ≤ 21) : 0 ≤ Xaa .u64 (z : Int) ∧ Xaa .i64 (1 * 2 ^ min (Xaa .u64 (z : Int)).toNat (IntKind.bits .i64)) = (2 : Int) ^ z := by
 have all : ∀ q : Fin 22, (0 ≤ Xaa .u64 (q.val : Int) ∧ Xaa .i64 (1 * 2 ^ min (Xaa .u64 (q.val : Int)).toNat (IntKind.bits .i64)) = (2 : Int) ^ q.val) := by decide +kernel
 exact all ⟨z, by omega⟩
theorem Zi4 (s : ByteArray) (a : Int) : Xc1 ⟨s, a, true⟩ = some (0, ⟨s, a, true⟩) := by
 have h : Xcg ⟨s, a, true⟩ 0 = some (.done 0) := rfl
 unfold Xc1
 rw [Xch h, Xad]
 rfl
theorem Yy4 {L : List Int} (hb : Xjh L) (hl : L.length ≤ 400000) (i : Nat) (hi : i ≤ L.length) :
  (∃ v j : Nat, Xh1 (strOfNums L) (i : Int) = some ((v : Int), (j : Int), true) ∧ Xc1 ⟨strOfNums L, (i : Int), false⟩ = some ((v : Int), ⟨strOfNums L, (j : Int), false⟩) ∧ v ≤ 1000000 ∧ i < j ∧ j ≤ L.length) ∨ (Xh1 (strOfNums L) (i : Int) = some (0, 0, false) ∧ ∃ a : Int, Xc1 ⟨strOfNums L, (i : Int), false⟩ = some (0, ⟨strOfNums L, a, true⟩)) := by
 obtain ⟨z, h1, h2, h3⟩ := Zas hb (L.length - i) i (by omega)
 have lI : loop (Xcg ⟨strOfNums L, (i : Int), false⟩) 0 = some (z : Int) := by
  have key : ∀ k : Nat, k ≤ z → loop (Xcg ⟨strOfNums L, (i : Int), false⟩) (k : Int) = some (z : Int) := by
   refine Xgb _ ?_ ?_
   ·
    refine Xd8 ?_
    unfold Xcg
    simp only
    rw [Xaw, wkA (e := (i : Int) + (z : Int)), strOfNums_size]
    by_cases hlt : i + z < L.length
    ·
     rw [syA, rqA, show (i : Int) + (z : Int) = ((i + z : Nat) : Int) by omega, (Ygt hb hlt).1, h3 hlt, Xad]; rfl
    ·
     rw [snA, Xad, Xaw]
   ·
    intro k hk ih
    refine lgo ?_ ih
    unfold Xcg
    simp only
    rw [Xaw, wkA (e := (i : Int) + (k : Int)), strOfNums_size, syA, rqA, show (i : Int) + (k : Int) = ((i + k : Nat) : Int) by omega, (Ygt hb (by omega)).1, h2 k hk, Xad, wkA]
    rfl
  exact key 0 (by omega)
 have lS : ∀ m : Nat, m = min z 21 → loop (Xgt (strOfNums L) (i : Int)) 0 = some (m : Int) := by
  intro m hm
  have key : ∀ k : Nat, k ≤ m → loop (Xgt (strOfNums L) (i : Int)) (k : Int) = some (m : Int) := by
   refine Xgb _ ?_ ?_
   ·
    refine Xd8 ?_
    unfold Xgt
    rw [wkA (e := (i : Int) + (m : Int)), strOfNums_size]
    by_cases hlt : i + m < L.length
    ·
     rw [syA, rqA, show (i : Int) + (m : Int) = ((i + m : Nat) : Int) by omega, (Ygt hb hlt).1]
     by_cases hz : z ≤ 21
     ·
      have : m = z := by omega
      subst this
      rw [h3 hlt, Xbh (by rfl), Xad, Xaw]
     ·
      have : m = 21 := by omega
      subst this
      rw [h2 21 (by omega), Xbt (by rfl), decide_eq_false (by omega), Xad, Xaw]
    ·
     rw [snA, Xad, Xaw]
   ·
    intro k hk ih
    refine lgo ?_ ih
    unfold Xgt
    rw [wkA (e := (i : Int) + (k : Int)), strOfNums_size, syA, rqA, show (i : Int) + (k : Int) = ((i + k : Nat) : Int) by omega, (Ygt hb (by omega)).1, h2 k (by omega), Xbt (by rfl), decide_eq_true (by omega), Xad, Xay, wkA]
    rfl
  exact key 0 (by omega)
 unfold Xh1 Xc1
 rw [lI, Xad, lS _ rfl, Xad]
 simp only
 by_cases hz : z ≤ 20
 ·
  rw [show min z 21 = z by omega, snA, Xad, wkA (e := 2 * (z : Int)), wkA (e := 2 * (z : Int) + 1), wkA (e := (i : Int) + (z : Int)), wkA (e := (z : Int) + 1), show (i : Int) + (z : Int) = ((i + z : Nat) : Int) by omega, show (z : Int) + 1 = ((z + 1 : Nat) : Int) by omega, show 2 * (z : Int) + 1 = ((z + (z + 1) : Nat) : Int) by omega, Yax hb hl h1 (by omega), Xad]
  obtain ⟨p1, p2⟩ := Yw8 z (by omega)
  by_cases hfit : i + z + (z + 1) ≤ L.length
  ·
   rw [if_pos hfit, Ymt hb hl (by omega) (by omega), Xad, Yxs (by omega) h2]
   simp only
   have hge := Zd3 hb (i := i + z) (w := z) (by omega) (h3 (by omega))
   have hpp : (1 : Int) ≤ 2 ^ z := Int.pow_pos (by omega)
   have hr := Xjg (l := (L.drop (i + z)).take (z + 1)) (fun x hx => hb x (List.mem_of_mem_drop (List.mem_of_mem_take hx)))
   have hp : (2 : Int) ^ ((L.drop (i + z)).take (z + 1)).length ≤ 1099511627776 := Ycw (by rw [List.length_take]; omega)
   generalize hq : Xhf ((L.drop (i + z)).take (z + 1)) = q at *
   rw [Xay, Xax p1, p2, snA, wkA (e := q - 1), Xad, Xaw, Xad]
   by_cases hbig : q - 1 > 1000000
   ·
    rw [Xbf hbig, Xbf hbig]
    exact .inr ⟨rfl, _, rfl⟩
   ·
    rw [Xav hbig, Xav hbig]
    exact .inl ⟨(q - 1).toNat, i + z + (z + 1), by rw [show (((q - 1).toNat : Nat) : Int) = q - 1 by omega], by rw [show (((q - 1).toNat : Nat) : Int) = q - 1 by omega, show i + (z + (z + 1)) = i + z + (z + 1) by omega], by omega, by omega, by omega⟩
  ·
   rw [if_neg hfit]
   simp only
   rw [Xaw, Xad, Xay]
   refine .inr ⟨rfl, (i : Int), ?_⟩
   have : Xa2 ⟨strOfNums L, (i : Int), false⟩ ((z + (z + 1) : Nat) : Int) = some (0, ⟨strOfNums L, (i : Int), true⟩) := by
    unfold Xa2
    simp only
    rw [Xaw, strOfNums_size, wkA, Xad, syA]
   rw [this, Xad]
   rfl
 ·
  have hm : min z 21 = 21 := by omega
  rw [hm, syA, Xad]
  refine .inr ⟨?_, (i : Int), ?_⟩
  ·
   rw [wkA (e := (i : Int) + ((21 : Nat) : Int)), wkA (e := ((21 : Nat) : Int) + 1), show (i : Int) + ((21 : Nat) : Int) = ((i + 21 : Nat) : Int) by omega, show ((21 : Nat) : Int) + 1 = ((22 : Nat) : Int) by omega, Yax hb hl (by omega) (by omega), Xad]
   obtain ⟨p1, p2⟩ := Yw8 21 (by omega)
   by_cases hfit : i + 21 + 22 ≤ L.length
   ·
    rw [if_pos hfit]
    simp only
    rw [Xay, Xax p1, p2]
    by_cases h21 : z = 21
    ·
     subst h21
     have hge : (2 : Int) ^ 21 ≤ Xhf ((L.drop (i + 21)).take 22) := Zd3 hb (i := i + 21) (w := 21) (by omega) (h3 (by omega))
     have hr := Xjg (l := (L.drop (i + 21)).take 22) (fun x hx => hb x (List.mem_of_mem_drop (List.mem_of_mem_take hx)))
     have hp : (2 : Int) ^ ((L.drop (i + 21)).take 22).length ≤ 1099511627776 := Ycw (by rw [List.length_take]; omega)
     have e21 : (2 : Int) ^ 21 = 2097152 := by decide
     rw [e21] at hge ⊢
     rw [snA, wkA, decide_eq_true (by omega), Xad, Xay]
    ·
     have hlt : Xhf ((L.drop (i + 21)).take 22) < 2 ^ 21 := by
      have a := Yxs (L := L) (i := i + 21) (z := 1) (w := 21) (by omega) (fun k hk => by
       have : k = 0 := by omega
       subst this
       exact h2 21 (by omega))
      rw [show (1 + 21 : Nat) = 22 from rfl] at a
      have hr := Xjg (l := (L.drop (i + 21 + 1)).take 21) (fun x hx => hb x (List.mem_of_mem_drop (List.mem_of_mem_take hx)))
      rw [a]
      have : ((L.drop (i + 21 + 1)).take 21).length = 21 := by rw [List.length_take, List.length_drop]; omega
      rw [this] at hr
      exact hr.2
     rw [Xbf hlt, Xad, Xay]
   ·
    rw [if_neg hfit]
    simp only
    rw [Xaw, Xad, Xay]
  ·
   have : ∀ w : Int, Xa2 ⟨strOfNums L, (i : Int), true⟩ w = some (0, ⟨strOfNums L, (i : Int), true⟩) := fun w => rfl
   rw [this, Xad]
   rfl
def Yhd (s : ByteArray) (i : Nat) : Int := 48 + (Xno s ((i / 8 : Nat) : Int) / 2 ^ (7 - i % 8)) % 2
def Xj8 (s : ByteArray) : List Int := (List.range (8 * s.size)).map (Yhd s)
theorem Zev : ∀ b : Fin 256, Xvx 8 (b.val : Int) = (List.range 8).map fun k => 48 + ((b.val : Int) / 2 ^ (7 - k)) % 2 := by decide +kernel
theorem Zju (b : Int) (h : 0 ≤ b ∧ b ≤ 255) : Xvx 8 b = (List.range 8).map fun k => 48 + (b / 2 ^ (7 - k)) % 2 := by
 have := Zev ⟨b.toNat, by omega⟩
 simp only at this
 rwa [show ((b.toNat : Nat) : Int) = b by omega] at this
theorem Zcb (s : ByteArray) (i : Nat) : Yhd s i = 48 ∨ Yhd s i = 49 := by unfold Yhd; omega
theorem Zay (s : ByteArray) : Xjh (Xj8 s) := fun x hx => by
 obtain ⟨i, _, rfl⟩ := List.mem_map.1 hx
 exact Zcb s i
theorem Xsx (s : ByteArray) : (Xj8 s).length = 8 * s.size := by simp [Xj8]
theorem Ylb (s : ByteArray) {i : Nat} (h : i < 8 * s.size) : (Xj8 s).getD i 0 = Yhd s i := Xh9 _ h
theorem Yyp (f : Nat → Int) (n : Nat) : (List.range (8 * n)).map f ++ (List.range 8).map (fun k => f (8 * n + k)) = (List.range (8 * (n + 1))).map f := by
 rw [show 8 * (n + 1) = 8 * n + 8 by omega, List.range_add, List.map_append, List.map_map]
 rfl
theorem Ya7 (s : ByteArray) (hs : s.size ≤ 50001) : loop (Xhm s) (0, []) = some (Xj8 s) := by
 have hm : maxLen = 9223372036854775807 := rfl
 obtain ⟨o, e, ho⟩ := Xea (f := Xhm s) s.size (fun i l => l = (List.range (8 * i)).map (Yhd s)) (by
  intro i l hi g
  subst g
  have hb := Xrn s i
  unfold Xhm
  simp only
  rw [syA, rqA, wkA (e := Xno s i), show (8 : Int) = ((8 : Nat) : Int) from rfl, Xov _ 8 hb.1 (by omega) (by omega), Xad, Xmu _ (Xc8 (Ybb _ _)), Xax (by simp only [Xce, List.length_map, List.length_range]; omega), wkA (e := (i : Int) + 1)]
  refine ⟨_, rfl, ?_⟩
  rw [← Yyp, Zju _ hb]
  congr 1
  refine List.map_congr_left fun k hk => ?_
  have hk8 := List.mem_range.1 hk
  unfold Yhd
  rw [show (8 * i + k) / 8 = i by omega, show (8 * i + k) % 8 = k by omega]) (by intro l; unfold Xhm; rw [Xav (by simp)]) [] rfl
 rw [e, ho]; rfl
theorem Zax : ∀ b : Fin 256, ∀ k : Fin 8, Xaa .u8 (48 + (IntKind.wrap .u8 (BitVec.ofInt (IntKind.bits .u8) ((b.val : Int) / 2 ^ min (k.val) (IntKind.bits .u8)) &&& BitVec.ofInt (IntKind.bits .u8) 1).toNat)) = 48 + ((b.val : Int) / 2 ^ k.val) % 2 := by decide +kernel
theorem Zh6 (b : Int) (h : 0 ≤ b ∧ b ≤ 255) (k : Nat) (hk : k < 8) : Xaa .u8 (48 + (IntKind.wrap .u8 (BitVec.ofInt (IntKind.bits .u8) (b / 2 ^ min k (IntKind.bits .u8)) &&& BitVec.ofInt (IntKind.bits .u8) 1).toNat)) = 48 + (b / 2 ^ k) % 2 := by
 have := Zax ⟨b.toNat, by omega⟩ ⟨k, hk⟩
 simp only at this
 rwa [show ((b.toNat : Nat) : Int) = b by omega] at this
theorem Xro (s : ByteArray) (hs : s.size ≤ 50001) : loop (Xfb s) (0, []) = some (Xj8 s) := by
 have hm : maxLen = 9223372036854775807 := rfl
 have := Yy7 (f := Xfb s) (8 * s.size) (Yhd s) [] (by
  intro i hi
  have hb := Xrn s ((i / 8 : Nat) : Int)
  unfold Xfb
  simp only
  rw [wkA (e := 8 * (s.size : Int)), syA, rqA, Xb2 (by omega), wkA (e := (i : Int) / 8), rqA, rqA, Xb1 (by omega), wkA (e := 7 - (i : Int) % 8), rqA, show (7 - (i : Int) % 8).toNat = 7 - i % 8 by omega, show (i : Int) / 8 = ((i / 8 : Nat) : Int) by omega, Zh6 _ hb (7 - i % 8) (by omega), Xax (by simp only [List.length_append, List.length_nil, List.length_map, List.length_range, List.length_singleton]; omega), wkA (e := (i : Int) + 1)]
  rfl) (by unfold Xfb; rw [wkA (e := 8 * (s.size : Int)), Xav (by simp)])
 rw [List.nil_append] at this
 exact this
theorem Yzn {V : List Int} (hV : Xjh V) : ∀ n : Nat, n ≤ V.length → (∃ j, j < n ∧ V.getD j 0 = 49) → ∃ k, k + 1 ≤ n ∧ V.getD k 0 = 49 ∧ ∀ j, k + 1 ≤ j → j < n → V.getD j 0 = 48
 | 0, _, ⟨j, h, _⟩ => by omega
 | n + 1, hn, ⟨j, hj, h⟩ => by
  rcases hV (V.getD n 0) (by rw [Xcd V n (by omega)]; exact List.getElem_mem _) with e | e
  ·
   have hjn : j ≠ n := fun h2 => by rw [h2, e] at h; omega
   obtain ⟨k, h1, h2, h3⟩ := Yzn hV n (by omega) ⟨j, by omega, h⟩
   refine ⟨k, by omega, h2, fun i h4 h5 => ?_⟩
   by_cases hi : i = n
   ·
    rw [hi]; exact e
   ·
    exact h3 i h4 (by omega)
  ·
   exact ⟨n, by omega, e, fun i h1 h2 => by omega⟩
theorem Zen : ∀ b : Fin 256, b.val ≠ 0 → ∃ k : Fin 8, 48 + ((b.val : Int) / 2 ^ (7 - k.val)) % 2 = 49 := by decide +kernel
theorem Ys0 (s : ByteArray) (hs : s.size ≤ 1048576) : (∃ L : List Int, Xjh L ∧ L.length ≤ 400000 ∧ Xfi s = some (strOfNums L, true) ∧ Xp6 s = some (strOfNums L, true)) ∨ (Xfi s = some (⟨#[]⟩, false) ∧ Xp6 s = some (⟨#[]⟩, false)) := by
 unfold Xfi Xp6
 rw [wkA (e := 8 * (s.size : Int))]
 by_cases h0 : s.size = 0
 ·
  rw [h0]
  exact .inr ⟨rfl, rfl⟩
 rw [Xbh (b := (8 * (s.size : Int)) == 0) (by rw [beq_eq_false_iff_ne]; omega), Xbh (b := (s.size : Int) == 0) (by rw [beq_eq_false_iff_ne]; omega), wkA (e := (s.size : Int) - 1), Xax (show 0 ≤ (s.size : Int) - 1 ∧ (s.size : Int) - 1 < s.size by omega)]
 by_cases hbig : s.size > 50001
 ·
  rw [syA, decide_eq_true (by omega), Xad, Xay]
  refine .inr ⟨?_, rfl⟩
  cases (Xno s ((s.size : Int) - 1) == 0) <;> rfl
 rw [snA, Xax (show 0 ≤ (s.size : Int) - 1 ∧ (s.size : Int) - 1 < s.size by omega), decide_eq_false (by omega)]
 cases hz : (Xno s ((s.size : Int) - 1) == 0) with
 | true => exact .inr ⟨rfl, rfl⟩
 | false =>
  rw [Xaw, Xad, Xad, Xaw, Xaw, Xax (show 0 ≤ (0 : Int) ∧ (0 : Int) ≤ 8 * (s.size : Int) ∧ 8 * (s.size : Int) * 1 ≤ 281474976710656 by omega), show (List.replicate (0 : Int).toNat (0 : Int)) = [] from rfl, Xro s (by omega), Ya7 s (by omega), Xad, Xad]
  have hl := Xsx s
  have hV := Zay s
  obtain ⟨k, k1, k2, k3⟩ := Yzn hV (8 * s.size) (by omega) (by
   have hb := Xrn s ((s.size : Int) - 1)
   rw [beq_eq_false_iff_ne] at hz
   obtain ⟨k, hk⟩ := Zen ⟨(Xno s ((s.size : Int) - 1)).toNat, by omega⟩ (by simp only; omega)
   have hk8 := k.isLt
   simp only at hk
   rw [show (((Xno s ((s.size : Int) - 1)).toNat : Nat) : Int) = Xno s ((s.size : Int) - 1) by omega] at hk
   refine ⟨8 * (s.size - 1) + k.val, by omega, ?_⟩
   rw [Ylb s (by omega)]
   unfold Yhd
   rw [show (8 * (s.size - 1) + k.val) / 8 = s.size - 1 by omega, show (8 * (s.size - 1) + k.val) % 8 = k.val by omega, show (((s.size - 1 : Nat)) : Int) = (s.size : Int) - 1 by omega]
   exact hk)
  have lI : loop (Xb7 (Xj8 s)) (8 * (s.size : Int)) = some ((k + 1 : Nat) : Int) := by
   have key : ∀ m : Nat, k + 1 + m ≤ 8 * s.size → loop (Xb7 (Xj8 s)) ((k + 1 + m : Nat) : Int) = some ((k + 1 : Nat) : Int) := by
    intro m
    induction m with
    | zero =>
     intro _
     refine Xd8 ?_
     unfold Xb7
     rw [wkA, rqA, rqA, show (((k + 1 + 0 : Nat) : Int) - 1).toNat = k by omega, k2]
     rfl
    | succ m ih =>
     intro hm
     refine lgo ?_ (ih (by omega))
     unfold Xb7
     rw [wkA, rqA, rqA, show (((k + 1 + (m + 1) : Nat) : Int) - 1).toNat = k + 1 + m by omega, k3 _ (by omega) (by omega), show ((k + 1 + (m + 1) : Nat) : Int) - 1 = ((k + 1 + m : Nat) : Int) by omega]
     rfl
   have := key (8 * s.size - (k + 1)) (by omega)
   rwa [show ((k + 1 + (8 * s.size - (k + 1)) : Nat) : Int) = 8 * (s.size : Int) by omega] at this
  have lS : loop (Xhn (Xj8 s)) ((Xj8 s).length : Int) = some ((k + 1 : Nat) : Int) := by
   have key : ∀ m : Nat, k + 1 + m ≤ 8 * s.size → loop (Xhn (Xj8 s)) ((k + 1 + m : Nat) : Int) = some ((k + 1 : Nat) : Int) := by
    intro m
    induction m with
    | zero =>
     intro _
     refine Xd8 ?_
     unfold Xhn
     rw [syA, wkA, rqA, rqA, show (((k + 1 + 0 : Nat) : Int) - 1).toNat = k by omega, k2]
     rfl
    | succ m ih =>
     intro hm
     refine lgo ?_ (ih (by omega))
     unfold Xhn
     rw [syA, wkA, rqA, rqA, show (((k + 1 + (m + 1) : Nat) : Int) - 1).toNat = k + 1 + m by omega, k3 _ (by omega) (by omega), show ((k + 1 + (m + 1) : Nat) : Int) - 1 = ((k + 1 + m : Nat) : Int) by omega]
     rfl
   have := key (8 * s.size - (k + 1)) (by omega)
   rwa [show ((k + 1 + (8 * s.size - (k + 1)) : Nat) : Int) = ((Xj8 s).length : Int) by omega] at this
  rw [lI, lS, Xad, wkA (e := ((k + 1 : Nat) : Int) - 1), show ((k + 1 : Nat) : Int) - 1 = (k : Int) by omega]
  by_cases hk : (k : Int) > 400000
  ·
   rw [Xbf hk]
   exact .inr ⟨rfl, rfl⟩
  ·
   rw [Xav hk, rqA, rqA]
   exact .inl ⟨(Xj8 s).take k, fun x hx => hV x (List.mem_of_mem_take hx), by rw [List.length_take]; omega, rfl, rfl⟩
theorem Yxz (s : ByteArray) (hs : s.size ≤ 1048576) : (∃ (kd : Int) (L : List Int), Xrw kd = true ∧ Xjh L ∧ L.length ≤ 400000 ∧ Xfw s = some (kd, strOfNums L, true) ∧ Xus s = some (kd, strOfNums L, true)) ∨ (Xfw s = some (0, ⟨#[]⟩, false) ∧ Xus s = some (0, ⟨#[]⟩, false)) := by
 unfold Xfw Xus
 by_cases h0 : s.size = 0
 ·
  have hd : s = ⟨#[]⟩ := by
   have := Xx2 s
   have hn : Xbb s = [] := List.length_eq_zero_iff.1 (by rw [Xdm]; exact h0)
   rw [hn] at this
   exact this.symm
  subst hd
  have e0 : ((⟨#[]⟩ : ByteArray).toList == (⟨#[]⟩ : ByteArray).toList) = true := beq_self_eq_true _
  have e1 : ((⟨#[]⟩ : ByteArray).size : Int) < 1 := by decide
  rw [e0, Xay, Xbf e1]
  exact .inr ⟨rfl, rfl⟩
 have hne : (s.toList == (⟨#[]⟩ : ByteArray).toList) = false := by
  rw [beq_eq_false_iff_ne]
  intro h
  exact h0 (by rw [Ysx.1 h]; rfl)
 have hb := Xrn s 0
 have r0 : ∀ {β : Type} (k : Option β), req (0 ≤ (0 : Int) ∧ (0 : Int) < (s.size : Int)) k = k := fun k => rqA
 have r1 : ∀ {β : Type} (k : Option β), req (0 ≤ (1 : Int) ∧ (1 : Int) ≤ (s.size : Int) ∧ (s.size : Int) ≤ (s.size : Int)) k = k := fun k => rqA
 rw [hne, Xaw, snA]
 simp only [r0, r1, wkA (e := Xno s 0), Xsc, Xw1, Xad]
 cases hk : Xrw (Xno s 0) with
 | false => exact .inr ⟨rfl, rfl⟩
 | true =>
  rw [Bool.not_true, Xaw, Xaw]
  rcases Ys0 (s.extract (1 : Int).toNat (s.size : Int).toNat) (by rw [ByteArray.size_extract]; omega) with ⟨L, l1, l2, e1, e2⟩ | ⟨e1, e2⟩
  ·
   rw [e1, e2, Xad]
   exact .inl ⟨_, L, hk, l1, l2, rfl, rfl⟩
  ·
   rw [e1, e2, Xad]
   exact .inr ⟨rfl, rfl⟩
theorem Xxn {L : List Int} (hb : Xjh L) (hl : L.length ≤ 400000) (i : Nat) (hi : i ≤ L.length) (w : Nat) (hw : w ≤ 41) :
  (∃ v : Int, i + w ≤ L.length ∧ v = Xhf ((L.drop i).take w) ∧ (0 ≤ v ∧ v < 2 ^ w) ∧ Xd2 (strOfNums L) (i : Int) (w : Int) = some (v, ((i + w : Nat) : Int), true) ∧ Xa2 ⟨strOfNums L, (i : Int), false⟩ (w : Int) = some (v, ⟨strOfNums L, ((i + w : Nat) : Int), false⟩)) ∨
  (L.length < i + w ∧ Xd2 (strOfNums L) (i : Int) (w : Int) = some (0, 0, false) ∧ Xa2 ⟨strOfNums L, (i : Int), false⟩ (w : Int) = some (0, ⟨strOfNums L, (i : Int), true⟩)) := by
 have es := Yax hb hl hi hw
 by_cases h : i + w ≤ L.length
 ·
  rw [if_pos h] at es
  have hr := Xjg (l := (L.drop i).take w) (fun x hx => hb x (List.mem_of_mem_drop (List.mem_of_mem_take hx)))
  have hlen : ((L.drop i).take w).length = w := by rw [List.length_take, List.length_drop]; omega
  rw [hlen] at hr
  exact .inl ⟨_, h, rfl, hr, es, Ymt hb hl h hw⟩
 ·
  rw [if_neg h] at es
  refine .inr ⟨by omega, es, ?_⟩
  unfold Xa2
  simp only
  rw [Xaw, strOfNums_size, wkA, Xad, syA]
theorem Yti (s : ByteArray) (a w : Int) : Xa2 ⟨s, a, true⟩ w = some (0, ⟨s, a, true⟩) := rfl
theorem Yco (s : ByteArray) (a : Int) : Xcf ⟨s, a, true⟩ = some ([], ⟨s, a, true⟩) := by
 unfold Xcf
 rw [Zi4, Xad]
 have h : Xaz (0, ⟨s, a, true⟩) (0, s, a, true, []) = some (.done ([], s, a, true)) := rfl
 simp only
 rw [snA, Xad, Xch h, Xad]
theorem Ywv {L : List Int} (hb : Xjh L) (hl : L.length ≤ 400000) (q1 : Int × Int × Bool) (q2 : Int × Yd6) (N : Nat) (hN : N ≤ 4) (h1 : q1.1 = (N : Int)) (h2 : q2.1 = (N : Int)) : ∀ n k : Nat, k + n = N → ∀ (i : Nat) (l : List Int), i ≤ L.length → l.length = k →
  (∃ (l' : List Int) (j : Nat), loop (Xbr (strOfNums L) q1) ((i : Int), (k : Int), l) = some (.out ((j : Int), l')) ∧ loop (Xaz q2) ((k : Int), strOfNums L, (i : Int), false, l) = some (l', strOfNums L, (j : Int), false) ∧ l'.length ≤ 4 ∧ j ≤ L.length) ∨
  (loop (Xbr (strOfNums L) q1) ((i : Int), (k : Int), l) = some (.ret ([], 0, false)) ∧ ∃ (l' : List Int) (a : Int), loop (Xaz q2) ((k : Int), strOfNums L, (i : Int), false, l) = some (l', strOfNums L, a, true) ∧ l'.length ≤ 4)
 | 0, k, hk, i, l, hi, hll => .inl ⟨l, i, Xd8 (by unfold Xbr; simp only; rw [snA]), Xd8 (by unfold Xaz; simp only; rw [snA, Xad, Xaw]), by omega, hi⟩
 | n + 1, k, hk, i, l, hi, hll => by
  have hm : maxLen = 9223372036854775807 := rfl
  rcases Yy4 hb hl i hi with ⟨v, j, e1, e2, v1, v2, v3⟩ | ⟨e1, a, e2⟩
  ·
   have gI : Xaz q2 ((k : Int), strOfNums L, (i : Int), false, l) = some (.go (((k + 1 : Nat) : Int), strOfNums L, (j : Int), false, l ++ [(v : Int)])) := by
    unfold Xaz
    simp only
    rw [syA, Bool.not_false, Xad, Xay, e2, Xad]
    simp only
    rw [Xax (by simp only [List.length_singleton]; omega), wkA]
    rfl
   have gS : Xbr (strOfNums L) q1 ((i : Int), (k : Int), l) = some (.go ((j : Int), ((k + 1 : Nat) : Int), l ++ [(v : Int)])) := by
    unfold Xbr
    simp only
    rw [syA, e1, Xad]
    simp only
    rw [Bool.not_true, Xaw, Xax (by simp only [List.length_singleton]; omega), wkA]
    rfl
   rcases Ywv hb hl q1 q2 N hN h1 h2 n (k + 1) (by omega) j (l ++ [(v : Int)]) v3 (by rw [List.length_append, List.length_singleton]; omega) with ⟨l', j', r1, r2, r3, r4⟩ | ⟨r1, l', a, r2, r3⟩
   ·
    exact .inl ⟨l', j', lgo gS r1, lgo gI r2, r3, r4⟩
   ·
    exact .inr ⟨lgo gS r1, l', a, lgo gI r2, r3⟩
  ·
   have gI : Xaz q2 ((k : Int), strOfNums L, (i : Int), false, l) = some (.go (((k + 1 : Nat) : Int), strOfNums L, a, true, l ++ [0])) := by
    unfold Xaz
    simp only
    rw [syA, Bool.not_false, Xad, Xay, e2, Xad]
    simp only
    rw [Xax (by simp only [List.length_singleton]; omega), wkA]
    rfl
   have dI : Xaz q2 (((k + 1 : Nat) : Int), strOfNums L, a, true, l ++ [0]) = some (.done (l ++ [0], strOfNums L, a, true)) := by
    unfold Xaz
    simp only
    cases decide (((k + 1 : Nat) : Int) < q2.1) <;> rfl
   refine .inr ⟨Xd8 ?_, l ++ [0], a, lgo gI (Xd8 dI), by rw [List.length_append, List.length_singleton]; omega⟩
   unfold Xbr
   simp only
   rw [syA, e1, Xad]
   rfl
theorem Ywu {L : List Int} (hb : Xjh L) (hl : L.length ≤ 400000) (i : Nat) (hi : i ≤ L.length) :
  (∃ (l : List Int) (j : Nat), Xhr (strOfNums L) (i : Int) = some (l, (j : Int), true) ∧ Xcf ⟨strOfNums L, (i : Int), false⟩ = some (l, ⟨strOfNums L, (j : Int), false⟩) ∧ l.length ≤ 4 ∧ j ≤ L.length) ∨
  (Xhr (strOfNums L) (i : Int) = some ([], 0, false) ∧ ∃ (l : List Int) (a : Int), Xcf ⟨strOfNums L, (i : Int), false⟩ = some (l, ⟨strOfNums L, a, true⟩) ∧ l.length ≤ 4) := by
 unfold Xhr Xcf
 rcases Yy4 hb hl i hi with ⟨v, j, e1, e2, v1, v2, v3⟩ | ⟨e1, a, e2⟩
 ·
  rw [e1, Xad, e2, Xad]
  simp only
  rw [Xay, Xad]
  by_cases hv : (v : Int) > 4
  ·
   rw [Xbf hv, Xbf hv, Xad]
   have h : Xaz ((v : Int), ⟨strOfNums L, (j : Int), false⟩) (0, strOfNums L, (j : Int), true, []) = some (.done ([], strOfNums L, (j : Int), true)) := by
    unfold Xaz
    simp only
    rw [syA]
    rfl
   rw [Xch h, Xad]
   exact .inr ⟨rfl, [], j, rfl, by simp⟩
  ·
   rw [Xav hv, Xav hv, Xad]
   rcases Ywv hb hl ((v : Int), (j : Int), true) ((v : Int), ⟨strOfNums L, (j : Int), false⟩) v (by omega) rfl rfl v 0 (by omega) j [] v3 rfl with ⟨l', j', r1, r2, r3, r4⟩ | ⟨r1, l', a, r2, r3⟩
   ·
    have r1' : loop (Xbr (strOfNums L) ((v : Int), (j : Int), true)) ((j : Int), 0, []) = _ := r1
    have r2' : loop (Xaz ((v : Int), ⟨strOfNums L, (j : Int), false⟩)) (0, strOfNums L, (j : Int), false, []) = _ := r2
    rw [r1', r2', Xad, Xad]
    exact .inl ⟨l', j', rfl, rfl, r3, r4⟩
   ·
    have r1' : loop (Xbr (strOfNums L) ((v : Int), (j : Int), true)) ((j : Int), 0, []) = _ := r1
    have r2' : loop (Xaz ((v : Int), ⟨strOfNums L, (j : Int), false⟩)) (0, strOfNums L, (j : Int), false, []) = _ := r2
    rw [r1', r2', Xad, Xad]
    exact .inr ⟨rfl, l', a, rfl, r3⟩
 ·
  rw [e1, Xad, e2, Xad]
  simp only
  rw [Xaw, Xad, Xay, snA, Xad]
  have h : Xaz (0, ⟨strOfNums L, a, true⟩) (0, strOfNums L, a, true, []) = some (.done ([], strOfNums L, a, true)) := rfl
  rw [Xch h, Xad]
  exact .inr ⟨rfl, [], a, rfl, by simp⟩
theorem Ycq {L : List Int} (hb : Xjh L) (hl : L.length ≤ 400000) (i : Nat) (hi : i ≤ L.length) : Xn5 (strOfNums L) (i : Int) = some ⟨strOfNums L, (i : Int), false⟩ := by
 unfold Xn5
 rw [Ybt L hb hl, Xad, Xay, Xaq, Xad, strOfNums_size, decide_eq_true (by omega), Xad]
 rfl
theorem Yvn {L : List Int} (hb : Xjh L) (hl : L.length ≤ 400000) (i : Nat) (hi : i ≤ L.length) :
  (∃ (q : Seq) (j : Nat), Xi9 (strOfNums L) (i : Int) = some (q, (j : Int), true) ∧ Xdt (strOfNums L) (i : Int) = some (q, (j : Int), true) ∧ Xgo q = true ∧ q.Cols.length ≤ 4 ∧ q.Rows.length ≤ 4 ∧ j ≤ L.length) ∨
  (Xi9 (strOfNums L) (i : Int) = some (⟨0, 0, [], []⟩, 0, false) ∧ Xdt (strOfNums L) (i : Int) = some (⟨0, 0, [], []⟩, 0, false)) := by
 have hm : maxLen = 9223372036854775807 := rfl
 unfold Xi9 Xdt
 rw [Ycq hb hl i hi, Xad]
 rcases Yy4 hb hl i hi with ⟨v, j, e1, e2, v1, v2, v3⟩ | ⟨e1, a, e2⟩
 ·
  rw [e1, Xad, e2, Xad]
  simp only
  rw [Bool.not_true, Xaw]
  rcases Xxn hb hl j v3 4 (by omega) with ⟨w, w1, _, w2, f1, f2⟩ | ⟨_, f1, f2⟩
  ·
   have f1' : Xd2 (strOfNums L) (j : Int) 4 = some (w, ((j + 4 : Nat) : Int), true) := f1
   have f2' : Xa2 ⟨strOfNums L, (j : Int), false⟩ 4 = some (w, ⟨strOfNums L, ((j + 4 : Nat) : Int), false⟩) := f2
   rw [f1', Xad, f2', Xad]
   simp only
   rw [Bool.not_true, Xaw]
   rcases Ywu hb hl (j + 4) w1 with ⟨l, j2, g1, g2, g3, g4⟩ | ⟨g1, l, a, g2, g3⟩
   ·
    rw [g1, Xad, g2, Xad]
    simp only
    rw [Bool.not_true, Xaw]
    rcases Ywu hb hl j2 g4 with ⟨m, j3, k1, k2, k3, k4⟩ | ⟨k1, m, a, k2, k3⟩
    ·
     rw [k1, Xad, k2, Xad]
     simp only
     rw [Xay, Xaw, Xp7, Xad, Xjm _ (by simp only; omega) (by simp only; omega), Xad, Xad, Xad]
     cases hq : Xgo ⟨(v : Int), w, l, m⟩ with
     | true => exact .inl ⟨_, j3, rfl, rfl, hq, g3, k3, k4⟩
     | false => exact .inr ⟨rfl, rfl⟩
    ·
     rw [k1, Xad, k2, Xad]
     exact .inr ⟨rfl, rfl⟩
   ·
    rw [g1, Xad, g2, Xad]
    simp only
    rw [Yco, Xad]
    exact .inr ⟨rfl, rfl⟩
  ·
   have f1' : Xd2 (strOfNums L) (j : Int) 4 = some (0, 0, false) := f1
   have f2' : Xa2 ⟨strOfNums L, (j : Int), false⟩ 4 = some (0, ⟨strOfNums L, (j : Int), true⟩) := f2
   rw [f1', Xad, f2', Xad]
   simp only
   rw [Yco, Xad]
   simp only
   rw [Yco, Xad]
   exact .inr ⟨rfl, rfl⟩
 ·
  rw [e1, Xad, e2, Xad]
  simp only
  rw [Yti, Xad]
  simp only
  rw [Yco, Xad]
  simp only
  rw [Yco, Xad]
  exact .inr ⟨rfl, rfl⟩
theorem Zg6 {L : List Int} (hb : Xjh L) {j : Nat} (h : j + 1 ≤ L.length) : Xhf ((L.drop j).take 1) = L.getD j 0 - 48 := by
 have : Xhf ((L.drop j).take 1) = 2 * Xhf ((L.drop j).take 0) + L.getD j 0 - 48 := Xuv (L := L) (i := j) (k := 0) (by omega)
 rw [this, show Xhf ((L.drop j).take 0) = 0 from rfl]; omega
theorem Yvl {L : List Int} (hb : Xjh L) (hl : L.length ≤ 400000) (i : Nat) (hi : i ≤ L.length) :
  (∃ (p : Par) (j : Nat), Xi8 (strOfNums L) (i : Int) = some (p, (j : Int), true) ∧ Xds (strOfNums L) (i : Int) = some (p, (j : Int), true) ∧ Xnp p = true ∧ j ≤ L.length) ∨
  (Xi8 (strOfNums L) (i : Int) = some (⟨0, false, false, false⟩, 0, false) ∧ Xds (strOfNums L) (i : Int) = some (⟨0, false, false, false⟩, 0, false)) := by
 unfold Xi8 Xds
 rw [Ycq hb hl i hi, Xad]
 rcases Xxn hb hl i hi 6 (by omega) with ⟨w, w1, _, w2, f1, f2⟩ | ⟨_, f1, f2⟩
 ·
  have f1' : Xd2 (strOfNums L) (i : Int) 6 = some (w, ((i + 6 : Nat) : Int), true) := f1
  have f2' : Xa2 ⟨strOfNums L, (i : Int), false⟩ 6 = some (w, ⟨strOfNums L, ((i + 6 : Nat) : Int), false⟩) := f2
  rw [f1', Xad, f2', Xad]
  simp only
  rw [Xay, strOfNums_size, wkA (e := (L.length : Int) - ((i + 6 : Nat) : Int))]
  by_cases h3 : i + 9 ≤ L.length
  ·
   have bit : ∀ j : Nat, j + 1 ≤ L.length → Xa2 ⟨strOfNums L, (j : Int), false⟩ 1 = some (L.getD j 0 - 48, ⟨strOfNums L, ((j + 1 : Nat) : Int), false⟩) ∧ ((L.getD j 0 - 48 == 1) = (Xno (strOfNums L) (j : Int) == 49)) := fun j hj => by
    rcases Xxn hb hl j (by omega) 1 (by omega) with ⟨u, _, u1, _, _, g2⟩ | ⟨u1, _⟩
    ·
     rw [Zg6 hb hj] at u1
     rw [u1] at g2
     refine ⟨g2, ?_⟩
     obtain ⟨b1, b2⟩ := Ygt hb (i := j) (by omega)
     rw [b1]
     rcases b2 with b2 | b2 <;> rw [b2] <;> rfl
    ·
     omega
   obtain ⟨a1, a2⟩ := bit (i + 6) (by omega)
   obtain ⟨b1, b2⟩ := bit (i + 6 + 1) (by omega)
   obtain ⟨c1, c2⟩ := bit (i + 6 + 1 + 1) (by omega)
   rw [decide_eq_false (by omega), Xad, Xaw, rqA, wkA (e := ((i + 6 : Nat) : Int) + 1), rqA, wkA (e := ((i + 6 : Nat) : Int) + 2), rqA, wkA (e := ((i + 6 : Nat) : Int) + 3), a1, Xad]
   simp only
   rw [b1, Xad]
   simp only
   rw [c1, Xad]
   simp only
   rw [Xaw, a2, b2, c2, show ((i + 6 : Nat) : Int) + 1 = ((i + 6 + 1 : Nat) : Int) by omega, show ((i + 6 : Nat) : Int) + 2 = ((i + 6 + 1 + 1 : Nat) : Int) by omega, Xup, Xme, Xad, Xad, Xad]
   cases hp : Xnp ⟨w, Xno (strOfNums L) ((i + 6 : Nat) : Int) == 49, Xno (strOfNums L) ((i + 6 + 1 : Nat) : Int) == 49, Xno (strOfNums L) ((i + 6 + 1 + 1 : Nat) : Int) == 49⟩ with
   | true => exact .inl ⟨_, i + 9, (by rw [Bool.not_true, Xaw]; try rfl), (by rw [Bool.not_true, Xaw]; try rfl), hp, h3⟩
   | false => exact .inr ⟨rfl, rfl⟩
  ·
   rw [decide_eq_true (by omega), Xad, Xay]
   refine .inr ⟨rfl, ?_⟩
   have three : ∀ j : Nat, j ≤ L.length → L.length < j + 3 → ∃ (a b c : Int) (e f g : Yd6), Xa2 ⟨strOfNums L, (j : Int), false⟩ 1 = some (a, e) ∧ Xa2 e 1 = some (b, f) ∧ Xa2 f 1 = some (c, g) ∧ g.bad_ = true := fun j h1 h2 => by
    rcases Xxn hb hl j h1 1 (by omega) with ⟨u, k1, _, _, _, g2⟩ | ⟨_, _, g2⟩
    ·
     rcases Xxn hb hl (j + 1) k1 1 (by omega) with ⟨u', k2, _, _, _, g3⟩ | ⟨_, _, g3⟩
     ·
      rcases Xxn hb hl (j + 1 + 1) k2 1 (by omega) with ⟨u'', k3, _, _, _, g4⟩ | ⟨_, _, g4⟩
      ·
       omega
      ·
       exact ⟨_, _, _, _, _, _, g2, g3, g4, rfl⟩
     ·
      exact ⟨_, _, _, _, _, _, g2, g3, Yti _ _ _, rfl⟩
    ·
     exact ⟨_, _, _, _, _, _, g2, Yti _ _ _, Yti _ _ _, rfl⟩
   obtain ⟨a, b, c, e, f, g, r1, r2, r3, r4⟩ := three (i + 6) w1 (by omega)
   rw [r1, Xad]
   simp only
   rw [r2, Xad]
   simp only
   rw [r3, Xad]
   simp only
   rw [r4, Xay, Xad, Xay]
 ·
  have f1' : Xd2 (strOfNums L) (i : Int) 6 = some (0, 0, false) := f1
  have f2' : Xa2 ⟨strOfNums L, (i : Int), false⟩ 6 = some (0, ⟨strOfNums L, (i : Int), true⟩) := f2
  rw [f1', Xad, f2', Xad]
  exact .inr ⟨rfl, rfl⟩
theorem Xp8 (b : Int) (h : 3 ≤ b ∧ b ≤ 8) : 0 ≤ Xaa .u64 b ∧ Xaa .i64 (1 * 2 ^ min (Xaa .u64 b).toNat (IntKind.bits .i64)) = 2 ^ b.toNat ∧ Xaa .i64 (1 * 2 ^ min b.toNat (IntKind.bits .i64)) = 2 ^ b.toNat ∧ (2 : Int) ^ b.toNat ≤ 256 ∧ 8 ≤ (2 : Int) ^ b.toNat := by
 obtain h | h | h | h | h | h : b = 3 ∨ b = 4 ∨ b = 5 ∨ b = 6 ∨ b = 7 ∨ b = 8 := by omega
 all_goals (subst h; decide +kernel)
def Xv0 (q : Seq) (p : Par) (h : Yxv) : Bool := Xgo q && (Xnp p && (decide (0 ≤ h.Tile ∧ h.Tile < Xcc q) && (decide (0 ≤ h.Frame ∧ h.Frame < 2 ^ q.Bits.toNat) && decide (0 ≤ h.Qp ∧ h.Qp ≤ 40))))
theorem Xnn {q : Seq} (h : Xgo q = true) : 0 ≤ Xcc q ∧ Xcc q ≤ 1000000 := by
 obtain ⟨h1, h2, _⟩ := Xbi h
 unfold Xcc
 rw [if_pos h]
 have a := Xbo h1
 have b := Xbo h2
 have : (q.Cols.length : Int) * q.Rows.length ≤ 4 * 4 := Int.mul_le_mul (by omega) (by omega) (by omega) (by omega)
 exact ⟨Int.mul_nonneg (by omega) (by omega), by omega⟩
theorem Ypy (q : Seq) (p : Par) (h : Yxv) (h1 : q.Cols.length ≤ maxLen) (h2 : q.Rows.length ≤ maxLen) : Xqi q p h = some (Xv0 q p h) := by
 unfold Xqi Xv0
 rw [Xjm q h1 h2, Xad]
 cases hs : Xgo q with
 | false => rfl
 | true =>
  rw [Xay, Xme, Xad, Bool.true_and]
  cases hp : Xnp p with
  | false => rfl
  | true =>
   obtain ⟨_, _, b1, b2⟩ := Xbi hs
   obtain ⟨s1, s2, s3, s4, s5⟩ := Xp8 q.Bits ⟨b1, b2⟩
   have ht := Xnn hs
   rw [Xay, Xqo q h1 h2, Xad, Xaq, Xad, wkA (e := Xcc q - 1), Bool.true_and, rqA, s3, wkA (e := (2 : Int) ^ q.Bits.toNat - 1), Xaq, Xad, Xaq, Xad]
   have e1 : decide (0 ≤ h.Tile ∧ h.Tile ≤ Xcc q - 1) = decide (0 ≤ h.Tile ∧ h.Tile < Xcc q) := by rw [decide_eq_decide]; omega
   have e2 : decide (0 ≤ h.Frame ∧ h.Frame ≤ 2 ^ q.Bits.toNat - 1) = decide (0 ≤ h.Frame ∧ h.Frame < 2 ^ q.Bits.toNat) := by rw [decide_eq_decide]; omega
   rw [e1, e2, Xdh, Xdh, Xad]
theorem Yq3 (q : Seq) (p : Par) (h : Yxv) : Xq1 q p h = some (Xv0 q p h) := by
 unfold Xq1 Xv0
 rw [Xup, Xad]
 cases hp : Xnp p with
 | false => rw [Xaw, Xad, Bool.false_and, Bool.and_false]
 | true =>
  rw [Xay, Xq8, Xad, Bool.true_and]
  cases hs : Xgo q with
  | false =>
   have : Xcc q = 0 := by unfold Xcc; rw [hs]; rfl
   rw [this, Bool.false_and]
   by_cases h0 : h.Tile ≥ 0
   ·
    rw [Xbf h0, snA, Xad]
   ·
    rw [Xav h0, Xad]
  | true =>
   obtain ⟨_, _, b1, b2⟩ := Xbi hs
   obtain ⟨s1, s2, s3, s4, s5⟩ := Xp8 q.Bits ⟨b1, b2⟩
   rw [Bool.true_and, Xax s1, s2, Xaj, Xad, Ynl, Ynl, Ynl, Ynl]
   by_cases t1 : h.Tile ≥ 0
   ·
    rw [if_pos t1]
    by_cases t2 : h.Tile < Xcc q
    ·
     rw [if_pos t2, decide_eq_true (show 0 ≤ h.Tile ∧ h.Tile < Xcc q from ⟨t1, t2⟩), Bool.true_and]
     by_cases f1 : h.Frame ≥ 0
     ·
      rw [if_pos f1]
      by_cases f2 : h.Frame < 2 ^ q.Bits.toNat
      ·
       rw [if_pos f2, decide_eq_true (show 0 ≤ h.Frame ∧ h.Frame < 2 ^ q.Bits.toNat from ⟨f1, f2⟩), Bool.true_and, Xad]
      ·
       rw [if_neg f2, decide_eq_false (show ¬ (0 ≤ h.Frame ∧ h.Frame < 2 ^ q.Bits.toNat) from fun h => f2 h.2), Bool.false_and, Xad]
     ·
      rw [if_neg f1, decide_eq_false (show ¬ (0 ≤ h.Frame ∧ h.Frame < 2 ^ q.Bits.toNat) from fun h => f1 h.1), Bool.false_and, Xad]
    ·
     rw [if_neg t2, decide_eq_false (show ¬ (0 ≤ h.Tile ∧ h.Tile < Xcc q) from fun h => t2 h.2), Bool.false_and, Xad]
   ·
    rw [if_neg t1, decide_eq_false (show ¬ (0 ≤ h.Tile ∧ h.Tile < Xcc q) from fun h => t1 h.1), Bool.false_and, Xad]
theorem Ywn : ∀ (a : List Int) (x : Int), Xqw (a ++ [x]) = Xqw a + x
 | [], x => by simp [Xqw]
 | y :: a, x => by rw [List.cons_append, Xqw, Xqw, Ywn a x, Int.add_assoc]
theorem Ywo {l : List Int} : ∀ k : Nat, k < l.length → Xqw (l.take (k + 1)) = Xqw (l.take k) + l.getD k 0 := by
 intro k hk
 rw [List.take_add_one, List.getElem?_eq_getElem hk, Xcd l k hk]
 exact Ywn _ _
theorem Xxl {l : List Int} (h : l.all Xek = true) {i : Nat} (hi : i < l.length) : 1 ≤ l.getD i 0 ∧ l.getD i 0 ≤ 8 := by
 have := List.all_eq_true.1 h (l.getD i 0) (by rw [Xcd l i hi]; exact List.getElem_mem _)
 unfold Xek at this
 rwa [decide_eq_true_eq] at this
theorem Xrx {l : List Int} (h : l.all Xek = true) (hl : l.length ≤ 4) (i : Nat) : 0 ≤ Xqw (l.take i) ∧ Xqw (l.take i) ≤ 32 := by
 have := Xug (l := l.take i) (List.all_eq_true.2 fun x hx => List.all_eq_true.1 h x (List.mem_of_mem_take hx))
 rw [List.length_take] at this
 omega
theorem Yvu {l : List Int} (h : l.all Xek = true) (hl : l.length ≤ 4) (k : Nat) (hk : k ≤ l.length) : Xst l (k : Int) = some (Xqw (l.take k)) := by
 have key : ∀ i : Nat, i ≤ k → loop (Xj0 l (k : Int)) (Xqw (l.take i), (i : Int)) = some (Xqw (l.take k)) := by
  refine Xgb _ (Xd8 (by unfold Xj0; rw [Xav (by simp)])) ?_
  intro i hi ih
  refine lgo ?_ ih
  have a := Xxl h (i := i) (by omega)
  have b := Xrx h hl i
  unfold Xj0
  simp only [Int.toNat_natCast]
  rw [syA, rqA, wkA (e := Xqw (l.take i) + l.getD i 0), wkA (e := (i : Int) + 1), Ywo i (by omega)]
  rfl
 exact Xh6 (key 0 (by omega))
theorem Zal {l : List Int} (h : l.all Xek = true) (hl : l.length ≤ 4) : Xcl l = some (Xqw l) := by
 have key : ∀ i : Nat, i ≤ l.length → loop (Xee l) (Xqw (l.take i), (i : Int)) = some (Xqw l) := by
  refine Xgb _ (Xd8 (by unfold Xee; rw [Xav (by simp), List.take_length])) ?_
  intro i hi ih
  refine lgo ?_ ih
  have a := Xxl h (i := i) (by omega)
  have b := Xrx h hl i
  unfold Xee
  simp only [Int.toNat_natCast]
  rw [syA, rqA, wkA (e := Xqw (l.take i) + l.getD i 0), wkA (e := (i : Int) + 1), Ywo i (by omega)]
  rfl
 exact Xh6 (key 0 (by omega))
theorem Yzf (s : Seq) (h1 : s.Cols.length ≤ 1048576) (h2 : s.Rows.length ≤ 1048576) : Xl3 s = some s ∧ Xo3 s = some s := by
 have hm : maxLen = 9223372036854775807 := rfl
 constructor
 ·
  unfold Xl3
  rw [Xax (by simp only [List.length_nil]; omega), Xax (by simp only [List.length_nil]; omega)]
  rfl
 ·
  unfold Xo3 Xed
  rw [Xax (by simp only [List.length_nil]; omega), Xax (by simp only [List.length_nil]; omega), Xad, Xad]
  rfl
theorem Zcm : ∀ n : Nat, ∀ c : List Int, c.length = n → Xjh c → Xvx n (Xhf c) = c
 | 0, c, h, _ => by rw [List.length_eq_zero_iff.1 h]; rfl
 | n + 1, c, h, hb => by
  have hne : c ≠ [] := fun e => by rw [e] at h; simp at h
  have hc := (List.dropLast_concat_getLast hne).symm
  have hl : c.dropLast.length = n := by rw [List.length_dropLast]; omega
  have ih := Zcm n c.dropLast hl (fun x hx => hb x (List.dropLast_subset c hx))
  have hx := hb _ (List.getLast_mem hne)
  generalize c.getLast hne = x at hc hx
  have hv : Xhf c = Xhf c.dropLast * 2 + (x - 48) := by
   rw [hc, Xpu, ← hc]
   show Xhf c.dropLast * 2 ^ 1 + Xhf [x] = _
   rw [show Xhf [x] = x - 48 by simp [Xhf], show (2 : Int) ^ 1 = 2 from rfl]
  rw [Xvx, hv, show (Xhf c.dropLast * 2 + (x - 48)) / 2 = Xhf c.dropLast by omega, show (48 : Int) + (Xhf c.dropLast * 2 + (x - 48)) % 2 = x by omega, ih]
  exact hc.symm
theorem Yvy : ∀ (m : Nat) (V : List Int) (q : Nat), q < m → (Xf8 m V).getD q 0 = Xhf ((V.drop (8 * q)).take 8)
 | 0, _, _, h => by omega
 | m + 1, V, 0, _ => rfl
 | m + 1, V, q + 1, h => by
  rw [Xf8, List.getD_cons_succ, Yvy m (V.drop 8) q (by omega), List.drop_drop, show 8 + 8 * q = 8 * (q + 1) by omega]
theorem Xzn : ∀ (m : Nat) (V : List Int), Xjh V → Ytc (Xf8 m V)
 | 0, _, _ => fun x hx => by simp [Xf8] at hx
 | m + 1, V, h => fun x hx => by
  rw [Xf8] at hx
  rcases List.mem_cons.1 hx with rfl | hx
  ·
   have r := Xjg (l := V.take 8) (fun x hx => h x (List.mem_of_mem_take hx))
   have h8 : (V.take 8).length ≤ 8 := by rw [List.length_take]; omega
   have hp : (2 : Int) ^ (V.take 8).length ≤ 2 ^ 8 := by
    have : ∀ k : Fin 9, (2 : Int) ^ k.val ≤ 2 ^ 8 := by decide
    exact this ⟨(V.take 8).length, by omega⟩
   have e8 : (2 : Int) ^ 8 = 256 := rfl
   omega
  ·
   exact Xzn m (V.drop 8) (fun x hx => h x (List.mem_of_mem_drop hx)) x hx
theorem Zgx (V : List Int) (a n k : Nat) (h : k < n) : ((V.drop a).take n).getD k 0 = V.getD (a + k) 0 := by
 rw [List.getD_eq_getElem?_getD, List.getD_eq_getElem?_getD, List.getElem?_take_of_lt h, List.getElem?_drop]
theorem Zek (V : List Int) (hb : Xjh V) (m : Nat) (hV : V.length = 8 * m) (i : Nat) (hi : i < 8 * m) : Yhd (strOfNums (Xf8 m V)) i = V.getD i 0 := by
 have hc := Xzn m V hb
 unfold Yhd
 rw [Xvt _ hc (i / 8) (by rw [Xsy]; omega), Yvy m V (i / 8) (by omega)]
 have h8 : ((V.drop (8 * (i / 8))).take 8).length = 8 := by rw [List.length_take, List.length_drop]; omega
 have hcb : Xjh ((V.drop (8 * (i / 8))).take 8) := fun x hx => hb x (List.mem_of_mem_drop (List.mem_of_mem_take hx))
 have hr := Xjg hcb
 rw [h8] at hr
 have e8 : (2 : Int) ^ 8 = 256 := rfl
 have f1 := Zcm 8 _ h8 hcb
 rw [Zju _ ⟨hr.1, by omega⟩] at f1
 have f2 : (_ : Int) = _ := congrArg (fun l => List.getD l (i % 8) 0) f1
 rw [Xh9 _ (by omega), Zgx V _ _ _ (by omega), show 8 * (i / 8) + i % 8 = i by omega] at f2
 exact f2
theorem Zge (L : List Int) : ∃ z, L ++ 49 :: List.replicate (8 * (L.length / 8 + 1) - L.length - 1) 48 = L ++ 49 :: List.replicate z 48 ∧ z ≤ 7 ∧ L.length + 1 + z = 8 * (L.length / 8 + 1) := ⟨_, rfl, by omega, by omega⟩
theorem Zcc (L : List Int) (hb : Xjh L) : ∃ z, Xj8 (strOfNums (Xtz L)) = L ++ 49 :: List.replicate z 48 ∧ L.length + 1 + z = 8 * (L.length / 8 + 1) := by
 obtain ⟨z, h1, h2, h3⟩ := Zge L
 refine ⟨z, ?_, h3⟩
 have hV : Xjh (L ++ 49 :: List.replicate z 48) := Xa5 hb (fun x hx => by
  rcases List.mem_cons.1 hx with rfl | hx
  ·
   exact .inr rfl
  ·
   exact Ykn z x hx)
 have hl : (L ++ 49 :: List.replicate z 48).length = 8 * (L.length / 8 + 1) := by
  rw [List.length_append, List.length_cons, List.length_replicate]; omega
 refine List.ext_getElem (by rw [Xsx, strOfNums_size, Xp5, hl]) fun i i1 i2 => ?_
 rw [Xsx, strOfNums_size, Xp5] at i1
 have e1 : (Xj8 (strOfNums (Xtz L)))[i] = (Xj8 (strOfNums (Xtz L))).getD i 0 := (Xcd _ _ (by rw [Xsx, strOfNums_size, Xp5]; exact i1) 0).symm
 have e2 : (L ++ 49 :: List.replicate z 48)[i] = (L ++ 49 :: List.replicate z 48).getD i 0 := (Xcd _ _ i2 0).symm
 rw [e1, e2, Ylb _ (by rw [strOfNums_size, Xp5]; exact i1)]
 unfold Xtz
 rw [h1]
 exact Zek _ hV _ hl i i1
theorem Zem : ∀ b : Fin 256, ∀ k : Fin 8, 48 + ((b.val : Int) / 2 ^ (7 - k.val)) % 2 = 49 → b.val ≠ 0 := by decide +kernel
theorem Ysz (L : List Int) (hb : Xjh L) (hl : L.length ≤ 400000) : Xfi (strOfNums (Xtz L)) = some (strOfNums L, true) := by
 obtain ⟨z, h1, h3⟩ := Zcc L hb
 have hs : (strOfNums (Xtz L)).size = L.length / 8 + 1 := by rw [strOfNums_size, Xp5]
 generalize hS : strOfNums (Xtz L) = s at h1 hs
 have k2 : (Xj8 s).getD L.length 0 = 49 := by
  rw [h1]
  have := Yv7 L (49 :: List.replicate z 48) 0
  rw [Nat.add_zero] at this
  rw [this]; rfl
 have k3 : ∀ j, L.length + 1 ≤ j → j < 8 * s.size → (Xj8 s).getD j 0 = 48 := fun j j1 j2 => by
  rw [h1]
  have := Yv7 L (49 :: List.replicate z 48) (j - L.length)
  rw [show L.length + (j - L.length) = j by omega] at this
  rw [this, show j - L.length = (j - L.length - 1) + 1 by omega, List.getD_cons_succ, Xcd _ _ (by rw [List.length_replicate]; omega) 0, List.getElem_replicate]
 have hb0 := Xrn s ((s.size : Int) - 1)
 have hz : (Xno s ((s.size : Int) - 1) == 0) = false := by
  rw [beq_eq_false_iff_ne]
  intro h0
  have hk := k2
  rw [Ylb s (by omega)] at hk
  unfold Yhd at hk
  rw [show L.length / 8 = s.size - 1 by omega, show (((s.size - 1 : Nat)) : Int) = (s.size : Int) - 1 by omega, h0] at hk
  exact Zem ⟨0, by omega⟩ ⟨L.length % 8, by omega⟩ hk rfl
 unfold Xfi
 rw [wkA (e := 8 * (s.size : Int)), Xbh (b := (8 * (s.size : Int)) == 0) (by rw [beq_eq_false_iff_ne]; omega), wkA (e := (s.size : Int) - 1), Xax (show 0 ≤ (s.size : Int) - 1 ∧ (s.size : Int) - 1 < s.size by omega), hz, Xaw, decide_eq_false (by omega), Xad, Xaw, Xax (show 0 ≤ (0 : Int) ∧ (0 : Int) ≤ 8 * (s.size : Int) ∧ 8 * (s.size : Int) * 1 ≤ 281474976710656 by omega), show (List.replicate (0 : Int).toNat (0 : Int)) = [] from rfl, Xro s (by omega), Xad]
 have hbl := Xsx s
 have lI : loop (Xb7 (Xj8 s)) (8 * (s.size : Int)) = some ((L.length + 1 : Nat) : Int) := by
  have key : ∀ m : Nat, L.length + 1 + m ≤ 8 * s.size → loop (Xb7 (Xj8 s)) ((L.length + 1 + m : Nat) : Int) = some ((L.length + 1 : Nat) : Int) := by
   intro m
   induction m with
   | zero =>
    intro _
    refine Xd8 ?_
    unfold Xb7
    rw [wkA, rqA, rqA, show (((L.length + 1 + 0 : Nat) : Int) - 1).toNat = L.length by omega, k2]
    rfl
   | succ m ih =>
    intro hm
    refine lgo ?_ (ih (by omega))
    unfold Xb7
    rw [wkA, rqA, rqA, show (((L.length + 1 + (m + 1) : Nat) : Int) - 1).toNat = L.length + 1 + m by omega, k3 _ (by omega) (by omega), show ((L.length + 1 + (m + 1) : Nat) : Int) - 1 = ((L.length + 1 + m : Nat) : Int) by omega]
    rfl
  have := key (8 * s.size - (L.length + 1)) (by omega)
  rwa [show ((L.length + 1 + (8 * s.size - (L.length + 1)) : Nat) : Int) = 8 * (s.size : Int) by omega] at this
 rw [lI, Xad, wkA (e := ((L.length + 1 : Nat) : Int) - 1), show ((L.length + 1 : Nat) : Int) - 1 = (L.length : Int) by omega, snA, rqA, rqA]
 have ht : (Xj8 s).take L.length = L := by rw [h1, List.take_left]
 simp only [Int.toNat_natCast, Int.toNat_zero, Nat.sub_zero, List.drop_zero]
 rw [ht]
theorem Zd0 {k : Int} (hk : Xrw k = true) (L : List Int) (hb : Xjh L) : Ytc (k :: Xtz L) := fun x hx => by
 have hi := Yck hk
 rcases List.mem_cons.1 hx with rfl | hx
 ·
  omega
 ·
  obtain ⟨z, h1, _, h3⟩ := Zge L
  unfold Xtz at hx
  rw [h1] at hx
  exact Xzn _ _ (Xa5 hb (fun y hy => by
   rcases List.mem_cons.1 hy with rfl | hy
   ·
    exact .inr rfl
   ·
    exact Ykn z y hy)) x hx
theorem Yvq {k : Int} (hk : Xrw k = true) (L : List Int) (hb : Xjh L) (hl : L.length ≤ 400000) : Xfw (strOfNums (k :: Xtz L)) = some (k, strOfNums L, true) := by
 have hby := Zd0 hk L hb
 have hsz : (strOfNums (k :: Xtz L)).size = L.length / 8 + 2 := by rw [strOfNums_size, List.length_cons, Xp5]
 have hne : ((strOfNums (k :: Xtz L)).toList == (⟨#[]⟩ : ByteArray).toList) = false := by
  rw [beq_eq_false_iff_ne]
  intro h
  rw [Ysx.1 h] at hsz
  have : (⟨#[]⟩ : ByteArray).size = 0 := rfl
  omega
 have b0 : Xno (strOfNums (k :: Xtz L)) 0 = k := Xvt _ hby 0 (by simp)
 have hi := Yck hk
 have hx : (strOfNums (k :: Xtz L)).extract (1 : Int).toNat (((strOfNums (k :: Xtz L)).size : Int)).toNat = strOfNums (Xtz L) := by
  rw [show k :: Xtz L = [k] ++ Xtz L from rfl, ← Xa3]
  have h1 : (strOfNums [k]).size = 1 := by rw [strOfNums_size]; rfl
  rw [ByteArray.size_append, h1]
  have : (1 : Int).toNat = (strOfNums [k]).size := by rw [h1]; rfl
  rw [this, show (((1 + (strOfNums (Xtz L)).size : Nat)) : Int).toNat = (strOfNums [k]).size + (strOfNums (Xtz L)).size by rw [h1]; omega]
  exact ByteArray.extract_append_eq_right rfl rfl
 have hiw : Xaa .i64 k = k := wkA
 have r0 : ∀ {β : Type} (x : Option β), req (0 ≤ (0 : Int) ∧ (0 : Int) < ((strOfNums (k :: Xtz L)).size : Int)) x = x := fun x => rqA
 have r1 : ∀ {β : Type} (x : Option β), req (0 ≤ (1 : Int) ∧ (1 : Int) ≤ ((strOfNums (k :: Xtz L)).size : Int) ∧ ((strOfNums (k :: Xtz L)).size : Int) ≤ ((strOfNums (k :: Xtz L)).size : Int)) x = x := fun x => rqA
 unfold Xfw
 rw [hne, Xaw]
 simp only [r0, r1, b0, hiw, Xsc, hk, Xad, Bool.not_true, Xaw, hx, Ysz L hb hl]
theorem Yk4 {k : Int} (hk : Xrw k = true) (L : List Int) (hb : Xjh L) (hl : L.length ≤ 400000) : Xfw (strOfNums (k :: Xtz L)) = some (k, strOfNums L, true) ∧ Xus (strOfNums (k :: Xtz L)) = some (k, strOfNums L, true) := by
 have hsz : (strOfNums (k :: Xtz L)).size = L.length / 8 + 2 := by rw [strOfNums_size, List.length_cons, Xp5]
 have hI := Yvq hk L hb hl
 refine ⟨hI, ?_⟩
 rcases Yxz (strOfNums (k :: Xtz L)) (by omega) with ⟨kd, M, _, _, _, e1, e2⟩ | ⟨e1, e2⟩
 ·
  rw [hI] at e1
  rw [e2, ← e1]
 ·
  rw [hI] at e1
  have := congrArg (fun o => o.map fun x => x.2.2) e1
  simp at this
theorem Yy5 : ∀ (w : Nat) (n : Int), 0 ≤ n → n < 2 ^ w → Xhf (Xvx w n) = n
 | 0, n, h0, h1 => by
  have : (2 : Int) ^ 0 = 1 := rfl
  rw [show n = 0 by omega]; rfl
 | w + 1, n, h0, h1 => by
  rw [Int.pow_succ] at h1
  rw [Xvx, Xpu, Yy5 w (n / 2) (by omega) (by omega)]
  show n / 2 * 2 ^ 1 + Xhf [48 + n % 2] = n
  rw [show Xhf [48 + n % 2] = n % 2 from (by simp only [Xhf, List.foldl_cons, List.foldl_nil]; omega), show (2 : Int) ^ 1 = 2 from rfl]
  omega
theorem Yzv {L : List Int} (hb : Xjh L) (hl : L.length ≤ 400000) (q1 : Int × Yd6) (l : List Int) (ha : l.all Xek = true) (h4 : l.length ≤ 4) (hq : q1.1 = (l.length : Int)) (b : List Int) : ∀ (r pre a : List Int), l = pre ++ r → L = a ++ (Zao r ++ b) → loop (Xaz q1) ((pre.length : Int), strOfNums L, (a.length : Int), false, pre) = some (l, strOfNums L, ((a.length + (Zao r).length : Nat) : Int), false)
 | [], pre, a, h1, h2 => by
  refine Xd8 ?_
  rw [List.append_nil] at h1
  unfold Xaz
  simp only
  rw [hq, h1, snA, Xad, Xaw]
  rfl
 | x :: r, pre, a, h1, h2 => by
  have hm : maxLen = 9223372036854775807 := rfl
  have hlen : l.length = pre.length + (r.length + 1) := by rw [h1]; simp
  have hx : Xek x = true := List.all_eq_true.1 ha x (by rw [h1]; simp)
  have hx : 1 ≤ x ∧ x ≤ 8 := by simpa [Xek] using hx
  rw [Zao, List.append_assoc] at h2
  have e := Yfj h2 hb hl (by omega)
  have ih := Yzv hb hl q1 l ha h4 hq b r (pre ++ [x]) (a ++ ueL x.toNat) (by rw [h1]; simp) (by rw [h2]; simp only [List.append_assoc])
  refine lgo ?_ (ih.trans ?_)
  ·
   unfold Xaz
   simp only
   rw [hq, syA, Bool.not_false, Xad, Xay, e, Xad]
   simp only
   rw [Xax (by simp only [List.length_singleton]; omega), wkA, List.length_append, List.length_append, List.length_singleton, show ((x.toNat : Nat) : Int) = x by omega]
   rfl
  ·
   rw [Zao, List.length_append, List.length_append, Nat.add_assoc]
theorem Yg6 {L a b l : List Int} (hL : L = a ++ (Xsg l ++ b)) (hb : Xjh L) (hl : L.length ≤ 400000) (ho : Xd9 l = true) : Xcf ⟨strOfNums L, (a.length : Int), false⟩ = some (l, ⟨strOfNums L, ((a.length + (Xsg l).length : Nat) : Int), false⟩) := by
 have h4 := Xbo ho
 unfold Xd9 at ho
 rw [Bool.and_eq_true] at ho
 unfold Xsg at hL ⊢
 rw [List.append_assoc] at hL
 have e := Yfj hL hb hl (by omega)
 unfold Xcf
 rw [e, Xad]
 simp only
 rw [snA, Xad]
 have := Yzv hb hl ((l.length : Int), ⟨strOfNums L, ((a.length + (ueL l.length).length : Nat) : Int), false⟩) l ho.2 h4.2 rfl b l [] (a ++ ueL l.length) rfl (by rw [hL]; simp only [List.append_assoc])
 rw [List.length_append] at this
 refine (Xh6 this).trans ?_
 rw [List.length_append, Nat.add_assoc]
theorem Yfk {s : Seq} (h : Xgo s = true) : (Xu8 s).length ≤ 400000 := by have := Yur h; omega
theorem Ys2 {s : Seq} (h : Xgo s = true) : Xdt (strOfNums (Xu8 s)) 0 = some (s, ((Xu8 s).length : Int), true) := by
 have hm : maxLen = 9223372036854775807 := rfl
 have hb := Yc3 s
 have hl := Yfk h
 obtain ⟨s1, s2, b1, b2⟩ := Xbi h
 have lv := Xun h
 have c1 := Xbo s1
 have c2 := Xbo s2
 have p1 : Xu8 s = [] ++ (ueL s.Level.toNat ++ (Xvx 4 s.Bits ++ Xsg s.Cols ++ Xsg s.Rows)) := by unfold Xu8; simp only [List.nil_append, List.append_assoc]
 have p2 : Xu8 s = ueL s.Level.toNat ++ (Xvx 4 s.Bits ++ (Xsg s.Cols ++ Xsg s.Rows)) := by unfold Xu8; simp only [List.append_assoc]
 have p3 : Xu8 s = (ueL s.Level.toNat ++ Xvx 4 s.Bits) ++ (Xsg s.Cols ++ Xsg s.Rows) := by unfold Xu8; simp only [List.append_assoc]
 have p4 : Xu8 s = (ueL s.Level.toNat ++ Xvx 4 s.Bits ++ Xsg s.Cols) ++ (Xsg s.Rows ++ []) := by unfold Xu8; simp only [List.append_assoc, List.append_nil]
 have hlen : (Xu8 s).length = (ueL s.Level.toNat).length + 4 + (Xsg s.Cols).length + (Xsg s.Rows).length := by unfold Xu8; simp only [List.length_append, Xce]
 generalize Xu8 s = L at *
 have e1 := Yfj p1 hb hl (by omega)
 have e2 := Xlc p2 hb hl (by rw [Xce]; omega)
 have e3 := Yg6 p3 hb hl s1
 have e4 := Yg6 p4 hb hl s2
 rw [Xce, Yy5 4 s.Bits (by omega) (by have : (2 : Int) ^ 4 = 16 := rfl; omega)] at e2
 rw [List.length_append, Xce] at e3
 rw [List.length_append, List.length_append, Xce] at e4
 rw [List.length_nil, Nat.zero_add] at e1
 have o := Ycq hb hl 0 (by omega)
 unfold Xdt
 rw [show (0 : Int) = ((0 : Nat) : Int) from rfl, o, Xad, e1, Xad]
 simp only
 rw [show (4 : Int) = ((4 : Nat) : Int) from rfl, e2, Xad]
 simp only
 rw [e3, Xad]
 simp only
 rw [e4, Xad]
 simp only
 rw [Xaw, show ((s.Level.toNat : Nat) : Int) = s.Level by omega, show (⟨s.Level, s.Bits, s.Cols, s.Rows⟩ : Seq) = s from rfl, Xjm _ (by omega) (by omega), Xad, h, Xad, hlen]
 rfl
theorem Yvm {s : Seq} (h : Xgo s = true) : Xdt (strOfNums (Xu8 s)) 0 = some (s, ((Xu8 s).length : Int), true) ∧ Xi9 (strOfNums (Xu8 s)) 0 = some (s, ((Xu8 s).length : Int), true) := by
 have hb := Yc3 s
 have hl := Yfk h
 have hI := Ys2 h
 generalize Xu8 s = L at *
 refine ⟨hI, ?_⟩
 rcases Yvn hb hl 0 (by omega) with ⟨q, j, r1, r2, _⟩ | ⟨_, r2⟩
 ·
  have r1' : Xi9 (strOfNums L) 0 = _ := r1
  have r2' : Xdt (strOfNums L) 0 = _ := r2
  rw [hI] at r2'
  rw [r1', ← r2']
 ·
  have r2' : Xdt (strOfNums L) 0 = _ := r2
  rw [hI] at r2'
  have := congrArg (fun o => o.map fun x => x.2.2) r2'
  simp at this
theorem Zfj (b : Bool) : Xhf (Xrl b) = if b = true then 1 else 0 := by cases b <;> rfl
theorem Ys1 {p : Par} (h : Xnp p = true) : Xds (strOfNums (Xy1 p)) 0 = some (p, 9, true) := by
 have hb := Ycr p
 have hl9 := Ycs p
 have hl : (Xy1 p).length ≤ 400000 := by omega
 have hq := Xxw h
 have p1 : Xy1 p = [] ++ (Xvx 6 p.Qp ++ (Xrl p.Large ++ Xrl p.Exact ++ Xrl p.Confined)) := by unfold Xy1; simp only [List.nil_append, List.append_assoc]
 have p2 : Xy1 p = Xvx 6 p.Qp ++ (Xrl p.Large ++ (Xrl p.Exact ++ Xrl p.Confined)) := by unfold Xy1; simp only [List.append_assoc]
 have p3 : Xy1 p = (Xvx 6 p.Qp ++ Xrl p.Large) ++ (Xrl p.Exact ++ Xrl p.Confined) := by unfold Xy1; simp only [List.append_assoc]
 have p4 : Xy1 p = (Xvx 6 p.Qp ++ Xrl p.Large ++ Xrl p.Exact) ++ (Xrl p.Confined ++ []) := by unfold Xy1; simp only [List.append_assoc, List.append_nil]
 generalize Xy1 p = L at *
 have e1 := Xlc p1 hb hl (by rw [Xce]; omega)
 have e2 := Xlc p2 hb hl (by rw [Xis]; omega)
 have e3 := Xlc p3 hb hl (by rw [Xis]; omega)
 have e4 := Xlc p4 hb hl (by rw [Xis]; omega)
 simp only [List.length_append, Xce, Xis, Zfj, List.length_nil] at e1 e2 e3 e4
 rw [Yy5 6 p.Qp (by omega) (by have : (2 : Int) ^ 6 = 64 := rfl; omega)] at e1
 have o := Ycq hb hl 0 (by omega)
 unfold Xds
 rw [show (0 : Int) = ((0 : Nat) : Int) from rfl, o, Xad, show (6 : Int) = ((6 : Nat) : Int) from rfl, e1, Xad]
 simp only
 rw [show (1 : Int) = ((1 : Nat) : Int) from rfl, e2, Xad]
 simp only
 rw [e3, Xad]
 simp only
 rw [e4, Xad]
 simp only
 have hbit : ∀ b : Bool, ((if b = true then (1 : Int) else 0) == ((1 : Nat) : Int)) = b := fun b => by cases b <;> rfl
 rw [hbit, hbit, hbit, Xaw, show (⟨p.Qp, p.Large, p.Exact, p.Confined⟩ : Par) = p from rfl, Xme, Xad, h, Xad]
 rfl
theorem Yvk {p : Par} (h : Xnp p = true) : Xds (strOfNums (Xy1 p)) 0 = some (p, 9, true) ∧ Xi8 (strOfNums (Xy1 p)) 0 = some (p, 9, true) := by
 have hb := Ycr p
 have hl9 := Ycs p
 have hI := Ys1 h
 generalize Xy1 p = L at *
 have hl : L.length ≤ 400000 := by omega
 refine ⟨hI, ?_⟩
 rcases Yvl hb hl 0 (by omega) with ⟨q, j, r1, r2, _⟩ | ⟨_, r2⟩
 ·
  have r1' : Xi8 (strOfNums L) 0 = _ := r1
  have r2' : Xds (strOfNums L) 0 = _ := r2
  rw [hI] at r2'
  rw [r1', ← r2']
 ·
  have r2' : Xds (strOfNums L) 0 = _ := r2
  rw [hI] at r2'
  have := congrArg (fun o => o.map fun x => x.2.2) r2'
  simp at this
def Yx8 (q : Seq) (p : Par) (h : Yxv) : List Int := ueL h.Tile.toNat ++ Xvx q.Bits.toNat h.Frame ++ seL (h.Qp - p.Qp)
theorem Zcs (q : Seq) (p : Par) (h : Yxv) : Xjh (Yx8 q p h) := Xa5 (Xa5 (Xhe _) (Ybb _ _)) (Xhe _)
theorem Xv1 {q : Seq} {p : Par} {h : Yxv} (hh : Xv0 q p h = true) : Xgo q = true ∧ Xnp p = true ∧ (0 ≤ h.Tile ∧ h.Tile < Xcc q) ∧ (0 ≤ h.Frame ∧ h.Frame < 2 ^ q.Bits.toNat) ∧ (0 ≤ h.Qp ∧ h.Qp ≤ 40) := by
 unfold Xv0 at hh
 simp only [Bool.and_eq_true, decide_eq_true_eq] at hh
 exact hh
theorem Zct {q : Seq} {p : Par} {h : Yxv} (hh : Xv0 q p h = true) : (Yx8 q p h).length ≤ 200 := by
 obtain ⟨hs, hp, ht, hf, hq⟩ := Xv1 hh
 obtain ⟨_, _, b1, b2⟩ := Xbi hs
 have hr := Xnn hs
 have pq := Xxw hp
 have u := Xc7 h.Tile.toNat (by omega)
 have z := Xpp (h.Qp - p.Qp) (by omega)
 unfold Yx8
 simp only [List.length_append, Xce]
 omega
theorem Ynz {q : Seq} {p : Par} {h : Yxv} (hh : Xv0 q p h = true) : Xo9 q p h = some (strOfNums (Yx8 q p h), true) := by
 obtain ⟨hs, hp, ht, hf, hq⟩ := Xv1 hh
 obtain ⟨_, _, b1, b2⟩ := Xbi hs
 obtain ⟨_, _, _, w4, _⟩ := Xp8 q.Bits ⟨b1, b2⟩
 have hr := Xnn hs
 have pq := Xxw hp
 unfold Xo9
 have fl := Xce q.Bits.toNat h.Frame
 have u := Xc7 h.Tile.toNat (by omega)
 have z := Xpp (h.Qp - p.Qp) (by omega)
 rw [Yq3, Xad, hh, Bool.not_true, Xaw, show h.Tile = ((h.Tile.toNat : Nat) : Int) by omega, Xcx _ (by omega), Xad, show q.Bits = ((q.Bits.toNat : Nat) : Int) by omega, Xov h.Frame _ hf.1 (by omega) (by omega), Xad, wkA (e := h.Qp - p.Qp), Xax (by simp only [strOfNums_size]; omega), Xm9 _ (by omega), Xad, Xa3, Xax (by simp only [strOfNums_size, List.length_append]; omega), Xa3]
 rfl
theorem Zdc {b : Nat} (h : 8 ≤ (2 : Int) ^ b) : (2 : Int) ^ b ≠ 0 := by
 generalize (2 : Int) ^ b = N at h ⊢
 omega
theorem Zik {b : Nat} (h : 8 ≤ (2 : Int) ^ b) : 0 < (2 : Int) ^ b := by
 generalize (2 : Int) ^ b = N at h ⊢
 omega
theorem Yli {b : Nat} {f : Int} (h : (2 : Int) ^ b ≤ 256) (h1 : f < 2 ^ b) : f ≤ 255 := by
 generalize (2 : Int) ^ b = N at h h1
 omega
theorem Yba {p : Pic} {s : Seq} (h : Xvw p s = true) : Xdg p = true ∧ p.Wide = (Xld s).1 ∧ p.High = (Xld s).2 := by
 unfold Xvw at h
 simp only [Bool.and_eq_true, beq_iff_eq] at h
 exact h
theorem Zcl {p : Pic} {s : Seq} (h1 : Xdg p = true) (h2 : p.Wide = (Xld s).1) (h3 : p.High = (Xld s).2) : Xvw p s = true := by
 unfold Xvw
 simp only [Bool.and_eq_true, beq_iff_eq]
 exact ⟨h1, h2, h3⟩
theorem Zhh {s : Seq} (h : Xgo s = true) : Xld s = (8 * Xqw s.Cols, 8 * Xqw s.Rows) ∧ (1 ≤ Xqw s.Cols ∧ Xqw s.Cols ≤ 32) ∧ (1 ≤ Xqw s.Rows ∧ Xqw s.Rows ≤ 32) := by
 obtain ⟨s1, s2, _⟩ := Xbi h
 exact ⟨by unfold Xld; rw [if_pos h], Yfd s1, Yfd s2⟩
def Zde (q : Seq) (x y : Nat) : Zed := ⟨8 * Xqw (q.Cols.take x), 8 * Xqw (q.Rows.take y), 8 * q.Cols.getD x 0, 8 * q.Rows.getD y 0⟩
theorem Yvp {q : Seq} (hs : Xgo q = true) (h1 : q.Cols.length ≤ maxLen) (h2 : q.Rows.length ≤ maxLen) (t : Int) (ht : 0 ≤ t ∧ t < Xcc q) : ∃ x y : Nat, (x : Int) = t % (q.Cols.length : Int) ∧ (y : Int) = t / (q.Cols.length : Int) ∧ x < q.Cols.length ∧ y < q.Rows.length ∧ Yb3 q t = some (Zde q x y, true) ∧ Xur q t = some (Zde q x y, true) ∧ (1 ≤ q.Cols.getD x 0 ∧ q.Cols.getD x 0 ≤ 8) ∧ (1 ≤ q.Rows.getD y 0 ∧ q.Rows.getD y 0 ≤ 8) := by
 have hr := Xnn hs
 have hto : Xcc q = (q.Cols.length : Int) * q.Rows.length := by unfold Xcc; rw [if_pos hs]
 obtain ⟨s1, s2, _⟩ := Xbi hs
 have c1 := Xbo s1
 have c2 := Xbo s2
 unfold Xd9 at s1 s2
 rw [Bool.and_eq_true] at s1 s2
 have m0 := Int.emod_nonneg t (show (q.Cols.length : Int) ≠ 0 by omega)
 have m1 := Int.emod_lt_of_pos t (show 0 < (q.Cols.length : Int) by omega)
 have d0 : 0 ≤ t / (q.Cols.length : Int) := Int.ediv_nonneg ht.1 (by omega)
 have d1 : t / (q.Cols.length : Int) < q.Rows.length := Int.ediv_lt_of_lt_mul (by omega) (by rw [Int.mul_comm, ← hto]; exact ht.2)
 have ex : ∃ x y : Nat, (x : Int) = t % (q.Cols.length : Int) ∧ (y : Int) = t / (q.Cols.length : Int) := ⟨(t % (q.Cols.length : Int)).toNat, (t / (q.Cols.length : Int)).toNat, by omega, by omega⟩
 obtain ⟨x, y, hx, hy⟩ := ex
 have tm : t.tmod (q.Cols.length : Int) = (x : Int) := by rw [Xb1 ht.1]; exact hx.symm
 have td : Xaa .i64 (t.tdiv (q.Cols.length : Int)) = (y : Int) := by rw [Xb2 ht.1, ← hy, wkA]
 have bx := Xrx s1.2 c1.2 x
 have by_ := Xrx s2.2 c2.2 y
 have gx := Xxl s1.2 (i := x) (by omega)
 have gy := Xxl s2.2 (i := y) (by omega)
 refine ⟨x, y, hx, hy, by omega, by omega, ?_, ?_, gx, gy⟩
 ·
  unfold Yb3
  rw [Xqo q h1 h2, Xad, wkA (e := Xcc q - 1), Xaq, Xad, decide_eq_true (by omega), Bool.not_true, Xaw, rqA, tm, td, rqA, rqA]
  simp only [Int.toNat_natCast]
  rw [show (0 : Int).toNat = 0 from rfl, List.drop_zero, List.drop_zero, Nat.sub_zero, Nat.sub_zero, Zal (List.all_eq_true.2 fun z hz => List.all_eq_true.1 s1.2 z (List.mem_of_mem_take hz)) (by rw [List.length_take]; omega), Xad, rqA, Zal (List.all_eq_true.2 fun z hz => List.all_eq_true.1 s2.2 z (List.mem_of_mem_take hz)) (by rw [List.length_take]; omega), Xad, rqA, rqA, wkA (e := 8 * Xqw (q.Cols.take x)), wkA (e := 8 * Xqw (q.Rows.take y)), wkA (e := 8 * q.Cols.getD x 0), wkA (e := 8 * q.Rows.getD y 0)]
  rfl
 ·
  unfold Xur
  rw [snA, Xq8, Xad, decide_eq_false (by omega), Xad, Xaw, rqA, tm, td, rqA, Yvu s1.2 c1.2 x (by omega), Xad, Yvu s2.2 c2.2 y (by omega), Xad, rqA, rqA]
  simp only [Int.toNat_natCast]
  rw [wkA (e := 8 * Xqw (q.Cols.take x)), wkA (e := 8 * Xqw (q.Rows.take y)), wkA (e := 8 * q.Cols.getD x 0), wkA (e := 8 * q.Rows.getD y 0)]
  rfl
theorem Yk3 {q : Seq} (hs : Xgo q = true) (h1 : q.Cols.length ≤ maxLen) (h2 : q.Rows.length ≤ maxLen) (t : Int) (ht : 0 ≤ t ∧ t < Xcc q) : ∃ x y : Nat, (x : Int) = t % (q.Cols.length : Int) ∧ (y : Int) = t / (q.Cols.length : Int) ∧ x < q.Cols.length ∧ y < q.Rows.length ∧ Xk4 q t = some (q.Cols.getD x 0 * q.Rows.getD y 0) ∧ (1 ≤ q.Cols.getD x 0 ∧ q.Cols.getD x 0 ≤ 8) ∧ (1 ≤ q.Rows.getD y 0 ∧ q.Rows.getD y 0 ≤ 8) := by
 obtain ⟨x, y, hx, hy, lx, ly, _, e, gx, gy⟩ := Yvp hs h1 h2 t ht
 have mb : q.Cols.getD x 0 * q.Rows.getD y 0 ≤ 8 * 8 := Int.mul_le_mul (by omega) (by omega) (by omega) (by omega)
 have m0 : 1 * 1 ≤ q.Cols.getD x 0 * q.Rows.getD y 0 := Int.mul_le_mul (by omega) (by omega) (by omega) (by omega)
 refine ⟨x, y, hx, hy, lx, ly, ?_, gx, gy⟩
 unfold Xk4
 rw [e, Xad]
 unfold Zde
 simp only
 rw [rqA, rqA, Xb2 (by omega), Xb2 (by omega), show 8 * q.Cols.getD x 0 / 8 = q.Cols.getD x 0 by omega, show 8 * q.Rows.getD y 0 / 8 = q.Rows.getD y 0 by omega, wkA (e := q.Cols.getD x 0), wkA (e := q.Rows.getD y 0), wkA]
def Xsu (k : Int) (L : List Int) : ByteArray := strOfNums (k :: Xtz L)
theorem Xth (s : Seq) (h1 : s.Cols.length ≤ 1048576) (h2 : s.Rows.length ≤ 1048576) : Xlw s s = some true := by
 unfold Xlw
 rw [Xry _ (by omega), Xry _ (by omega)]
 simp only [beq_self_eq_true, Xay, Xad]
theorem Yxy {src ref : Pic} {c : Xf7} {r : Int} (H : Zef src ref c r) : ∃ l now, Xlp src ref c r = some (l, now, true) ∧ Xl1 src ref c r = some (l, now, true) ∧ Xpe src ref c r ((src.Wide / 8).toNat * (src.High / 8).toNat) l now := by
 have hm : maxLen = 9223372036854775807 := rfl
 have sw := Xg9 H.hw
 have sh := Xg9 H.hh
 obtain ⟨k1, k2, k3⟩ := Xbq H.ok
 -- one row
 have row : ∀ a : Nat, (a : Int) < src.High / 8 → ∀ (l : List Xau) (now : Pic), Xpe src ref c r ((src.Wide / 8).toNat * a) l now → ∃ l' now', loop (Xfd src ref c r ((8 * a : Nat), l, now.Wide, now.High, now.Dots)) (0, l, now.Wide, now.High, now.Dots) = some (.out (l', now'.Wide, now'.High, now'.Dots)) ∧ loop (Xfh src ref c r ((8 * a : Nat), l, now.Wide, now.High, now.Dots)) (0, l, now.Wide, now.High, now.Dots) = some (l', now'.Wide, now'.High, now'.Dots) ∧ Xpe src ref c r ((src.Wide / 8).toNat * (a + 1)) l' now' := by
  intro a ha l now hT
  have key : ∀ b : Nat, b ≤ (src.Wide / 8).toNat → ∀ (l2 : List Xau) (now2 : Pic), Xpe src ref c r ((src.Wide / 8).toNat * a + b) l2 now2 → ∃ l' now', loop (Xfd src ref c r ((8 * a : Nat), l, now.Wide, now.High, now.Dots)) (((8 * b : Nat) : Int), l2, now2.Wide, now2.High, now2.Dots) = some (.out (l', now'.Wide, now'.High, now'.Dots)) ∧ loop (Xfh src ref c r ((8 * a : Nat), l, now.Wide, now.High, now.Dots)) (((8 * b : Nat) : Int), l2, now2.Wide, now2.High, now2.Dots) = some (l', now'.Wide, now'.High, now'.Dots) ∧ Xpe src ref c r ((src.Wide / 8).toNat * (a + 1)) l' now' := by
   refine Xgb _ ?_ ?_
   ·
    intro l2 now2 h2
    refine ⟨l2, now2, Xd8 ?_, Xd8 ?_, by rw [Nat.mul_add, Nat.mul_one]; exact h2⟩
    ·
     unfold Xfd
     rw [Xav (by simp only; omega)]
    ·
     unfold Xfh
     rw [Xav (by simp only; omega)]
   ·
    intro b hb ih l2 now2 h2
    have hbI : (b : Int) < src.Wide / 8 := by omega
    obtain ⟨eX, eY⟩ := Zi3 H.hw a b hbI
    obtain ⟨q, d, now', e1, e1s, hd, ep, hT'⟩ := h2.step H (Zgh H.hw a b hbI ha)
    rw [eX, eY] at e1 e1s ep
    obtain ⟨ok2, w2, hh2, hl2, _⟩ := h2.pic H
    obtain ⟨l', n', el, els, hT2⟩ := ih (l2 ++ [q]) now' hT'
    have lb : l2.length ≤ 1000 := by
     have := Zgh H.hw a b hbI ha
     have : src.Wide / 8 * (src.High / 8) ≤ 8 * 8 := Int.mul_le_mul (by omega) (by omega) (by omega) (by omega)
     omega
    refine ⟨l', n', lgo (y := (((8 * (b + 1) : Nat) : Int), l2 ++ [q], now'.Wide, now'.High, now'.Dots)) ?_ el, lgo (y := (((8 * (b + 1) : Nat) : Int), l2 ++ [q], now'.Wide, now'.High, now'.Dots)) ?_ els, hT2⟩
    ·
     unfold Xfd
     simp only
     rw [show ((8 * a : Nat) : Int) = 8 * (a : Int) by omega, show ((8 * b : Nat) : Int) = 8 * (b : Int) by omega, syA, Xg7 H.ok _ _ (by omega) (by omega), Xad, show (⟨now2.Wide, now2.High, now2.Dots⟩ : Pic) = now2 from rfl, e1, Xad]
     simp only
     rw [Bool.not_true, Xaw, Xax (by simp only [List.length_singleton]; omega), Zdd hd (by have := Zet ok2; omega), ep, Xad, wkA, show ((8 * (b + 1) : Nat) : Int) = 8 * (b : Int) + 8 by omega]
    ·
     unfold Xfh
     simp only
     rw [show ((8 * a : Nat) : Int) = 8 * (a : Int) by omega, show ((8 * b : Nat) : Int) = 8 * (b : Int) by omega, syA, Xiv H.ok _ _ (by omega) (by omega), Xad, show (⟨now2.Wide, now2.High, now2.Dots⟩ : Pic) = now2 from rfl, e1s, Xad]
     simp only
     rw [Xax (by simp only [List.length_singleton]; omega), ep, Xad, wkA, show ((8 * (b + 1) : Nat) : Int) = 8 * (b : Int) + 8 by omega]
  exact key 0 (by omega) l now hT
 have rows : ∀ a : Nat, a ≤ (src.High / 8).toNat → ∀ (l : List Xau) (now : Pic), Xpe src ref c r ((src.Wide / 8).toNat * a) l now → ∃ l' now', loop (Xfc src ref c r) (((8 * a : Nat) : Int), l, now.Wide, now.High, now.Dots) = some (.out (l', now'.Wide, now'.High, now'.Dots)) ∧ loop (Xfg src ref c r) (((8 * a : Nat) : Int), l, now.Wide, now.High, now.Dots) = some (l', now'.Wide, now'.High, now'.Dots) ∧ Xpe src ref c r ((src.Wide / 8).toNat * (src.High / 8).toNat) l' now' := by
  refine Xgb _ ?_ ?_
  ·
   intro l now h
   refine ⟨l, now, Xd8 ?_, Xd8 ?_, h⟩
   ·
    unfold Xfc
    rw [Xav (by simp only; omega)]
   ·
    unfold Xfg
    rw [Xav (by simp only; omega)]
  ·
   intro a ha ih l now h
   obtain ⟨l', n', el, els, hT⟩ := row a (by omega) l now h
   obtain ⟨l2, n2, el2, el2s, hT2⟩ := ih l' n' hT
   refine ⟨l2, n2, lgo (y := (((8 * (a + 1) : Nat) : Int), l', n'.Wide, n'.High, n'.Dots)) ?_ el2, lgo (y := (((8 * (a + 1) : Nat) : Int), l', n'.Wide, n'.High, n'.Dots)) ?_ el2s, hT2⟩
   ·
    unfold Xfc
    rw [Xbf (by simp only; omega)]
    simp only
    rw [el, Xad]
    simp only
    rw [wkA, show ((8 * (a + 1) : Nat) : Int) = ((8 * a : Nat) : Int) + 8 by omega]
   ·
    unfold Xfg
    rw [Xbf (by simp only; omega)]
    simp only
    rw [els, Xad]
    simp only
    rw [wkA, show ((8 * (a + 1) : Nat) : Int) = ((8 * a : Nat) : Int) + 8 by omega]
 obtain ⟨l, now, e, es, hT⟩ := rows 0 (by omega) [] ⟨src.Wide, src.High, strOfNums (List.replicate (src.Wide * src.High).toNat 128)⟩ (by rw [Nat.mul_zero]; exact .zero)
 refine ⟨l, now, ?_, ?_, hT⟩
 ·
  unfold Xlp
  have hl7 : (sel c.Key (some false) (bnd (Xda ref) fun q8 => sel q8 (sel (ref.Wide != src.Wide) (some true) (some (ref.High != src.High))) (some true))) = some false := by
   cases hK : c.Key with
   | true => rfl
   | false =>
    obtain ⟨a1, a2, a3⟩ := H.hk hK
    rw [Xaw, Xdl, Xad, a1, a2, a3, Xay, bne_self_eq_false, Xaw, bne_self_eq_false]
  rw [Xdl, Xad, H.ok, Xay, Xyw, Xad, H.hw, Xay, Xyw, Xad, H.hh, Xay, Xhv, Xad, H.hc, Xay, Xaq, Xad, decide_eq_true H.hr, Bool.not_true, Xad, Xaw, hl7, Xad, Xaw, Ywf _ _ k1 k2, Xad]
  have e' : loop (Xfc src ref c r) (0, [], src.Wide, src.High, strOfNums (List.replicate (src.Wide * src.High).toNat 128)) = some (.out (l, now.Wide, now.High, now.Dots)) := e
  rw [e', Xad]
 ·
  unfold Xl1
  have hl7 : (sel c.Key (some false) (bnd (Xg2 src ref) fun q7 => some (!q7))) = some false := by
   cases hK : c.Key with
   | true => rfl
   | false =>
    obtain ⟨a1, a2, a3⟩ := H.hk hK
    rw [Xaw, Xxe, Xad, Yzu H.ok a1 a2 a3]; rfl
  rw [Xei, Xad, H.ok, Xay, Xxc, Xad, H.hw, Xay, Xxc, Xad, H.hh, Xay, Xf0, Xad, H.hc, Xay, Xaj, Xad, decide_eq_true H.hr, Xay, hl7, Xad, Xaw, Yxm _ _ k1 k2, Xad]
  have e' : loop (Xfg src ref c r) (0, [], src.Wide, src.High, strOfNums (List.replicate (src.Wide * src.High).toNat 128)) = some (l, now.Wide, now.High, now.Dots) := es
  rw [e', Xad]
theorem Yi2 (r : Rate) (n : Int) : Xm1 r n = some (Xuj r n) := by
 unfold Xm1 Xuj
 rw [Xsn, Xad]
 by_cases h : Xj4 r = true
 ·
  rw [if_pos h, Xbh (by rw [h]; rfl)]
  have h' := (Xly r).1 h
  have hb := Xeq (n := n) (a := 0) (b := 400000) (by omega)
  simp only [Xdv, Xad]
  rw [wkA (e := r.Debt + Xbl n 0 400000), wkA (e := r.Debt + Xbl n 0 400000 - r.Target), wkA (e := -8 * r.Target), wkA (e := 8 * r.Target)]
  have hd := Xeq (n := r.Debt + Xbl n 0 400000 - r.Target) (a := -8 * r.Target) (b := 8 * r.Target) (by omega)
  have ed : Xbl (r.Debt + Xbl n 0 400000 - r.Target) (-8 * r.Target) (8 * r.Target) = Xeg r n := rfl
  rw [ed]
  have hd' : -8 * r.Target ≤ Xeg r n ∧ Xeg r n ≤ 8 * r.Target := hd
  rw [wkA (e := r.Qp + 1), wkA (e := 0 - r.Target)]
  by_cases h1 : Xeg r n > r.Target
  ·
   rw [if_pos h1, Xbf h1, Xad, snA, Xad]
  ·
   rw [if_neg h1, Xav h1, Xad]
   by_cases h2 : Xeg r n < -r.Target
   ·
    rw [if_pos h2, syA, wkA (e := r.Qp - 1), Xad]
   ·
    rw [if_neg h2, snA, Xad]
 ·
  rw [if_neg h, Xbt (by simpa using h)]
theorem Yu1 (r : Rate) (key : Bool) : Xtq r key = some (Yai r key) := by
 unfold Xtq Yai
 rw [Xsn, Xad]
 by_cases h : Xj4 r = true
 ·
  rw [if_pos h, Xbh (by rw [h]; rfl)]
  have h' := (Xly r).1 h
  cases key with
  | true => rw [Xay, wkA, Xdv, Xad, if_pos rfl]
  | false => rfl
 ·
  rw [if_neg h, Xbt (by simpa using h)]
theorem Yz5 (r : Rate) (key : Bool) : 0 ≤ Yai r key ∧ Yai r key ≤ 40 := by
 unfold Yai
 split
 ·
  rename_i h
  have h' := (Xly r).1 h
  split
  ·
   exact Xeq (by omega)
  ·
   omega
 ·
  omega
theorem Ylt {q : Seq} {p : Par} {h : Yxv} (hh : Xv0 q p h = true) (h1 : q.Cols.length ≤ maxLen) (h2 : q.Rows.length ≤ maxLen) : Xo0 q p h = some (strOfNums (Yx8 q p h), true) := by
 obtain ⟨hs, hp, ht, hf, hq⟩ := Xv1 hh
 obtain ⟨_, _, b1, b2⟩ := Xbi hs
 obtain ⟨_, _, _, w4, _⟩ := Xp8 q.Bits ⟨b1, b2⟩
 have hr := Xnn hs
 have pq := Xxw hp
 have hfs := Yli w4 hf.2
 have hf0 := hf.1
 unfold Xo0
 have fl := Xce q.Bits.toNat h.Frame
 have u := Xc7 h.Tile.toNat (by omega)
 have z := Xpp (h.Qp - p.Qp) (by omega)
 rw [Ypy _ _ _ h1 h2, Xad, hh, Bool.not_true, Xaw, wkA (e := h.Qp - p.Qp), Xp0 _ (by omega), Xad, show h.Tile = ((h.Tile.toNat : Nat) : Int) by omega, Xgj _ (by omega), Xad, show q.Bits = ((q.Bits.toNat : Nat) : Int) by omega, Xp2 h.Frame _ hf0 (by omega) (by omega), Xad, Xax (by simp only [strOfNums_size]; omega), Xa3, Xax (by simp only [strOfNums_size, List.length_append]; omega), Xa3]
 rfl
theorem Zgp {b : Int} (h : 3 ≤ b ∧ b ≤ 8) : (Lit.int .i64 b).wf = true := by
 rcases (show b = 3 ∨ b = 4 ∨ b = 5 ∨ b = 6 ∨ b = 7 ∨ b = 8 by omega) with rfl | rfl | rfl | rfl | rfl | rfl <;> decide
def Xbn (s : Xbc) (want : Bool) : Bool := Xbz s && (want || (!s.Has || decide (s.Since ≥ s.Every)))
theorem Yp0 (s : Xbc) (w : Bool) (h1 : s.Seq.Cols.length ≤ maxLen) (h2 : s.Seq.Rows.length ≤ maxLen) : Xqj s w = some (Xbn s w) := by
 unfold Xqj Xbn
 rw [Xpi s h1 h2, Xad]
 cases Xbz s with
 | false => rfl
 | true => cases w <;> cases s.Has <;> rfl
theorem Yq5 (s : Xbc) (w : Bool) (hb : (Lit.int .i64 s.Seq.Bits).wf = true) : Xq2 s w = some (Xbn s w) := by
 unfold Xq2 Xbn
 rw [Xk3 s hb, Xad]
 cases Xbz s with
 | false => rfl
 | true => cases w <;> cases s.Has <;> rfl
theorem Xhd {s : Xbc} (h : Xbz s = true) : Xcc s.Seq = 1 ∧ Xgo s.Seq = true ∧ Xnp s.Par = true ∧ Xj4 s.Rate = true ∧ (0 ≤ s.Frame ∧ s.Frame < 2 ^ s.Seq.Bits.toNat) ∧ (1 ≤ s.Every ∧ s.Every ≤ 1000) ∧ (0 ≤ s.Since ∧ s.Since ≤ 1000) ∧ (0 ≤ s.Reach ∧ s.Reach ≤ 4) ∧ (s.Has = true → Xvw s.Ref s.Seq = true) ∧ (s.Has = false → s.Ref.Wide = 0 ∧ s.Ref.High = 0 ∧ s.Ref.Dots.size = 0) := by
 unfold Xbz at h
 simp only [Bool.and_eq_true, decide_eq_true_eq] at h
 obtain ⟨⟨⟨⟨⟨a, b⟩, c⟩, d⟩, e⟩, f⟩ := h
 refine ⟨a, Xxj a, b, c, d, e.1, e.2.1, e.2.2, ?_, ?_⟩
 ·
  intro hh
  rw [if_pos hh] at f
  exact f
 ·
  intro hh
  rw [if_neg (by rw [hh]; decide)] at f
  exact of_decide_eq_true f
theorem Yyz {s : Xbc} (a : Xcc s.Seq = 1) (b : Xnp s.Par = true) (c : Xj4 s.Rate = true) (d : 0 ≤ s.Frame ∧ s.Frame < 2 ^ s.Seq.Bits.toNat) (e1 : 1 ≤ s.Every ∧ s.Every ≤ 1000) (e2 : 0 ≤ s.Since ∧ s.Since ≤ 1000) (e3 : 0 ≤ s.Reach ∧ s.Reach ≤ 4) (f : s.Has = true) (g : Xvw s.Ref s.Seq = true) : Xbz s = true := by
 unfold Xbz
 rw [decide_eq_true a, b, c, decide_eq_true d, decide_eq_true ⟨e1, e2, e3⟩, if_pos f, g]
 rfl
theorem Yz3 {q : Seq} (h : Xcc q = 1) : ∃ c r : Int, q.Cols = [c] ∧ q.Rows = [r] ∧ (1 ≤ c ∧ c ≤ 8) ∧ (1 ≤ r ∧ r ≤ 8) ∧ Xld q = (8 * c, 8 * r) := by
 have hs := Xxj h
 obtain ⟨s1, s2, _⟩ := Xbi hs
 have l1 := Xbo s1
 have l2 := Xbo s2
 have ht : Xcc q = (q.Cols.length : Int) * q.Rows.length := by unfold Xcc; rw [if_pos hs]
 have hn : q.Cols.length * q.Rows.length = 1 := by
  have : ((q.Cols.length * q.Rows.length : Nat) : Int) = 1 := by rw [Int.natCast_mul, ← ht, h]
  omega
 have n1 := Nat.eq_one_of_mul_eq_one_right hn
 have n2 := Nat.eq_one_of_mul_eq_one_left hn
 obtain ⟨c, ec⟩ := List.length_eq_one_iff.1 n1
 obtain ⟨r, er⟩ := List.length_eq_one_iff.1 n2
 obtain ⟨e, _⟩ := Zhh hs
 unfold Xd9 at s1 s2
 rw [Bool.and_eq_true] at s1 s2
 have a1 := List.all_eq_true.1 s1.2 c (by rw [ec]; simp)
 have a2 := List.all_eq_true.1 s2.2 r (by rw [er]; simp)
 unfold Xek at a1 a2
 rw [decide_eq_true_eq] at a1 a2
 refine ⟨c, r, ec, er, a1, a2, ?_⟩
 rw [e, ec, er]
 simp [Xqw]
theorem Zae {c : Int} (h : 1 ≤ c ∧ c ≤ 8) : Xwk (8 * c) = true := by
 unfold Xwk
 rw [Bool.and_eq_true, decide_eq_true_eq, decide_eq_true_eq, Xb1 (by omega)]
 omega
def Xps (s : Xbc) (key : Bool) : Xf7 := ⟨key, Yai s.Rate key, s.Par.Large, s.Par.Exact⟩
def Yg8 (s : Xbc) (key : Bool) (l : List Xau) : List Int := Yx8 s.Seq s.Par ⟨0, s.Frame, Yai s.Rate key⟩ ++ Xnr l (Xps s key)
def Xut (s : Xbc) (key : Bool) (l : List Xau) : List ByteArray := (if key = true then [Xsu 7 (Xu8 s.Seq), Xsu 8 (Xy1 s.Par)] else []) ++ [Xsu (if key = true then 5 else 1) (Yg8 s key l)]
def Xpt (s : Xbc) (key : Bool) (l : List Xau) (now : Pic) : Xbc := ⟨s.Seq, s.Par, Xuj s.Rate ((Yg8 s key l).length : Int), (s.Frame + 1) % 2 ^ s.Seq.Bits.toNat, (if key = true then 1 else s.Since + 1), s.Every, s.Reach, true, now⟩
theorem Zaf {s : Xbc} (hs : Xbz s = true) (key : Bool) : Xj9 (Xps s key) = true := by
 obtain ⟨_, _, hp, _⟩ := Xhd hs
 unfold Xnp at hp
 rw [Bool.and_eq_true] at hp
 unfold Xj9 Xps
 rw [Bool.and_eq_true]
 exact ⟨decide_eq_true (Yz5 _ _), hp.2⟩
theorem Zgg {s : Xbc} {pic : Pic} {want : Bool} (hs : Xbz s = true) (hp : Xvw pic s.Seq = true) : Zef pic s.Ref (Xps s (Xbn s want)) s.Reach := by
 obtain ⟨t1, so, po, ro, hf, he, hsi, hre, hh, hn⟩ := Xhd hs
 obtain ⟨c, r, ec, er, hc, hr, esz⟩ := Yz3 t1
 obtain ⟨p1, p2, p3⟩ := Yba hp
 rw [esz] at p2 p3
 refine ⟨p1, by rw [p2]; exact Zae hc, by rw [p3]; exact Zae hr, Zaf hs _, hre, ?_⟩
 intro hk
 have hk : Xbn s want = false := hk
 unfold Xbn at hk
 rw [hs, Bool.true_and] at hk
 have hH : s.Has = true := by
  cases hx : s.Has with
  | true => rfl
  | false => rw [hx] at hk; simp at hk
 obtain ⟨q1, q2, q3⟩ := Yba (hh hH)
 rw [esz] at q2 q3
 exact ⟨q1, by rw [q2, p2], by rw [q3, p3]⟩
theorem Zag {s : Xbc} (hs : Xbz s = true) (key : Bool) : Xv0 s.Seq s.Par ⟨0, s.Frame, Yai s.Rate key⟩ = true := by
 obtain ⟨t1, so, po, _, hf, _⟩ := Xhd hs
 unfold Xv0
 simp only [Bool.and_eq_true, decide_eq_true_eq]
 exact ⟨so, po, ⟨Int.le_refl _, by omega⟩, hf, Yz5 _ _⟩
structure Zh0 (s : Xbc) (pic : Pic) (key : Bool) (l : List Xau) (now : Pic) : Prop where
 til : Xpe pic s.Ref (Xps s key) s.Reach ((pic.Wide / 8).toNat * (pic.High / 8).toNat) l now
 fit : Xvw now s.Seq = true
 sq : Yu6 l (Xps s key) = true
 lv : ∀ q ∈ l, q.Levels.length ≤ 64
 len : 1 ≤ l.length ∧ l.length ≤ 64
 cnt : Xk4 s.Seq 0 = some (l.length : Int)
theorem Zhg {s : Xbc} {pic : Pic} {want : Bool} {l : List Xau} {now : Pic} (hs : Xbz s = true) (hp : Xvw pic s.Seq = true) (h : Xpe pic s.Ref (Xps s (Xbn s want)) s.Reach ((pic.Wide / 8).toNat * (pic.High / 8).toNat) l now) : Zh0 s pic (Xbn s want) l now := by
 have hm : maxLen = 9223372036854775807 := rfl
 have H := Zgg (want := want) hs hp
 obtain ⟨t1, so, _⟩ := Xhd hs
 obtain ⟨c, r, ec, er, hc, hr, esz⟩ := Yz3 t1
 obtain ⟨p1, p2, p3⟩ := Yba hp
 obtain ⟨ok, w, hh, hl, hall⟩ := h.pic H
 obtain ⟨n1, n2, n3⟩ := Zbx H.hw H.hh
 have hcc := Zaf hs (Xbn s want)
 obtain ⟨x, y, hx, hy, lx, ly, eT, _⟩ := Yk3 so (by rw [ec]; simp; omega) (by rw [er]; simp; omega) 0 ⟨Int.le_refl _, by omega⟩
 rw [ec] at hx lx eT
 rw [er] at ly eT
 have x0 : x = 0 := by simp at lx; exact lx
 have y0 : y = 0 := by simp at ly; exact ly
 subst x0 y0
 have eT' : Xk4 s.Seq 0 = some (c * r) := eT
 have e1 : pic.Wide = 8 * c := by rw [p2, esz]
 have e2 : pic.High = 8 * r := by rw [p3, esz]
 have mb : c * r ≤ 8 * 8 := Int.mul_le_mul hc.2 hr.2 (by omega) (by omega)
 have m0 : 1 * 1 ≤ c * r := Int.mul_le_mul hc.1 hr.1 (by omega) (by omega)
 have hlen : (l.length : Int) = c * r := by
  rw [hl, e1, e2, Int.natCast_mul, show 8 * c / 8 = c by omega, show 8 * r / 8 = r by omega, show ((c.toNat : Nat) : Int) = c by omega, show ((r.toNat : Nat) : Int) = r by omega]
 refine ⟨h, Zcl ok (by rw [w, p2]) (by rw [hh, p3]), ?_, fun q hq => (hall q hq).2.2, by omega, by rw [eT', hlen]⟩
 refine List.all_eq_true.2 fun q hq => ?_
 obtain ⟨a, b, _⟩ := hall q hq
 rw [a, b, hcc]; rfl
theorem Yy3 {s : Xbc} {pic : Pic} {key : Bool} {l : List Xau} {now : Pic} (hs : Xbz s = true) (h : Zh0 s pic key l now) : (Yg8 s key l).length ≤ 400000 ∧ Xjh (Yg8 s key l) ∧ (Yx8 s.Seq s.Par ⟨0, s.Frame, Yai s.Rate key⟩).length ≤ 200 ∧ (Xnr l (Xps s key)).length ≤ 336960 := by
 have a := Zct (Zag hs key)
 have b := Ysw h.sq
 have c := h.len.2
 refine ⟨?_, Xa5 (Zcs _ _ _) (Ysv _ _), a, by omega⟩
 unfold Yg8
 rw [List.length_append]
 omega
theorem Ypp {s : Xbc} {pic : Pic} {want : Bool} (hs : Xbz s = true) (hp : Xvw pic s.Seq = true) (hk : Xbn s want = true ∨ s.Since < 1000) : ∃ l now, Zh0 s pic (Xbn s want) l now ∧ Xij s pic want = some (Xpt s (Xbn s want) l now, Xut s (Xbn s want) l, true) ∧ Xi2 s pic want = some (Xpt s (Xbn s want) l now, Xut s (Xbn s want) l, true) := by
 have hm : maxLen = 9223372036854775807 := rfl
 have H := Zgg (want := want) hs hp
 obtain ⟨t1, so, po, ro, hf, he, hsi, hre, hh, hn⟩ := Xhd hs
 obtain ⟨s1, s2, b1, b2⟩ := Xbi so
 have c1 := Xbo s1
 have c2 := Xbo s2
 obtain ⟨z1, z2, z3, z4, z5⟩ := Xp8 s.Seq.Bits ⟨b1, b2⟩
 obtain ⟨p1, p2, p3⟩ := Yba hp
 obtain ⟨l, now, e1, e2, hT⟩ := Yxy H
 have S := Zhg hs hp hT
 refine ⟨l, now, S, ?_⟩
 obtain ⟨r1, r2, r3, r4⟩ := Yy3 hs S
 have hfs := Yli z4 hf.2
 have hf0 := hf.1
 have hd := Zag hs (Xbn s want)
 have hwf := Zgp ⟨b1, b2⟩
 have hss : Xod s = [Xsu 7 (Xu8 s.Seq), Xsu 8 (Xy1 s.Par)] := by unfold Xod; rw [if_pos hs]; rfl
 have htr : Yva l (Xps s (Xbn s want)) = (strOfNums (Xnr l (Xps s (Xbn s want))), true) := by
  unfold Yva
  rw [if_pos (by rw [decide_eq_true S.len, S.sq]; rfl)]
 have hcut : (sel (Xbn s want) (some false) (some (decide (s.Since ≥ 1000)))) = some false := by
  cases hx : Xbn s want with
  | true => rfl
  | false =>
   rw [Xaw, decide_eq_false]
   rcases hk with hk | hk
   ·
    rw [hx] at hk; cases hk
   ·
    omega
 have hsq : ∀ q ∈ l, Xye q = true := fun q hq => by
  have := List.all_eq_true.1 S.sq q hq
  simp only [Bool.and_eq_true] at this
  exact this.1
 have hcp : Xe1 s = some s := by
  unfold Xe1
  rw [(Yzf s.Seq (by omega) (by omega)).2, Xad]
 unfold Yg8 at r1 r2
 have hkk : ∀ k : Int, k = 5 ∨ k = 1 → Xrw k = true := fun k h => by rcases h with rfl | rfl <;> rfl
 constructor
 ·
  unfold Xij
  rw [Xpi s (by omega) (by omega), Xad, hs, Xay, Ygv _ _ (by omega) (by omega), Xad, hp, Xad, Bool.not_true, Xaw, Yp0 s want (by omega) (by omega), Xad, hcut, Xad, Xaw, Ytr, Xad]
  have e1' : Xlp pic s.Ref ⟨Xbn s want, Yai s.Rate (Xbn s want), s.Par.Large, s.Par.Exact⟩ s.Reach = some (l, now, true) := e1
  have htr' : Xlq l ⟨Xbn s want, Yai s.Rate (Xbn s want), s.Par.Large, s.Par.Exact⟩ = some (strOfNums (Xnr l (Xps s (Xbn s want))), true) := (Ymk l _ (fun q hq => by have := S.lv q hq; omega)).trans (congrArg some htr)
  rw [e1', Xad]
  simp only
  rw [Ylt hd (by omega) (by omega), Xad]
  simp only
  rw [htr', Xad, hcp, Xad, Xrs s (by omega) (by omega), Xad, hss, wkA (e := s.Since + 1)]
  have e13 : (sel (Xbn s want) (some ((5 : Int), (1 : Int), [Xsu 7 (Xu8 s.Seq), Xsu 8 (Xy1 s.Par)])) (some (1, s.Since + 1, ([] : List ByteArray)))) = some ((if Xbn s want = true then 5 else 1), (if Xbn s want = true then 1 else s.Since + 1), (if Xbn s want = true then [Xsu 7 (Xu8 s.Seq), Xsu 8 (Xy1 s.Par)] else [])) := by
   cases Xbn s want <;> rfl
  rw [e13, Xad]
  simp only
  rw [Xax (by simp only [strOfNums_size]; omega), Xa3, Xsb _ _ (hkk _ (by cases Xbn s want <;> simp)) r2 r1, Xad, Yht, Xad]
  simp only
  rw [z3, rqA, Xax (Zdc z5), Xax (by
   simp only [List.length_singleton]
   split <;> simp <;> omega), wkA (e := s.Frame + 1), Xb1 (by omega), wk (by simp only [strOfNums_size]; omega) (by simp only [strOfNums_size]; omega)]
  unfold Xpt Xut Yg8
  rw [strOfNums_size, strOfNums_size, List.length_append, Int.natCast_add]
  rfl
 ·
  unfold Xi2
  rw [Xsp, Xad, Yq5 s want hwf, Xad, Xk3 s hwf, Xad, hs, Xay, Xei, Xad, p1, Xay, Xbh (by rw [bne_eq_false_iff_eq]; exact p2), Xbh (by rw [bne_eq_false_iff_eq]; exact p3), hcut, Xad, Xaw, Yu1, Xad]
  have e2' : Xl1 pic s.Ref ⟨Xbn s want, Yai s.Rate (Xbn s want), s.Par.Large, s.Par.Exact⟩ s.Reach = some (l, now, true) := e2
  have htr' : Xok l ⟨Xbn s want, Yai s.Rate (Xbn s want), s.Par.Large, s.Par.Exact⟩ = some (strOfNums (Xnr l (Xps s (Xbn s want)))) := Ysa l _ hsq S.len.2
  rw [e2', Xad]
  simp only
  rw [Ynz hd, Xad]
  simp only
  rw [htr', Xad, Xax (by simp only [strOfNums_size]; omega), Ydn s hwf, Xad, hss]
  have e13 : (sel (Xbn s want) (some ((5 : Int), [Xsu 7 (Xu8 s.Seq), Xsu 8 (Xy1 s.Par)])) (some (1, ([] : List ByteArray)))) = some ((if Xbn s want = true then 5 else 1), (if Xbn s want = true then [Xsu 7 (Xu8 s.Seq), Xsu 8 (Xy1 s.Par)] else [])) := by
   cases Xbn s want <;> rfl
  have e16 : (sel (Xbn s want) (some (1 : Int)) (some (s.Since + 1))) = some (if Xbn s want = true then 1 else s.Since + 1) := by
   cases Xbn s want <;> rfl
  rw [e13, Xad]
  simp only
  rw [Xa3, Xsr _ _ (hkk _ (by cases Xbn s want <;> simp)) r2 r1, Xad]
  simp only
  rw [Xax (by
   simp only [List.length_singleton]
   split <;> simp <;> omega), (Yzf s.Seq (by omega) (by omega)).1, Xad, Yi2, Xad, z2, Xax z1, Xax (Zdc z5), wkA (e := s.Since + 1), e16, Xad, wkA (e := s.Frame + 1), Xb1 (by omega)]
  unfold Xpt Xut Yg8
  rw [strOfNums_size]
  rfl
theorem Yfp (b : List Int) (hb : b.length ≤ 1048576) : ∃ s pics wants, Xhz b = some (s, pics, wants) ∧ Xbz s = true ∧ s.Seq.Bits = 3 ∧ s.Has = false ∧ s.Frame = 0 ∧ s.Since = 0 ∧ s.Every ≤ 5 ∧ (∀ p ∈ pics, Xvw p s.Seq = true) ∧ wants.length = pics.length ∧ 2 ≤ pics.length ∧ pics.length ≤ 5 := by
 have hm : maxLen = 9223372036854775807 := rfl
 unfold Xhz
 obtain ⟨c, e, hc⟩ := Yrq b hb
 obtain ⟨x1, c1, e1, a1, b1, _, h1⟩ := Xa7 c 2 hc
 obtain ⟨x2, c2, e2, a2, b2, _, h2⟩ := Xa7 c1 2 h1
 obtain ⟨p, c4, e4, hp, h4⟩ := Yaz c2 h2
 obtain ⟨t, c5, e5, ht, h5⟩ := Ykk c4 h4
 obtain ⟨x6, c6, e6, a6, b6, _, h6⟩ := Xa7 c5 5 h5
 obtain ⟨x7, c7, e7, a7, b7, _, h7⟩ := Xa7 c6 3 h6
 have b1' := b1 (by omega)
 have b2' := b2 (by omega)
 have b6' := b6 (by omega)
 have b7' := b7 (by omega)
 rw [e, Xad, e1, Xad]
 simp only
 rw [e2, Xad]
 simp only
 rw [e4, Xad]
 simp only
 rw [e5, Xad]
 simp only
 rw [e6, Xad]
 simp only
 rw [e7, Xad]
 simp only
 have sok := Ycp (1 + x1) (1 + x2) 3 p t (1 + x6) x7 (by omega) (by omega) (by omega) hp ht (by omega) (by omega)
 rw [wkA (e := 1 + x1), wkA (e := 1 + x2), wkA (e := 1 + x6), Yf1 (1 + x1) (1 + x2) 3 p t (1 + x6) x7 (by omega) (by omega) (by omega) hp ht (by omega) (by omega), Xad]
 have hsz := (Zc6 (1 + x1) (1 + x2) 3 (by omega) (by omega) (by omega)).2
 have hsz' : Xld (Xqd (1 + x1) (1 + x2) 3 p t (1 + x6) x7).Seq = (8 * (1 + x1), 8 * (1 + x2)) := hsz
 simp only
 rw [Xsp, Xad, hsz']
 simp only
 obtain ⟨pic, c8, e8, pw, ph, pok, h8⟩ := Xvg c7 (8 * (1 + x1)) (8 * (1 + x2)) h7 (by omega) (by omega)
 rw [e8, Xad]
 simp only
 obtain ⟨o, eo, r1, r2, r3, r4⟩ := Xr1 (f := Xjx (8 * (1 + x1), 8 * (1 + x2)))
  (fun (i, b, j, h, w, hh, dd, pics, wants) => (0 ≤ i ∧ i ≤ 5) ∧ Xqf ⟨b, j, h⟩ ∧ Xdg ⟨w, hh, dd⟩ = true ∧ w = 8 * (1 + x1) ∧ hh = 8 * (1 + x2) ∧ (pics.length : Int) = i ∧ (wants.length : Int) = i ∧ ∀ q ∈ pics, Xdg q = true ∧ q.Wide = 8 * (1 + x1) ∧ q.High = 8 * (1 + x2))
  (fun v => (5 - v.1).toNat)
  (fun _ (pics, wants) => (∀ q ∈ pics, Xdg q = true ∧ q.Wide = 8 * (1 + x1) ∧ q.High = 8 * (1 + x2)) ∧ wants.length = pics.length ∧ 2 ≤ pics.length ∧ pics.length ≤ 5) (by
  intro ⟨i, b, j, h, w, hh, dd, pics, wants⟩ ⟨i1, i2, i3, i4, i5, i6, i7, i8⟩
  unfold Xjx
  simp only
  obtain ⟨x, k1, f1, y0, y1, _, q1⟩ := Xa7 _ 4 i2
  have y1' := y1 (by omega)
  rw [f1, Xad]
  simp only
  rw [wkA (e := 2 + x)]
  by_cases hi : i < 2 + x
  ·
   obtain ⟨z, k2, f2, q2⟩ := Xm5 k1 4 q1
   obtain ⟨p2, k3, f4, p3, p4, p5, q3⟩ := Ype k2 (⟨w, hh, dd⟩ : Pic) q2 i3
   obtain ⟨z2, k4, f5, q4⟩ := Xm5 k3 4 q3
   have hall : ∀ q ∈ pics ++ [(⟨w, hh, dd⟩ : Pic)], Xdg q = true ∧ q.Wide = 8 * (1 + x1) ∧ q.High = 8 * (1 + x2) := fun q hq => by
    rcases List.mem_append.1 hq with hq | hq
    ·
     exact i8 q hq
    ·
     rw [List.mem_singleton.1 hq]; exact ⟨i3, i4, i5⟩
   rw [Xbf hi, Xax (by simp only [List.length_singleton]; omega), f2, Xad]
   simp only
   rw [Xax (by simp only [List.length_singleton]; omega), f4, Xad, f5, Xad]
   simp only at p3 p4 ⊢
   cases z2 with
   | true =>
    obtain ⟨p6, k5, f6, w6, h6', ok6, q5⟩ := Xvg k4 (8 * (1 + x1)) (8 * (1 + x2)) q4 (by omega) (by omega)
    rw [Xay, f6, Xad, Xad, wkA (e := i + 1)]
    refine .inr ⟨_, rfl, ⟨by simp only; omega, q5, ok6, w6, h6', ?_, ?_, hall⟩, by simp only; omega, fun _ h => h⟩
    ·
     simp only [List.length_append, List.length_singleton]; omega
    ·
     simp only [List.length_append, List.length_singleton]; omega
   | false =>
    rw [Xaw, Xad, wkA (e := i + 1)]
    refine .inr ⟨_, rfl, ⟨by simp only; omega, q4, p5, by simp only; omega, by simp only; omega, ?_, ?_, hall⟩, by simp only; omega, fun _ h => h⟩
    ·
     simp only [List.length_append, List.length_singleton]; omega
    ·
     simp only [List.length_append, List.length_singleton]; omega
  ·
   rw [Xav hi]
   exact .inl ⟨_, rfl, i8, by simp only; omega, by simp only; omega, by simp only; omega⟩) (0, c8.b_, c8.i_, c8.h_, pic.Wide, pic.High, pic.Dots, [], []) ⟨⟨Int.le_refl _, by omega⟩, h8, pok, pw, ph, rfl, rfl, fun q hq => by simp at hq⟩
 obtain ⟨pics, wants⟩ := o
 rw [eo, Xad]
 simp only at r1 r2 r3 r4
 refine ⟨_, pics, wants, rfl, sok, rfl, rfl, rfl, rfl, by show 1 + x6 ≤ 5; omega, ?_, r2, r3, r4⟩
 intro q hq
 obtain ⟨g1, g2, g3⟩ := r1 q hq
 exact Zcl g1 (by rw [hsz']; exact g2) (by rw [hsz']; exact g3)
theorem Yy2 {s : Xbc} {pic : Pic} {key : Bool} {l : List Xau} {now : Pic} (hs : Xbz s = true) (h : Zh0 s pic key l now) (hk : key = true ∨ s.Since < 1000) : Xbz (Xpt s key l now) = true := by
 obtain ⟨t1, so, po, ro, hf, he, hsi, hre, hh, hn⟩ := Xhd hs
 obtain ⟨_, _, b1, b2⟩ := Xbi so
 obtain ⟨z1, z2, z3, z4, z5⟩ := Xp8 s.Seq.Bits ⟨b1, b2⟩
 have m0 := Int.emod_nonneg (s.Frame + 1) (Zdc z5)
 have m1 := Int.emod_lt_of_pos (s.Frame + 1) (Zik z5)
 refine Yyz (s := Xpt s key l now) t1 po (Yyq _ _ ro) ⟨m0, m1⟩ he ?_ hre rfl h.fit
 unfold Xpt
 simp only
 cases key with
 | true => rw [if_pos rfl]; omega
 | false =>
  rcases hk with hk | hk
  ·
   cases hk
  ·
   rw [if_neg (by decide)]; omega
theorem Yu8 (s : Xbc) (key : Bool) (l : List Xau) : (Xut s key l).length = if key = true then 3 else 1 := by
 unfold Xut
 cases key <;> rfl
structure Run (q : Seq) (p : Par) (k : Nat) (s : Xbc) : Prop where
 ok : Xbz s = true
 bits : s.Seq.Bits = 3
 eS : s.Seq = q
 eP : s.Par = p
 has : k = 0 → s.Has = false
 low : 1 ≤ k → 1 ≤ s.Since ∧ s.Has = true
 high : s.Since ≤ k
theorem Run.next {q : Seq} {p : Par} {k : Nat} {s : Xbc} (R : Run q p k s) (hk : k ≤ 100) {pic : Pic} {want : Bool} {l : List Xau} {now : Pic} (h : Zh0 s pic (Xbn s want) l now) : Run q p (k + 1) (Xpt s (Xbn s want) l now) := by
 have a := Xhd R.ok
 have hs := R.high
 refine ⟨Yy2 R.ok h (.inr (by omega)), R.bits, R.eS, R.eP, fun h => by omega, fun _ => ⟨?_, rfl⟩, ?_⟩
 ·
  show 1 ≤ (if Xbn s want = true then (1 : Int) else s.Since + 1)
  split
  ·
   omega
  ·
   have := a.2.2.2.2.2.2.1; omega
 ·
  show (if Xbn s want = true then (1 : Int) else s.Since + 1) ≤ ((k + 1 : Nat) : Int)
  split <;> omega
theorem Yae (l : List ByteArray) (hl : l.length ≤ 1000000000) : Xkj l l = some true := by
 unfold Xkj
 rw [bne_self_eq_false, Xaw, Xtl l.length (f := Xgk l l) (by
  intro i hi
  unfold Xgk
  rw [syA, rqA, rqA]
  simp only [beq_self_eq_true, Bool.not_true]
  rw [Xaw, wkA]
  rfl) (by unfold Xgk; rw [snA]), Xad]
theorem Xx6 (s : Xbc) (h1 : s.Seq.Cols.length ≤ 1048576) (h2 : s.Seq.Rows.length ≤ 1048576) : Xio s s = some true := by
 unfold Xio
 simp only [beq_self_eq_true, Bool.and_self, Xay, Xth s.Seq h1 h2, Xad]
def Zje (i : Int) (s t : Xbc) : (Int × Int × Int × Int × Bool × Bool × Bool × Int × Int × Int × Int × Int × Int × Int × Bool × Int × Int × ByteArray × Int × Int × Int × Bool × Bool × Bool × Int × Int × Int × Int × Int × Int × Int × Bool × Int × Int × ByteArray × (List Int) × (List Int) × (List Int) × (List Int)) :=
 (i, s.Seq.Level, s.Seq.Bits, s.Par.Qp, s.Par.Large, s.Par.Exact, s.Par.Confined, s.Rate.Qp, s.Rate.Target, s.Rate.Debt, s.Frame, s.Since, s.Every, s.Reach, s.Has, s.Ref.Wide, s.Ref.High, s.Ref.Dots, t.Seq.Level, t.Seq.Bits, t.Par.Qp, t.Par.Large, t.Par.Exact, t.Par.Confined, t.Rate.Qp, t.Rate.Target, t.Rate.Debt, t.Frame, t.Since, t.Every, t.Reach, t.Has, t.Ref.Wide, t.Ref.High, t.Ref.Dots, s.Seq.Cols, s.Seq.Rows, t.Seq.Cols, t.Seq.Rows)
def Zim (s : Xbc) : (Int × Int × Int × Bool × Bool × Bool × Int × Int × Int × Int × Int × Int × Int × Bool × Int × Int × ByteArray × (List Int) × (List Int)) :=
 (s.Seq.Level, s.Seq.Bits, s.Par.Qp, s.Par.Large, s.Par.Exact, s.Par.Confined, s.Rate.Qp, s.Rate.Target, s.Rate.Debt, s.Frame, s.Since, s.Every, s.Reach, s.Has, s.Ref.Wide, s.Ref.High, s.Ref.Dots, s.Seq.Cols, s.Seq.Rows)
theorem Ynr {q2 : Xbc × List Pic × List Bool} {q : Seq} {p : Par} (hp : ∀ x ∈ q2.2.1, Xvw x q = true) (hw : q2.2.2.length = q2.2.1.length) (h5 : q2.2.1.length ≤ 5) : ∀ n k : Nat, k + n = q2.2.1.length → ∀ (s : Xbc), Run q p k s → ∃ t, loop (Xhj q2) (Zje (k : Int) s s) = some (.out (Zim t)) ∧ Xbz t = true
 | 0, k, hk, s, R => by
  refine ⟨s, Xd8 ?_, R.ok⟩
  unfold Xhj Zje
  simp only
  rw [snA]
  rfl
 | n + 1, k, hk, s, R => by
  have hm : maxLen = 9223372036854775807 := rfl
  have a := Xhd R.ok
  obtain ⟨s1, s2, b1, b2⟩ := Xbi a.2.1
  have l1 := Xbo s1
  have l2 := Xbo s2
  have hlt : k < q2.2.1.length := by omega
  have hfit : Xvw (q2.2.1.getD k Zes) s.Seq = true := by rw [R.eS]; exact hp _ (by rw [Xcd _ k hlt]; exact List.getElem_mem _)
  have hsn := R.high
  generalize hpic : q2.2.1.getD k Zes = pic at hfit
  generalize hwant : q2.2.2.getD k Zer = want
  obtain ⟨l, now, S, e1, e2⟩ := Ypp (want := want) R.ok hfit (.inr (by omega))
  have R' := R.next (by omega) S
  have hul := Yu8 s (Xbn s want) l
  have hul3 : (Xut s (Xbn s want) l).length ≤ 3 := by rw [hul]; split <;> omega
  obtain ⟨t, ih, ht⟩ := Ynr hp hw h5 n (k + 1) (by omega) (Xpt s (Xbn s want) l now) R'
  refine ⟨t, lgo (y := Zje ((k + 1 : Nat) : Int) (Xpt s (Xbn s want) l now) (Xpt s (Xbn s want) l now)) ?_ ih, ht⟩
  have es : (⟨(⟨s.Seq.Level, s.Seq.Bits, s.Seq.Cols, s.Seq.Rows⟩ : Seq), (⟨s.Par.Qp, s.Par.Large, s.Par.Exact, s.Par.Confined⟩ : Par), (⟨s.Rate.Qp, s.Rate.Target, s.Rate.Debt⟩ : Rate), s.Frame, s.Since, s.Every, s.Reach, s.Has, (⟨s.Ref.Wide, s.Ref.High, s.Ref.Dots⟩ : Pic)⟩ : Xbc) = s := rfl
  unfold Xhj Zje
  simp only [Int.toNat_natCast]
  rw [syA, rqA, rqA, rqA, rqA, es, hwant, hpic, show (⟨pic.Wide, pic.High, pic.Dots⟩ : Pic) = pic from rfl, e1, Xad]
  simp only
  rw [rqA, rqA, rqA, rqA, e2, Xad]
  simp only
  rw [Xay, Xx6 (Xpt s (Xbn s want) l now) (show s.Seq.Cols.length ≤ 1048576 by omega) (show s.Seq.Rows.length ≤ 1048576 by omega), Xad, Xay, Yae _ (by omega), Xad, Bool.not_true, Xad, Xaw, wkA]
  rfl
theorem FnSource {p0 : List Int} (h0 : p0.length ≤ maxLen ∧ ∀ y ∈ p0, (Lit.int .u8 y).wf = true) : Xp4 p0 = some true := by
 have hm : maxLen = 9223372036854775807 := rfl
 unfold Xp4
 rw [Yyh, Xad]
 by_cases hbig : (p0.length : Int) > 1048576
 ·
  rw [Xbf hbig]
 rw [Xav hbig]
 obtain ⟨s, pics, wants, e, ok, hb, hh, hf, hsi, hev, hp, hw, h2, h5⟩ := Yfp p0 (by omega)
 rw [e, Xad, Xad]
 have R : Run s.Seq s.Par 0 s := ⟨ok, hb, rfl, rfl, fun _ => hh, fun h => by omega, by omega⟩
 obtain ⟨t, h, ht⟩ := Ynr (q2 := (s, pics, wants)) (q := s.Seq) (p := s.Par) hp hw h5 pics.length 0 (by simp) s R
 refine (Xh6 h).trans ?_
 obtain ⟨t1, so, po, _⟩ := Xhd ht
 obtain ⟨s1, s2, _⟩ := Xbi so
 have l1 := Xbo s1
 have l2 := Xbo s2
 have es : Xey t = some [Xsu 7 (Xu8 t.Seq), Xsu 8 (Xy1 t.Par)] := by
  rw [Xrs t (by omega) (by omega)]
  unfold Xod
  rw [if_pos ht]; rfl
 have et : (⟨(⟨t.Seq.Level, t.Seq.Bits, t.Seq.Cols, t.Seq.Rows⟩ : Seq), (⟨t.Par.Qp, t.Par.Large, t.Par.Exact, t.Par.Confined⟩ : Par), (⟨t.Rate.Qp, t.Rate.Target, t.Rate.Debt⟩ : Rate), t.Frame, t.Since, t.Every, t.Reach, t.Has, (⟨t.Ref.Wide, t.Ref.High, t.Ref.Dots⟩ : Pic)⟩ : Xbc) = t := rfl
 unfold Zim
 simp only
 rw [et, es, Xad]
 have g0 : ([Xsu 7 (Xu8 t.Seq), Xsu 8 (Xy1 t.Par)] : List ByteArray).getD 0 Xns = strOfNums (7 :: Xtz (Xu8 t.Seq)) := rfl
 have g1 : ([Xsu 7 (Xu8 t.Seq), Xsu 8 (Xy1 t.Par)] : List ByteArray).getD 1 Xns = strOfNums (8 :: Xtz (Xy1 t.Par)) := rfl
 have u7 := (Yk4 (k := 7) rfl (Xu8 t.Seq) (Yc3 t.Seq) (Yfk so)).1
 have u8 := (Yk4 (k := 8) rfl (Xy1 t.Par) (Ycr t.Par) (by rw [Ycs]; omega)).1
 have hlen : ([Xsu 7 (Xu8 t.Seq), Xsu 8 (Xy1 t.Par)] : List ByteArray).length = 2 := rfl
 simp only [show (0 : Int).toNat = 0 from rfl, show (1 : Int).toNat = 1 from rfl, g0, g1, hlen]
 rw [show (((2 : Nat) : Int) != 2) = false from rfl, Xaw, rqA, rqA, u7, Xad]
 simp only
 rw [(Yvm so).1, Xad, rqA, rqA, u8, Xad]
 simp only
 rw [(Yvk po).1, Xad]
 simp only
 rw [Xay, Xay, Xay, Xay, show (⟨t.Seq.Level, t.Seq.Bits, t.Seq.Cols, t.Seq.Rows⟩ : Seq) = t.Seq from rfl, Xth _ (by omega) (by omega), Xad, Xay]
 simp only [beq_self_eq_true, Bool.and_self, Xad]
end Go.Proofs.YtnhflbeahbcklaaGreat.A.Pure
