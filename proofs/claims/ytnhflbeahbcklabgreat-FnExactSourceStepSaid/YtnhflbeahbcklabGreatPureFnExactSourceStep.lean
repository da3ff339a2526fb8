/- The pure statement of the law FnExactSourceStep, part 2: over numbers, texts and lists alone, what the law computes is true. Conditions: the sizes of what a machine holds. -/
import Derived.Test.YtnhflbeahbcklabGreatPureFnExactSourceStepx0
namespace Go.Proofs.YtnhflbeahbcklabGreat.A.Pure
open Go Go.Proofs Go.Proofs.YtnhflbeahbcklabGreatAL Go.RowKit
set_option linter.unusedVariables false
set_option linter.unusedSimpArgs false
set_option maxHeartbeats 1000000
theorem Xu7 {p : Pic} (ok : Xdq p = true) {x y : Int} (hx : x.tmod 8 = 0) (hy : y.tmod 8 = 0) (h : Xdm p x y = true) : ∃ e, Xfa p x y = some (e, true) ∧ Xug e := by
 have hm : maxLen = 9223372036854775807 := rfl
 obtain ⟨k1, k2, k3⟩ := Xbj ok
 have h' := h
 unfold Xdm at h'
 rw [decide_eq_true_eq] at h'
 unfold Xfa
 rw [Xha ok hx hy h, Xad, Bool.not_true, Xay]
 obtain ⟨o, e, o1, o2, o3, o4, o5, o6⟩ := Xdz (f := Xei p x y) 8 (fun i s => (y > 0 → s.1.length = i) ∧ (¬ y > 0 → s.1.length = 0) ∧ (x > 0 → s.2.length = i) ∧ (¬ x > 0 → s.2.length = 0) ∧ (∀ z ∈ s.1, 0 ≤ z ∧ z ≤ 255) ∧ (∀ z ∈ s.2, 0 ≤ z ∧ z ≤ 255)) (by
  intro i s hi ⟨g1, g2, g3, g4, g5, g6⟩
  obtain ⟨a, b⟩ := s
  simp only at g1 g2 g3 g4 g5 g6
  have d1 := Xst p (x + i) (y - 1)
  have d2 := Xst p (x - 1) (y + i)
  have st1 : ∃ a', (sel (decide (y > 0)) (bnd (Xga p (Xaa .i64 (x + (i : Int))) (Xaa .i64 (y - 1))) fun q16 => req ((a.length + ([q16]).length) * 8 ≤ 140737488355328 ∧ a.length + ([q16]).length ≤ maxLen) <| some (a ++ ([q16]))) (some a)) = some a' ∧ (y > 0 → a'.length = i + 1) ∧ (¬ y > 0 → a'.length = 0) ∧ (∀ z ∈ a', 0 ≤ z ∧ z ≤ 255) := by
   by_cases c : y > 0
   ·
    rw [Xbo c, wkA (e := x + (i : Int)), wkA (e := y - 1), Xlu ok, Xad, Xaz (by simp only [List.length_singleton]; have := g1 c; omega)]
    refine ⟨_, rfl, fun _ => by simp; exact g1 c, fun hn => absurd c hn, fun z hz => ?_⟩
    rcases List.mem_append.1 hz with hz | hz
    ·
     exact g5 z hz
    ·
     rw [List.mem_singleton.1 hz]; exact d1
   ·
    rw [Xav c]
    exact ⟨_, rfl, fun hn => absurd hn c, fun _ => g2 c, g5⟩
  obtain ⟨a', ea, a1, a2, a3⟩ := st1
  have st2 : ∃ b', (sel (decide (x > 0)) (bnd (Xga p (Xaa .i64 (x - 1)) (Xaa .i64 (y + (i : Int)))) fun q17 => req ((b.length + ([q17]).length) * 8 ≤ 140737488355328 ∧ b.length + ([q17]).length ≤ maxLen) <| some (a', (b ++ ([q17])))) (some (a', b))) = some (a', b') ∧ (x > 0 → b'.length = i + 1) ∧ (¬ x > 0 → b'.length = 0) ∧ (∀ z ∈ b', 0 ≤ z ∧ z ≤ 255) := by
   by_cases c : x > 0
   ·
    rw [Xbo c, wkA (e := y + (i : Int)), wkA (e := x - 1), Xlu ok, Xad, Xaz (by simp only [List.length_singleton]; have := g3 c; omega)]
    refine ⟨_, rfl, fun _ => by simp; exact g3 c, fun hn => absurd c hn, fun z hz => ?_⟩
    rcases List.mem_append.1 hz with hz | hz
    ·
     exact g6 z hz
    ·
     rw [List.mem_singleton.1 hz]; exact d2
   ·
    rw [Xav c]
    exact ⟨_, rfl, fun hn => absurd hn c, fun _ => g4 c, g6⟩
  obtain ⟨b', eb, b1, b2, b3⟩ := st2
  unfold Xei
  simp only
  rw [syA, ea, Xad, eb, Xad, wkA (e := (i : Int) + 1)]
  exact ⟨(a', b'), rfl, a1, a2, b1, b2, a3, b3⟩) (by intro s; unfold Xei; rw [Xav (by simp)]) ([], []) ⟨fun _ => rfl, fun _ => rfl, fun _ => rfl, fun _ => rfl, fun z hz => by simp at hz, fun z hz => by simp at hz⟩
 rw [e, Xad, Xdb, Xad]
 have d3 := Xst p (x - 1) (y - 1)
 have ha : o.1.length = 0 ∨ o.1.length = 8 := by
  by_cases c : y > 0
  ·
   exact Or.inr (o1 c)
  ·
   exact Or.inl (o2 c)
 have hb : o.2.length = 0 ∨ o.2.length = 8 := by
  by_cases c : x > 0
  ·
   exact Or.inr (o3 c)
  ·
   exact Or.inl (o4 c)
 cases hc : (decide (x > 0) && decide (y > 0)) with
 | true =>
  rw [Xa0, wkA (e := x - 1), wkA (e := y - 1), Xlu ok, Xad, Xad]
  exact ⟨_, rfl, ha, hb, o5, o6, by simp only; omega, by simp only; omega⟩
 | false =>
  rw [Xay, Xad]
  exact ⟨_, rfl, ha, hb, o5, o6, by simp only; omega, by simp only; omega⟩
theorem Xt7 (l : List Int) (hl : l.length = 0 ∨ l.length = 8) (h : ∀ x ∈ l, 0 ≤ x ∧ x ≤ 255) : Xk5 l = some true := by
 unfold Xk5
 have hc : (sel ((l.length : Int) != 0) (some ((l.length : Int) != 8)) (some false)) = some false := by
  rcases hl with e | e
  ·
   rw [e]; rfl
  ·
   rw [e]; rfl
 rw [hc, Xad, Xay, Xsd l.length (f := Xij l) (by
  intro i hi
  have := h (l.getD i 0) (by rw [Xd8 l i hi]; exact List.getElem_mem _)
  unfold Xij
  rw [syA, rqA, Xaj, Xad, Int.toNat_natCast, decide_eq_true this, Bool.not_true, Xay, wkA]
  rfl) (by unfold Xij; rw [snA]), Xad]
theorem Xj7 {e : Xim} (h : Xug e) : Xkz e = some true := by
 obtain ⟨h1, h2, h3, h4, h5, h6⟩ := h
 unfold Xkz
 rw [Xt7 _ h1 h3, Xad, Xa0, Xt7 _ h2 h4, Xad, Xa0, Xaj, Xad, decide_eq_true ⟨h5, h6⟩, Xad]
theorem Xsn (l : List Int) (k : Nat) (hk : k < 8) (hl : l.length = 0 ∨ l.length = 8) (h : ∀ x ∈ l, 0 ≤ x ∧ x ≤ 255) : ∃ x, Xc8 l k = some x ∧ 0 ≤ x ∧ x ≤ 255 := by
 unfold Xc8
 rcases hl with e | e
 ·
  rw [Xbk (by rw [e]; rfl)]; exact ⟨_, rfl, by omega, by omega⟩
 ·
  rw [Xba (by rw [e]; rfl), rqA, Int.toNat_natCast]
  exact ⟨_, rfl, h _ (by rw [Xd8 l k (by omega)]; exact List.getElem_mem _)⟩
theorem Xx0 {e : Xim} (h : Xug e) : ∃ x, Xkl e = some x ∧ 0 ≤ x ∧ x ≤ 255 := by
 obtain ⟨h1, h2, h3, h4, _, _⟩ := h
 unfold Xkl
 rw [wkA (e := (e.Above.length : Int) + (e.Left.length : Int))]
 by_cases hz : (e.Above.length : Int) + (e.Left.length : Int) = 0
 ·
  rw [Xbk (by simpa using hz)]; exact ⟨_, rfl, by omega, by omega⟩
 ·
  rw [Xba (by simpa using hz), rqA, Xbp (by omega), wkA (e := ((e.Above.length : Int) + (e.Left.length : Int)) / 2)]
  obtain ⟨a, ea, a1, a2⟩ := Xqi (f := Xhj e) e.Above.length (fun i s => 0 ≤ s ∧ s ≤ ((e.Above.length : Int) + (e.Left.length : Int)) / 2 + 255 * i) (by
   intro i s hi ⟨g1, g2⟩
   have := h3 (e.Above.getD i 0) (by rw [Xd8 _ i hi]; exact List.getElem_mem _)
   unfold Xhj
   simp only [Int.toNat_natCast]
   rw [syA, rqA, wkA (e := s + e.Above.getD i 0), wkA (e := (i : Int) + 1)]
   exact ⟨_, rfl, by omega, by omega⟩) (by intro s; unfold Xhj; rw [Xav (by simp)]) (((e.Above.length : Int) + (e.Left.length : Int)) / 2) ⟨by omega, by omega⟩
  obtain ⟨b, eb, b1, b2⟩ := Xqi (f := Xhk e) e.Left.length (fun i s => 0 ≤ s ∧ s ≤ ((e.Above.length : Int) + (e.Left.length : Int)) / 2 + 255 * e.Above.length + 255 * i) (by
   intro i s hi ⟨g1, g2⟩
   have := h4 (e.Left.getD i 0) (by rw [Xd8 _ i hi]; exact List.getElem_mem _)
   unfold Xhk
   simp only [Int.toNat_natCast]
   rw [syA, rqA, wkA (e := s + e.Left.getD i 0), wkA (e := (i : Int) + 1)]
   exact ⟨_, rfl, by omega, by omega⟩) (by intro s; unfold Xhk; rw [Xav (by simp)]) a ⟨by omega, by omega⟩
  rw [ea, Xad, eb, Xad, Xaz hz, Xbp b1]
  have hn : (e.Above.length : Int) + (e.Left.length : Int) = 8 ∨ (e.Above.length : Int) + (e.Left.length : Int) = 16 := by omega
  have hr : 0 ≤ b / ((e.Above.length : Int) + (e.Left.length : Int)) ∧ b / ((e.Above.length : Int) + (e.Left.length : Int)) ≤ 255 := by
   rcases hn with hn | hn <;> rw [hn] <;> omega
  rw [wkA]
  exact ⟨_, rfl, hr⟩
theorem Xlw (m : Int) (hm0 : 0 ≤ m ∧ m ≤ 3) {e : Xim} (h : Xug e) : ∃ g, Xde m e = some g ∧ Xbq g = true := by
 have hm : maxLen = 9223372036854775807 := rfl
 have h' := h
 obtain ⟨h1, h2, h3, h4, h5, h6⟩ := h'
 obtain ⟨mid, em, m1, m2⟩ := Xx0 h
 unfold Xde
 rw [Xj7 h, Xad, Xa0, Xaj, Xad, decide_eq_true hm0, Bool.not_true, Xad, Xay]
 have hc : ∃ v, sel (decide (e.Corner < 0)) (some (128 : Int)) (some e.Corner) = some v ∧ 0 ≤ v ∧ v ≤ 255 := by
  by_cases c : e.Corner < 0
  ·
   rw [Xbo c]; exact ⟨_, rfl, by omega, by omega⟩
  ·
   rw [Xav c]; exact ⟨_, rfl, by omega, by omega⟩
 obtain ⟨v, ev, v1, v2⟩ := hc
 rw [ev, Xad]
 obtain ⟨o, eo, o1, o2⟩ := Xdz (f := Xdf m e v) 64 (fun i s => s.length = i ∧ ∀ x ∈ s, 0 ≤ x ∧ x ≤ 255) (by
  intro i s hi ⟨g1, g2⟩
  obtain ⟨a, ea, a1, a2⟩ := Xsn e.Above (i % 8) (by omega) h1 h3
  obtain ⟨b, eb, b1, b2⟩ := Xsn e.Left (i / 8) (by omega) h2 h4
  have br := Xfv (n := b + a - v) (a := 0) (b := 255) (by omega)
  have put : ∀ z : Int, 0 ≤ z ∧ z ≤ 255 → (s ++ [z]).length = i + 1 ∧ ∀ x ∈ s ++ [z], 0 ≤ x ∧ x ≤ 255 := by
   intro z hz
   refine ⟨by simp; omega, fun x hx => ?_⟩
   rcases List.mem_append.1 hx with hx | hx
   ·
    exact g2 x hx
   ·
    rw [List.mem_singleton.1 hx]; exact hz
  unfold Xdf
  simp only
  rw [syA, rqA, Xb3 (by omega), show (i : Int) % 8 = ((i % 8 : Nat) : Int) by omega, ea, Xad, rqA, Xbp (by omega), wkA (e := (i : Int) / 8), show (i : Int) / 8 = ((i / 8 : Nat) : Int) by omega, eb, Xad, wkA (e := (i : Int) + 1), em]
  cases (m == 0) with
  | true =>
   rw [Xa0, Xad, Xaz (by simp only [List.length_singleton]; omega), Xad]
   exact ⟨_, rfl, put _ ⟨m1, m2⟩⟩
  | false =>
   rw [Xay]
   cases (m == 1) with
   | true =>
    rw [Xa0, Xaz (by simp only [List.length_singleton]; omega), Xad]
    exact ⟨_, rfl, put _ ⟨a1, a2⟩⟩
   | false =>
    rw [Xay]
    cases (m == 2) with
    | true =>
     rw [Xa0, Xaz (by simp only [List.length_singleton]; omega), Xad]
     exact ⟨_, rfl, put _ ⟨b1, b2⟩⟩
    | false =>
     rw [Xay, wkA (e := b + a), wkA (e := b + a - v), Xdd, Xad, Xaz (by simp only [List.length_singleton]; omega), Xad]
     exact ⟨_, rfl, put _ br⟩) (by intro s; unfold Xdf; rw [Xav (by simp)]) [] ⟨rfl, fun x hx => by simp at hx⟩
 exact ⟨o, (Xip eo).trans rfl, Yug o1 o2⟩
theorem Yxn {l : List Int} (h : Xbq l = true) : l.length = 64 ∧ inB 1000 l := by
 simp only [Xbq, Bool.and_eq_true, decide_eq_true_eq] at h
 refine ⟨h.1, fun x hx => ?_⟩
 have := List.all_eq_true.1 h.2 x hx
 simp only [Ywf, decide_eq_true_eq] at this
 omega
theorem Xtb {a b : List Int} (ha : Xbq a = true) (hb : Xbq b = true) : Xo3 a b = some (Xo7 a b 64) := by
 have la := Yxn ha
 have lb := Yxn hb
 unfold Xo3
 rw [Xcl a 64 1000 (by omega) (by omega) (by omega) la.2, Xad, Xa0, Xcl b 64 1000 (by omega) (by omega) (by omega) lb.2, Xad, Bool.not_true, Xad, Xay]
 have key : ∀ i : Nat, i ≤ 64 → loop (Xlv a b) (Xo7 a b i, (i : Int)) = some (Xo7 a b 64) := by
  refine Xkb _ ?_ ?_
  ·
   exact Xf7 (by unfold Xlv; rw [Xav (by simp)])
  ·
   intro i hi ih
   refine lgo (y := (Xo7 a b (i + 1), ((i + 1 : Nat) : Int))) ?_ ih
   have p := (Xbm ha).2 i hi
   have q := (Xbm hb).2 i hi
   have g := Xkm ha hb i (by omega)
   have ab : 0 ≤ Ye8 (a.getD i 0 - b.getD i 0) ∧ Ye8 (a.getD i 0 - b.getD i 0) ≤ 255 := by unfold Ye8; split <;> omega
   unfold Xlv
   simp only [Int.toNat_natCast]
   rw [syA, rqA, rqA, wkA (e := a.getD i 0 - b.getD i 0), Xog _ (by omega), Xad, wkA (e := Xo7 a b i + Ye8 (a.getD i 0 - b.getD i 0)), wkA (e := (i : Int) + 1)]
   rfl
 exact (Xip (key 0 (by omega))).trans rfl
theorem Yp4 (m : Int) (h : 0 ≤ m ∧ m ≤ 3) : ∃ s, Xid m = some s ∧ 0 ≤ s ∧ s ≤ 39 := by
 have := Xcv m.toNat (by omega)
 unfold Xid Xsi
 rw [Xaj, Xad, decide_eq_true (by omega), Bool.not_true, Xay, show m = ((m.toNat : Nat) : Int) by omega, Xck _ (by omega), Xad, Xad]
 refine ⟨_, rfl, ?_⟩
 rw [strOfNums_size]; omega
theorem Yd8 {w : List Int} (hw : Xbq w = true) {e : Xim} (h : Xug e) : ∃ m c, Xfk w e = some (m, c) ∧ 0 ≤ m ∧ m ≤ 3 := by
 unfold Xfk
 rw [Xj7 h, Xad, Xa0, Xg9 w hw, Xad, Bool.not_true, Xad, Xay]
 obtain ⟨o, eo, o1, o2⟩ := Yit (f := Xc2 w e) (fun v => (0 ≤ v.1 ∧ v.1 ≤ 3) ∧ 0 ≤ v.2.2 ∧ v.2.2 ≤ 4) (fun v => (4 - v.2.2).toNat) (fun _ o => 0 ≤ o.1 ∧ o.1 ≤ 3) (by
  intro ⟨m, c, i⟩ ⟨g1, g2, g3⟩
  simp only at g1 g2 g3
  unfold Xc2
  simp only
  by_cases hi : i < 4
  ·
   obtain ⟨g, eg, hg⟩ := Xlw i ⟨g2, by omega⟩ h
   obtain ⟨s, es, s1, s2⟩ := Yp4 i ⟨g2, by omega⟩
   rw [Xbo hi, eg, Xad, Xtb hw hg, Xad, es, Xad, Ybj, Xad, wkA (e := i + 1)]
   cases (decide (c < 0) || decide (Xaa IntKind.i64 (Xo7 w g 64 + s) < c)) with
   | true => exact .inr ⟨_, rfl, ⟨by simp only; omega, by simp only; omega, by simp only; omega⟩, by simp only; omega, fun _ h => h⟩
   | false => exact .inr ⟨_, rfl, ⟨by simp only; omega, by simp only; omega, by simp only; omega⟩, by simp only; omega, fun _ h => h⟩
  ·
   rw [Xav hi]
   exact .inl ⟨_, rfl, g1⟩) (0, -1, 0) ⟨by simp, by simp, by simp⟩
 exact ⟨o.1, o.2, (Xip eo).trans rfl, o1, o2⟩
theorem Xxt (d : Int) (h : -500000 ≤ d ∧ d ≤ 500000) : Xm6 d = some (Yz3 d) := by
 unfold Xm6 Xwk Yz3
 rw [Xaj, Xad, decide_eq_true h, Bool.not_true, Xay, Xl2 d h, Xad, Xad, strOfNums_size]
theorem Yzu {m : Int} {l : List Int} (hm : 0 ≤ m ∧ m ≤ 3) (hl : Yiu l = true) : Xww ⟨2, m, 0, 0, l⟩ = true := by
 unfold Xww
 simp only
 rw [if_neg (by omega), if_neg (by omega), if_pos trivial, hl, decide_eq_true hm]
 rfl
theorem Zbm {dx dy : Int} {l : List Int} (hx : -16 ≤ dx ∧ dx ≤ 16) (hy : -16 ≤ dy ∧ dy ≤ 16) (hl : Yiu l = true) : Xww ⟨1, 0, dx, dy, l⟩ = true := by
 unfold Xww
 simp only
 rw [if_neg (by omega), if_pos trivial, hl, decide_eq_true hx, decide_eq_true hy]
 rfl
def Zcr (p q : Pic) : Bool := Xdq p && (Xdq q && ((p.Wide == q.Wide) && (p.High == q.High)))
theorem Xvy (p q : Pic) : Xgm p q = some (Zcr p q) := by
 unfold Xgm Zcr
 rw [Xci, Xad, Xci, Xad]
 simp only [Xdb, Xad]
theorem Yxy {p q : Pic} (h1 : Xdq p = true) (h2 : Xdq q = true) (h3 : q.Wide = p.Wide) (h4 : q.High = p.High) : Zcr p q = true := by
 unfold Zcr
 simp only [Bool.and_eq_true, beq_iff_eq]
 exact ⟨h1, h2, h3.symm, h4.symm⟩
theorem Xx3 {p : Pic} {x y : Int} {d : List Int} (ok : Xdq p = true) (h0 : Xdm p x y = true) (hd : Xbq d = true) : ∃ p', Xen p x y d = some p' ∧ Xdq p' = true ∧ p'.Wide = p.Wide ∧ p'.High = p.High := by
 have hm : maxLen = 9223372036854775807 := rfl
 obtain ⟨k1, k2, k3⟩ := Xbj ok
 have ar := Xio k1 k2
 unfold Xdm at h0
 rw [decide_eq_true_eq] at h0
 have hdl := (Xbm hd).1
 have hn := Xdw p.Dots
 unfold Xen
 rw [rqA]
 obtain ⟨o, e, o1⟩ := Xdz (f := Xcc p x y d) 64 (fun _ s => s.length = p.Dots.size) (by
  intro i s hi g1
  have b1 : 0 ≤ (y + (i : Int) / 8) * p.Wide := Int.mul_nonneg (by omega) (by omega)
  have b2 : (y + (i : Int) / 8) * p.Wide ≤ (p.High - 1) * p.Wide := Int.mul_le_mul_of_nonneg_right (by omega) (by omega)
  have b3 : (p.High - 1) * p.Wide = p.Wide * p.High - p.Wide := by rw [Int.sub_mul, Int.one_mul, Int.mul_comm]
  unfold Xcc
  simp only
  rw [syA, rqA, rqA, rqA, Xbp (by omega), Xb3 (by omega), wkA (e := (i : Int) / 8), wkA (e := y + (i : Int) / 8), wkA (e := (y + (i : Int) / 8) * p.Wide), wkA (e := (y + (i : Int) / 8) * p.Wide + x), wkA (e := (y + (i : Int) / 8) * p.Wide + x + (i : Int) % 8), rqA, rqA, wkA (e := (i : Int) + 1)]
  exact ⟨_, rfl, by rw [List.length_set]; exact g1⟩) (by intro s; unfold Xcc; rw [Xav (by simp)]) (Xa8 p.Dots) hn
 refine ⟨_, (Xip e).trans rfl, Ys5 k1 k2 ?_, rfl, rfl⟩
 simp only
 rw [strOfNums_size]; omega
def Xu5 (n : Int) : Bool := decide (n.tmod 8 = 0) && decide (8 ≤ n ∧ n ≤ 64)
theorem Xvw (n : Int) : Xk6 n = some (Xu5 n) := by
 unfold Xk6 Xu5
 rw [rqA, Xaj, Xad, Xdb, Xad, Yrn]
theorem Yqq (l : List Xau) (c : Xfs) (hs : ∀ s ∈ l, Xww s = true) (hl : l.length ≤ 64) : Xna l c = some (strOfNums (Xmf l c)) := by
 have hm : maxLen = 9223372036854775807 := rfl
 have kr : ∀ (r a : List Xau) (t : List Int), l = a ++ r → t.length ≤ 5265 * a.length → loop (Xjw l c) ((a.length : Int), t) = some (t ++ Xmf r c) := by
  intro r
  induction r with
  | nil =>
   intro a t ha _
   rw [List.append_nil] at ha
   exact Xf7 (by unfold Xjw; simp only; rw [Xav (by rw [ha]; omega), Xmf, List.append_nil])
  | cons s r ih =>
   intro a t ha ht
   have hlen : a.length < l.length := by rw [ha]; simp
   have hx : l.getD a.length Xmg = s := by rw [ha]; exact Xgo a s _ r
   have hok : Xww s = true := hs s (by rw [ha]; simp)
   have g := Yw7 (c := c) hok
   have hn := ih (a ++ [s]) (t ++ sqL s c) (by rw [ha]; simp) (by simp only [List.length_append, List.length_singleton]; omega)
   rw [List.length_append, List.length_singleton] at hn
   rw [Xmf, ← List.append_assoc, ← hn]
   refine Xdp ?_
   unfold Xjw
   simp only [Int.toNat_natCast, hx]
   rw [syA, rqA, show (⟨s.Kind, s.Mode, s.Dx, s.Dy, s.Levels⟩ : Xau) = s from rfl, Yqn s c hok, Xad, Xni _ (Xfu (Yw6 _ _)), rqA, wkA]
   rfl
 unfold Xna
 exact Xip (kr l [] [] rfl (by simp))
theorem Ysl {V O : Type} {f g : V → Option (Lp V O)} (I : V → Prop) (h : ∀ v, I v → f v = g v) (hI : ∀ v v', I v → g v = some (.go v') → I v') : ∀ (k : Nat) (v : V), I v → it f k v = it g k v
 | 0, _, _ => rfl
 | k + 1, v, hv => by
  rw [it, it, h v hv]
  cases e : g v with
  | none => rfl
  | some s =>
   cases s with
   | go y => exact Ysl I h hI k y (hI v y hv e)
   | done o => rfl
theorem Xm1 {V O : Type} {f g : V → Option (Lp V O)} (I : V → Prop) (h : ∀ v, I v → f v = g v) (hI : ∀ v v', I v → g v = some (.go v') → I v') {v : V} (hv : I v) : loop f v = loop g v := by
 apply Option.ext
 intro o
 rw [Xi9, Xi9]
 exact ⟨fun ⟨k, hk⟩ => ⟨k, by rw [← Ysl I h hI k v hv]; exact hk⟩, fun ⟨k, hk⟩ => ⟨k, by rw [Ysl I h hI k v hv]; exact hk⟩⟩
theorem Ywt {V O : Type} {f : V → Option (Lp V O)} {v : V} {o : O} (k : Nat) (h : it f k v = some o) : loop f v = some o := Xi9.2 ⟨k, h⟩
theorem Yd0 {a b : List Int} {n : Nat} (ha : a.length = n) (hb : b.length = n) (h : ∀ i : Nat, i < n → a.getD i 0 = b.getD i 0) : a = b := by
 apply List.ext_getElem (by omega)
 intro i h1 h2
 have := h i (by omega)
 rwa [Xd8 a i h1, Xd8 b i h2] at this
theorem Xjy {n : Nat} (g : Nat → Int) {i : Nat} (h : i < n) : ((List.range n).map g).getD i 0 = g i := by
 rw [Xd8 _ i (by simpa using h)]; simp
theorem Zcc {α : Type} {f : Int × List α → Option (Lp (Int × List α) (List α))} (n : Nat) (g : Nat → α) (a : List α) (hs : ∀ i : Nat, i < n → f ((i : Int), a ++ (List.range i).map g) = some (.go (((i + 1 : Nat) : Int), a ++ (List.range i).map g ++ [g i]))) (he : f ((n : Int), a ++ (List.range n).map g) = some (.done (a ++ (List.range n).map g))) : loop f (0, a) = some (a ++ (List.range n).map g) := by
 have key : ∀ i : Nat, i ≤ n → loop f ((i : Int), a ++ (List.range i).map g) = some (a ++ (List.range n).map g) := by
  refine Xkb _ (Xf7 he) ?_
  intro i hi ih
  refine lgo (hs i hi) ?_
  rw [List.append_assoc, show (List.range i).map g ++ [g i] = (List.range (i + 1)).map g by simp [List.range_succ]]
  exact ih
 have := key 0 (by omega)
 simpa using this
theorem Xno {S : Type} {f : Int × S → Option (Lp (Int × S) S)} (n : Nat) (I : Nat → S → Prop) (hs : ∀ (i : Nat) (l : S), i < n → I i l → ∃ l', f ((i : Int), l) = some (.go (((i + 1 : Nat) : Int), l')) ∧ I (i + 1) l') (he : ∀ l, I n l → f ((n : Int), l) = some (.done l)) (l0 : S) (h0 : I 0 l0) : ∃ o, loop f (0, l0) = some o ∧ I n o := by
 have key : ∀ i : Nat, i ≤ n → ∀ l, I i l → ∃ o, loop f ((i : Int), l) = some o ∧ I n o := by
  refine Xkb _ ?_ ?_
  ·
   intro l h; exact ⟨l, Xf7 (he l h), h⟩
  ·
   intro i hi ih l h
   obtain ⟨l', e, h'⟩ := hs i l hi h
   obtain ⟨o, e2, h2⟩ := ih l' h'
   exact ⟨o, lgo e e2, h2⟩
 exact key 0 (by omega) l0 h0
theorem Yzi {f : Int × List Int → Option (Lp (Int × List Int) (List Int))} (n : Nat) (g : Nat → Int) (l : List Int) (hl : l.length = n) (hs : ∀ (i : Nat) (s : List Int), i < n → s.length = n → s.getD i 0 = l.getD i 0 → f ((i : Int), s) = some (.go (((i + 1 : Nat) : Int), s.set i (g i)))) (he : ∀ s : List Int, s.length = n → f ((n : Int), s) = some (.done s)) : loop f (0, l) = some ((List.range n).map g) := by
 obtain ⟨o, e, h1, h2, _⟩ := Xno (f := f) n (fun i s => s.length = n ∧ (∀ j, j < i → s.getD j 0 = g j) ∧ ∀ j, i ≤ j → s.getD j 0 = l.getD j 0) (by
  intro i s hi ⟨g1, g2, g3⟩
  refine ⟨_, hs i s hi g1 (g3 i (Nat.le_refl _)), by rw [List.length_set]; exact g1, fun j hj => ?_, fun j hj => ?_⟩
  ·
   rw [Xfe s i j _ (by omega)]
   by_cases h : i = j
   ·
    rw [if_pos h, h]
   ·
    rw [if_neg h]; exact g2 j (by omega)
  ·
   rw [Xfe s i j _ (by omega), if_neg (by omega)]; exact g3 j (by omega)) (fun s hs => he s hs.1) l ⟨hl, fun j hj => by omega, fun _ _ => rfl⟩
 rw [e]
 congr 1
 exact Yd0 h1 (by simp) fun i hi => by rw [h2 i hi, Xjy g hi]
theorem Ywi : Xo0 = Xcq := rfl
theorem Yp0 (qp : Int) (h0 : 0 ≤ qp ∧ qp ≤ 40) : Xgz qp = some (Xqd qp) := by
 have h := Zbn ⟨qp.toNat, by omega⟩
 simp only at h
 rw [show ((qp.toNat : Nat) : Int) = qp by omega] at h
 unfold Xgz
 rw [Xaj, Xad, decide_eq_true (by omega), Bool.not_true, Xay, rqA]
 have hb : (sel ((qp.tmod 6) == 0) (some (10 : Int)) (sel ((qp.tmod 6) == 1) (some 11) (sel ((qp.tmod 6) == 2) (some 13) (sel ((qp.tmod 6) == 3) (some 14) (sel ((qp.tmod 6) == 4) (some 16) (some 18)))))) = some (Xtd qp) := by
  unfold Xtd
  simp only [Yls, beq_iff_eq]
  repeat' split
  all_goals rfl
 rw [hb, Xad]
 unfold Xqd at h ⊢
 cases e : it (Xjt qp) 10 (Xtd qp, 0) with
 | none => rw [e] at h; simp only at h; omega
 | some q => rw [Xi9.2 ⟨10, e⟩, Xad]
theorem Ysh : ∀ q : Fin 41, Xke (q.val : Int) = some (Xqd (q.val : Int)) := by decide +kernel
theorem Yog (qp : Int) (h0 : 0 ≤ qp ∧ qp ≤ 40) : Xke qp = some (Xqd qp) := by
 have := Ysh ⟨qp.toNat, by omega⟩
 simp only at this
 rwa [show ((qp.toNat : Nat) : Int) = qp by omega] at this
theorem Ye7 (qp : Int) (h0 : 0 ≤ qp ∧ qp ≤ 40) : Xke qp = Xgz qp := by rw [Yog qp h0, Yp0 qp h0]
theorem Xxv (u v : Nat) (hu : u < 8) (hv : v < 8) : Xia u v = some (Xjo u v) := by
 have h := Zbi ⟨u, hu⟩ ⟨v, hv⟩
 simp only at h
 unfold Xia
 rw [Xaj, Xad, decide_eq_true (by omega), Xa0, Xaj, Xad, decide_eq_true (by omega), Bool.not_true, Xad, Xay]
 unfold Xjo at h ⊢
 cases e : it Xjq 10 (1, (IntKind.wrap .i64 (BitVec.ofInt (IntKind.bits .i64) (u : Int) &&& BitVec.ofInt (IntKind.bits .i64) (v : Int)).toNat)) with
 | none => rw [e] at h; simp only at h; omega
 | some q => rw [Xi9.2 ⟨10, e⟩, Xad]
theorem Ysc : ∀ u v : Fin 8, Xmn (u.val : Int) (v.val : Int) = some (Xjo (u.val : Int) (v.val : Int)) := by decide +kernel
theorem Ye6 (u v : Nat) (hu : u < 8) (hv : v < 8) : Xmn u v = some (Xjo u v) := Ysc ⟨u, hu⟩ ⟨v, hv⟩
def Ytc (qp p : Int) : Option Int :=
 bnd (Xkg p) fun q1 => bnd (Xa9 q1 10 16 13) fun a1 => bnd (Xa9 q1 11 18 14) fun a2 => bnd (Xa9 q1 13 20 16) fun a3 => bnd (Xa9 q1 14 23 18) fun a4 => bnd (Xa9 q1 16 25 20) fun a5 => bnd (Xa9 q1 18 29 23) fun a6 =>
 it (Xek qp) 10 ((sel (qp.tmod 6 == 0) a1 (sel (qp.tmod 6 == 1) a2 (sel (qp.tmod 6 == 2) a3 (sel (qp.tmod 6 == 3) a4 (sel (qp.tmod 6 == 4) a5 (sel (qp.tmod 6 == 5) a6 0)))))), 0)
theorem Zbe : ∀ q : Fin 41, ∀ p : Fin 16, (Ytc (q.val : Int) (p.val : Int)).isSome = true ∧ Xnr (q.val : Int) (p.val : Int) = Ytc (q.val : Int) (p.val : Int) := by decide +kernel
theorem Yrh (qp p : Int) (h0 : 0 ≤ qp ∧ qp ≤ 40) (hp : 0 ≤ p ∧ p ≤ 15) : Xnr qp p = Xh8 qp p := by
 have := Zbe ⟨qp.toNat, by omega⟩ ⟨p.toNat, by omega⟩
 simp only at this
 rw [show ((qp.toNat : Nat) : Int) = qp by omega, show ((p.toNat : Nat) : Int) = p by omega] at this
 obtain ⟨h1, h2⟩ := this
 rw [h2]
 cases e : Ytc qp p with
 | none => rw [e] at h1; cases h1
 | some o =>
  unfold Ytc at e
  unfold Xh8
  obtain ⟨k, ek, k0, k1⟩ := Xrd p hp
  rw [ek, Xad] at e ⊢
  rw [Xaj, Xad, decide_eq_true h0, Xa0, decide_eq_false (by omega), Xad, Xay, rqA]
  obtain ⟨a1, e1, b1⟩ := Xa4 k 10 16 13
  obtain ⟨a2, e2, b2⟩ := Xa4 k 11 18 14
  obtain ⟨a3, e3, b3⟩ := Xa4 k 13 20 16
  obtain ⟨a4, e4, b4⟩ := Xa4 k 14 23 18
  obtain ⟨a5, e5, b5⟩ := Xa4 k 16 25 20
  obtain ⟨a6, e6, b6⟩ := Xa4 k 18 29 23
  rw [e1, e2, e3, e4, e5, e6] at e ⊢
  simp only [Xad, Yyj] at e ⊢
  rw [Ywt 10 e, Xad]
def Xsc (n : Int) (v16 : Int × List Int) : Option (Lp (Int × List Int) (List Int)) :=
 sel (decide (v16.1 ≤ (Xaa .i64 ((Xaa .i64 (2 * n)) - 2)))) (
 bnd (it (Xlm n v16) 20 (0, v16.2)) fun v42 =>
 some (.go (Xaa .i64 (v16.1 + 1), v42))) (
 some (.done v16.2))
theorem Yvu {n : Int} {v : Int × List Int} {x : Lp (Int × List Int) (List Int)} (h : Xsc n v = some x) : Xhn n v = some x := by
 unfold Xsc at h
 unfold Xhn
 rcases Xj6 h with ⟨hb, h⟩ | ⟨hb, h⟩
 ·
  rw [hb, Xa0]
  obtain ⟨a, h1, h2⟩ := Xa3 h
  rw [Xi9.2 ⟨20, h1⟩, Xad]
  exact h2
 ·
  rw [hb, Xay]; exact h
def Ylr (n : Int) : List Int := (it (Xsc n) 20 (0, [])).getD []
theorem Zex : (it (Xsc 4) 20 (0, [])).isSome = true ∧ (Ylr 4).length = 16 := by decide +kernel
theorem Zey : (it (Xsc 8) 20 (0, [])).isSome = true ∧ (Ylr 8).length = 64 := by decide +kernel
theorem Zbf : ∀ i : Fin 16, (Ylr 4).getD i.val 0 = Xg6 4 (i.val : Int) := by decide +kernel
theorem Zbg : ∀ i : Fin 64, (Ylr 8).getD i.val 0 = Xg6 8 (i.val : Int) := by decide +kernel
theorem Xry (n : Int) (hn : n = 4 ∨ n = 8) : Xhe n = some (Ylr n) ∧ ((Ylr n).length : Int) = n * n ∧ ∀ i : Nat, (i : Int) < n * n → (Ylr n).getD i 0 = Xg6 n i := by
 have h : (it (Xsc n) 20 (0, [])).isSome = true ∧ ((Ylr n).length : Int) = n * n := by
  rcases hn with rfl | rfl
  ·
   have := Zex; exact ⟨this.1, by omega⟩
  ·
   have := Zey; exact ⟨this.1, by omega⟩
 refine ⟨?_, h.2, fun i hi => ?_⟩
 ·
  obtain ⟨o, ho⟩ := Option.isSome_iff_exists.1 h.1
  have hl := Ywt 20 (Zcq (fun v y => Yvu (n := n)) 20 _ ho)
  unfold Xhe
  rw [hl, Xad]
  unfold Ylr; rw [ho]; rfl
 ·
  rcases hn with rfl | rfl
  ·
   exact Zbf ⟨i, by omega⟩
  ·
   exact Zbg ⟨i, by omega⟩
theorem Xue (n : Int) (hn : n = 4 ∨ n = 8) (l : List Int) (hl : (l.length : Int) = n * n) : Xfh n l = Xc6 n l := by
 obtain ⟨e, h1, h2⟩ := Xry n hn
 have hw : Xaa .i64 (n * n) = n * n := by rcases hn with rfl | rfl <;> exact wkA
 have hn2 : n * n ≤ 64 := by rcases hn with rfl | rfl <;> omega
 unfold Xfh Xc6
 rw [e]
 have : loop (Xit l (Ylr n)) (0, List.replicate (l.length : Int).toNat 0) = loop (Xb8 n l) (0, List.replicate (l.length : Int).toNat 0) := by
  refine Xm1 (fun v => (∃ i : Nat, v.1 = (i : Int) ∧ i ≤ l.length) ∧ v.2.length = l.length) ?_ ?_ ⟨⟨0, rfl, by omega⟩, by simp⟩
  ·
   intro ⟨i, s⟩ ⟨⟨k, ek, hk⟩, hs⟩
   simp only at hs ek
   subst ek
   unfold Xit Xb8
   simp only [Int.toNat_natCast]
   rw [hw]
   by_cases hi : (k : Int) < n * n
   ·
    have hp := Xh2 n hn k hi
    have h3 := h2 k hi
    simp only [h3]
    rw [syA, Xbo hi, Xhg n hn k hi, Xad, rqA, rqA]
   ·
    rw [snA, Xav hi]
  ·
   intro ⟨i, s⟩ v' ⟨⟨k, ek, hk⟩, hs⟩ he
   simp only at hs ek
   subst ek
   unfold Xb8 at he
   simp only [Int.toNat_natCast] at he
   rw [hw] at he
   by_cases hi : (k : Int) < n * n
   ·
    have hp := Xh2 n hn k hi
    rw [Xbo hi, Xhg n hn k hi, Xad, rqA, rqA, rqA, wkA] at he
    cases he
    exact ⟨⟨k + 1, rfl, by omega⟩, by rw [List.length_set]; exact hs⟩
   ·
    rw [Xav hi] at he; cases he
 simp only [Xad, this]
theorem Xsp (n : Int) (hn : n = 4 ∨ n = 8) (l : List Int) (hl : (l.length : Int) = n * n) : Xhr n l = Xfb n l := by
 have hm : maxLen = 9223372036854775807 := rfl
 obtain ⟨e, h1, h2⟩ := Xry n hn
 have hw : Xaa .i64 (n * n) = n * n := by rcases hn with rfl | rfl <;> exact wkA
 have hn2 : n * n ≤ 64 := by rcases hn with rfl | rfl <;> omega
 unfold Xhr Xfb
 rw [e]
 have : loop (Xlg l (Ylr n)) (0, ([] : List Int)) = loop (Xdh n l) (0, ([] : List Int)) := by
  refine Xm1 (fun v => ∃ i : Nat, v.1 = (i : Int) ∧ i ≤ l.length) ?_ ?_ ⟨0, rfl, by omega⟩
  ·
   intro ⟨i, s⟩ ⟨k, ek, hk⟩
   simp only at ek
   subst ek
   unfold Xlg Xdh
   simp only [Int.toNat_natCast]
   rw [hw]
   by_cases hi : (k : Int) < n * n
   ·
    have hp := Xh2 n hn k hi
    have h3 := h2 k hi
    simp only [h3]
    rw [syA, Xbo hi, Xhg n hn k hi, Xad, rqA, rqA]
   ·
    rw [snA, Xav hi]
  ·
   intro ⟨i, s⟩ v' ⟨k, ek, hk⟩ he
   simp only at ek
   subst ek
   unfold Xdh at he
   simp only [Int.toNat_natCast] at he
   rw [hw] at he
   by_cases hi : (k : Int) < n * n
   ·
    have hp := Xh2 n hn k hi
    rw [Xbo hi, Xhg n hn k hi, Xad, rqA] at he
    obtain ⟨_, he⟩ := Xaw he
    rw [wkA] at he
    cases he
    exact ⟨k + 1, rfl, by omega⟩
   ·
    rw [Xav hi] at he; cases he
 simp only [Xad, this]
def Yt1 (t : Nat → Int) : Nat → Int
 | 0 => 0
 | k + 1 => Xaa .i64 (Yt1 t k + t k)
def Zeu (p : List Int) (i v k : Nat) : Int := Xaa .i64 (Xjo v k * p.getD (8 * i + k) 0)
def Zef (p : List Int) (u v k : Nat) : Int := Xaa .i64 (Xjo u k * p.getD (8 * k + v) 0)
def Xuj (p : List Int) : List Int := (List.range 64).map fun j => Yt1 (Zeu p (j / 8) (j % 8)) 8
def Yzx (p : List Int) : List Int := (List.range 64).map fun j => Yt1 (Zef (Xuj p) (j / 8) (j % 8)) 8
theorem Yun (p : List Int) : (Xuj p).length = 64 := by simp [Xuj]
theorem Zbp (p : List Int) : (Yzx p).length = 64 := by simp [Yzx]
theorem Yv3 {f1 : Int × List Int → Option (Lp (Int × List Int) (List Int))} {f2 : Int × List Int → Int × List Int → Option (Lp (Int × List Int) (List Int))} {f3 : Int × List Int → Int × List Int → Int × List Int → Option (Lp (Int × List Int) (List Int))} (t : Nat → Nat → Nat → Int)
  (h1 : ∀ v, f1 v = sel (decide (v.1 < 8)) (bnd (loop (f2 v) (0, v.2)) fun w => some (.go (Xaa .i64 (v.1 + 1), w))) (some (.done v.2)))
  (h2 : ∀ v w, f2 v w = sel (decide (w.1 < 8)) (bnd (loop (f3 v w) (0, w.2)) fun x => some (.go (Xaa .i64 (w.1 + 1), x))) (some (.done w.2)))
  (h3 : ∀ (i v k : Nat) (a b s : List Int), i < 8 → v < 8 → k < 8 → s.length = 64 → f3 ((i : Int), a) ((v : Int), b) ((k : Int), s) = some (.go (((k + 1 : Nat) : Int), s.set (8 * i + v) (Xaa .i64 (s.getD (8 * i + v) 0 + t i v k)))))
  (h4 : ∀ (i v : Nat) (a b s : List Int), f3 ((i : Int), a) ((v : Int), b) (8, s) = some (.done s)) : loop f1 (0, List.replicate 64 0) = some ((List.range 64).map fun j => Yt1 (t (j / 8) (j % 8)) 8) := by
 obtain ⟨o, e, o1, o2, _⟩ := Xno (f := f1) 8 (fun i s => s.length = 64 ∧ (∀ j, j < 8 * i → s.getD j 0 = Yt1 (t (j / 8) (j % 8)) 8) ∧ ∀ j, 8 * i ≤ j → s.getD j 0 = 0) (by
  intro i s hi ⟨g1, g2, g3⟩
  obtain ⟨r, er, r1, r2, r3⟩ := Xno (f := f2 ((i : Int), s)) 8 (fun v s => s.length = 64 ∧ (∀ j, j < 8 * i + v → s.getD j 0 = Yt1 (t (j / 8) (j % 8)) 8) ∧ ∀ j, 8 * i + v ≤ j → s.getD j 0 = 0) (by
   intro v s' hv ⟨k1, k2, k3⟩
   obtain ⟨q, eq, q1, q2, q3⟩ := Xno (f := f3 ((i : Int), s) ((v : Int), s')) 8 (fun k s => s.length = 64 ∧ (∀ j, j ≠ 8 * i + v → s.getD j 0 = s'.getD j 0) ∧ s.getD (8 * i + v) 0 = Yt1 (t i v) k) (by
    intro k s'' hk ⟨m1, m2, m3⟩
    refine ⟨_, h3 i v k s s' s'' hi hv hk m1, by rw [List.length_set]; exact m1, fun j hj => ?_, ?_⟩
    ·
     rw [Xfe _ _ _ _ (by omega), if_neg (fun h => hj h.symm)]; exact m2 j hj
    ·
     rw [Xfe _ _ _ _ (by omega), if_pos rfl, m3]; rfl) (fun z _ => h4 i v s s' z) s' ⟨k1, fun _ _ => rfl, by rw [k3 _ (Nat.le_refl _)]; rfl⟩
   refine ⟨q, by rw [h2, Xbo (by simp only; omega), eq, Xad, wk (by simp only; omega) (by simp only; omega)]; rfl, q1, fun j hj => ?_, fun j hj => ?_⟩
   ·
    by_cases h : j = 8 * i + v
    ·
     rw [h, q3, show (8 * i + v) / 8 = i by omega, show (8 * i + v) % 8 = v by omega]
    ·
     rw [q2 j h]; exact k2 j (by omega)
   ·
    rw [q2 j (by omega)]; exact k3 j (by omega)) (fun z _ => by rw [h2, Xav (by simp)]) s ⟨g1, g2, g3⟩
  refine ⟨r, by rw [h1, Xbo (by simp only; omega), er, Xad, wk (by simp only; omega) (by simp only; omega)]; rfl, r1, fun j hj => r2 j (by omega), fun j hj => r3 j (by omega)⟩) (fun z _ => by rw [h1, Xav (by simp)]) (List.replicate 64 0) ⟨by simp, fun j hj => by omega, fun j _ => by
   by_cases h : j < 64
   ·
    rw [Xd8 _ _ (by rw [List.length_replicate]; exact h)]; exact List.getElem_replicate ..
   ·
    rw [List.getD_eq_getElem?_getD, List.getElem?_eq_none (by rw [List.length_replicate]; omega)]; rfl⟩
 rw [e]
 congr 1
 exact Yd0 o1 (by simp) fun j hj => by rw [o2 j (by omega), Xjy (fun j => Yt1 (t (j / 8) (j % 8)) 8) hj]
theorem Yfg (p : List Int) (hp : p.length = 64) : Xr0 p = some (Yzx p) := by
 unfold Xr0
 rw [rqA]
 have e1 : loop (Xs3 p) (0, List.replicate (64 : Int).toNat 0) = some (Xuj p) :=
  Yv3 (f2 := Xs4 p) (f3 := Xlo p) (fun i v k => Zeu p i v k) (fun _ => rfl) (fun _ _ => rfl) (fun i v k a b s hi hv hk hs => by
   unfold Xlo
   simp only
   rw [syA, wkA (e := 8 * (i : Int)), wkA (e := 8 * (i : Int) + (v : Int)), wkA (e := 8 * (i : Int) + (k : Int)), rqA, rqA, Ye6 v k hv hk, Xad, rqA, rqA, rqA, wkA (e := (k : Int) + 1), show (8 * (i : Int) + (v : Int)).toNat = 8 * i + v by omega, show (8 * (i : Int) + (k : Int)).toNat = 8 * i + k by omega]
   rfl) (fun i v a b s => by unfold Xlo; rw [Xav (by simp)])
 have e2 : loop (Xq5 (Xuj p)) (0, List.replicate (64 : Int).toNat 0) = some (Yzx p) :=
  Yv3 (f2 := Xq6 (Xuj p)) (f3 := Xjl (Xuj p)) (fun i v k => Zef (Xuj p) i v k) (fun _ => rfl) (fun _ _ => rfl) (fun i v k a b s hi hv hk hs => by
   have hl := Yun p
   unfold Xjl
   simp only
   rw [syA, wkA (e := 8 * (i : Int)), wkA (e := 8 * (i : Int) + (v : Int)), wkA (e := 8 * (k : Int)), wkA (e := 8 * (k : Int) + (v : Int)), rqA, rqA, Ye6 i k hi hk, Xad, rqA, rqA, rqA, rqA, wkA (e := (k : Int) + 1), show (8 * (i : Int) + (v : Int)).toNat = 8 * i + v by omega, show (8 * (k : Int) + (v : Int)).toNat = 8 * k + v by omega]
   rfl) (fun i v a b s => by unfold Xjl; rw [Xav (by simp)])
 rw [e1, Xad, rqA, e2, Xad]
theorem Yqj (p : List Int) (hp : p.length = 64) (i v : Nat) (hi : i < 8) (hv : v < 8) : Xkk p i v = some (Yt1 (Zeu p i v) 8) := by
 obtain ⟨o, e, h⟩ := Xqi (f := Xd2 p i v) 8 (fun k s => s = Yt1 (Zeu p i v) k) (by
  intro k s hk g
  subst g
  unfold Xd2
  simp only
  rw [syA, wkA (e := 8 * (i : Int)), wkA (e := 8 * (i : Int) + (k : Int)), rqA, Xxv v k hv hk, Xad, wkA (e := (k : Int) + 1), show (8 * (i : Int) + (k : Int)).toNat = 8 * i + k by omega, Int.mul_comm (p.getD _ _)]
  exact ⟨_, rfl, rfl⟩) (by intro s; unfold Xd2; rw [Xav (by simp)]) 0 rfl
 unfold Xkk
 rw [e, Xad, h]
theorem Xvs (p : List Int) (hp : p.length = 64) : Xgk p = some (Yzx p) := by
 have hm : maxLen = 9223372036854775807 := rfl
 unfold Xgk
 obtain ⟨o, e, ho⟩ := Xdz (f := Xcr p) 8 (fun i s => s = (List.range (8 * i)).map fun j => Yt1 (Zeu p (j / 8) (j % 8)) 8) (by
  intro i s hi g
  subst g
  obtain ⟨r, er, hr⟩ := Xdz (f := Xcs p ((i : Int), (List.range (8 * i)).map fun j => Yt1 (Zeu p (j / 8) (j % 8)) 8)) 8 (fun v s => s = (List.range (8 * i + v)).map fun j => Yt1 (Zeu p (j / 8) (j % 8)) 8) (by
   intro v s hv g
   subst g
   unfold Xcs
   simp only
   rw [syA, Yqj p hp i v hi hv, Xad, Xaz (by simp only [List.length_singleton, List.length_map, List.length_range]; omega), wkA (e := (v : Int) + 1)]
   refine ⟨_, rfl, ?_⟩
   rw [show 8 * i + (v + 1) = (8 * i + v) + 1 by omega, List.range_succ, List.map_append, List.map_singleton, show (8 * i + v) / 8 = i by omega, show (8 * i + v) % 8 = v by omega]) (by intro s; unfold Xcs; rw [Xav (by simp)]) _ rfl
  rw [Nat.add_zero] at er
  unfold Xcr
  simp only
  rw [syA, er, Xad, wkA (e := (i : Int) + 1)]
  exact ⟨_, rfl, by rw [hr, show 8 * (i + 1) = 8 * i + 8 by omega]⟩) (by intro s; unfold Xcr; rw [Xav (by simp)]) [] rfl
 have ho' : o = Xuj p := by rw [ho]; rfl
 rw [e, Xad, ho']
 obtain ⟨o2, e2, ho2⟩ := Xdz (f := Xb9 (Xuj p)) 8 (fun i s => s = (List.range (8 * i)).map fun j => Yt1 (Zef (Xuj p) (j / 8) (j % 8)) 8) (by
  intro i s hi g
  subst g
  obtain ⟨r, er, hr⟩ := Xdz (f := Xca (Xuj p) ((i : Int), (List.range (8 * i)).map fun j => Yt1 (Zef (Xuj p) (j / 8) (j % 8)) 8)) 8 (fun v s => s = (List.range (8 * i + v)).map fun j => Yt1 (Zef (Xuj p) (j / 8) (j % 8)) 8) (by
   intro v s hv g
   obtain ⟨c, ec, hc⟩ := Xqi (f := Xcb (Xuj p) ((i : Int), (List.range (8 * i)).map fun j => Yt1 (Zef (Xuj p) (j / 8) (j % 8)) 8) ((v : Int), s)) 8 (fun k x => x = Yt1 (Zef (Xuj p) i v) k) (by
    intro k x hk g
    subst g
    have hl := Yun p
    unfold Xcb
    simp only
    rw [syA, Xxv i k hi hk, Xad, wkA (e := 8 * (k : Int)), wkA (e := 8 * (k : Int) + (v : Int)), rqA, rqA, wkA (e := (k : Int) + 1), show (8 * (k : Int) + (v : Int)).toNat = 8 * k + v by omega]
    exact ⟨_, rfl, rfl⟩) (by intro s; unfold Xcb; rw [Xav (by simp)]) 0 rfl
   subst g
   unfold Xca
   simp only
   rw [syA, ec, Xad, Xaz (by simp only [List.length_singleton, List.length_map, List.length_range]; omega), wkA (e := (v : Int) + 1)]
   refine ⟨_, rfl, ?_⟩
   rw [hc, show 8 * i + (v + 1) = (8 * i + v) + 1 by omega, List.range_succ, List.map_append, List.map_singleton, show (8 * i + v) / 8 = i by omega, show (8 * i + v) % 8 = v by omega]) (by intro s; unfold Xca; rw [Xav (by simp)]) _ rfl
  rw [Nat.add_zero] at er
  unfold Xb9
  simp only
  rw [syA, er, Xad, wkA (e := (i : Int) + 1)]
  exact ⟨_, rfl, by rw [hr, show 8 * (i + 1) = 8 * i + 8 by omega]⟩) (by intro s; unfold Xb9; rw [Xav (by simp)]) [] rfl
 rw [e2, Xad, ho2]
 rfl
theorem Xrm (l : List Int) (n B : Int) (hn : (l.length : Int) = n) (hn2 : n ≤ 1000000) (h : inB B l) : Xbf l n (-B) B = some true := by
 rw [Xlj l n (-B) B (by omega), hn, beq_self_eq_true, Bool.and_true]
 congr 1
 rw [List.all_eq_true]
 intro x hx
 rw [decide_eq_true_eq]; exact h x hx
theorem Ybk (o : List Int) {f : Int × List Int → Option (Lp (Int × List Int) (List Int))} (n : Nat) (hn : n ≤ 64) (hl : o.length = n) (hf : ∀ v : Int × List Int, f v = sel (decide (v.1 < (n : Int))) (req (0 ≤ v.1 ∧ v.1 < v.2.length) <| req (v.1.toNat < v.2.length) <| bnd (Xcq (Xaa .i64 ((v.2.getD v.1.toNat 0) + 32)) 64) fun q => req (0 ≤ v.1 ∧ v.1 < v.2.length) <| req (v.1.toNat < v.2.length) <| some (.go (Xaa .i64 (v.1 + 1), (v.2.set v.1.toNat q)))) (some (.done v.2))) : bnd (Xkw o) (fun q => some q.2) = bnd (loop f (0, o)) fun q => some q := by
 unfold Xkw
 have : Xpj o = f := by
  funext v
  rw [hf, ← hl]; rfl
 rw [this]
 cases loop f (0, o) <;> rfl
theorem Yi1 (p : List Int) (hl : p.length = 64) (hb : inB 10000000 p) : Xjf p = Xfm p := by
 unfold Xjf Xfm
 rw [Xrm p 64 10000000 (by omega) (by omega) hb, Xcl p 64 10000000 (by omega) (by omega) (by omega) hb, Xad, Xad, Bool.not_true, Xay, Xay, Yfg p hl, Xvs p hl, Xad, Xad]
 exact Ybk (Yzx p) 64 (by omega) (Zbp p) (fun _ => rfl)
theorem Yv4 (p : List Int) (hl : p.length = 64) (hb : inB 1000 p) : Xrp p = Xm4 p := by
 unfold Xrp Xm4
 rw [Xrm p 64 1000 (by omega) (by omega) hb, Xcl p 64 1000 (by omega) (by omega) (by omega) hb, Xad, Xad, Bool.not_true, Xay, Xay, Yfg p hl, Xvs p hl, Xad]
def tgA (q : Int → Int → Int → Int → Option (Int × Int × Int × Int)) (v4 : (Int × (List Int))) : Option (Lp (Int × (List Int)) (List Int)) :=
 sel (decide (v4.1 < 16)) (
 req (0 ≤ v4.1 ∧ v4.1 < v4.2.length) <|
 req (v4.1.toNat < v4.2.length) <|
 req (0 ≤ (Xaa .i64 (v4.1 + 1)) ∧ (Xaa .i64 (v4.1 + 1)) < v4.2.length) <|
 req ((Xaa .i64 (v4.1 + 1)).toNat < v4.2.length) <|
 req (0 ≤ (Xaa .i64 (v4.1 + 2)) ∧ (Xaa .i64 (v4.1 + 2)) < v4.2.length) <|
 req ((Xaa .i64 (v4.1 + 2)).toNat < v4.2.length) <|
 req (0 ≤ (Xaa .i64 (v4.1 + 3)) ∧ (Xaa .i64 (v4.1 + 3)) < v4.2.length) <|
 req ((Xaa .i64 (v4.1 + 3)).toNat < v4.2.length) <|
 bnd (q (v4.2.getD v4.1.toNat 0) (v4.2.getD ((Xaa .i64 (v4.1 + 1)).toNat) 0) (v4.2.getD ((Xaa .i64 (v4.1 + 2)).toNat) 0) (v4.2.getD ((Xaa .i64 (v4.1 + 3)).toNat) 0)) fun q8 =>
 req (0 ≤ v4.1 ∧ v4.1 ≤ (Xaa .i64 (v4.1 + 4)) ∧ (Xaa .i64 (v4.1 + 4)) ≤ (v4.2.length : Int)) <|
 req ((v4.1.toNat + ((Xaa .i64 (v4.1 + 4)).toNat - v4.1.toNat) ≤ v4.2.length ∧ ([q8.1, q8.2.1, q8.2.2.1, q8.2.2.2]).length ≤ ((Xaa .i64 (v4.1 + 4)).toNat - v4.1.toNat))) <|
 some (.go (Xaa .i64 (v4.1 + 4), (over v4.2 v4.1.toNat ([q8.1, q8.2.1, q8.2.2.1, q8.2.2.2]))))) (
 some (.done v4.2))
def tgB (v17 : (Int × (List Int))) (q26 : (Int × Int × Int × Int)) (v28 : (Int × (List Int))) : Option (Lp (Int × (List Int)) (List Int)) :=
 sel (decide (v28.1 < 4)) (
 req (0 ≤ v28.1 ∧ v28.1 < ([q26.1, q26.2.1, q26.2.2.1, q26.2.2.2] : List Int).length) <|
 req (0 ≤ (Xaa .i64 (v17.1 + (Xaa .i64 (4 * v28.1)))) ∧ (Xaa .i64 (v17.1 + (Xaa .i64 (4 * v28.1)))) < v28.2.length) <|
 req ((Xaa .i64 (v17.1 + (Xaa .i64 (4 * v28.1)))).toNat < v28.2.length) <|
 some (.go (Xaa .i64 (v28.1 + 1), (v28.2.set ((Xaa .i64 (v17.1 + (Xaa .i64 (4 * v28.1)))).toNat) (([q26.1, q26.2.1, q26.2.2.1, q26.2.2.2] : List Int).getD v28.1.toNat 0))))) (
 some (.done v28.2))
noncomputable def tgC (q : Int → Int → Int → Int → Option (Int × Int × Int × Int)) (v17 : (Int × (List Int))) : Option (Lp (Int × (List Int)) (List Int)) :=
 sel (decide (v17.1 < 4)) (
 req (0 ≤ v17.1 ∧ v17.1 < v17.2.length) <|
 req (v17.1.toNat < v17.2.length) <|
 req (0 ≤ (Xaa .i64 (v17.1 + 4)) ∧ (Xaa .i64 (v17.1 + 4)) < v17.2.length) <|
 req ((Xaa .i64 (v17.1 + 4)).toNat < v17.2.length) <|
 req (0 ≤ (Xaa .i64 (v17.1 + 8)) ∧ (Xaa .i64 (v17.1 + 8)) < v17.2.length) <|
 req ((Xaa .i64 (v17.1 + 8)).toNat < v17.2.length) <|
 req (0 ≤ (Xaa .i64 (v17.1 + 12)) ∧ (Xaa .i64 (v17.1 + 12)) < v17.2.length) <|
 req ((Xaa .i64 (v17.1 + 12)).toNat < v17.2.length) <|
 bnd (q (v17.2.getD v17.1.toNat 0) (v17.2.getD ((Xaa .i64 (v17.1 + 4)).toNat) 0) (v17.2.getD ((Xaa .i64 (v17.1 + 8)).toNat) 0) (v17.2.getD ((Xaa .i64 (v17.1 + 12)).toNat) 0)) fun q26 =>
 bnd (loop (tgB v17 q26) (0, v17.2)) fun v30 =>
 some (.go (Xaa .i64 (v17.1 + 1), v30))) (
 some (.done v17.2))
noncomputable def Zdo (q : Int → Int → Int → Int → Option (Int × Int × Int × Int)) (p0 : (List Int)) : Option (List Int) :=
 bnd (Xdt p0) fun q1 =>
 bnd (loop (tgA q) (0, q1)) fun v7 =>
 bnd (loop (tgC q) (0, v7)) fun v25 =>
 some v25
theorem Zbr : Xcf = Zdo Xea := rfl
theorem Zbs : Xdv = Zdo Xmi := rfl
abbrev Q4 := Int × Int × Int × Int
def Yvk (q : Q4) (i : Nat) : Int := [q.1, q.2.1, q.2.2.1, q.2.2.2].getD i 0
def Xws (t : Int → Int → Int → Int → Q4) (p : List Int) : List Int := (List.range 16).map fun j => Yvk (t (p.getD (4 * (j / 4)) 0) (p.getD (4 * (j / 4) + 1) 0) (p.getD (4 * (j / 4) + 2) 0) (p.getD (4 * (j / 4) + 3) 0)) (j % 4)
def Xzz (p : List Int) : List Int := (List.range 16).map fun j => p.getD (j % 4 * 4 + j / 4) 0
theorem Xsb (t : Int → Int → Int → Int → Q4) (p : List Int) : (Xws t p).length = 16 := by simp [Xws]
theorem Xui (p : List Int) : (Xzz p).length = 16 := by simp [Xzz]
theorem Yvi {l m : List Int} {i : Nat} (h : i + m.length ≤ l.length) (j : Nat) : (over l i m).getD j 0 = if i ≤ j ∧ j < i + m.length then m.getD (j - i) 0 else l.getD j 0 := by
 rw [List.getD_eq_getElem?_getD, Yx7 h]
 split <;> rw [List.getD_eq_getElem?_getD]
theorem Yyv {q : Int → Int → Int → Int → Option Q4} {t : Int → Int → Int → Int → Q4} (hq : ∀ a b c d, q a b c d = some (t a b c d)) (p : List Int) (hp : p.length = 16) : Zdo q p = some (Xzz (Xws t (Xzz (Xws t p)))) := by
 have hm : maxLen = 9223372036854775807 := rfl
 unfold Zdo Xdt
 rw [Xaz (by simp only [List.length_nil]; omega), Xad, List.nil_append]
 have hA : loop (tgA q) (0, p) = some (Xws t p) := by
  have key : ∀ r : Nat, r ≤ 4 → ∀ s : List Int, s.length = 16 → (∀ j, j < 4 * r → s.getD j 0 = (Xws t p).getD j 0) → (∀ j, 4 * r ≤ j → s.getD j 0 = p.getD j 0) → loop (tgA q) (((4 * r : Nat) : Int), s) = some (Xws t p) := by
   refine Xkb _ ?_ ?_
   ·
    intro s h1 h2 _
    refine Xf7 ?_
    unfold tgA
    rw [Xav (by simp), Yd0 h1 (Xsb t p) h2]
   ·
    intro r hr ih s h1 h2 h3
    refine lgo (y := (((4 * (r + 1) : Nat) : Int), over s (4 * r) [Yvk (t (p.getD (4 * r) 0) (p.getD (4 * r + 1) 0) (p.getD (4 * r + 2) 0) (p.getD (4 * r + 3) 0)) 0, Yvk (t (p.getD (4 * r) 0) (p.getD (4 * r + 1) 0) (p.getD (4 * r + 2) 0) (p.getD (4 * r + 3) 0)) 1, Yvk (t (p.getD (4 * r) 0) (p.getD (4 * r + 1) 0) (p.getD (4 * r + 2) 0) (p.getD (4 * r + 3) 0)) 2, Yvk (t (p.getD (4 * r) 0) (p.getD (4 * r + 1) 0) (p.getD (4 * r + 2) 0) (p.getD (4 * r + 3) 0)) 3])) ?_ (ih _ ?_ ?_ ?_)
    ·
     unfold tgA
     simp only
     rw [syA, wkA (e := ((4 * r : Nat) : Int) + 1), wkA (e := ((4 * r : Nat) : Int) + 2), wkA (e := ((4 * r : Nat) : Int) + 3), wkA (e := ((4 * r : Nat) : Int) + 4)]
     rw [rqA, rqA, rqA, rqA, rqA, rqA, rqA, rqA, hq, Xad, rqA, Xaz (by simp only [List.length_cons, List.length_nil]; omega)]
     rw [show (((4 * r : Nat) : Int) + 1).toNat = 4 * r + 1 by omega, show (((4 * r : Nat) : Int) + 2).toNat = 4 * r + 2 by omega, show (((4 * r : Nat) : Int) + 3).toNat = 4 * r + 3 by omega, Int.toNat_natCast, h3 _ (by omega), h3 _ (by omega), h3 _ (by omega), h3 _ (by omega)]
     rfl
    ·
     rw [Ylh (by simp only [List.length_cons, List.length_nil]; omega)]; exact h1
    ·
     intro j hj
     rw [Yvi (by simp only [List.length_cons, List.length_nil]; omega)]
     simp only [List.length_cons, List.length_nil]
     by_cases h : 4 * r ≤ j
     ·
      rw [if_pos (by omega)]
      unfold Xws
      rw [Xjy _ (by omega), show 4 * (j / 4) = 4 * r by omega]
      obtain h | h | h | h : j = 4 * r ∨ j = 4 * r + 1 ∨ j = 4 * r + 2 ∨ j = 4 * r + 3 := by omega
      ·
       rw [h, show 4 * r - 4 * r = 0 by omega, show (4 * r) % 4 = 0 by omega]; rfl
      ·
       rw [h, show 4 * r + 1 - 4 * r = 1 by omega, show (4 * r + 1) % 4 = 1 by omega]; rfl
      ·
       rw [h, show 4 * r + 2 - 4 * r = 2 by omega, show (4 * r + 2) % 4 = 2 by omega]; rfl
      ·
       rw [h, show 4 * r + 3 - 4 * r = 3 by omega, show (4 * r + 3) % 4 = 3 by omega]; rfl
     ·
      rw [if_neg (by omega)]; exact h2 j (by omega)
    ·
     intro j hj
     rw [Yvi (by simp only [List.length_cons, List.length_nil]; omega), if_neg (by simp only [List.length_cons, List.length_nil]; omega)]
     exact h3 j (by omega)
  exact key 0 (by omega) p hp (fun j hj => by omega) fun _ _ => rfl
 rw [hA, Xad]
 generalize hR : Xws t p = R
 have hl : R.length = 16 := by rw [← hR]; exact Xsb t p
 have hC : loop (tgC q) (0, R) = some (Xzz (Xws t (Xzz R))) := by
  have at4 : ∀ j : Nat, j < 16 → (Xzz (Xws t (Xzz R))).getD j 0 = Yvk (t (R.getD (j % 4) 0) (R.getD (j % 4 + 4) 0) (R.getD (j % 4 + 8) 0) (R.getD (j % 4 + 12) 0)) (j / 4) := by
   intro j hj
   rw [Xzz, Xjy _ hj, Xws, Xjy _ (by omega), Xzz, Xjy _ (by omega), Xjy _ (by omega), Xjy _ (by omega), Xjy _ (by omega)]
   rw [show (j % 4 * 4 + j / 4) / 4 = j % 4 by omega, show (j % 4 * 4 + j / 4) % 4 = j / 4 by omega, show 4 * (j % 4) % 4 * 4 + 4 * (j % 4) / 4 = j % 4 by omega, show (4 * (j % 4) + 1) % 4 * 4 + (4 * (j % 4) + 1) / 4 = j % 4 + 4 by omega, show (4 * (j % 4) + 2) % 4 * 4 + (4 * (j % 4) + 2) / 4 = j % 4 + 8 by omega, show (4 * (j % 4) + 3) % 4 * 4 + (4 * (j % 4) + 3) / 4 = j % 4 + 12 by omega]
  obtain ⟨o, e, o1, o2, _⟩ := Xno (f := tgC q) 4 (fun c s => s.length = 16 ∧ (∀ j, j < 16 → j % 4 < c → s.getD j 0 = (Xzz (Xws t (Xzz R))).getD j 0) ∧ ∀ j, j < 16 → c ≤ j % 4 → s.getD j 0 = R.getD j 0) (by
   intro c s hc ⟨g1, g2, g3⟩
   obtain ⟨r, er, r1, r2, r3⟩ := Xno (f := tgB ((c : Int), s) (t (R.getD c 0) (R.getD (c + 4) 0) (R.getD (c + 8) 0) (R.getD (c + 12) 0))) 4 (fun i s' => s'.length = 16 ∧ (∀ j, j < 16 → j % 4 ≠ c → s'.getD j 0 = s.getD j 0) ∧ ∀ j, j < 16 → j % 4 = c → j / 4 < i → s'.getD j 0 = Yvk (t (R.getD c 0) (R.getD (c + 4) 0) (R.getD (c + 8) 0) (R.getD (c + 12) 0)) (j / 4)) (by
    intro i s' hi ⟨k1, k2, k3⟩
    unfold tgB
    simp only
    rw [syA, Xaz (by simp only [List.length_cons, List.length_nil]; omega), wkA (e := 4 * (i : Int)), wkA (e := (c : Int) + 4 * (i : Int)), rqA, rqA, wkA (e := (i : Int) + 1), show ((c : Int) + 4 * (i : Int)).toNat = c + 4 * i by omega, Int.toNat_natCast]
    refine ⟨_, rfl, by rw [List.length_set]; exact k1, fun j hj hjc => ?_, fun j hj hjc hji => ?_⟩
    ·
     rw [Xfe _ _ _ _ (by omega), if_neg (by omega)]; exact k2 j hj hjc
    ·
     rw [Xfe _ _ _ _ (by omega)]
     by_cases h : c + 4 * i = j
     ·
      rw [if_pos h, show j / 4 = i by omega]; rfl
     ·
      rw [if_neg h]; exact k3 j hj hjc (by omega)) (fun z _ => by unfold tgB; rw [Xav (by simp)]) s ⟨g1, fun _ _ _ => rfl, fun j hj hjc hji => by omega⟩
   unfold tgC
   simp only
   rw [syA, wkA (e := (c : Int) + 4), wkA (e := (c : Int) + 8), wkA (e := (c : Int) + 12), rqA, rqA, rqA, rqA, rqA, rqA, rqA, rqA, hq, Xad, show ((c : Int) + 4).toNat = c + 4 by omega, show ((c : Int) + 8).toNat = c + 8 by omega, show ((c : Int) + 12).toNat = c + 12 by omega, Int.toNat_natCast, g3 c (by omega) (by omega), g3 (c + 4) (by omega) (by omega), g3 (c + 8) (by omega) (by omega), g3 (c + 12) (by omega) (by omega), er, Xad, wkA (e := (c : Int) + 1)]
   refine ⟨r, rfl, r1, fun j hj hjc => ?_, fun j hj hjc => ?_⟩
   ·
    by_cases h : j % 4 = c
    ·
     rw [r3 j hj h (by omega), at4 j hj, h]
    ·
     rw [r2 j hj h]; exact g2 j hj (by omega)
   ·
    rw [r2 j hj (by omega)]; exact g3 j hj (by omega)) (fun z _ => by unfold tgC; rw [Xav (by simp)]) R ⟨hl, fun j hj hjc => by omega, fun _ _ _ => rfl⟩
  rw [e]
  congr 1
  exact Yd0 o1 (Xui _) fun j hj => o2 j hj (by omega)
 rw [hC, Xad]
theorem Xl6 (p : List Int) (hl : p.length = 16) : Xd1 p = some (Xzz p) := by
 unfold Xd1
 rw [rqA]
 obtain ⟨o, e, o1, o2⟩ := Xno (f := Xdj p) 16 (fun i s => s.length = 16 ∧ ∀ j, j < 16 → j % 4 * 4 + j / 4 < i → s.getD j 0 = p.getD (j % 4 * 4 + j / 4) 0) (by
  intro i s hi ⟨g1, g2⟩
  unfold Xdj
  simp only
  rw [syA, rqA, rqA, rqA, Xb3 (by omega), Xbp (by omega), wkA (e := (i : Int) / 4), wkA (e := (i : Int) % 4 * 4), wkA (e := (i : Int) % 4 * 4 + (i : Int) / 4), rqA, rqA, wkA (e := (i : Int) + 1), Int.toNat_natCast, show ((i : Int) % 4 * 4 + (i : Int) / 4).toNat = i % 4 * 4 + i / 4 by omega]
  refine ⟨_, rfl, by rw [List.length_set]; exact g1, fun j hj hji => ?_⟩
  rw [Xfe _ _ _ _ (by omega)]
  by_cases h : i % 4 * 4 + i / 4 = j
  ·
   rw [if_pos h, show j % 4 * 4 + j / 4 = i by omega]
  ·
   rw [if_neg h]; exact g2 j hj (by omega)) (fun z _ => by unfold Xdj; rw [Xav (by simp)]) (List.replicate (16 : Int).toNat 0) ⟨by simp, fun j hj h => by omega⟩
 rw [e, Xad]
 congr 1
 exact Yd0 o1 (Xui p) fun j hj => by rw [o2 j hj (by omega), Xzz, Xjy _ hj]
theorem Yvo {f : Int × List Int → Option (Lp (Int × List Int) (List Int))} {t : Int → Int → Int → Int → Q4} (p : List Int) (h : ∀ (i : Nat) (s : List Int), i < 4 → s.length = 4 * i → f ((i : Int), s) = some (.go (((i + 1 : Nat) : Int), s ++ [(t (p.getD (4 * i) 0) (p.getD (4 * i + 1) 0) (p.getD (4 * i + 2) 0) (p.getD (4 * i + 3) 0)).1, (t (p.getD (4 * i) 0) (p.getD (4 * i + 1) 0) (p.getD (4 * i + 2) 0) (p.getD (4 * i + 3) 0)).2.1, (t (p.getD (4 * i) 0) (p.getD (4 * i + 1) 0) (p.getD (4 * i + 2) 0) (p.getD (4 * i + 3) 0)).2.2.1, (t (p.getD (4 * i) 0) (p.getD (4 * i + 1) 0) (p.getD (4 * i + 2) 0) (p.getD (4 * i + 3) 0)).2.2.2]))) (he : ∀ s, f (4, s) = some (.done s)) : loop f (0, []) = some (Xws t p) := by
 obtain ⟨o, e, ho⟩ := Xno (f := f) 4 (fun i s => s = (List.range (4 * i)).map fun j => Yvk (t (p.getD (4 * (j / 4)) 0) (p.getD (4 * (j / 4) + 1) 0) (p.getD (4 * (j / 4) + 2) 0) (p.getD (4 * (j / 4) + 3) 0)) (j % 4)) (by
  intro i s hi g
  refine ⟨_, h i s hi (by rw [g]; simp), ?_⟩
  rw [g, show 4 * (i + 1) = 4 * i + 1 + 1 + 1 + 1 by omega]
  simp only [List.range_succ, List.map_append, List.map_singleton, List.append_assoc]
  rw [show (4 * i + 1 + 1 + 1) / 4 = i by omega, show (4 * i + 1 + 1) / 4 = i by omega, show (4 * i + 1) / 4 = i by omega, show 4 * i / 4 = i by omega, show (4 * i + 1 + 1 + 1) % 4 = 3 by omega, show (4 * i + 1 + 1) % 4 = 2 by omega, show (4 * i + 1) % 4 = 1 by omega, show 4 * i % 4 = 0 by omega]
  rfl) (fun z _ => he z) [] rfl
 rw [e, ho]; rfl
def t4F (a b c d : Int) : Q4 := (Xaa .i64 ((Xaa .i64 ((Xaa .i64 (a + b)) + c)) + d), Xaa .i64 ((Xaa .i64 ((Xaa .i64 ((Xaa .i64 (2 * a)) + b)) - c)) - (Xaa .i64 (2 * d))), Xaa .i64 ((Xaa .i64 ((Xaa .i64 (a - b)) - c)) + d), Xaa .i64 ((Xaa .i64 ((Xaa .i64 (a - (Xaa .i64 (2 * b)))) + (Xaa .i64 (2 * c)))) - d))
theorem Ynw (a b c d : Int) : Xmi a b c d = some (t4F a b c d) := rfl
def Yq0 (a b : Int) : Int := Xaa .i64 (if a.tmod b < 0 then Xaa .i64 (a.tdiv b) - 1 else a.tdiv b)
theorem Xwc (a b : Int) (hb : b ≠ 0) : Xcq a b = some (Yq0 a b) := by
 unfold Xcq Yq0
 rw [Xaz hb, Xaz hb, Yd5]
 split <;> rfl
def t4B (a b c d : Int) : Q4 := (Xaa .i64 ((Xaa .i64 (a + c)) + (Xaa .i64 (b + Yq0 d 2))), Xaa .i64 ((Xaa .i64 (a - c)) + (Xaa .i64 (Yq0 b 2 - d))), Xaa .i64 ((Xaa .i64 (a - c)) - (Xaa .i64 (Yq0 b 2 - d))), Xaa .i64 ((Xaa .i64 (a + c)) - (Xaa .i64 (b + Yq0 d 2))))
theorem Xz6 (a b c d : Int) : Xea a b c d = some (t4B a b c d) := by
 unfold Xea
 rw [Ywi, Xwc b 2 (by omega), Xwc d 2 (by omega), Xad, Xad]; rfl
theorem Xt0 (p : List Int) (hl : p.length = 16) : Xfc p = some (Xws t4B p) := by
 have hm : maxLen = 9223372036854775807 := rfl
 unfold Xfc
 rw [Yvo (f := Xcp p) (t := t4B) p (by
  intro i s hi hs
  unfold Xcp
  simp only
  rw [syA, wkA (e := 4 * (i : Int)), wkA (e := 4 * (i : Int) + 1), wkA (e := 4 * (i : Int) + 2), wkA (e := 4 * (i : Int) + 3), rqA, rqA, rqA, rqA, show (4 * (i : Int)).toNat = 4 * i by omega, show (4 * (i : Int) + 1).toNat = 4 * i + 1 by omega, show (4 * (i : Int) + 2).toNat = 4 * i + 2 by omega, show (4 * (i : Int) + 3).toNat = 4 * i + 3 by omega, Xwc _ 2 (by omega), Xad, Xwc _ 2 (by omega), Xad, wkA (e := (i : Int) + 1), Xaz (by simp only [List.length_cons, List.length_nil]; omega)]
  rfl) (by intro s; unfold Xcp; rw [Xav (by simp)]), Xad]
theorem Xvp (p : List Int) (hl : p.length = 16) : Xgj p = some (Xws t4F p) := by
 have hm : maxLen = 9223372036854775807 := rfl
 unfold Xgj
 rw [Yvo (f := Xdk p) (t := t4F) p (by
  intro i s hi hs
  unfold Xdk
  simp only
  rw [syA, wkA (e := 4 * (i : Int)), wkA (e := 4 * (i : Int) + 1), wkA (e := 4 * (i : Int) + 2), wkA (e := 4 * (i : Int) + 3), rqA, rqA, rqA, rqA, show (4 * (i : Int)).toNat = 4 * i by omega, show (4 * (i : Int) + 1).toNat = 4 * i + 1 by omega, show (4 * (i : Int) + 2).toNat = 4 * i + 2 by omega, show (4 * (i : Int) + 3).toNat = 4 * i + 3 by omega, wkA (e := (i : Int) + 1), Xaz (by simp only [List.length_cons, List.length_nil]; omega)]
  rfl) (by intro s; unfold Xdk; rw [Xav (by simp)]), Xad]
theorem Ynn (p : List Int) (hl : p.length = 16) (hb : inB 10000000 p) : Xlb p = Xgx p := by
 unfold Xlb Xgx
 rw [Xrm p 16 10000000 (by omega) (by omega) hb, Xcl p 16 10000000 (by omega) (by omega) (by omega) hb, Xad, Xad, Bool.not_true, Xay, Xay, Zbr, Yyv Xz6 p hl, Xt0 p hl, Xad, Xad, Xl6 _ (Xsb _ _), Xad, Xt0 _ (Xui _), Xad, Xl6 _ (Xsb _ _), Xad]
 exact Ybk _ 16 (by omega) (Xui _) (fun _ => rfl)
theorem Yyz (p : List Int) (hl : p.length = 16) (hb : inB 1000 p) : Xuo p = Xpu p := by
 unfold Xuo Xpu
 rw [Xrm p 16 1000 (by omega) (by omega) hb, Xcl p 16 1000 (by omega) (by omega) (by omega) hb, Xad, Xad, Bool.not_true, Xay, Xay, Zbs, Yyv Ynw p hl, Xvp p hl, Xad, Xad, Xl6 _ (Xsb _ _), Xad, Xvp _ (Xui _), Xad, Xl6 _ (Xsb _ _), Xad]
theorem Yzj {β : Type} {c : Prop} [Decidable c] {k k' : Option β} (h : c → k = k') : req c k = req c k' := by
 by_cases hc : c
 ·
  rw [Xaz hc, Xaz hc, h hc]
 ·
  unfold req; rw [if_neg hc, if_neg hc]
theorem Xme {β : Type} {c : Prop} [Decidable c] {k k' : Option β} (h0 : c) (h : k = k') : req c k = k' := by rw [Xaz h0, h]
theorem Ybi {β : Type} {b : Bool} {x x' y y' : β} (h : b = true → x = x') (h2 : b = false → y = y') : sel b x y = sel b x' y' := by
 cases b
 ·
  exact h2 rfl
 ·
  exact h rfl
theorem Yy4 {α β : Type} {x x' : Option α} {f f' : α → Option β} (h : x = x') (h2 : ∀ a, x' = some a → f a = f' a) : bnd x f = bnd x' f' := by
 subst h
 cases x with
 | none => rfl
 | some a => exact h2 a rfl
theorem Zay {V O : Type} {f : V → Option (Lp V O)} (I : V → Prop) (J : O → Prop) (h1 : ∀ v v', I v → f v = some (.go v') → I v') (h2 : ∀ v o, I v → f v = some (.done o) → J o) {v : V} {o : O} (h : loop f v = some o) (hv : I v) : J o := by
 obtain ⟨k, hk⟩ := Xi9.1 h
 clear h
 induction k generalizing v with
 | zero => cases hk
 | succ k ih =>
  rw [it] at hk
  cases e : f v with
  | none => rw [e] at hk; cases hk
  | some s =>
   rw [e] at hk
   cases s with
   | go y => exact ih (h1 v y hv e) hk
   | done o' => cases hk; exact h2 v o hv e
theorem Yi3 (l qp p : Int) (h0 : 0 ≤ qp ∧ qp ≤ 40) (hp : 0 ≤ p ∧ p ≤ 15) : Xji l qp p = Xfp l qp p := by
 unfold Xji Xfp
 rw [Xar, Xaj, Yrh qp p h0 hp]
theorem Yi2 (l qp : Int) (h0 : 0 ≤ qp ∧ qp ≤ 40) : Xjg l qp = Xfo l qp := by
 unfold Xjg Xfo
 rw [Xar, Xaj, Ye7 qp h0]
theorem Ylu (x : Int) (h : -1000000000000 ≤ x ∧ x ≤ 1000000000000) : Xnu x = Xdy x := by
 unfold Xnu Xdy
 rw [wkA]
 by_cases hx : x < 0
 ·
  rw [Xbo hx, if_pos (by omega)]
 ·
  rw [Xav hx, if_neg (by omega)]
theorem Zbh : ∀ q : Fin 41, ∀ p : Fin 16, Xns (q.val : Int) (p.val : Int) = Xh9 (q.val : Int) (p.val : Int) := by decide +kernel
theorem Yri (qp p : Int) (h0 : 0 ≤ qp ∧ qp ≤ 40) (hp : 0 ≤ p ∧ p ≤ 15) : Xns qp p = Xh9 qp p := by
 have := Zbh ⟨qp.toNat, by omega⟩ ⟨p.toNat, by omega⟩
 simp only at this
 rwa [show ((qp.toNat : Nat) : Int) = qp by omega, show ((p.toNat : Nat) : Int) = p by omega] at this
theorem Yvv (x w : Int) : Xpk x w = Xfr w x := rfl
theorem Yfq (w qp : Int) (h0 : 0 ≤ qp ∧ qp ≤ 40) : Xhp w qp = Xej w qp := by
 unfold Xhp Xej
 rw [Xar, Xaj, Xar, Xaj, Ye7 qp h0]
 by_cases hw : -20000 ≤ w ∧ w ≤ 20000
 ·
  rw [Ylu w (by omega)]; rfl
 ·
  rw [decide_eq_false hw]; rfl
theorem Zhm (qp : Int) (h0 : 0 ≤ qp ∧ qp ≤ 40) : Xaa .u64 (Xaa .i64 (15 + (Xaa .i64 (qp.tdiv 6)))) = Xaa .i64 (15 + (Xaa .i64 (qp.tdiv 6))) := by
 have h : ∀ q : Fin 41, Xaa .u64 (Xaa .i64 (15 + (Xaa .i64 ((q.val : Int).tdiv 6)))) = Xaa .i64 (15 + (Xaa .i64 ((q.val : Int).tdiv 6))) := by decide +kernel
 have := h ⟨qp.toNat, by omega⟩
 simp only at this
 rwa [show ((qp.toNat : Nat) : Int) = qp by omega] at this
theorem Yfr (w qp p : Int) (h0 : 0 ≤ qp ∧ qp ≤ 40) (hp : 0 ≤ p ∧ p ≤ 15) : Xht w qp p = Xel w qp p := by
 unfold Xht Xel
 have h15 := Zhm qp h0
 simp only [Xar, Xaj, Yri qp p h0 hp, h15, Yvv]
 by_cases hw : -20000 ≤ w ∧ w ≤ 20000
 ·
  simp only [Ylu w (by omega)]
 ·
  simp only [decide_eq_false hw, Xad, Xay, Xa0]
def Ybd (k : Int) (v7 : Int × List Int) : Option (Lp (Int × List Int) (List Int)) :=
 sel (decide (v7.1 < 4)) (
 bnd (it (Xoa k v7) 10 (0, v7.2)) fun v18 =>
 some (.go (Xaa .i64 (v7.1 + 1), v18))) (
 some (.done v7.2))
theorem Yvm {k : Int} {v : Int × List Int} {x : Lp (Int × List Int) (List Int)} (h : Ybd k v = some x) : Xj2 k v = some x := by
 unfold Ybd at h
 unfold Xj2
 rcases Xj6 h with ⟨hb, h⟩ | ⟨hb, h⟩
 ·
  rw [hb, Xa0]
  obtain ⟨a, h1, h2⟩ := Xa3 h
  rw [Xi9.2 ⟨10, h1⟩, Xad]
  exact h2
 ·
  rw [hb, Xay]; exact h
def Xls (k : Int) : List Int := (it (Ybd k) 10 (0, [])).getD []
def Xn0 (k i : Int) : Int := (Xaa .i64 ((Xaa .i64 ((Xaa .i64 (8 * (Xaa .i64 ((Xaa .i64 ((Xaa .i64 (k.tdiv 2)) * 4)) + (Xaa .i64 (i.tdiv 4)))))) + (Xaa .i64 ((k.tmod 2) * 4)))) + (i.tmod 4)))
theorem Ywx : ∀ k : Fin 4, (it (Ybd (k.val : Int)) 10 (0, [])).isSome = true ∧ (Xls (k.val : Int)).length = 16 ∧ ∀ i : Fin 16, (Xls (k.val : Int)).getD i.val 0 = Xn0 (k.val : Int) (i.val : Int) ∧ 0 ≤ Xn0 (k.val : Int) (i.val : Int) ∧ Xn0 (k.val : Int) (i.val : Int) < 64 := by decide +kernel
theorem Xpi (k : Nat) (hk : k < 4) : Xkt k = some (Xls k) ∧ (Xls k).length = 16 ∧ ∀ i : Nat, i < 16 → (Xls k).getD i 0 = Xn0 k i ∧ 0 ≤ Xn0 k i ∧ Xn0 k i < 64 := by
 obtain ⟨h1, h2, h3⟩ := Ywx ⟨k, hk⟩
 refine ⟨?_, h2, fun i hi => h3 ⟨i, hi⟩⟩
 obtain ⟨o, ho⟩ := Option.isSome_iff_exists.1 h1
 have hl := Ywt 10 (Zcq (fun v y => Yvm (k := (k : Int))) 10 _ ho)
 unfold Xkt
 rw [hl, Xad]
 unfold Xls; simp only at ho; rw [ho]; rfl
theorem Xtf (p : List Int) (c : Xfs) (hc : Xjc c = true) (hp : Yiu p = true) : Xhq p c = Xdg p c := by
 have hq := Xzx hc
 obtain ⟨hl, hb⟩ := Yle hp
 unfold Xhq Xdg
 rw [Xfl, Xhc, Xrs p (by omega), hp, hc, Xcl p 64 5000 (by omega) (by omega) (by omega) hb]
 simp only [Xad, Xa0, Bool.not_true, Xay]
 rw [Xue 8 (Or.inr rfl) p (by omega)]
 refine Ybi (fun _ => rfl) fun _ => Ybi (fun _ => ?_) fun _ => ?_
 ·
  obtain ⟨w, ew, w1, w2⟩ := Xgd 8 (Or.inr rfl) p 5000 (by omega) (by omega) hb
  rw [ew, Xad, Xad]
  have hloop : loop (Xe0 c (w, true)) (0, (w, true).1) = loop (Xbc c) (0, (w, true).1) := by
   have : Xe0 c (w, true) = Xbc c := by
    funext v
    unfold Xe0 Xbc
    simp only [Yi2 _ _ hq, w1, hl]
    rfl
   rw [this]
  rw [hloop]
  obtain ⟨l, el, l1, l2⟩ := Xng (f := Xbc c) 64 (fun x => -5000 ≤ x ∧ x ≤ 5000) (fun x => -5760000 ≤ x ∧ x ≤ 5760000) (by
   intro i l hi hll hx
   obtain ⟨d, ed, d1, d2⟩ := Xse (l.getD i 0) c.Qp hx hq
   unfold Xbc
   simp only [Int.toNat_natCast]
   rw [syA, rqA, rqA, ed, Xad, rqA, rqA, wkA (e := (i : Int) + 1)]
   exact ⟨d, rfl, d1, d2⟩) (by intro s; unfold Xbc; rw [Xav (by simp)]) w (by omega) w2
  simp only [el, Xad]
  rw [Yi1 l l1 (Xqp l2 (by omega))]
 ·
  refine Yzj fun _ => Yy4 ?_ fun _ _ => rfl
  refine Xm1 (fun v => (∃ k : Nat, v.1 = (k : Int) ∧ k ≤ 4) ∧ v.2.length = 64) ?_ ?_ ⟨⟨0, rfl, by omega⟩, by simp⟩
  ·
   intro ⟨k0, s⟩ ⟨⟨k, ek, hk⟩, hs⟩
   simp only at ek hs
   subst ek
   unfold Xkc Xb5
   simp only
   refine Ybi (fun hk4 => ?_) fun _ => rfl
   have hk4 : k < 4 := by have := of_decide_eq_true hk4; omega
   rw [wkA (e := 16 * (k : Int)), wkA (e := 16 * (k : Int) + 16)]
   refine Yzj fun _ => ?_
   rw [show (16 * (k : Int)).toNat = 16 * k by omega, show (16 * (k : Int) + 16).toNat - 16 * k = 16 by omega]
   have hcut : ((p.drop (16 * k)).take 16).length = 16 := by rw [List.length_take, List.length_drop]; omega
   obtain ⟨a, ea, a1, a2⟩ := Xgd 4 (Or.inl rfl) ((p.drop (16 * k)).take 16) 5000 (by omega) (by omega) (Yxq (Yxo hb _) _)
   rw [Xue 4 (Or.inl rfl) _ (by omega), ea, Xad, Xad]
   have hloop : loop (Xeb c (a, true)) (0, (a, true).1) = loop (Xbb c) (0, (a, true).1) := by
    have : Xeb c (a, true) = Xbb c := by
     funext v
     unfold Xeb Xbb
     simp only [show ((a.length : Nat) : Int) = 16 by omega]
     refine Ybi (fun h16 => ?_) fun _ => rfl
     have := of_decide_eq_true h16
     refine Yzj fun h0 => Yzj fun _ => ?_
     rw [Yi3 _ _ _ hq (by omega)]
    rw [this]
   rw [hloop]
   obtain ⟨l, el, l1, l2⟩ := Xng (f := Xbb c) 16 (fun x => -5000 ≤ x ∧ x ≤ 5000) (fun x => -10000000 ≤ x ∧ x ≤ 10000000) (by
    intro i l hi hll hx
    obtain ⟨d, ed, d1, d2⟩ := Xsh (l.getD i 0) c.Qp i hx hq (by omega)
    unfold Xbb
    simp only [Int.toNat_natCast]
    rw [syA, rqA, rqA, ed, Xad, rqA, rqA, wkA (e := (i : Int) + 1)]
    exact ⟨d, rfl, d1, d2⟩) (by intro s; unfold Xbb; rw [Xav (by simp)]) a (by omega) a2
   obtain ⟨b, eb, b1, b2⟩ := Xtw l l1 l2
   obtain ⟨q1, q2, q3⟩ := Xpi k hk4
   simp only [el, Xad]
   rw [Ynn l l1 l2, eb, Xad, Xad, q1, Xad]
   refine Yy4 ?_ fun _ _ => rfl
   have : Xgp b (Xls k) = Xbe ((k : Int), s) b := by
    funext v
    unfold Xgp Xbe
    simp only [show (((Xls k).length : Nat) : Int) = 16 by omega]
    refine Ybi (fun h16 => ?_) fun _ => rfl
    have h16 := of_decide_eq_true h16
    by_cases h0 : 0 ≤ v.1
    ·
     obtain ⟨i, hi⟩ : ∃ i : Nat, v.1 = (i : Int) := ⟨v.1.toNat, by omega⟩
     obtain ⟨v1, v2⟩ := v
     simp only at hi h0 h16
     subst hi
     obtain ⟨r1, r2, r3⟩ := q3 i (by omega)
     have e1 : (Xaa .i64 ((Xaa .i64 ((Xaa .i64 (8 * (Xaa .i64 ((Xaa .i64 ((Xaa .i64 ((k : Int).tdiv 2)) * 4)) + (Xaa .i64 ((i : Int).tdiv 4)))))) + (Xaa .i64 (((k : Int).tmod 2) * 4)))) + ((i : Int).tmod 4))) = Xn0 k i := rfl
     simp only [Int.toNat_natCast, r1, e1]
     refine Xme (by omega) (Xme (by omega) (Xme (by omega) (Xme (by omega) ?_)))
     refine (Xme (by omega) (Xme (by omega) (Xme (by omega) (Xme (by omega) (Xme (by omega) (Xme (by omega) ?_)))))).symm
     rfl
    ·
     unfold req
     rw [if_neg (by omega), if_pos (by omega), if_pos (by omega), if_pos (by omega), if_pos (by omega), if_neg (by omega)]
   rw [this]
  ·
   intro ⟨k0, s⟩ v' ⟨⟨k, ek, hk⟩, hs⟩ he
   simp only at ek hs
   subst ek
   unfold Xb5 at he
   simp only at he
   rcases Xj6 he with ⟨hb4, he⟩ | ⟨_, he⟩
   ·
    have hk4 : k < 4 := by have := of_decide_eq_true hb4; omega
    obtain ⟨_, he⟩ := Xaw he
    obtain ⟨a, _, he⟩ := Xa3 he
    obtain ⟨l, _, he⟩ := Xa3 he
    obtain ⟨b, _, he⟩ := Xa3 he
    obtain ⟨r, hr, he⟩ := Xa3 he
    rw [wkA (e := (k : Int) + 1)] at he
    cases he
    refine ⟨⟨k + 1, rfl, by omega⟩, ?_⟩
    refine Zay (f := Xbe ((k : Int), s) b) (fun v => v.2.length = 64) (fun o => o.length = 64) ?_ ?_ hr hs
    ·
     intro v v' hv he
     unfold Xbe at he
     rcases Xj6 he with ⟨_, he⟩ | ⟨_, he⟩
     ·
      obtain ⟨_, he⟩ := Xaw he
      obtain ⟨_, he⟩ := Xaw he
      obtain ⟨_, he⟩ := Xaw he
      obtain ⟨_, he⟩ := Xaw he
      obtain ⟨_, he⟩ := Xaw he
      obtain ⟨_, he⟩ := Xaw he
      obtain ⟨_, he⟩ := Xaw he
      obtain ⟨_, he⟩ := Xaw he
      cases he
      simp only [List.length_set]; exact hv
     ·
      cases he
    ·
     intro v o hv he
     unfold Xbe at he
     rcases Xj6 he with ⟨_, he⟩ | ⟨_, he⟩
     ·
      obtain ⟨_, he⟩ := Xaw he
      obtain ⟨_, he⟩ := Xaw he
      obtain ⟨_, he⟩ := Xaw he
      obtain ⟨_, he⟩ := Xaw he
      obtain ⟨_, he⟩ := Xaw he
      obtain ⟨_, he⟩ := Xaw he
      obtain ⟨_, he⟩ := Xaw he
      obtain ⟨_, he⟩ := Xaw he
      cases he
     ·
      cases he; exact hv
   ·
    cases he
theorem Yx2 {S O : Type} {f g : Int × S → Option (Lp (Int × S) O)} (n : Nat) (I : Nat → S → Prop) (h : ∀ (i : Nat) (s : S), i ≤ n → I i s → f ((i : Int), s) = g ((i : Int), s)) (hI : ∀ (i : Nat) (s : S) (v' : Int × S), i ≤ n → I i s → g ((i : Int), s) = some (.go v') → v'.1 = ((i + 1 : Nat) : Int) ∧ i + 1 ≤ n ∧ I (i + 1) v'.2) {s0 : S} (h0 : I 0 s0) : loop f (0, s0) = loop g (0, s0) := by
 refine Xm1 (fun v => ∃ i : Nat, v.1 = (i : Int) ∧ i ≤ n ∧ I i v.2) ?_ ?_ ⟨0, rfl, by omega, h0⟩
 ·
  intro ⟨k, s⟩ ⟨i, e, hi, hs⟩
  simp only at e hs
  subst e
  exact h i s hi hs
 ·
  intro ⟨k, s⟩ v' ⟨i, e, hi, hs⟩ he
  simp only at e hs
  subst e
  obtain ⟨a, b, c⟩ := hI i s v' hi hs he
  exact ⟨i + 1, a, b, c⟩
theorem Yvn (p : List Int) (hl : p.length = 64) (k : Nat) (hk : k < 4) : loop (Xfz p (Xls k)) (0, ([] : List Int)) = Xem p k := by
 obtain ⟨q1, q2, q3⟩ := Xpi k hk
 unfold Xem
 rw [Yx2 (f := Xfz p (Xls k)) (g := Xbn p k) 16 (fun _ _ => True) ?_ ?_ trivial]
 ·
  cases loop (Xbn p k) (0, ([] : List Int)) <;> rfl
 ·
  intro i s hi _
  unfold Xfz Xbn
  simp only [show (((Xls k).length : Nat) : Int) = 16 by omega]
  refine Ybi (fun h16 => ?_) fun _ => rfl
  have h16 := of_decide_eq_true h16
  obtain ⟨r1, r2, r3⟩ := q3 i (by omega)
  have e1 : (Xaa .i64 ((Xaa .i64 ((Xaa .i64 (8 * (Xaa .i64 ((Xaa .i64 ((Xaa .i64 ((k : Int).tdiv 2)) * 4)) + (Xaa .i64 ((i : Int).tdiv 4)))))) + (Xaa .i64 (((k : Int).tmod 2) * 4)))) + ((i : Int).tmod 4))) = Xn0 k i := rfl
  simp only [Int.toNat_natCast, r1, e1]
  refine Xme (by omega) (Xme (by omega) (Xme (by omega) ?_))
  refine (Xme (by omega) (Xme (by omega) (Xme (by omega) (Xme (by omega) (Xme (by omega) ?_))))).symm
  rfl
 ·
  intro i s v' hi _ he
  unfold Xbn at he
  rcases Xj6 he with ⟨hb, he⟩ | ⟨_, he⟩
  ·
   have h16 := of_decide_eq_true hb
   simp only at h16 he
   obtain ⟨_, he⟩ := Xaw he
   obtain ⟨_, he⟩ := Xaw he
   obtain ⟨_, he⟩ := Xaw he
   obtain ⟨_, he⟩ := Xaw he
   obtain ⟨_, he⟩ := Xaw he
   obtain ⟨_, he⟩ := Xaw he
   injection he with he
   injection he with he
   subst he
   exact ⟨wkA, by omega, trivial⟩
  ·
   cases he
theorem Xwx (p : List Int) (c : Xfs) (hc : Xjc c = true) (hl : p.length = 64) (hb : inB 255 p) : Xgq p c = Xch p c := by
 have hq := Xzx hc
 unfold Xgq Xch
 rw [Xfl, Xhc, Xrm p 64 255 (by omega) (by omega) hb, hc, Xcl p 64 255 (by omega) (by omega) (by omega) hb]
 simp only [Xad, Xa0, Bool.not_true, Xay]
 rw [Xsp 8 (Or.inr rfl) p (by omega)]
 refine Ybi (fun _ => rfl) fun _ => Ybi (fun _ => ?_) fun _ => ?_
 ·
  obtain ⟨w, ew, w1⟩ := Ybp p hl hb
  rw [Yv4 p hl (Xqp hb (by omega)), ew, Xad, Xad]
  have : Xjz c w = Xbv c := by
   funext v
   unfold Xjz Xbv
   simp only [Yfq _ _ hq, w1]
   rfl
  rw [this]
  obtain ⟨l, el, l1, l2⟩ := Xng (f := Xbv c) 64 (fun _ => True) (fun x => -5000 ≤ x ∧ x ≤ 5000) (by
   intro i l hi hll _
   obtain ⟨d, ed, d1, d2⟩ := Xqw (l.getD i 0) c.Qp hq
   unfold Xbv
   simp only [Int.toNat_natCast]
   rw [syA, rqA, rqA, ed, Xad, rqA, rqA, wkA (e := (i : Int) + 1)]
   exact ⟨d, rfl, d1, d2⟩) (by intro s; unfold Xbv; rw [Xav (by simp)]) w w1 (fun _ _ => trivial)
  rw [el, Xad, Xad, Xsp 8 (Or.inr rfl) l (by omega)]
 ·
  refine Yy4 ?_ fun _ _ => rfl
  refine Yx2 4 (fun _ _ => True) ?_ ?_ trivial
  ·
   intro k s hk _
   unfold Xmk Xc3
   refine Ybi (fun h4 => ?_) fun _ => rfl
   have hk4 : k < 4 := by have := of_decide_eq_true h4; simp only at this; omega
   obtain ⟨q1, q2, q3⟩ := Xpi k hk4
   simp only [q1, Xad]
   rw [Yvn p hl k hk4]
   obtain ⟨a, ea, a1, a2⟩ := Xq0 p k hk4 255 hl hb
   obtain ⟨b, eb, b1, b2⟩ := Yfm a a1 a2
   rw [ea, Xad, Xad, Yyz a a1 (Xqp a2 (by omega)), eb, Xad, Xad]
   have : Xir c b = Xbh c := by
    funext v
    unfold Xir Xbh
    simp only [show ((b.length : Nat) : Int) = 16 by omega]
    refine Ybi (fun h16 => ?_) fun _ => rfl
    have := of_decide_eq_true h16
    refine Yzj fun h0 => Yzj fun _ => ?_
    rw [Yfr _ _ _ hq (by omega)]
   rw [this]
   obtain ⟨l, el, l1, l2⟩ := Xng (f := Xbh c) 16 (fun x => -9180 ≤ x ∧ x ≤ 9180) (fun x => -5000 ≤ x ∧ x ≤ 5000) (by
    intro i l hi hll hx
    obtain ⟨d, ed, d1, d2⟩ := Xqz (l.getD i 0) c.Qp i hx hq (by omega)
    unfold Xbh
    simp only [Int.toNat_natCast]
    rw [syA, rqA, rqA, ed, Xad, rqA, rqA, wkA (e := (i : Int) + 1)]
    exact ⟨d, rfl, d1, d2⟩) (by intro s; unfold Xbh; rw [Xav (by simp)]) b b1 b2
   rw [el, Xad, Xad, Xsp 4 (Or.inl rfl) l (by omega)]
  ·
   intro k s v' hk _ he
   unfold Xc3 at he
   rcases Xj6 he with ⟨hb4, he⟩ | ⟨_, he⟩
   ·
    have hk4 := of_decide_eq_true hb4
    simp only at hk4 he
    obtain ⟨a, _, he⟩ := Xa3 he
    obtain ⟨l, _, he⟩ := Xa3 he
    obtain ⟨b, _, he⟩ := Xa3 he
    obtain ⟨r, _, he⟩ := Xa3 he
    obtain ⟨_, he⟩ := Xaw he
    injection he with he
    injection he with he
    subst he
    exact ⟨wkA, by omega, trivial⟩
   ·
    cases he
theorem Yue {p : Pic} (ok : Xdq p = true) (x y : Int) : Xe3 p x y = Xga p x y := by rw [Ykn ok, Xlu ok]
theorem Xu0 {p : Pic} (ok : Xdq p = true) {x y : Int} (hx : x.tmod 8 = 0) (hy : y.tmod 8 = 0) (h : Xdm p x y = true) : Xbw p x y = some true := Xn9 ok x y hx hy h
theorem Xzt {p : Pic} (ok : Xdq p = true) {x y : Int} (hx : x.tmod 8 = 0) (hy : y.tmod 8 = 0) (h : Xdm p x y = true) : Xkn p x y = Xfa p x y := by
 unfold Xkn Xfa
 rw [Xc4, ok, Xu0 ok hx hy h, Xha ok hx hy h]
 have : Xla p x y = Xei p x y := by
  funext v
  unfold Xla Xei
  simp only [Yue ok]
 simp only [Xad, Xa0, Bool.not_true, Xay, this, Yue ok]
theorem Yi0 {e : Xim} (h : Xug e) : Xko e = some true := by
 obtain ⟨h1, h2, h3, h4, h5, h6⟩ := h
 have side : ∀ l : List Int, (l.length = 0 ∨ l.length = 8) → (∀ x ∈ l, 0 ≤ x ∧ x ≤ 255) → bnd (sel (decide ((l.length : Int) > 0)) (bnd (Xbf l 8 0 255) fun q10 => some (!q10)) (some false)) (fun v9 => some v9) = some false := by
  intro l hl hb
  rcases hl with e | e
  ·
   rw [snA]; rfl
  ·
   rw [syA, Xlj l 8 0 255 (by omega)]
   have : (l.all fun x => decide (0 ≤ x ∧ x ≤ 255)) = true := List.all_eq_true.2 fun x hx => decide_eq_true (hb x hx)
   rw [this, e]; rfl
 have go : ∀ (i : Nat) (l : List Int), i < 2 → ([e.Above, e.Left]).getD i Xgn = l → (l.length = 0 ∨ l.length = 8) → (∀ x ∈ l, 0 ≤ x ∧ x ≤ 255) → Xfx e (i : Int) = some (.go ((i + 1 : Nat) : Int)) := by
  intro i l hi hg hl hb
  unfold Xfx
  simp only [Int.toNat_natCast, hg]
  have hs := side l hl hb
  rw [Xbo (by simp only [List.length_cons, List.length_nil]; omega), Xaz (by simp only [List.length_cons, List.length_nil]; omega), Xaz (by simp only [List.length_cons, List.length_nil]; omega)]
  obtain ⟨a, ea, hs⟩ := Xa3 hs
  injection hs with hs
  subst hs
  rw [ea, Xad, Xay, wkA]
  rfl
 unfold Xko
 have : loop (Xfx e) 0 = some (.out ()) := by
  refine lgo (go 0 e.Above (by omega) rfl h1 h3) (lgo (go 1 e.Left (by omega) rfl h2 h4) (Xf7 ?_))
  unfold Xfx
  rw [Xav (by simp)]
 rw [this, Xad, Xar, Xad, decide_eq_true ⟨h5, h6⟩]
def Yys (l : List Int) : Nat → Int
 | 0 => 0
 | n + 1 => Yys l n + l.getD n 0
theorem Xwm {l : List Int} (h : ∀ x ∈ l, 0 ≤ x ∧ x ≤ 255) : ∀ n : Nat, n ≤ l.length → 0 ≤ Yys l n ∧ Yys l n ≤ 255 * n
 | 0, _ => by simp [Yys]
 | n + 1, hn => by
  have a := Xwm h n (by omega)
  have b := h (l.getD n 0) (by rw [Xd8 l n (by omega)]; exact List.getElem_mem _)
  rw [Yys]; omega
theorem Ytw {f : Int × Int → Option (Lp (Int × Int) Int)} {l : List Int} (hl : l.length ≤ 64) (h : ∀ x ∈ l, 0 ≤ x ∧ x ≤ 255) (hf : ∀ v, f v = sel (decide (v.2 < (l.length : Int))) (req (0 ≤ v.2 ∧ v.2 < l.length) <| some (.go (Xaa .i64 (v.1 + (l.getD v.2.toNat 0)), Xaa .i64 (v.2 + 1)))) (some (.done v.1))) (a : Int) (ha : 0 ≤ a ∧ a ≤ 100000) : loop f (a, 0) = some (a + Yys l l.length) := by
 obtain ⟨o, e, ho⟩ := Xqi (f := f) l.length (fun i s => s = a + Yys l i) (by
  intro i s hi g
  have r := Xwm h i (by omega)
  have b := h (l.getD i 0) (by rw [Xd8 l i (by omega)]; exact List.getElem_mem _)
  rw [hf]
  simp only [Int.toNat_natCast]
  rw [syA, rqA, wkA (e := s + l.getD i 0), wkA (e := (i : Int) + 1)]
  exact ⟨_, rfl, by rw [Yys]; omega⟩) (by intro s; rw [hf, Xav (by simp)]) a (by simp [Yys])
 rw [e, ho]
theorem Ya3 {l : List Int} (hl : l.length ≤ 64) (h : ∀ x ∈ l, 0 ≤ x ∧ x ≤ 255) : Xb6 l = some (Yys l l.length) := by
 unfold Xb6
 rw [Ytw (f := Xdu l) hl h (fun _ => rfl) 0 (by omega), Xad, Int.zero_add]
theorem Za2 {e : Xim} (h : Xug e) : (sel (decide ((Xaa .i64 ((e.Above.length : Int) + (e.Left.length : Int))) > 0)) (bnd (Xb6 e.Above) fun q5 => bnd (Xb6 e.Left) fun q6 => req ((2 : Int) ≠ 0) <| req ((Xaa .i64 ((e.Above.length : Int) + (e.Left.length : Int))) ≠ 0) <|
  some (Xaa .i64 ((Xaa .i64 ((Xaa .i64 (q5 + q6)) + (Xaa .i64 ((Xaa .i64 ((e.Above.length : Int) + (e.Left.length : Int))).tdiv 2)))).tdiv (Xaa .i64 ((e.Above.length : Int) + (e.Left.length : Int)))))) (some 128)) = Xkl e := by
 obtain ⟨h1, h2, h3, h4, h5, h6⟩ := h
 unfold Xkl
 have r1 := Xwm h3 e.Above.length (Nat.le_refl _)
 have r2 := Xwm h4 e.Left.length (Nat.le_refl _)
 rw [wkA (e := (e.Above.length : Int) + (e.Left.length : Int))]
 by_cases hz : (e.Above.length : Int) + (e.Left.length : Int) = 0
 ·
  rw [snA, Xbk (by simpa using hz)]
 ·
  rw [syA, Xba (by simpa using hz), Ya3 (by omega) h3, Xad, Ya3 (by omega) h4, Xad, rqA, Xaz hz, rqA, Xbp (a := (e.Above.length : Int) + (e.Left.length : Int)) (by omega), wkA (e := ((e.Above.length : Int) + (e.Left.length : Int)) / 2),
   Ytw (f := Xhj e) (by omega) h3 (fun _ => rfl) _ (by omega), Xad, Ytw (f := Xhk e) (by omega) h4 (fun _ => rfl) _ (by omega), Xad, Xaz hz, wkA (e := Yys e.Above e.Above.length + Yys e.Left e.Left.length), wkA (e := Yys e.Above e.Above.length + Yys e.Left e.Left.length + ((e.Above.length : Int) + (e.Left.length : Int)) / 2)]
  congr 3; omega
theorem Yvh (l : List Int) (hl : l.length = 0 ∨ l.length = 8) : ∃ g, Xms l = some g ∧ g.length = 8 ∧ ∀ k : Nat, k < 8 → Xc8 l k = some (g.getD k 0) := by
 unfold Xms
 rcases hl with e | e
 ·
  refine ⟨_, Xbk (by rw [e]; rfl), rfl, fun k hk => ?_⟩
  unfold Xc8
  rw [Xbk (by rw [e]; rfl)]
  congr 1
  obtain rfl | rfl | rfl | rfl | rfl | rfl | rfl | rfl : k = 0 ∨ k = 1 ∨ k = 2 ∨ k = 3 ∨ k = 4 ∨ k = 5 ∨ k = 6 ∨ k = 7 := by omega
  all_goals rfl
 ·
  refine ⟨l, Xba (by rw [e]; rfl), e, fun k hk => ?_⟩
  unfold Xc8
  rw [Xba (by rw [e]; rfl), rqA, Int.toNat_natCast]
theorem Yro (n a b : Int) : Xco n a b = Xb7 n a b := by rw [Xho, Xdd]
def Yct (m mid v : Int) (A B : List Int) (i : Nat) : Int := sel (m == 0) mid (sel (m == 1) (A.getD (i % 8) 0) (sel (m == 2) (B.getD (i / 8) 0) (Xbd (Xaa .i64 (Xaa .i64 (B.getD (i / 8) 0 + A.getD (i % 8) 0) - v)) 0 255)))
theorem Yze {f1 : Int × List Int → Option (Lp (Int × List Int) (List Int))} {f2 : Int × List Int → Int × List Int → Option (Lp (Int × List Int) (List Int))} (g : Nat → Int)
  (h1 : ∀ v, f1 v = sel (decide (v.1 < 8)) (bnd (loop (f2 v) (0, v.2)) fun w => some (.go (Xaa .i64 (v.1 + 1), w))) (some (.done v.2)))
  (h2 : ∀ (r c : Nat) (a s : List Int), r < 8 → c < 8 → s.length = 8 * r + c → f2 ((r : Int), a) ((c : Int), s) = some (.go (((c + 1 : Nat) : Int), s ++ [g (8 * r + c)])))
  (h3 : ∀ (r : Nat) (a s : List Int), f2 ((r : Int), a) (8, s) = some (.done s)) : loop f1 (0, []) = some ((List.range 64).map g) := by
 obtain ⟨o, e, ho⟩ := Xdz (f := f1) 8 (fun r s => s = (List.range (8 * r)).map g) (by
  intro r s hr hs
  obtain ⟨q, eq, hq⟩ := Xno (f := f2 ((r : Int), s)) 8 (fun c s' => s' = (List.range (8 * r + c)).map g) (by
   intro c s' hc hs'
   exact ⟨_, h2 r c s s' hr hc (by rw [hs']; simp), by rw [hs', show 8 * r + (c + 1) = (8 * r + c) + 1 by omega, List.range_succ, List.map_append]; rfl⟩) (fun z _ => h3 r s z) s hs
  rw [h1]
  refine ⟨q, ?_, by rw [hq, show 8 * (r + 1) = 8 * r + 8 by omega]⟩
  simp only
  rw [syA, eq, Xad, wkA]
  rfl) (by intro s; rw [h1, Xav (by simp)]) [] rfl
 rw [e, ho]
theorem Yt3 (m : Int) (hm0 : 0 ≤ m ∧ m ≤ 3) {e : Xim} (h : Xug e) : ∃ g, Xgh m e = some g ∧ Xde m e = some g := by
 have hm : maxLen = 9223372036854775807 := rfl
 obtain ⟨mid, em, m1, m2⟩ := Xx0 h
 obtain ⟨A, eA, hA, fA⟩ := Yvh e.Above h.1
 obtain ⟨B, eB, hB, fB⟩ := Yvh e.Left h.2.1
 obtain ⟨v, ev⟩ : ∃ v, sel (decide (e.Corner < 0)) (some (128 : Int)) (some e.Corner) = some v := by rw [Yyj]; exact ⟨_, rfl⟩
 refine ⟨(List.range 64).map (Yct m mid v A B), ?_, ?_⟩
 ·
  unfold Xgh
  rw [Yi0 h, Xad, Xa0, Xar, Xad, decide_eq_true hm0, Bool.not_true, Xad, Xay, Za2 h, em, Xad, eA, Xad, eB, Xad, ev, Xad, Yze (f1 := Xn5 m mid A B v) (f2 := Xg1 m mid A B v) (Yct m mid v A B) (fun _ => rfl) ?_ ?_, Xad]
  ·
   intro r c a s hr hc hs
   unfold Xg1 Yct
   simp only [Int.toNat_natCast, Xho, Xad]
   rw [syA, wkA (e := (c : Int) + 1), show (8 * r + c) % 8 = c by omega, show (8 * r + c) / 8 = r by omega]
   cases (m == 0) with
   | true => rw [Xa0, Xaz (by simp only [List.length_singleton]; omega), Xad]; rfl
   | false =>
    rw [Xay]
    cases (m == 1) with
    | true => rw [Xa0, rqA, Xaz (by simp only [List.length_singleton]; omega), Xad]; rfl
    | false =>
     rw [Xay]
     cases (m == 2) with
     | true => rw [Xa0, rqA, Xaz (by simp only [List.length_singleton]; omega), Xad]; rfl
     | false => rw [Xay, rqA, rqA, Xaz (by simp only [List.length_singleton]; omega), Xad]; rfl
  ·
   intro r a s
   unfold Xg1
   rw [Xav (by simp)]
 ·
  unfold Xde
  rw [Xj7 h, Xad, Xa0, Xaj, Xad, decide_eq_true hm0, Bool.not_true, Xad, Xay, ev, Xad]
  obtain ⟨o, eo, ho⟩ := Xdz (f := Xdf m e v) 64 (fun i s => s = (List.range i).map (Yct m mid v A B)) (by
   intro i s hi hs
   have hlen : s.length = i := by rw [hs]; simp
   refine ⟨s ++ [Yct m mid v A B i], ?_, by rw [hs, List.range_succ, List.map_append]; rfl⟩
   unfold Xdf Yct
   simp only
   rw [syA, rqA, Xb3 (by omega), show (i : Int) % 8 = ((i % 8 : Nat) : Int) by omega, fA _ (by omega), Xad, rqA, Xbp (by omega), wkA (e := (i : Int) / 8), show (i : Int) / 8 = ((i / 8 : Nat) : Int) by omega, fB _ (by omega), Xad, wkA (e := (i : Int) + 1), em]
   cases (m == 0) with
   | true => rw [Xa0, Xad, Xaz (by simp only [List.length_singleton]; omega), Xad]; rfl
   | false =>
    rw [Xay]
    cases (m == 1) with
    | true => rw [Xa0, Xaz (by simp only [List.length_singleton]; omega), Xad]; rfl
    | false =>
     rw [Xay]
     cases (m == 2) with
     | true => rw [Xa0, Xaz (by simp only [List.length_singleton]; omega), Xad]; rfl
     | false => rw [Xay, Xdd, Xad, Xaz (by simp only [List.length_singleton]; omega), Xad]; rfl) (by intro s; unfold Xdf; rw [Xav (by simp)]) [] rfl
  rw [eo, Xad, ho]
theorem Xso (m : Int) (hm0 : 0 ≤ m ∧ m ≤ 3) {e : Xim} (h : Xug e) : Xgh m e = Xde m e := by
 obtain ⟨g, h1, h2⟩ := Yt3 m hm0 h
 rw [h1, h2]
theorem Ye5 (g b : List Int) (hg : Xbq g = true) (hl : b.length = 64) (hb : inB 10000000 b) : Xmj g b = Xh7 g b := by
 obtain ⟨g1, g2⟩ := Xbm hg
 unfold Xmj Xh7
 rw [Xg9 g hg, Xhw g (by omega), hg, Xrm b 64 10000000 (by omega) (by omega) hb, Xcl b 64 10000000 (by omega) (by omega) (by omega) hb]
 have : Xnd g b = Xfn g b := by
  funext v
  unfold Xnd Xfn
  simp only [Yro, show ((g.length : Nat) : Int) = 64 by omega]
 simp only [Xad, Xa0, Bool.not_true, Xay, this]
theorem Yv0 {s : Xau} (h : Xww s = true) (h1 : s.Kind = 0) : s.Dx = 0 ∧ s.Dy = 0 := by
 unfold Xww at h
 rw [h1] at h
 simp at h
 exact ⟨h.2.1, h.2.2.1⟩
theorem Zc9 {s : Xau} (h : Xww s = true) : (-16 ≤ s.Dx ∧ s.Dx ≤ 16) ∧ (-16 ≤ s.Dy ∧ s.Dy ≤ 16) := by
 have hk := Xv2 h
 obtain h1 | h1 | h1 : s.Kind = 0 ∨ s.Kind = 1 ∨ s.Kind = 2 := by omega
 ·
  obtain ⟨a, b⟩ := Yv0 h h1; omega
 ·
  obtain ⟨a, b, _⟩ := Yck h h1; exact ⟨a, b⟩
 ·
  unfold Xww at h
  rw [h1] at h
  simp at h
  omega
theorem Ywk (s : Xau) (c : Xfs) : Xee s c = some (Xv1 s c) := by
 unfold Xee Xv1
 cases c.Key <;> rfl
structure Zhk (now ref : Pic) (l t x y : Int) (c : Xfs) (q : Xau) : Prop where
 ok : Xdq now = true
 hx : x.tmod 8 = 0
 hy : y.tmod 8 = 0
 h0 : Xdm now x y = true
 hl : 0 ≤ l ∧ l ≤ 256
 ht : 0 ≤ t ∧ t ≤ 256
 hc : Xjc c = true
 hs : q.Levels.length ≤ 1048576
theorem Xud {now ref : Pic} {l t x y : Int} {c : Xfs} {q : Xau} (h : Zhk now ref l t x y c q) (hq : Xww q = true) (hL : Xv1 q c = true) (hr : c.Key = false → Xdq ref = true) : ∃ d, Xed now ref l t c x y q = some (d, true) ∧ Xdi now ref l t c x y q = some (d, true) ∧ Xbq d = true := by
 obtain ⟨ok, hx, hy, h0, hl, ht, hc, hs⟩ := h
 obtain ⟨k1, k2, k3⟩ := Xbj ok
 have h0' := h0
 unfold Xdm at h0'
 rw [decide_eq_true_eq] at h0'
 have dxy := Zc9 hq
 unfold Xdi Xed
 rw [Xha ok hx hy h0, Xad, Xa0, Xaj, Xad, decide_eq_true hl, Xa0, Xaj, Xad, decide_eq_true ht, Xa0, Yhl, Xad, hq, Xa0, Xfl, Xad, hc, Bool.not_true, Xad, Xay]
 rw [Xc4, Xad, ok, Xa0, Xu0 ok hx hy h0, Xad, Xa0, Xar, Xad, decide_eq_true hl, Xa0, Xar, Xad, decide_eq_true ht, Xa0, Xtk q (by omega), Xad, hq, Xa0, Xhc, Xad, hc, Xa0, Ywk, Xad, hL, Xa0]
 by_cases h2 : q.Kind = 2
 ·
  obtain ⟨hm, hlv⟩ := Yix hq h2
  obtain ⟨e, ee, he⟩ := Xu7 ok hx hy h0
  obtain ⟨b, eb, b1, b2⟩ := Xqy q.Levels c hc hlv
  obtain ⟨g, eg, hg⟩ := Xlw q.Mode hm he
  obtain ⟨j, ej, hj⟩ := Xxp g b hg b1 b2
  refine ⟨j, ?_, ?_, hj⟩
  ·
   rw [Xba (b := q.Kind != 2) (by simpa using h2), Xad, Xay, Xba (by rw [h2]; rfl), Xtf q.Levels c hc hlv, eb, Xad, Xba (by rw [h2]; rfl), Xzt ok hx hy h0, ee, Xad, Xso q.Mode hm he, eg, Xad, Ye5 g b hg b1 b2, ej, Xad]
  ·
   rw [Xbk (by simpa using h2), ee, Xad, eb, Xad, eg, Xad, ej, Xad]
 ·
  have hK : c.Key = false := by
   unfold Xv1 at hL
   cases hk : c.Key with
   | false => rfl
   | true => rw [hk] at hL; simp at hL; exact absurd hL h2
  have rok := hr hK
  rw [Xbk (b := q.Kind != 2) (by simpa using h2), Xc4, Xad, rok, Bool.not_true, Xad, Xay]
  rw [Xba (b := q.Kind == 2) (by simpa using h2), hK, Xay, Xci, Xad, rok, Bool.not_true, Xad, Xay]
  rw [wkA (e := l + x), wkA (e := l + x + q.Dx), wkA (e := t + y), wkA (e := t + y + q.Dy), Xh5 rok _ _ (by omega) (by omega), Xad, Xgs rok _ _ (by omega) (by omega), Xad, Xgs rok _ _ (by omega) (by omega)]
  by_cases h3 : q.Kind = 0
  ·
   obtain ⟨z1, z2⟩ := Yv0 hq h3
   rw [Xbk (b := q.Kind == 0) (by simpa using h3), Xbk (b := q.Kind == 0) (by simpa using h3), z1, z2, Int.add_zero, Int.add_zero]
   exact ⟨_, rfl, rfl, Xk9 _ _ _⟩
  ·
   have h1 : q.Kind = 1 := by have := Xv2 hq; omega
   obtain ⟨_, _, hlv⟩ := Yck hq h1
   obtain ⟨b, eb, b1, b2⟩ := Xqy q.Levels c hc hlv
   obtain ⟨j, ej, hj⟩ := Xxp _ b (Xk9 ref (l + x + q.Dx) (t + y + q.Dy)) b1 b2
   rw [Xba (b := q.Kind == 0) (by simpa using h3), Xba (b := q.Kind == 0) (by simpa using h3), Xtf q.Levels c hc hlv, eb, Xad, Xad, Xbk (b := q.Kind == 1) (by simpa using h1), Xad, Ye5 _ b (Xk9 _ _ _) b1 b2, ej, Xad]
   exact ⟨_, rfl, rfl, hj⟩
theorem Zc1 {β : Type} {a b c : Prop} [Decidable a] [Decidable b] [Decidable c] (hb : b) (hc : c) (k : Option β) : req a (req b (req c k)) = req b (req c (req a k)) := by
 rw [Xaz hb, Xaz hc, Xaz hb, Xaz hc]
theorem Zcg {p : Pic} (ok : Xdq p = true) : p.Dots.size ≤ 65536 := by
 obtain ⟨k1, k2, k3⟩ := Xbj ok
 have := Xio k1 k2
 omega
theorem Za5 {p : Pic} {x y : Int} {d : List Int} (hd : Xbq d = true) (hp : p.Dots.size ≤ maxLen) : Ya0 p x y d = Xen p x y d := by
 obtain ⟨d1, d2⟩ := Xbm hd
 unfold Ya0 Xen Yav
 rw [Xaz hp, Xad, Xaz hp]
 have : Xs2 p x y d = Xcc p x y d := by
  funext v
  unfold Xs2 Xcc
  simp only [show ((d.length : Nat) : Int) = 64 by omega]
  exact Ybi (fun _ => Zc1 (by omega) (by omega) _) fun _ => rfl
 rw [this]
theorem Za0 (n : Nat) (x : Int) : ((List.range n).map fun _ => x) = List.replicate n x := by
 apply List.ext_getElem
 ·
  simp
 ·
  intro i h1 h2; simp
theorem Yut (w h : Int) (hw : 1 ≤ w ∧ w ≤ 256) (hh : 1 ≤ h ∧ h ≤ 256) : Xup w h = some ⟨w, h, strOfNums (List.replicate (w * h).toNat 128)⟩ := by
 have ar := Xio hw hh
 unfold Xup
 rw [Xar, Xad, decide_eq_true hw, Xa0, Xar, Xad, decide_eq_true hh, Bool.not_true, Xad, Xay, wkA (e := w * h), rqA]
 rw [Yzi (f := Xnp w h) (w * h).toNat (fun _ => 128) (List.replicate (w * h).toNat 0) (by simp) ?_ ?_, Xad, Za0]
 ·
  intro i s hi hs _
  unfold Xnp
  simp only [List.length_replicate, Int.toNat_natCast]
  rw [wkA (e := w * h), syA, rqA, rqA, wkA]
  rfl
 ·
  intro s hs
  unfold Xnp
  simp only [List.length_replicate]
  rw [wkA (e := w * h), snA]
theorem Yvz (w h : Int) (hw : 1 ≤ w ∧ w ≤ 256) (hh : 1 ≤ h ∧ h ≤ 256) : Xu9 w h = some ⟨w, h, strOfNums (List.replicate (w * h).toNat 128)⟩ := by
 have ar := Xio hw hh
 unfold Xu9
 rw [Xaj, Xad, decide_eq_true hw, Xa0, Xaj, Xad, decide_eq_true hh, Bool.not_true, Xad, Xay, wkA (e := w * h), show w * h = (((w * h).toNat : Nat) : Int) by omega, Xve _ _ (by omega), Xad, Int.toNat_natCast]
theorem Xxc (n : Int) : Xmr n = some (Xu5 n) := by
 unfold Xmr Xu5
 rw [rqA, Xar, Xad, Xdb, Xad, Yrn]
theorem Yz0 {w h : Int} (hw : Xu5 w = true) (hh : Xu5 h = true) (i : Nat) (hi : (i : Int) < w / 8 * (h / 8)) : (8 ≤ w ∧ w ≤ 64) ∧ (8 ≤ h ∧ h ≤ 64) ∧ 1 ≤ w / 8 ∧ w / 8 ≤ 8 ∧ 1 ≤ h / 8 ∧ h / 8 ≤ 8 ∧ 0 ≤ (i : Int) % (w / 8) * 8 ∧ (i : Int) % (w / 8) * 8 ≤ w - 8 ∧ 0 ≤ (i : Int) / (w / 8) * 8 ∧ (i : Int) / (w / 8) * 8 ≤ h - 8 := by
 unfold Xu5 at hw hh
 rw [Bool.and_eq_true, decide_eq_true_eq, decide_eq_true_eq] at hw hh
 rw [Xb3 (by omega)] at hw hh
 have h1 : 1 ≤ w / 8 ∧ w / 8 ≤ 8 := by omega
 have h2 : 1 ≤ h / 8 ∧ h / 8 ≤ 8 := by omega
 have m0 : 0 ≤ (i : Int) % (w / 8) := Int.emod_nonneg _ (by omega)
 have m1 : (i : Int) % (w / 8) < w / 8 := Int.emod_lt_of_pos _ (by omega)
 have d0 : 0 ≤ (i : Int) / (w / 8) := Int.ediv_nonneg (by omega) (by omega)
 have d1 : (i : Int) / (w / 8) < h / 8 := Int.ediv_lt_of_lt_mul (by omega) (by rw [Int.mul_comm]; exact hi)
 exact ⟨hw.2, hh.2, h1.1, h1.2, h2.1, h2.2, by omega, by omega, by omega, by omega⟩
theorem Xgv {w : Int} (hw : Xu5 w = true) : w % 8 = 0 ∧ 8 ≤ w ∧ w ≤ 64 := by
 unfold Xu5 at hw
 rw [Bool.and_eq_true, decide_eq_true_eq, decide_eq_true_eq] at hw
 rw [Xb3 (by omega)] at hw
 exact ⟨hw.1, hw.2⟩
theorem Ym4 (l : List Int) : Xd3 l = some (Xbq l) := by
 unfold Xd3 Xbq
 by_cases h : l.length = 64
 ·
  rw [Xba (by simp only [bne_eq_false_iff_eq]; omega), Yim Ywf l (Xdl l) (by
   intro i hi
   unfold Xdl
   rw [syA, rqA, Xaj, Xad, wkA, Int.toNat_natCast]
   rfl) (by unfold Xdl; rw [snA]), Xad, decide_eq_true h, Bool.true_and]
  cases l.all Ywf <;> rfl
 ·
  rw [Xbk (by simp only [bne_iff_ne, ne_eq]; omega), decide_eq_false h, Bool.false_and]
theorem Zdp (m : Int) (h : 0 ≤ m ∧ m ≤ 3) : ∃ s, Xmo m = some s ∧ Xid m = some s := by
 have e1 : Xid m = some (((strOfNums (ueL m.toNat)).size : Nat) : Int) := by
  unfold Xid Xsi
  rw [Xaj, Xad, decide_eq_true (by omega), Bool.not_true, Xay]
  have : Xcm m = some (strOfNums (ueL m.toNat)) := by
   have := Xck m.toNat (by omega)
   rwa [show ((m.toNat : Nat) : Int) = m by omega] at this
  rw [this, Xad, Xad]
 have e2 : Xmo m = some (((strOfNums (ueL m.toNat)).size : Nat) : Int) := by
  unfold Xmo Xoz
  rw [Xar, Xad, decide_eq_true (by omega), Bool.not_true, Xay]
  have : Xi8 m = some (strOfNums (ueL m.toNat)) := by
   have := Xf3 m.toNat (by omega)
   rwa [show ((m.toNat : Nat) : Int) = m by omega] at this
  rw [this, Xad, Xad]
 exact ⟨_, e2, e1⟩
theorem Yiz {w : List Int} (hw : Xbq w = true) {e : Xim} (h : Xug e) : Xje w e = Xfk w e := by
 have hwl := (Xbm hw).1
 unfold Xje Xfk
 rw [Yi0 h, Xj7 h, Xhw w (by omega), Ym4, hw]
 have : loop (Xiq w e) (0, -1, 0) = loop (Xc2 w e) (0, -1, 0) := by
  refine Xm1 (fun v => 0 ≤ v.2.2 ∧ v.2.2 ≤ 4) ?_ ?_ (by simp)
  ·
   intro ⟨m, c, i⟩ ⟨h1, h2⟩
   simp only at h1 h2
   unfold Xiq Xc2
   simp only
   by_cases hi : i < 4
   ·
    obtain ⟨g, eg, hg⟩ := Xlw i ⟨h1, by omega⟩ h
    obtain ⟨s, e1, e2⟩ := Zdp i ⟨h1, by omega⟩
    rw [Xbo (show i ≤ 3 by omega), Xbo hi, Xso i ⟨h1, by omega⟩ h, eg, Xad, Xad, Xs1 hw hg, Xtb hw hg, Xad, Xad, e1, e2]
   ·
    rw [Xav (show ¬ i ≤ 3 by omega), Xav hi]
  ·
   intro ⟨m, c, i⟩ v' ⟨h1, h2⟩ he
   simp only at h1 h2
   unfold Xc2 at he
   rcases Xj6 he with ⟨hb, he⟩ | ⟨_, he⟩
   ·
    have hi := of_decide_eq_true hb
    simp only at hi
    obtain ⟨q, _, he⟩ := Xa3 he
    injection he with he
    injection he with he
    subst he
    simp only
    rw [wkA]; omega
   ·
    cases he
 simp only [Xad, Xa0, Bool.not_true, Xay, this]
theorem Ynm {p : Pic} {w : List Int} {x y r : Int} (ok : Xdq p = true) (hw : Xbq w = true) (hr : 0 ≤ r ∧ r ≤ 4) (hx : x.tmod 8 = 0) (hy : y.tmod 8 = 0) (h0 : Xdm p x y = true) : Xdr p w x y r = Xiz p w x y r := by
 obtain ⟨k1, k2, k3⟩ := Xbj ok
 have hwl := (Xbm hw).1
 have h0' := h0
 unfold Xdm at h0'
 rw [decide_eq_true_eq] at h0'
 unfold Xdr Xiz
 rw [Xc4, Xad, ok, Xa0, Xhw w (by omega), Xad, hw, Xa0, Xar, Xad, decide_eq_true hr, Xa0, Xn9 ok x y hx hy h0, Xad, Bool.not_true, Xad, Xay]
 rw [Xg9 w hw, Xad, Xa0, Xaj, Xad, decide_eq_true hr, Xa0, Xha ok hx hy h0, Xad, Bool.not_true, Xad, Xay, wkA (e := 0 - r)]
 refine Yy4 ?_ fun _ _ => rfl
 refine Xm1 (fun s => -r ≤ s.2.2.2 ∧ s.2.2.2 ≤ r + 1) ?_ ?_ (by simp only; omega)
 ·
  intro s ⟨g1, g2⟩
  unfold Xfw Xi0
  refine Ybi (fun hs => ?_) fun _ => rfl
  have hs := of_decide_eq_true hs
  rw [wkA (e := 0 - r)]
  refine Yy4 ?_ fun _ _ => rfl
  refine Xm1 (fun v => -r ≤ v.2.2.2 ∧ v.2.2.2 ≤ r + 1) ?_ ?_ (by simp only; omega)
  ·
   intro v ⟨f1, f2⟩
   unfold Xcw Xi1
   refine Ybi (fun hv => ?_) fun _ => rfl
   have hv := of_decide_eq_true hv
   rw [wkA (e := x + v.2.2.2), wkA (e := y + s.2.2.2), Yfc ok, Xt2 ok, Xad, Xad]
   refine Yy4 ?_ fun _ _ => rfl
   refine Ybi (fun _ => rfl) fun _ => ?_
   have hb := Xk9 p (x + v.2.2.2) (y + s.2.2.2)
   rw [Xh5 ok _ _ (by omega) (by omega), Xgs ok _ _ (by omega) (by omega), Xad, Xad, Xtb hw hb, Xs1 hw hb, Xad, Xad, Xxt _ (by omega), Xne _ (by omega), Xad, Xad, Xxt _ (by omega), Xne _ (by omega), Xad]
  ·
   intro v v' ⟨f1, f2⟩ he
   unfold Xi1 at he
   rcases Xj6 he with ⟨hb, he⟩ | ⟨_, he⟩
   ·
    have hi := of_decide_eq_true hb
    obtain ⟨q, _, he⟩ := Xa3 he
    injection he with he
    injection he with he
    subst he
    simp only
    rw [wkA]; omega
   ·
    cases he
 ·
  intro s v' ⟨g1, g2⟩ he
  unfold Xi0 at he
  rcases Xj6 he with ⟨hb, he⟩ | ⟨_, he⟩
  ·
   have hi := of_decide_eq_true hb
   obtain ⟨q, _, he⟩ := Xa3 he
   injection he with he
   injection he with he
   subst he
   simp only
   rw [wkA]; omega
  ·
   cases he
def Xy7 (a b : List Int) : List Int := (List.range 64).map fun i => a.getD i 0 - b.getD i 0
theorem Xpr (a b : List Int) : (Xy7 a b).length = 64 := by simp [Xy7]
theorem Ysy (a b : List Int) {i : Nat} (hi : i < 64) : (Xy7 a b).getD i 0 = a.getD i 0 - b.getD i 0 := Xjy _ hi
theorem Yis {a b : List Int} (ha : Xbq a = true) (hb : Xbq b = true) : inB 255 (Xy7 a b) := by
 intro x hx
 obtain ⟨i, hi, rfl⟩ := List.mem_map.1 hx
 rw [List.mem_range] at hi
 have p := (Xbm ha).2 i hi
 have q := (Xbm hb).2 i hi
 omega
theorem Yu5 {a b : List Int} (ha : Xbq a = true) (hb : Xbq b = true) {f : Int × List Int → Option (Lp (Int × List Int) (List Int))} (hf : ∀ v, f v = sel (decide (v.1 < 64)) (req (0 ≤ v.1 ∧ v.1 < a.length) <| req (0 ≤ v.1 ∧ v.1 < b.length) <| req ((v.2.length + ([Xaa .i64 ((a.getD v.1.toNat 0) - (b.getD v.1.toNat 0))]).length) * 8 ≤ 140737488355328 ∧ v.2.length + ([Xaa .i64 ((a.getD v.1.toNat 0) - (b.getD v.1.toNat 0))]).length ≤ maxLen) <| some (.go (Xaa .i64 (v.1 + 1), (v.2 ++ ([Xaa .i64 ((a.getD v.1.toNat 0) - (b.getD v.1.toNat 0))]))))) (some (.done v.2))) : loop f (0, []) = some (Xy7 a b) := by
 have hm : maxLen = 9223372036854775807 := rfl
 obtain ⟨a1, a2⟩ := Xbm ha
 obtain ⟨b1, b2⟩ := Xbm hb
 have := Zcc (f := f) 64 (fun i => a.getD i 0 - b.getD i 0) [] (by
  intro i hi
  have x := a2 i hi
  have y := b2 i hi
  rw [hf]
  simp only [Int.toNat_natCast]
  rw [syA, rqA, rqA, Xaz (by simp only [List.length_append, List.length_nil, List.length_map, List.length_range, List.length_singleton]; omega), wkA (e := a.getD i 0 - b.getD i 0), wkA (e := (i : Int) + 1)]
  rfl) (by rw [hf, Xav (by simp)])
 rw [List.nil_append] at this
 exact this
theorem Xto {a b : List Int} (ha : Xbq a = true) (hb : Xbq b = true) : Xgt a b = some (Xy7 a b) := by
 have a1 := (Xbm ha).1
 unfold Xgt
 rw [Yu5 ha hb (f := Xj1 a b) (fun v => by unfold Xj1; rw [show ((a.length : Nat) : Int) = 64 by omega]), Xad]
theorem Xma {a b : List Int} (ha : Xbq a = true) (hb : Xbq b = true) : Xik a b = some (Xy7 a b) := by
 have a1 := (Xbm ha).1
 unfold Xik
 rw [Yu5 ha hb (f := Xmb a b) (fun v => by unfold Xmb; rw [show ((a.length : Nat) : Int) = 64 by omega]), Xad]
theorem Xv0 (l : List Int) (hl : l.length ≤ 1000000) : Xk7 l = some (l.all fun x => x == 0) := by
 unfold Xk7
 rw [Yim (fun x => x == 0) l (Xil l) (by
  intro i hi
  unfold Xil
  rw [syA, rqA, Int.toNat_natCast, wkA]
  rfl) (by unfold Xil; rw [snA]), Xad]
 cases l.all (fun x => x == 0) <;> rfl
theorem Zcp {a b : List Int} (ha : Xbq a = true) (hb : Xbq b = true) : (Xo7 a b 64 == 0) = ((Xy7 a b).all fun x => x == 0) := by
 have key : ∀ n : Nat, n ≤ 64 → (Xo7 a b n = 0 ↔ ∀ i, i < n → a.getD i 0 - b.getD i 0 = 0) := by
  intro n
  induction n with
  | zero => intro _; exact ⟨fun _ i hi => by omega, fun _ => rfl⟩
  | succ n ih =>
   intro hn
   have g := Xkm ha hb n (by omega)
   have e : Xo7 a b (n + 1) = Xo7 a b n + Ye8 (a.getD n 0 - b.getD n 0) := rfl
   have ab : 0 ≤ Ye8 (a.getD n 0 - b.getD n 0) ∧ (Ye8 (a.getD n 0 - b.getD n 0) = 0 ↔ a.getD n 0 - b.getD n 0 = 0) := by unfold Ye8; split <;> omega
   rw [e]
   constructor
   ·
    intro h i hi
    rcases Nat.lt_or_ge i n with h1 | h1
    ·
     exact (ih (by omega)).1 (by omega) i h1
    ·
     have : i = n := by omega
     subst this
     exact ab.2.1 (by omega)
   ·
    intro h
    have h1 := (ih (by omega)).2 fun i hi => h i (by omega)
    have h2 := ab.2.2 (h n (by omega))
    omega
 rw [Bool.eq_iff_iff, beq_iff_eq, List.all_eq_true, key 64 (by omega)]
 constructor
 ·
  intro h x hx
  obtain ⟨i, hi, rfl⟩ := List.mem_map.1 hx
  rw [List.mem_range] at hi
  rw [beq_iff_eq]; exact h i hi
 ·
  intro h i hi
  have := h ((Xy7 a b).getD i 0) (by rw [Xd8 _ i (by rw [Xpr]; exact hi)]; exact List.getElem_mem _)
  rw [beq_iff_eq, Ysy a b hi] at this
  exact this
theorem Yy1 (l : List Int) (hl : l.length = 64) : Xbf l 64 0 0 = some (l.all fun x => x == 0) := by
 rw [Xlj l 64 0 0 (by omega), show ((l.length : Int) == 64) = true by rw [beq_iff_eq]; omega, Bool.and_true]
 congr 2
 funext x
 rw [Bool.eq_iff_iff, decide_eq_true_eq, beq_iff_eq]; omega
structure Zfj (now ref : Pic) (w : List Int) (x y : Int) (c : Xfs) (r : Int) : Prop where
 ok : Xdq now = true
 hx : x.tmod 8 = 0
 hy : y.tmod 8 = 0
 h0 : Xdm now x y = true
 hw : Xbq w = true
 hc : Xjc c = true
 hr : 0 ≤ r ∧ r ≤ 4
 hk : c.Key = false → Xdq ref = true ∧ ref.Wide = now.Wide ∧ ref.High = now.High
inductive Xte (now ref : Pic) (w : List Int) (x y : Int) (c : Xfs) (r : Int) : Xau → Prop
 | same (hK : c.Key = false) (h : ∀ i : Nat, i < 64 → w.getD i 0 = (Xrl ref x y 64).getD i 0) : Xte now ref w x y c r ⟨0, 0, 0, 0, []⟩
 | still (hK : c.Key = false) (l : List Int) (h : Xch (Xy7 w (Xrl ref x y 64)) c = some (l, true)) (hl : Yiu l = true) (hz : ∀ i : Nat, i < 64 → l.getD i 0 = 0) : Xte now ref w x y c r ⟨0, 0, 0, 0, []⟩
 | move (hK : c.Key = false) (dx dy : Int) (hdx : -r ≤ dx ∧ dx ≤ r) (hdy : -r ≤ dy ∧ dy ≤ r) (hh : Xdm ref (x + dx) (y + dy) = true) (l : List Int) (h : Xch (Xy7 w (Xrl ref (x + dx) (y + dy) 64)) c = some (l, true)) (hl : Yiu l = true) (hn : ¬ ∀ i : Nat, i < 64 → w.getD i 0 = (Xrl ref x y 64).getD i 0) : Xte now ref w x y c r ⟨1, 0, dx, dy, l⟩
 | guess (e : Xim) (he : Xfa now x y = some (e, true)) (hp : Xug e) (m : Int) (hm : 0 ≤ m ∧ m ≤ 3) (g : List Int) (hg : Xde m e = some g) (hd : Xbq g = true) (l : List Int) (h : Xch (Xy7 w g) c = some (l, true)) (hl : Yiu l = true) (hn : c.Key = false → ¬ ∀ i : Nat, i < 64 → w.getD i 0 = (Xrl ref x y 64).getD i 0) : Xte now ref w x y c r ⟨2, m, 0, 0, l⟩
theorem Xte.ok {now ref : Pic} {w : List Int} {x y : Int} {c : Xfs} {r : Int} {q : Xau} (hr : 0 ≤ r ∧ r ≤ 4) (h : Xte now ref w x y c r q) : Xww q = true ∧ Xv1 q c = true ∧ q.Levels.length ≤ 64 := by
 cases h with
 | same hK _ => exact ⟨rfl, by unfold Xv1; rw [hK]; rfl, by simp⟩
 | still hK l _ _ _ => exact ⟨rfl, by unfold Xv1; rw [hK]; rfl, by simp⟩
 | move hK dx dy hdx hdy hh l h hl hn => exact ⟨Zbm (by omega) (by omega) hl, by unfold Xv1; rw [hK]; rfl, by simp only; have := (Yle hl).1; omega⟩
 | guess e he hp m hm g hg hd l h hl hn => exact ⟨Yzu hm hl, by unfold Xv1; simp, by simp only; have := (Yle hl).1; omega⟩
theorem Yyy {l : List Int} (hl : l.length = 64) : (l.all fun x => x == 0) = true ↔ ∀ i : Nat, i < 64 → l.getD i 0 = 0 := by
 rw [List.all_eq_true]
 constructor
 ·
  intro h i hi
  have := h (l.getD i 0) (by rw [Xd8 l i (by omega)]; exact List.getElem_mem _)
  rwa [beq_iff_eq] at this
 ·
  intro h x hx
  obtain ⟨i, hi, rfl⟩ := List.getElem_of_mem hx
  rw [beq_iff_eq, ← Xd8 l i hi 0]
  exact h i (by omega)
theorem Yrg {p : Pic} {w : List Int} {x y r : Int} (ok : Xdq p = true) (hw : Xbq w = true) (hr : 0 ≤ r ∧ r ≤ 4) (hx : x.tmod 8 = 0) (hy : y.tmod 8 = 0) (h0 : Xdm p x y = true) :
  ∃ b, Xdr p w x y r = some b ∧ Xiz p w x y r = some b ∧ (-r ≤ b.1 ∧ b.1 ≤ r) ∧ (-r ≤ b.2.1 ∧ b.2.1 ≤ r) ∧ Xdm p (x + b.1) (y + b.2.1) = true := by
 obtain ⟨b, e, h1, h2, h3, _⟩ := Yft ok hw hr hx hy h0
 exact ⟨b, e, by rw [← Ynm ok hw hr hx hy h0]; exact e, h1, h2, h3⟩
theorem Xsq {now ref : Pic} {w : List Int} {x y : Int} {c : Xfs} {r : Int} (H : Zfj now ref w x y c r) : ∃ q d, Xfg now ref w x y c r = some (q, d, true) ∧ Xfq now ref w x y c r = some (q, d, true) ∧ Xte now ref w x y c r q ∧ Xed now ref 0 0 c x y q = some (d, true) ∧ Xbq d = true := by
 obtain ⟨ok, hx, hy, h0, hw, hc, hr, hk⟩ := H
 have hwl := (Xbm hw).1
 obtain ⟨e, ee, he⟩ := Xu7 ok hx hy h0
 obtain ⟨m, co, eb, hm⟩ := Yd8 hw he
 obtain ⟨g, eg, hg⟩ := Xlw m hm he
 obtain ⟨l, el, hl⟩ := Xty (Xy7 w g) c hc (Xpr w g) (Yis hw hg)
 have hh := h0
 unfold Xdm at hh
 rw [decide_eq_true_eq] at hh
 obtain ⟨k1, k2, k3⟩ := Xbj ok
 -- the square
 have main : ∃ q, Xte now ref w x y c r q ∧ Xjx now ref w x y c r = some q ∧
   (sel (!c.Key) (bnd (Xbu ref x y) fun q15 => bnd (Xqo w q15) fun q16 => sel (q16 == 0) (some ((0 : Int), (0 : Int), (0 : Int), (0 : Int), ([] : List Int))) (bnd (Xdr ref w x y r) fun q17 => sel (decide (q17.2.2 ≤ co)) (bnd (Xbu ref (Xaa .i64 (x + q17.1)) (Xaa .i64 (y + q17.2.1))) fun q18 => bnd (Xgt w q18) fun q19 => bnd (Xgq q19 c) fun q20 =>
    bnd (sel (q17.1 == 0) (sel (q17.2.1 == 0) (bnd (Xbf q20.1 64 0 0) fun q22 => some q22) (some false)) (some false)) fun v21 => sel v21 (some (0, 0, 0, 0, [])) (some (1, 0, q17.1, q17.2.1, q20.1))) (some (2, m, 0, 0, l)))) (some (2, m, 0, 0, l))) = some (q.Kind, q.Mode, q.Dx, q.Dy, q.Levels) := by
  unfold Xjx
  cases hK : c.Key with
  | true =>
   refine ⟨⟨2, m, 0, 0, l⟩, .guess e ee he m hm g eg hg l el hl (fun h => by rw [hK] at h; cases h), ?_, rfl⟩
   rw [Xa0, Xad, Xay, ee, Xad, eb, Xad, Bool.not_true]
   simp only [Zas, Xay, eg, Xad, Xma hw hg, el]
  | false =>
   obtain ⟨rok, rw', rh⟩ := hk hK
   have hb := Xk9 ref x y
   have r0 : Xdm ref x y = true := by unfold Xdm; rw [decide_eq_true_eq, rw', rh]; exact hh
   have gz := Zcp hw hb
   have lz := Yyy (Xpr w (Xrl ref x y 64))
   rw [Bool.not_false, Xa0, Xay, Xgs rok x y (by omega) (by omega), Xad, Xs1 hw hb, Xad, Xh5 rok x y (by omega) (by omega), Xad, Xma hw hb, Xad, Xv0 _ (by rw [Xpr]; omega), Xad, Xad, gz]
   cases hz : ((Xy7 w (Xrl ref x y 64)).all fun x => x == 0) with
   | true =>
    refine ⟨⟨0, 0, 0, 0, []⟩, .same hK fun i hi => ?_, rfl, rfl⟩
    have := lz.1 hz i hi
    rw [Ysy _ _ hi] at this; omega
   | false =>
    have hne : ¬ ∀ i : Nat, i < 64 → w.getD i 0 = (Xrl ref x y 64).getD i 0 := fun hall => by
     have := lz.2 fun i hi => by rw [Ysy _ _ hi, hall i hi]; omega
     rw [hz] at this; cases this
    obtain ⟨b, bi, bs, b1, b2, b3⟩ := Yrg rok hw hr hx hy r0
    rw [Xay, Xay, ee, Xad, eb, Xad, bi, Xad]
    simp only [Zas, Xa0, bs, Xad]
    by_cases hco : b.2.2 ≤ co
    ·
     have hb2 := Xk9 ref (x + b.1) (y + b.2.1)
     obtain ⟨l2, el2, hl2⟩ := Xty (Xy7 w (Xrl ref (x + b.1) (y + b.2.1) 64)) c hc (Xpr _ _) (Yis hw hb2)
     have hl2n := (Yle hl2).1
     rw [Xbo hco, Xbo hco, wkA (e := x + b.1), wkA (e := y + b.2.1), Xh5 rok _ _ (by omega) (by omega), Xgs rok _ _ (by omega) (by omega), Xad, Xad, Xto hw hb2, Xma hw hb2, Xad, Xad, Xwx _ c hc (Xpr _ _) (Yis hw hb2), el2, Xad, Xad, Yy1 l2 hl2n, Xad, Xv0 l2 (by omega), Xad]
     simp only [Xdb, Xad]
     cases hst : (b.1 == 0 && (b.2.1 == 0 && l2.all fun x => x == 0)) with
     | true =>
      simp only [Bool.and_eq_true, beq_iff_eq] at hst
      obtain ⟨z1, z2, z3⟩ := hst
      rw [z1, z2, Int.add_zero, Int.add_zero] at el2
      exact ⟨⟨0, 0, 0, 0, []⟩, .still hK l2 el2 hl2 ((Yyy hl2n).1 z3), rfl, rfl⟩
     | false => exact ⟨⟨1, 0, b.1, b.2.1, l2⟩, .move hK b.1 b.2.1 b1 b2 b3 l2 el2 hl2 hne, rfl, rfl⟩
    ·
     rw [Xav hco, Xav hco]
     refine ⟨⟨2, m, 0, 0, l⟩, .guess e ee he m hm g eg hg l el hl (fun _ => hne), ?_, rfl⟩
     simp only [eg, Xad, Xma hw hg, el]
 obtain ⟨q, hq, es, ei⟩ := main
 obtain ⟨q1, q2, q3⟩ := hq.ok hr
 obtain ⟨d, di, ds, hd⟩ := Xud (now := now) (ref := ref) (l := 0) (t := 0) (x := x) (y := y) (c := c) (q := q) ⟨ok, hx, hy, h0, by omega, by omega, hc, by omega⟩ q1 q2 (fun h => (hk h).1)
 refine ⟨q, d, ?_, ?_, hq, di, hd⟩
 ·
  unfold Xfg
  have hl7 : (sel c.Key (some false) (bnd (Xcx ref) fun q8 => sel q8 (sel (ref.Wide != now.Wide) (some true) (some (ref.High != now.High))) (some true))) = some false := by
   cases hK : c.Key with
   | true => rfl
   | false =>
    obtain ⟨a1, a2, a3⟩ := hk hK
    rw [Xay, Xc4, Xad, a1, a2, a3, Xa0, bne_self_eq_false, Xay, bne_self_eq_false]
  rw [Xc4, Xad, ok, Xa0, Xu0 ok hx hy h0, Xad, Xa0, Xhw w (by omega), Xad, hw, Xa0, Xhc, Xad, hc, Xa0, Xar, Xad, decide_eq_true hr, Bool.not_true, Xad, Xay, hl7, Xad, Xay, Xzt ok hx hy h0, ee, Xad, Yiz hw he, eb, Xad, Xso m hm he, eg, Xad, Xto hw hg, Xad, Xwx _ c hc (Xpr _ _) (Yis hw hg), el, Xad]
  simp only
  rw [ei, Xad]
  simp only
  rw [show (⟨q.Kind, q.Mode, q.Dx, q.Dy, q.Levels⟩ : Xau) = q from rfl, di, Xad]
  rfl
 ·
  unfold Xfq
  have hl7 : (sel c.Key (some false) (bnd (Xgm now ref) fun q6 => some (!q6))) = some false := by
   cases hK : c.Key with
   | true => rfl
   | false =>
    obtain ⟨a1, a2, a3⟩ := hk hK
    rw [Xay, Xvy, Xad, Yxy ok a1 a2 a3]; rfl
  rw [Xha ok hx hy h0, Xad, Xa0, Xg9 w hw, Xad, Xa0, Xfl, Xad, hc, Xa0, Xaj, Xad, decide_eq_true hr, Xa0, hl7, Xad, Xay, es, Xad, ds, Xad]
theorem Ybb {W x y : Int} (hx : 0 ≤ x ∧ x < W) : (y * W + x) / W = y ∧ (y * W + x) % W = x := by
 have hW : 0 < W := by omega
 constructor
 ·
  rw [Int.add_comm, Int.add_mul_ediv_right _ _ (by omega), Int.ediv_eq_zero_of_lt hx.1 hx.2, Int.zero_add]
 ·
  rw [Int.add_comm, Int.add_mul_emod_self_right, Int.emod_eq_of_lt hx.1 hx.2]
theorem Ybc {W H x y : Int} (hx : 0 ≤ x ∧ x < W) (hy : 0 ≤ y ∧ y < H) : 0 ≤ y * W + x ∧ y * W + x < W * H := by
 have a : 0 ≤ y * W := Int.mul_nonneg hy.1 (by omega)
 have b : y * W ≤ (H - 1) * W := Int.mul_le_mul_of_nonneg_right (by omega) (by omega)
 have c : (H - 1) * W = W * H - W := by rw [Int.sub_mul, Int.one_mul, Int.mul_comm]
 omega
theorem Yqx {n m : Int} (h : 0 ≤ n ∧ n ≤ m) : Xbd n 0 m = n := by
 unfold Xbd
 repeat' split
 all_goals omega
theorem Yio {p : Pic} {x y : Int} (hx : 0 ≤ x ∧ x < p.Wide) (hy : 0 ≤ y ∧ y < p.High) : Xss p x y = Yqy p.Dots (y * p.Wide + x) := by
 unfold Xss
 rw [Yqx (by omega), Yqx (by omega)]
theorem Xy8 (s : ByteArray) (k : Nat) (hk : k < s.size) : (Xa8 s).getD k 0 = Yqy s k := by
 have := Yub (Xa8 s) (by intro x hx; obtain ⟨b, _, rfl⟩ := List.mem_map.1 hx; have := b.toNat_lt; omega) k (by rw [Xdw]; exact hk)
 rw [Yez] at this
 exact this.symm
theorem Yy5 (s : ByteArray) : Ywc (Xa8 s) := fun x hx => by
 obtain ⟨b, _, rfl⟩ := List.mem_map.1 hx
 have := b.toNat_lt
 omega
theorem Zae {l : List Int} (h : Ywc l) (i : Nat) {y : Int} (hy : 0 ≤ y ∧ y ≤ 255) : Ywc (l.set i y) := fun x hx => by
 rcases List.mem_or_eq_of_mem_set hx with hx | hx
 ·
  exact h x hx
 ·
  rw [hx]; exact hy
theorem Zf0 {p q : Pic} (hp : Xdq p = true) (hq : Xdq q = true) (hw : p.Wide = q.Wide) (hh : p.High = q.High) (h : ∀ x y : Int, 0 ≤ x ∧ x < p.Wide → 0 ≤ y ∧ y < p.High → Xss p x y = Xss q x y) : p = q := by
 obtain ⟨p1, p2, p3⟩ := Xbj hp
 obtain ⟨q1, q2, q3⟩ := Xbj hq
 have hd : p.Dots = q.Dots := by
  rw [← Yez p.Dots, ← Yez q.Dots]
  congr 1
  have hsz : p.Dots.size = q.Dots.size := by
   have : (p.Dots.size : Int) = q.Dots.size := by rw [p3, q3, hw, hh]
   omega
  refine Yd0 (n := p.Dots.size) (Xdw _) ((Xdw _).trans hsz.symm) fun k hk => ?_
  have hkW : (k : Int) < p.Wide * p.High := by omega
  have m0 := Int.emod_nonneg (k : Int) (show p.Wide ≠ 0 by omega)
  have m1 := Int.emod_lt_of_pos (k : Int) (show 0 < p.Wide by omega)
  have d0 : 0 ≤ (k : Int) / p.Wide := Int.ediv_nonneg (by omega) (by omega)
  have d1 : (k : Int) / p.Wide < p.High := Int.ediv_lt_of_lt_mul (by omega) (by rw [Int.mul_comm]; exact hkW)
  have e := h ((k : Int) % p.Wide) ((k : Int) / p.Wide) ⟨m0, m1⟩ ⟨d0, d1⟩
  rw [Yio ⟨m0, m1⟩ ⟨d0, d1⟩, Yio (by rw [← hw]; exact ⟨m0, m1⟩) (by rw [← hh]; exact ⟨d0, d1⟩), ← hw, Int.ediv_mul_add_emod] at e
  rw [Xy8 _ k hk, Xy8 _ k (by omega)]
  exact e
 cases p; cases q
 simp only at hw hh hd
 rw [hw, hh, hd]
def Zap (x y X Y : Int) : Bool := decide (x ≤ X ∧ X < x + 8 ∧ y ≤ Y ∧ Y < y + 8)
theorem Zcz {p : Pic} {x y : Int} {d : List Int} (ok : Xdq p = true) (h0 : Xdm p x y = true) (hd : Xbq d = true) : ∃ p', Xen p x y d = some p' ∧ Xdq p' = true ∧ p'.Wide = p.Wide ∧ p'.High = p.High ∧ ∀ X Y : Int, 0 ≤ X ∧ X < p.Wide → 0 ≤ Y ∧ Y < p.High → Xss p' X Y = if Zap x y X Y = true then d.getD ((Y - y) * 8 + (X - x)).toNat 0 else Xss p X Y := by
 obtain ⟨k1, k2, k3⟩ := Xbj ok
 have ar := Xio k1 k2
 have hm : maxLen = 9223372036854775807 := rfl
 obtain ⟨d1, d2⟩ := Xbm hd
 have h0' := h0
 unfold Xdm at h0'
 rw [decide_eq_true_eq] at h0'
 have hn := Xdw p.Dots
 unfold Xen
 rw [rqA]
 obtain ⟨o, e, o1, o2, o3⟩ := Xno (f := Xcc p x y d) 64 (fun i s => s.length = p.Dots.size ∧ Ywc s ∧ ∀ X Y : Int, 0 ≤ X ∧ X < p.Wide → 0 ≤ Y ∧ Y < p.High → s.getD (Y * p.Wide + X).toNat 0 = if Zap x y X Y = true ∧ ((Y - y) * 8 + (X - x)).toNat < i then d.getD ((Y - y) * 8 + (X - x)).toNat 0 else (Xa8 p.Dots).getD (Y * p.Wide + X).toNat 0) (by
  intro i s hi ⟨g1, g2, g3⟩
  have di := d2 i hi
  have hxx : 0 ≤ x + (i : Int) % 8 ∧ x + (i : Int) % 8 < p.Wide := by omega
  have hyy : 0 ≤ y + (i : Int) / 8 ∧ y + (i : Int) / 8 < p.High := by omega
  have pin := Ybc hxx hyy
  have b1 : 0 ≤ (y + (i : Int) / 8) * p.Wide := Int.mul_nonneg (by omega) (by omega)
  have b2 : (y + (i : Int) / 8) * p.Wide ≤ (p.High - 1) * p.Wide := Int.mul_le_mul_of_nonneg_right (by omega) (by omega)
  have b3 : (p.High - 1) * p.Wide = p.Wide * p.High - p.Wide := by rw [Int.sub_mul, Int.one_mul, Int.mul_comm]
  unfold Xcc
  simp only
  rw [syA, rqA, rqA, rqA, Xbp (by omega), Xb3 (by omega), wkA (e := (i : Int) / 8), wkA (e := y + (i : Int) / 8), wkA (e := (y + (i : Int) / 8) * p.Wide), wkA (e := (y + (i : Int) / 8) * p.Wide + x), wkA (e := (y + (i : Int) / 8) * p.Wide + x + (i : Int) % 8), rqA, rqA, wkA (e := (i : Int) + 1), Int.toNat_natCast, w8 di.1 di.2]
  refine ⟨_, rfl, by rw [List.length_set]; exact g1, Zae g2 _ di, fun X Y hX hY => ?_⟩
  have pXY := Ybc hX hY
  rw [Xfe _ _ _ _ (by omega)]
  by_cases heq : ((y + (i : Int) / 8) * p.Wide + x + (i : Int) % 8).toNat = (Y * p.Wide + X).toNat
  ·
   rw [if_pos heq]
   have heq' : (y + (i : Int) / 8) * p.Wide + (x + (i : Int) % 8) = Y * p.Wide + X := by omega
   have q1 := Ybb (y := y + (i : Int) / 8) hxx
   have q2 := Ybb (y := Y) hX
   rw [heq'] at q1
   have eY : Y = y + (i : Int) / 8 := q2.1.symm.trans q1.1
   have eX : X = x + (i : Int) % 8 := q2.2.symm.trans q1.2
   have hin : Zap x y X Y = true := by unfold Zap; rw [decide_eq_true_eq]; omega
   have hpl : ((Y - y) * 8 + (X - x)).toNat = i := by omega
   rw [if_pos ⟨hin, by omega⟩, hpl]
  ·
   rw [if_neg heq, g3 X Y hX hY]
   by_cases hin : Zap x y X Y = true
   ·
    have hin' := hin
    unfold Zap at hin'
    rw [decide_eq_true_eq] at hin'
    by_cases hlt : ((Y - y) * 8 + (X - x)).toNat < i
    ·
     rw [if_pos ⟨hin, hlt⟩, if_pos ⟨hin, by omega⟩]
    ·
     have hne : ((Y - y) * 8 + (X - x)).toNat ≠ i := fun h => heq (by
      have eY : Y = y + (i : Int) / 8 := by omega
      have eX : X = x + (i : Int) % 8 := by omega
      rw [eY, eX]; congr 1; omega)
     rw [if_neg (fun h => hlt h.2), if_neg (fun h => by omega)]
   ·
    rw [if_neg (fun h => hin h.1), if_neg (fun h => hin h.1)]) (fun s _ => by unfold Xcc; rw [Xav (by simp)]) (Xa8 p.Dots) ⟨hn, Yy5 _, fun X Y hX hY => by rw [if_neg (fun h => by omega)]⟩
 refine ⟨_, (Xip e).trans rfl, Ys5 k1 k2 (by simp only; rw [strOfNums_size]; omega), rfl, rfl, fun X Y hX hY => ?_⟩
 have pXY := Ybc hX hY
 rw [Yio (p := ⟨p.Wide, p.High, strOfNums o⟩) hX hY, Yio hX hY]
 simp only
 have e1 : Yqy (strOfNums o) (Y * p.Wide + X) = o.getD (Y * p.Wide + X).toNat 0 := by
  have := Yub o o2 (Y * p.Wide + X).toNat (by omega)
  rwa [show (((Y * p.Wide + X).toNat : Nat) : Int) = Y * p.Wide + X by omega] at this
 have e2 : Yqy p.Dots (Y * p.Wide + X) = (Xa8 p.Dots).getD (Y * p.Wide + X).toNat 0 := by
  rw [Xy8 _ _ (by omega), show (((Y * p.Wide + X).toNat : Nat) : Int) = Y * p.Wide + X by omega]
 rw [e1, e2, o3 X Y hX hY]
 by_cases hin : Zap x y X Y = true
 ·
  have hin' := hin
  unfold Zap at hin'
  rw [decide_eq_true_eq] at hin'
  rw [if_pos ⟨hin, by omega⟩, if_pos hin]
 ·
  rw [if_neg (fun h => hin h.1), if_neg hin]
def tX (W : Int) (i : Nat) : Int := (i : Int) % (W / 8) * 8
def tY (W : Int) (i : Nat) : Int := (i : Int) / (W / 8) * 8
structure Zb8 (src ref : Pic) (c : Xfs) (r : Int) : Prop where
 ok : Xdq src = true
 hw : Xu5 src.Wide = true
 hh : Xu5 src.High = true
 hc : Xjc c = true
 hr : 0 ≤ r ∧ r ≤ 4
 hk : c.Key = false → Xdq ref = true ∧ ref.Wide = src.Wide ∧ ref.High = src.High
inductive Xn4 (src ref : Pic) (c : Xfs) (r : Int) : Nat → List Xau → Pic → Prop
 | zero : Xn4 src ref c r 0 [] ⟨src.Wide, src.High, strOfNums (List.replicate (src.Wide * src.High).toNat 128)⟩
 | succ {n : Nat} {l : List Xau} {now : Pic} (h : Xn4 src ref c r n l now) (hn : (n : Int) < src.Wide / 8 * (src.High / 8)) (q : Xau) (d : List Int) (now' : Pic)
   (hi : Xfg now ref (Xrl src (tX src.Wide n) (tY src.Wide n) 64) (tX src.Wide n) (tY src.Wide n) c r = some (q, d, true)) (hs : Xfq now ref (Xrl src (tX src.Wide n) (tY src.Wide n) 64) (tX src.Wide n) (tY src.Wide n) c r = some (q, d, true)) (hq : Xte now ref (Xrl src (tX src.Wide n) (tY src.Wide n) 64) (tX src.Wide n) (tY src.Wide n) c r q)
   (hd : Xed now ref 0 0 c (tX src.Wide n) (tY src.Wide n) q = some (d, true)) (hp : Xen now (tX src.Wide n) (tY src.Wide n) d = some now') : Xn4 src ref c r (n + 1) (l ++ [q]) now'
theorem Zek {w h : Int} (hw : 1 ≤ w ∧ w ≤ 256) (hh : 1 ≤ h ∧ h ≤ 256) : Xdq ⟨w, h, strOfNums (List.replicate (w * h).toNat 128)⟩ = true := by
 have ar := Xio hw hh
 refine Ys5 hw hh ?_
 simp only
 rw [strOfNums_size, List.length_replicate]; omega
theorem Yw0 {src ref now : Pic} {c : Xfs} {r : Int} (H : Zb8 src ref c r) {n : Nat} (hn : (n : Int) < src.Wide / 8 * (src.High / 8)) (ok : Xdq now = true) (hw : now.Wide = src.Wide) (hh : now.High = src.High) : Zfj now ref (Xrl src (tX src.Wide n) (tY src.Wide n) 64) (tX src.Wide n) (tY src.Wide n) c r := by
 obtain ⟨p1, p2, p3, p4, p5, p6, p7, p8, p9, p10⟩ := Yz0 H.hw H.hh n hn
 refine ⟨ok, by unfold tX; rw [Xb3 p7]; omega, by unfold tY; rw [Xb3 p9]; omega, by unfold Xdm tX tY; rw [decide_eq_true_eq, hw, hh]; exact ⟨p7, p8, p9, p10⟩, Xk9 _ _ _, H.hc, H.hr, fun hK => ?_⟩
 obtain ⟨a, b, c⟩ := H.hk hK
 exact ⟨a, by rw [b, hw], by rw [c, hh]⟩
theorem Xn4.pic {src ref : Pic} {c : Xfs} {r : Int} (H : Zb8 src ref c r) {n : Nat} {l : List Xau} {now : Pic} (h : Xn4 src ref c r n l now) : Xdq now = true ∧ now.Wide = src.Wide ∧ now.High = src.High ∧ l.length = n ∧ (∀ q ∈ l, Xww q = true ∧ Xv1 q c = true ∧ q.Levels.length ≤ 64) := by
 induction h with
 | zero =>
  obtain ⟨k1, k2, k3⟩ := Xbj H.ok
  exact ⟨Zek k1 k2, rfl, rfl, rfl, fun q hq => by simp at hq⟩
 | succ h hn q d now' hi hs hq hd hp ih =>
  obtain ⟨ok, w, hh, hl, hall⟩ := ih
  have SF := Yw0 H hn ok w hh
  obtain ⟨q2, d2, e2, _, _, _, hd64⟩ := Xsq SF
  rw [hi] at e2
  injection e2 with e2
  injection e2 with e2 e3
  injection e3 with e3 _
  subst e2; subst e3
  obtain ⟨p', ep, p1, p2, p3⟩ := Xx3 ok SF.h0 hd64
  rw [hp] at ep
  injection ep with ep
  subst ep
  refine ⟨p1, by rw [p2, w], by rw [p3, hh], by rw [List.length_append, hl]; rfl, fun x hx => ?_⟩
  rcases List.mem_append.1 hx with hx | hx
  ·
   exact hall x hx
  ·
   rw [List.mem_singleton.1 hx]; exact hq.ok H.hr
theorem Xn4.step {src ref : Pic} {c : Xfs} {r : Int} (H : Zb8 src ref c r) {n : Nat} {l : List Xau} {now : Pic} (h : Xn4 src ref c r n l now) (hn : (n : Int) < src.Wide / 8 * (src.High / 8)) : ∃ q d now', Xfg now ref (Xrl src (tX src.Wide n) (tY src.Wide n) 64) (tX src.Wide n) (tY src.Wide n) c r = some (q, d, true) ∧ Xfq now ref (Xrl src (tX src.Wide n) (tY src.Wide n) 64) (tX src.Wide n) (tY src.Wide n) c r = some (q, d, true) ∧ Xbq d = true ∧ Xen now (tX src.Wide n) (tY src.Wide n) d = some now' ∧ Xn4 src ref c r (n + 1) (l ++ [q]) now' := by
 obtain ⟨ok, w, hh, hl, _⟩ := h.pic H
 have SF := Yw0 H hn ok w hh
 obtain ⟨q, d, e1, e2, hq, ed, hd64⟩ := Xsq SF
 obtain ⟨p', ep, p1, p2, p3⟩ := Xx3 ok SF.h0 hd64
 exact ⟨q, d, p', e1, e2, hd64, ep, .succ h hn q d p' e1 e2 hq ed ep⟩
theorem Zgi {W : Int} (hW : Xu5 W = true) (a b : Nat) (hb : (b : Int) < W / 8) : tX W ((W / 8).toNat * a + b) = 8 * b ∧ tY W ((W / 8).toNat * a + b) = 8 * a := by
 have s := Xgv hW
 have e : (((W / 8).toNat * a + b : Nat) : Int) = (a : Int) * (W / 8) + b := by
  rw [Int.natCast_add, Int.natCast_mul, show (((W / 8).toNat : Nat) : Int) = W / 8 by omega, Int.mul_comm]
 have d := Ybb (W := W / 8) (x := b) (y := a) ⟨by omega, hb⟩
 unfold tX tY
 rw [e, d.1, d.2]
 omega
theorem Zd3 {W H : Int} (hW : Xu5 W = true) (a b : Nat) (hb : (b : Int) < W / 8) (ha : (a : Int) < H / 8) : (((W / 8).toNat * a + b : Nat) : Int) < W / 8 * (H / 8) := by
 have s := Xgv hW
 have p := Ybc (W := W / 8) (H := H / 8) (x := b) (y := a) ⟨by omega, hb⟩ ⟨by omega, ha⟩
 rw [Int.natCast_add, Int.natCast_mul, show (((W / 8).toNat : Nat) : Int) = W / 8 by omega, Int.mul_comm (W / 8)]
 exact p.2
theorem Xn4.dots {src ref : Pic} {c : Xfs} {r : Int} (H : Zb8 src ref c r) (P : Int → Int → Int → Prop)
  (hP : ∀ (n : Nat) (now : Pic) (q : Xau) (d : List Int), (n : Int) < src.Wide / 8 * (src.High / 8) → Zfj now ref (Xrl src (tX src.Wide n) (tY src.Wide n) 64) (tX src.Wide n) (tY src.Wide n) c r → Xte now ref (Xrl src (tX src.Wide n) (tY src.Wide n) 64) (tX src.Wide n) (tY src.Wide n) c r q → Xdi now ref 0 0 c (tX src.Wide n) (tY src.Wide n) q = some (d, true) → ∀ i : Nat, i < 64 → P (tX src.Wide n + ((i % 8 : Nat) : Int)) (tY src.Wide n + ((i / 8 : Nat) : Int)) (d.getD i 0))
  {n : Nat} {l : List Xau} {now : Pic} (h : Xn4 src ref c r n l now) : ∀ X Y : Int, 0 ≤ X ∧ X < src.Wide → 0 ≤ Y ∧ Y < src.High → Y / 8 * (src.Wide / 8) + X / 8 < n → P X Y (Xss now X Y) := by
 induction h with
 | zero =>
  intro X Y hX hY hlt
  have := Int.mul_nonneg (show 0 ≤ Y / 8 by omega) (show 0 ≤ src.Wide / 8 by omega)
  omega
 | succ h hn q d now' hi hs hq hd hp ih =>
  rename_i n0 l0 now0
  obtain ⟨ok, w, hh, hl, hall⟩ := h.pic H
  have SF := Yw0 H hn ok w hh
  obtain ⟨q2, d2, e2, _, _, _, hd64⟩ := Xsq SF
  rw [hi] at e2
  injection e2 with e2
  injection e2 with e2 e3
  injection e3 with e3 _
  subst e2; subst e3
  obtain ⟨p', ep, p1, p2, p3, p4⟩ := Zcz ok SF.h0 hd64
  rw [hp] at ep
  injection ep with ep
  subst ep
  obtain ⟨q1, q2', q3⟩ := hq.ok H.hr
  obtain ⟨d', ei', es', _⟩ := Xud (now := now0) (ref := ref) (l := 0) (t := 0) (x := tX src.Wide n0) (y := tY src.Wide n0) (c := c) (q := q) ⟨ok, SF.hx, SF.hy, SF.h0, by omega, by omega, H.hc, by omega⟩ q1 q2' (fun hK => (H.hk hK).1)
  rw [hd] at ei'
  injection ei' with ei'
  injection ei' with ei' _
  subst ei'
  have hPd := hP n0 now0 q d hn SF hq es'
  intro X Y hX hY hlt
  rw [p4 X Y (by rw [w]; exact hX) (by rw [hh]; exact hY)]
  have sw := Xgv H.hw
  have dv := Ybb (W := src.Wide / 8) (x := X / 8) (y := Y / 8) ⟨by omega, by omega⟩
  by_cases hin : Zap (tX src.Wide n0) (tY src.Wide n0) X Y = true
  ·
   rw [if_pos hin]
   unfold Zap at hin
   rw [decide_eq_true_eq] at hin
   have := hPd ((Y - tY src.Wide n0) * 8 + (X - tX src.Wide n0)).toNat (by omega)
   have e1 : tX src.Wide n0 + (((((Y - tY src.Wide n0) * 8 + (X - tX src.Wide n0)).toNat % 8 : Nat)) : Int) = X := by omega
   have e2 : tY src.Wide n0 + (((((Y - tY src.Wide n0) * 8 + (X - tX src.Wide n0)).toNat / 8 : Nat)) : Int) = Y := by omega
   rw [e1, e2] at this
   exact this
  ·
   rw [if_neg hin]
   refine ih X Y hX hY ?_
   have hne : Y / 8 * (src.Wide / 8) + X / 8 ≠ n0 := fun e => hin (by
    rw [e] at dv
    unfold Zap tX tY
    rw [dv.1, dv.2, decide_eq_true_eq]
    omega)
   omega
theorem Xn4.all {src ref : Pic} {c : Xfs} {r : Int} (H : Zb8 src ref c r) (P : Int → Int → Int → Prop)
  (hP : ∀ (n : Nat) (now : Pic) (q : Xau) (d : List Int), (n : Int) < src.Wide / 8 * (src.High / 8) → Zfj now ref (Xrl src (tX src.Wide n) (tY src.Wide n) 64) (tX src.Wide n) (tY src.Wide n) c r → Xte now ref (Xrl src (tX src.Wide n) (tY src.Wide n) 64) (tX src.Wide n) (tY src.Wide n) c r q → Xdi now ref 0 0 c (tX src.Wide n) (tY src.Wide n) q = some (d, true) → ∀ i : Nat, i < 64 → P (tX src.Wide n + ((i % 8 : Nat) : Int)) (tY src.Wide n + ((i / 8 : Nat) : Int)) (d.getD i 0))
  {l : List Xau} {now : Pic} (h : Xn4 src ref c r ((src.Wide / 8).toNat * (src.High / 8).toNat) l now) : ∀ X Y : Int, 0 ≤ X ∧ X < src.Wide → 0 ≤ Y ∧ Y < src.High → P X Y (Xss now X Y) := by
 intro X Y hX hY
 refine h.dots H P hP X Y hX hY ?_
 have sw := Xgv H.hw
 have sh := Xgv H.hh
 have p := Ybc (W := src.Wide / 8) (H := src.High / 8) (x := X / 8) (y := Y / 8) ⟨by omega, by omega⟩ ⟨by omega, by omega⟩
 rw [Int.natCast_mul, show (((src.Wide / 8).toNat : Nat) : Int) = src.Wide / 8 by omega, show (((src.High / 8).toNat : Nat) : Int) = src.High / 8 by omega]
 exact p.2
theorem Zec (p : Pic) (x y : Int) {i : Nat} (hi : i < 64) : (Xrl p x y 64).getD i 0 = Xss p (x + ((i % 8 : Nat) : Int)) (y + ((i / 8 : Nat) : Int)) := Xjy _ hi
theorem Xn4.same {src ref : Pic} {c : Xfs} {r : Int} (H : Zb8 src ref c r) (hd : ∀ (now : Pic) (w : List Int) (x y : Int) (q : Xau) (d : List Int), Zfj now ref w x y c r → w = Xrl src x y 64 → Xte now ref w x y c r q → Xdi now ref 0 0 c x y q = some (d, true) → d = w) {l : List Xau} {now : Pic} (h : Xn4 src ref c r ((src.Wide / 8).toNat * (src.High / 8).toNat) l now) : now = src := by
 obtain ⟨ok, w, hh, _, _⟩ := h.pic H
 refine Zf0 ok H.ok w hh fun X Y hX hY => ?_
 rw [w] at hX
 rw [hh] at hY
 refine h.all H (fun X Y v => v = Xss src X Y) (fun n now q d hn SF hq hs i hi => ?_) X Y hX hY
 rw [hd now _ _ _ q d SF rfl hq hs]
 exact Zec _ _ _ hi
theorem Yzz {src : Pic} (hw : Xu5 src.Wide = true) (hh : Xu5 src.High = true) : (((src.Wide / 8).toNat * (src.High / 8).toNat : Nat) : Int) = src.Wide / 8 * (src.High / 8) ∧ 1 ≤ src.Wide / 8 * (src.High / 8) ∧ src.Wide / 8 * (src.High / 8) ≤ 64 := by
 have a := Xgv hw
 have b := Xgv hh
 have m1 : src.Wide / 8 * (src.High / 8) ≤ 8 * 8 := Int.mul_le_mul (by omega) (by omega) (by omega) (by omega)
 have m2 : 1 * 1 ≤ src.Wide / 8 * (src.High / 8) := Int.mul_le_mul (by omega) (by omega) (by omega) (by omega)
 rw [Int.natCast_mul, show (((src.Wide / 8).toNat : Nat) : Int) = src.Wide / 8 by omega, show (((src.High / 8).toNat : Nat) : Int) = src.High / 8 by omega]
 exact ⟨rfl, by omega, by omega⟩
theorem Xn4.still {src : Pic} {c : Xfs} {r : Int} (H : Zb8 src src c r) (hK : c.Key = false) {n : Nat} {l : List Xau} {now : Pic} (h : Xn4 src src c r n l now) : l = List.replicate n ⟨0, 0, 0, 0, []⟩ := by
 induction h with
 | zero => rfl
 | succ h hn q d now' hi hs hq hd hp ih =>
  have : q = ⟨0, 0, 0, 0, []⟩ := by
   cases hq with
   | same => rfl
   | still => rfl
   | move _ _ _ _ _ _ _ _ _ hn => exact absurd (fun _ _ => rfl) hn
   | guess _ _ _ _ _ _ _ _ _ _ _ hn => exact absurd (fun _ _ => rfl) (hn hK)
  rw [ih, this, List.replicate_succ']
def Zg5 (t : Nat → Int) : Nat → Int
 | 0 => 0
 | k + 1 => Zg5 t k + t k
def eT (f : Nat → Int) (u : Nat) : Int := Zg5 (fun k => Xjo (u : Int) (k : Int) * f k) 8
theorem Xrn (b : Int) (h : 3 ≤ b ∧ b ≤ 8) : 0 ≤ Xaa .u64 b ∧ Xaa .i64 (1 * 2 ^ min (Xaa .u64 b).toNat (IntKind.bits .i64)) = 2 ^ b.toNat ∧ Xaa .i64 (1 * 2 ^ min b.toNat (IntKind.bits .i64)) = 2 ^ b.toNat ∧ (2 : Int) ^ b.toNat ≤ 256 ∧ 8 ≤ (2 : Int) ^ b.toNat := by
 obtain h | h | h | h | h | h : b = 3 ∨ b = 4 ∨ b = 5 ∨ b = 6 ∨ b = 7 ∨ b = 8 := by omega
 all_goals (subst h; decide +kernel)
def Xuk (q : Seq) (p : Par) (h : Yv5) : Bool := Xlt q && (Xuc p && (decide (0 ≤ h.Tile ∧ h.Tile < Xb2 q) && (decide (0 ≤ h.Frame ∧ h.Frame < 2 ^ q.Bits.toNat) && decide (0 ≤ h.Qp ∧ h.Qp ≤ 40))))
theorem Xmc {q : Seq} (h : Xlt q = true) : 0 ≤ Xb2 q ∧ Xb2 q ≤ 1000000 := by
 obtain ⟨h1, h2, _⟩ := Xbl h
 unfold Xb2
 rw [if_pos h]
 have a := Xc1 h1
 have b := Xc1 h2
 have : (q.Cols.length : Int) * q.Rows.length ≤ 4 * 4 := Int.mul_le_mul (by omega) (by omega) (by omega) (by omega)
 exact ⟨Int.mul_nonneg (by omega) (by omega), by omega⟩
theorem Yny (q : Seq) (p : Par) (h : Yv5) (h1 : q.Cols.length ≤ maxLen) (h2 : q.Rows.length ≤ maxLen) : Xo9 q p h = some (Xuk q p h) := by
 unfold Xo9 Xuk
 rw [Xos q h1 h2, Xad]
 cases hs : Xlt q with
 | false => rfl
 | true =>
  rw [Xa0, Xsz, Xad, Bool.true_and]
  cases hp : Xuc p with
  | false => rfl
  | true =>
   obtain ⟨_, _, b1, b2⟩ := Xbl hs
   obtain ⟨s1, s2, s3, s4, s5⟩ := Xrn q.Bits ⟨b1, b2⟩
   have ht := Xmc hs
   rw [Xa0, Xpf q h1 h2, Xad, Xar, Xad, wkA (e := Xb2 q - 1), Bool.true_and, rqA, s3, wkA (e := (2 : Int) ^ q.Bits.toNat - 1), Xar, Xad, Xar, Xad]
   have e1 : decide (0 ≤ h.Tile ∧ h.Tile ≤ Xb2 q - 1) = decide (0 ≤ h.Tile ∧ h.Tile < Xb2 q) := by rw [decide_eq_decide]; omega
   have e2 : decide (0 ≤ h.Frame ∧ h.Frame ≤ 2 ^ q.Bits.toNat - 1) = decide (0 ≤ h.Frame ∧ h.Frame < 2 ^ q.Bits.toNat) := by rw [decide_eq_decide]; omega
   rw [e1, e2, Xdb, Xdb, Xad]
theorem Ypm (q : Seq) (p : Par) (h : Yv5) : Xpw q p h = some (Xuk q p h) := by
 unfold Xpw Xuk
 rw [Ybv, Xad]
 cases hp : Xuc p with
 | false => rw [Xay, Xad, Bool.false_and, Bool.and_false]
 | true =>
  rw [Xa0, Xp3, Xad, Bool.true_and]
  cases hs : Xlt q with
  | false =>
   have : Xb2 q = 0 := by unfold Xb2; rw [hs]; rfl
   rw [this, Bool.false_and]
   by_cases h0 : h.Tile ≥ 0
   ·
    rw [Xbo h0, snA, Xad]
   ·
    rw [Xav h0, Xad]
  | true =>
   obtain ⟨_, _, b1, b2⟩ := Xbl hs
   obtain ⟨s1, s2, s3, s4, s5⟩ := Xrn q.Bits ⟨b1, b2⟩
   rw [Bool.true_and, Xaz s1, s2, Xaj, Xad, Yd5, Yd5, Yd5, Yd5]
   by_cases t1 : h.Tile ≥ 0
   ·
    rw [if_pos t1]
    by_cases t2 : h.Tile < Xb2 q
    ·
     rw [if_pos t2, decide_eq_true (show 0 ≤ h.Tile ∧ h.Tile < Xb2 q from ⟨t1, t2⟩), Bool.true_and]
     by_cases f1 : h.Frame ≥ 0
     ·
      rw [if_pos f1]
      by_cases f2 : h.Frame < 2 ^ q.Bits.toNat
      ·
       rw [if_pos f2, decide_eq_true (show 0 ≤ h.Frame ∧ h.Frame < 2 ^ q.Bits.toNat from ⟨f1, f2⟩), Bool.true_and, Xad]
      ·
       rw [if_neg f2, decide_eq_false (show ¬ (0 ≤ h.Frame ∧ h.Frame < 2 ^ q.Bits.toNat) from fun h => f2 h.2), Bool.false_and, Xad]
     ·
      rw [if_neg f1, decide_eq_false (show ¬ (0 ≤ h.Frame ∧ h.Frame < 2 ^ q.Bits.toNat) from fun h => f1 h.1), Bool.false_and, Xad]
    ·
     rw [if_neg t2, decide_eq_false (show ¬ (0 ≤ h.Tile ∧ h.Tile < Xb2 q) from fun h => t2 h.2), Bool.false_and, Xad]
   ·
    rw [if_neg t1, decide_eq_false (show ¬ (0 ≤ h.Tile ∧ h.Tile < Xb2 q) from fun h => t1 h.1), Bool.false_and, Xad]
theorem Yu2 : ∀ (a : List Int) (x : Int), Xpn (a ++ [x]) = Xpn a + x
 | [], x => by simp [Xpn]
 | y :: a, x => by rw [List.cons_append, Xpn, Xpn, Yu2 a x, Int.add_assoc]
theorem Yu3 {l : List Int} : ∀ k : Nat, k < l.length → Xpn (l.take (k + 1)) = Xpn (l.take k) + l.getD k 0 := by
 intro k hk
 rw [List.take_add_one, List.getElem?_eq_getElem hk, Xd8 l k hk]
 exact Yu2 _ _
theorem Xv5 {l : List Int} (h : l.all Xe8 = true) {i : Nat} (hi : i < l.length) : 1 ≤ l.getD i 0 ∧ l.getD i 0 ≤ 8 := by
 have := List.all_eq_true.1 h (l.getD i 0) (by rw [Xd8 l i hi]; exact List.getElem_mem _)
 unfold Xe8 at this
 rwa [decide_eq_true_eq] at this
theorem Xqq {l : List Int} (h : l.all Xe8 = true) (hl : l.length ≤ 4) (i : Nat) : 0 ≤ Xpn (l.take i) ∧ Xpn (l.take i) ≤ 32 := by
 have := Xs5 (l := l.take i) (List.all_eq_true.2 fun x hx => List.all_eq_true.1 h x (List.mem_of_mem_take hx))
 rw [List.length_take] at this
 omega
theorem Yt9 {l : List Int} (h : l.all Xe8 = true) (hl : l.length ≤ 4) (k : Nat) (hk : k ≤ l.length) : Xrk l (k : Int) = some (Xpn (l.take k)) := by
 have key : ∀ i : Nat, i ≤ k → loop (Xi4 l (k : Int)) (Xpn (l.take i), (i : Int)) = some (Xpn (l.take k)) := by
  refine Xkb _ (Xf7 (by unfold Xi4; rw [Xav (by simp)])) ?_
  intro i hi ih
  refine lgo ?_ ih
  have a := Xv5 h (i := i) (by omega)
  have b := Xqq h hl i
  unfold Xi4
  simp only [Int.toNat_natCast]
  rw [syA, rqA, wkA (e := Xpn (l.take i) + l.getD i 0), wkA (e := (i : Int) + 1), Yu3 i (by omega)]
  rfl
 exact Xip (key 0 (by omega))
theorem Yyt {l : List Int} (h : l.all Xe8 = true) (hl : l.length ≤ 4) : Xb6 l = some (Xpn l) := by
 have key : ∀ i : Nat, i ≤ l.length → loop (Xdu l) (Xpn (l.take i), (i : Int)) = some (Xpn l) := by
  refine Xkb _ (Xf7 (by unfold Xdu; rw [Xav (by simp), List.take_length])) ?_
  intro i hi ih
  refine lgo ?_ ih
  have a := Xv5 h (i := i) (by omega)
  have b := Xqq h hl i
  unfold Xdu
  simp only [Int.toNat_natCast]
  rw [syA, rqA, wkA (e := Xpn (l.take i) + l.getD i 0), wkA (e := (i : Int) + 1), Yu3 i (by omega)]
  rfl
 exact Xip (key 0 (by omega))
theorem Yrs (s : Seq) (h1 : s.Cols.length ≤ 1048576) (h2 : s.Rows.length ≤ 1048576) : Xk2 s = some s ∧ Xnt s = some s := by
 have hm : maxLen = 9223372036854775807 := rfl
 constructor
 ·
  unfold Xk2
  rw [Xaz (by simp only [List.length_nil]; omega), Xaz (by simp only [List.length_nil]; omega)]
  rfl
 ·
  unfold Xnt Xdt
  rw [Xaz (by simp only [List.length_nil]; omega), Xaz (by simp only [List.length_nil]; omega), Xad, Xad]
  rfl
def Ywj (q : Seq) (p : Par) (h : Yv5) : List Int := ueL h.Tile.toNat ++ Ynt q.Bits.toNat h.Frame ++ seL (h.Qp - p.Qp)
theorem Zan (q : Seq) (p : Par) (h : Yv5) : Xua (Ywj q p h) := Xa5 (Xa5 (Xg0 _) (Yiq _ _)) (Xg0 _)
theorem Xul {q : Seq} {p : Par} {h : Yv5} (hh : Xuk q p h = true) : Xlt q = true ∧ Xuc p = true ∧ (0 ≤ h.Tile ∧ h.Tile < Xb2 q) ∧ (0 ≤ h.Frame ∧ h.Frame < 2 ^ q.Bits.toNat) ∧ (0 ≤ h.Qp ∧ h.Qp ≤ 40) := by
 unfold Xuk at hh
 simp only [Bool.and_eq_true, decide_eq_true_eq] at hh
 exact hh
theorem Zao {q : Seq} {p : Par} {h : Yv5} (hh : Xuk q p h = true) : (Ywj q p h).length ≤ 200 := by
 obtain ⟨hs, hp, ht, hf, hq⟩ := Xul hh
 obtain ⟨_, _, b1, b2⟩ := Xbl hs
 have hr := Xmc hs
 have pq := Yba hp
 have u := Xcv h.Tile.toNat (by omega)
 have z := Xod (h.Qp - p.Qp) (by omega)
 unfold Ywj
 simp only [List.length_append, Xeo]
 omega
theorem Yl4 {q : Seq} {p : Par} {h : Yv5} (hh : Xuk q p h = true) : Xn1 q p h = some (strOfNums (Ywj q p h), true) := by
 obtain ⟨hs, hp, ht, hf, hq⟩ := Xul hh
 obtain ⟨_, _, b1, b2⟩ := Xbl hs
 obtain ⟨_, _, _, w4, _⟩ := Xrn q.Bits ⟨b1, b2⟩
 have hr := Xmc hs
 have pq := Yba hp
 unfold Xn1
 have fl := Xeo q.Bits.toNat h.Frame
 have u := Xcv h.Tile.toNat (by omega)
 have z := Xod (h.Qp - p.Qp) (by omega)
 rw [Ypm, Xad, hh, Bool.not_true, Xay, show h.Tile = ((h.Tile.toNat : Nat) : Int) by omega, Xck _ (by omega), Xad, show q.Bits = ((q.Bits.toNat : Nat) : Int) by omega, Xrj h.Frame _ hf.1 (by omega) (by omega), Xad, wkA (e := h.Qp - p.Qp), Xaz (by simp only [strOfNums_size]; omega), Xl2 _ (by omega), Xad, Xa2, Xaz (by simp only [strOfNums_size, List.length_append]; omega), Xa2]
 rfl
theorem Zd0 {b : Nat} (h : 8 ≤ (2 : Int) ^ b) : (2 : Int) ^ b ≠ 0 := by
 generalize (2 : Int) ^ b = N at h ⊢
 omega
theorem Yjh {b : Nat} {f : Int} (h : (2 : Int) ^ b ≤ 256) (h1 : f < 2 ^ b) : f ≤ 255 := by
 generalize (2 : Int) ^ b = N at h h1
 omega
theorem Xuh {p : Pic} {s : Seq} (h : Xya p s = true) : Xdq p = true ∧ p.Wide = (Xja s).1 ∧ p.High = (Xja s).2 := by
 unfold Xya at h
 simp only [Bool.and_eq_true, beq_iff_eq] at h
 exact h
theorem Zeh {p : Pic} {s : Seq} (h1 : Xdq p = true) (h2 : p.Wide = (Xja s).1) (h3 : p.High = (Xja s).2) : Xya p s = true := by
 unfold Xya
 simp only [Bool.and_eq_true, beq_iff_eq]
 exact ⟨h1, h2, h3⟩
theorem Ze0 {s : Seq} (h : Xlt s = true) : Xja s = (8 * Xpn s.Cols, 8 * Xpn s.Rows) ∧ (1 ≤ Xpn s.Cols ∧ Xpn s.Cols ≤ 32) ∧ (1 ≤ Xpn s.Rows ∧ Xpn s.Rows ≤ 32) := by
 obtain ⟨s1, s2, _⟩ := Xbl h
 exact ⟨by unfold Xja; rw [if_pos h], Ydn s1, Ydn s2⟩
def Za6 (q : Seq) (x y : Nat) : Zb6 := ⟨8 * Xpn (q.Cols.take x), 8 * Xpn (q.Rows.take y), 8 * q.Cols.getD x 0, 8 * q.Rows.getD y 0⟩
theorem Yt5 {q : Seq} (hs : Xlt q = true) (h1 : q.Cols.length ≤ maxLen) (h2 : q.Rows.length ≤ maxLen) (t : Int) (ht : 0 ≤ t ∧ t < Xb2 q) : ∃ x y : Nat, (x : Int) = t % (q.Cols.length : Int) ∧ (y : Int) = t / (q.Cols.length : Int) ∧ x < q.Cols.length ∧ y < q.Rows.length ∧ Yap q t = some (Za6 q x y, true) ∧ Xtc q t = some (Za6 q x y, true) ∧ (1 ≤ q.Cols.getD x 0 ∧ q.Cols.getD x 0 ≤ 8) ∧ (1 ≤ q.Rows.getD y 0 ∧ q.Rows.getD y 0 ≤ 8) := by
 have hr := Xmc hs
 have hto : Xb2 q = (q.Cols.length : Int) * q.Rows.length := by unfold Xb2; rw [if_pos hs]
 obtain ⟨s1, s2, _⟩ := Xbl hs
 have c1 := Xc1 s1
 have c2 := Xc1 s2
 unfold Xeh at s1 s2
 rw [Bool.and_eq_true] at s1 s2
 have m0 := Int.emod_nonneg t (show (q.Cols.length : Int) ≠ 0 by omega)
 have m1 := Int.emod_lt_of_pos t (show 0 < (q.Cols.length : Int) by omega)
 have d0 : 0 ≤ t / (q.Cols.length : Int) := Int.ediv_nonneg ht.1 (by omega)
 have d1 : t / (q.Cols.length : Int) < q.Rows.length := Int.ediv_lt_of_lt_mul (by omega) (by rw [Int.mul_comm, ← hto]; exact ht.2)
 have ex : ∃ x y : Nat, (x : Int) = t % (q.Cols.length : Int) ∧ (y : Int) = t / (q.Cols.length : Int) := ⟨(t % (q.Cols.length : Int)).toNat, (t / (q.Cols.length : Int)).toNat, by omega, by omega⟩
 obtain ⟨x, y, hx, hy⟩ := ex
 have tm : t.tmod (q.Cols.length : Int) = (x : Int) := by rw [Xb3 ht.1]; exact hx.symm
 have td : Xaa .i64 (t.tdiv (q.Cols.length : Int)) = (y : Int) := by rw [Xbp ht.1, ← hy, wkA]
 have bx := Xqq s1.2 c1.2 x
 have by_ := Xqq s2.2 c2.2 y
 have gx := Xv5 s1.2 (i := x) (by omega)
 have gy := Xv5 s2.2 (i := y) (by omega)
 refine ⟨x, y, hx, hy, by omega, by omega, ?_, ?_, gx, gy⟩
 ·
  unfold Yap
  rw [Xpf q h1 h2, Xad, wkA (e := Xb2 q - 1), Xar, Xad, decide_eq_true (by omega), Bool.not_true, Xay, rqA, tm, td, rqA, rqA]
  simp only [Int.toNat_natCast]
  rw [show (0 : Int).toNat = 0 from rfl, List.drop_zero, List.drop_zero, Nat.sub_zero, Nat.sub_zero, Yyt (List.all_eq_true.2 fun z hz => List.all_eq_true.1 s1.2 z (List.mem_of_mem_take hz)) (by rw [List.length_take]; omega), Xad, rqA, Yyt (List.all_eq_true.2 fun z hz => List.all_eq_true.1 s2.2 z (List.mem_of_mem_take hz)) (by rw [List.length_take]; omega), Xad, rqA, rqA, wkA (e := 8 * Xpn (q.Cols.take x)), wkA (e := 8 * Xpn (q.Rows.take y)), wkA (e := 8 * q.Cols.getD x 0), wkA (e := 8 * q.Rows.getD y 0)]
  rfl
 ·
  unfold Xtc
  rw [snA, Xp3, Xad, decide_eq_false (by omega), Xad, Xay, rqA, tm, td, rqA, Yt9 s1.2 c1.2 x (by omega), Xad, Yt9 s2.2 c2.2 y (by omega), Xad, rqA, rqA]
  simp only [Int.toNat_natCast]
  rw [wkA (e := 8 * Xpn (q.Cols.take x)), wkA (e := 8 * Xpn (q.Rows.take y)), wkA (e := 8 * q.Cols.getD x 0), wkA (e := 8 * q.Rows.getD y 0)]
  rfl
theorem Yi5 {q : Seq} (hs : Xlt q = true) (h1 : q.Cols.length ≤ maxLen) (h2 : q.Rows.length ≤ maxLen) (t : Int) (ht : 0 ≤ t ∧ t < Xb2 q) : ∃ x y : Nat, (x : Int) = t % (q.Cols.length : Int) ∧ (y : Int) = t / (q.Cols.length : Int) ∧ x < q.Cols.length ∧ y < q.Rows.length ∧ Xj8 q t = some (q.Cols.getD x 0 * q.Rows.getD y 0) ∧ (1 ≤ q.Cols.getD x 0 ∧ q.Cols.getD x 0 ≤ 8) ∧ (1 ≤ q.Rows.getD y 0 ∧ q.Rows.getD y 0 ≤ 8) := by
 obtain ⟨x, y, hx, hy, lx, ly, _, e, gx, gy⟩ := Yt5 hs h1 h2 t ht
 have mb : q.Cols.getD x 0 * q.Rows.getD y 0 ≤ 8 * 8 := Int.mul_le_mul (by omega) (by omega) (by omega) (by omega)
 have m0 : 1 * 1 ≤ q.Cols.getD x 0 * q.Rows.getD y 0 := Int.mul_le_mul (by omega) (by omega) (by omega) (by omega)
 refine ⟨x, y, hx, hy, lx, ly, ?_, gx, gy⟩
 unfold Xj8
 rw [e, Xad]
 unfold Za6
 simp only
 rw [rqA, rqA, Xbp (by omega), Xbp (by omega), show 8 * q.Cols.getD x 0 / 8 = q.Cols.getD x 0 by omega, show 8 * q.Rows.getD y 0 / 8 = q.Rows.getD y 0 by omega, wkA (e := q.Cols.getD x 0), wkA (e := q.Rows.getD y 0), wkA]
def Ye1 (k : Int) (L : List Int) : ByteArray := strOfNums (k :: Zbz L)
theorem Yv8 {src ref : Pic} {c : Xfs} {r : Int} (H : Zb8 src ref c r) : ∃ l now, Xkr src ref c r = some (l, now, true) ∧ Xk0 src ref c r = some (l, now, true) ∧ Xn4 src ref c r ((src.Wide / 8).toNat * (src.High / 8).toNat) l now := by
 have hm : maxLen = 9223372036854775807 := rfl
 have sw := Xgv H.hw
 have sh := Xgv H.hh
 obtain ⟨k1, k2, k3⟩ := Xbj H.ok
 -- one row
 have row : ∀ a : Nat, (a : Int) < src.High / 8 → ∀ (l : List Xau) (now : Pic), Xn4 src ref c r ((src.Wide / 8).toNat * a) l now → ∃ l' now', loop (Xeu src ref c r ((8 * a : Nat), l, now.Wide, now.High, now.Dots)) (0, l, now.Wide, now.High, now.Dots) = some (.out (l', now'.Wide, now'.High, now'.Dots)) ∧ loop (Xey src ref c r ((8 * a : Nat), l, now.Wide, now.High, now.Dots)) (0, l, now.Wide, now.High, now.Dots) = some (l', now'.Wide, now'.High, now'.Dots) ∧ Xn4 src ref c r ((src.Wide / 8).toNat * (a + 1)) l' now' := by
  intro a ha l now hT
  have key : ∀ b : Nat, b ≤ (src.Wide / 8).toNat → ∀ (l2 : List Xau) (now2 : Pic), Xn4 src ref c r ((src.Wide / 8).toNat * a + b) l2 now2 → ∃ l' now', loop (Xeu src ref c r ((8 * a : Nat), l, now.Wide, now.High, now.Dots)) (((8 * b : Nat) : Int), l2, now2.Wide, now2.High, now2.Dots) = some (.out (l', now'.Wide, now'.High, now'.Dots)) ∧ loop (Xey src ref c r ((8 * a : Nat), l, now.Wide, now.High, now.Dots)) (((8 * b : Nat) : Int), l2, now2.Wide, now2.High, now2.Dots) = some (l', now'.Wide, now'.High, now'.Dots) ∧ Xn4 src ref c r ((src.Wide / 8).toNat * (a + 1)) l' now' := by
   refine Xkb _ ?_ ?_
   ·
    intro l2 now2 h2
    refine ⟨l2, now2, Xf7 ?_, Xf7 ?_, by rw [Nat.mul_add, Nat.mul_one]; exact h2⟩
    ·
     unfold Xeu
     rw [Xav (by simp only; omega)]
    ·
     unfold Xey
     rw [Xav (by simp only; omega)]
   ·
    intro b hb ih l2 now2 h2
    have hbI : (b : Int) < src.Wide / 8 := by omega
    obtain ⟨eX, eY⟩ := Zgi H.hw a b hbI
    obtain ⟨q, d, now', e1, e1s, hd, ep, hT'⟩ := h2.step H (Zd3 H.hw a b hbI ha)
    rw [eX, eY] at e1 e1s ep
    obtain ⟨ok2, w2, hh2, hl2, _⟩ := h2.pic H
    obtain ⟨l', n', el, els, hT2⟩ := ih (l2 ++ [q]) now' hT'
    have lb : l2.length ≤ 1000 := by
     have := Zd3 H.hw a b hbI ha
     have : src.Wide / 8 * (src.High / 8) ≤ 8 * 8 := Int.mul_le_mul (by omega) (by omega) (by omega) (by omega)
     omega
    refine ⟨l', n', lgo (y := (((8 * (b + 1) : Nat) : Int), l2 ++ [q], now'.Wide, now'.High, now'.Dots)) ?_ el, lgo (y := (((8 * (b + 1) : Nat) : Int), l2 ++ [q], now'.Wide, now'.High, now'.Dots)) ?_ els, hT2⟩
    ·
     unfold Xeu
     simp only
     rw [show ((8 * a : Nat) : Int) = 8 * (a : Int) by omega, show ((8 * b : Nat) : Int) = 8 * (b : Int) by omega, syA, Xgs H.ok _ _ (by omega) (by omega), Xad, show (⟨now2.Wide, now2.High, now2.Dots⟩ : Pic) = now2 from rfl, e1, Xad]
     simp only
     rw [Bool.not_true, Xay, Xaz (by simp only [List.length_singleton]; omega), Za5 hd (by have := Zcg ok2; omega), ep, Xad, wkA, show ((8 * (b + 1) : Nat) : Int) = 8 * (b : Int) + 8 by omega]
    ·
     unfold Xey
     simp only
     rw [show ((8 * a : Nat) : Int) = 8 * (a : Int) by omega, show ((8 * b : Nat) : Int) = 8 * (b : Int) by omega, syA, Xh5 H.ok _ _ (by omega) (by omega), Xad, show (⟨now2.Wide, now2.High, now2.Dots⟩ : Pic) = now2 from rfl, e1s, Xad]
     simp only
     rw [Xaz (by simp only [List.length_singleton]; omega), ep, Xad, wkA, show ((8 * (b + 1) : Nat) : Int) = 8 * (b : Int) + 8 by omega]
  exact key 0 (by omega) l now hT
 have rows : ∀ a : Nat, a ≤ (src.High / 8).toNat → ∀ (l : List Xau) (now : Pic), Xn4 src ref c r ((src.Wide / 8).toNat * a) l now → ∃ l' now', loop (Xet src ref c r) (((8 * a : Nat) : Int), l, now.Wide, now.High, now.Dots) = some (.out (l', now'.Wide, now'.High, now'.Dots)) ∧ loop (Xex src ref c r) (((8 * a : Nat) : Int), l, now.Wide, now.High, now.Dots) = some (l', now'.Wide, now'.High, now'.Dots) ∧ Xn4 src ref c r ((src.Wide / 8).toNat * (src.High / 8).toNat) l' now' := by
  refine Xkb _ ?_ ?_
  ·
   intro l now h
   refine ⟨l, now, Xf7 ?_, Xf7 ?_, h⟩
   ·
    unfold Xet
    rw [Xav (by simp only; omega)]
   ·
    unfold Xex
    rw [Xav (by simp only; omega)]
  ·
   intro a ha ih l now h
   obtain ⟨l', n', el, els, hT⟩ := row a (by omega) l now h
   obtain ⟨l2, n2, el2, el2s, hT2⟩ := ih l' n' hT
   refine ⟨l2, n2, lgo (y := (((8 * (a + 1) : Nat) : Int), l', n'.Wide, n'.High, n'.Dots)) ?_ el2, lgo (y := (((8 * (a + 1) : Nat) : Int), l', n'.Wide, n'.High, n'.Dots)) ?_ el2s, hT2⟩
   ·
    unfold Xet
    rw [Xbo (by simp only; omega)]
    simp only
    rw [el, Xad]
    simp only
    rw [wkA, show ((8 * (a + 1) : Nat) : Int) = ((8 * a : Nat) : Int) + 8 by omega]
   ·
    unfold Xex
    rw [Xbo (by simp only; omega)]
    simp only
    rw [els, Xad]
    simp only
    rw [wkA, show ((8 * (a + 1) : Nat) : Int) = ((8 * a : Nat) : Int) + 8 by omega]
 obtain ⟨l, now, e, es, hT⟩ := rows 0 (by omega) [] ⟨src.Wide, src.High, strOfNums (List.replicate (src.Wide * src.High).toNat 128)⟩ (by rw [Nat.mul_zero]; exact .zero)
 refine ⟨l, now, ?_, ?_, hT⟩
 ·
  unfold Xkr
  have hl7 : (sel c.Key (some false) (bnd (Xcx ref) fun q8 => sel q8 (sel (ref.Wide != src.Wide) (some true) (some (ref.High != src.High))) (some true))) = some false := by
   cases hK : c.Key with
   | true => rfl
   | false =>
    obtain ⟨a1, a2, a3⟩ := H.hk hK
    rw [Xay, Xc4, Xad, a1, a2, a3, Xa0, bne_self_eq_false, Xay, bne_self_eq_false]
  rw [Xc4, Xad, H.ok, Xa0, Xxc, Xad, H.hw, Xa0, Xxc, Xad, H.hh, Xa0, Xhc, Xad, H.hc, Xa0, Xar, Xad, decide_eq_true H.hr, Bool.not_true, Xad, Xay, hl7, Xad, Xay, Yut _ _ k1 k2, Xad]
  have e' : loop (Xet src ref c r) (0, [], src.Wide, src.High, strOfNums (List.replicate (src.Wide * src.High).toNat 128)) = some (.out (l, now.Wide, now.High, now.Dots)) := e
  rw [e', Xad]
 ·
  unfold Xk0
  have hl7 : (sel c.Key (some false) (bnd (Xgm src ref) fun q7 => some (!q7))) = some false := by
   cases hK : c.Key with
   | true => rfl
   | false =>
    obtain ⟨a1, a2, a3⟩ := H.hk hK
    rw [Xay, Xvy, Xad, Yxy H.ok a1 a2 a3]; rfl
  rw [Xci, Xad, H.ok, Xa0, Xvw, Xad, H.hw, Xa0, Xvw, Xad, H.hh, Xa0, Xfl, Xad, H.hc, Xa0, Xaj, Xad, decide_eq_true H.hr, Xa0, hl7, Xad, Xay, Yvz _ _ k1 k2, Xad]
  have e' : loop (Xex src ref c r) (0, [], src.Wide, src.High, strOfNums (List.replicate (src.Wide * src.High).toNat 128)) = some (l, now.Wide, now.High, now.Dots) := es
  rw [e', Xad]
theorem Yhd (r : Rate) (n : Int) : Xlx r n = some (Ybe r n) := by
 unfold Xlx Ybe
 rw [Xrf, Xad]
 by_cases h : Xok r = true
 ·
  rw [if_pos h, Xba (by rw [h]; rfl)]
  have h' := (Xsa r).1 h
  have hb := Xfv (n := n) (a := 0) (b := 400000) (by omega)
  simp only [Xdd, Xad]
  rw [wkA (e := r.Debt + Xbd n 0 400000), wkA (e := r.Debt + Xbd n 0 400000 - r.Target), wkA (e := -8 * r.Target), wkA (e := 8 * r.Target)]
  have hd := Xfv (n := r.Debt + Xbd n 0 400000 - r.Target) (a := -8 * r.Target) (b := 8 * r.Target) (by omega)
  have ed : Xbd (r.Debt + Xbd n 0 400000 - r.Target) (-8 * r.Target) (8 * r.Target) = Xgu r n := rfl
  rw [ed]
  have hd' : -8 * r.Target ≤ Xgu r n ∧ Xgu r n ≤ 8 * r.Target := hd
  rw [wkA (e := r.Qp + 1), wkA (e := 0 - r.Target)]
  by_cases h1 : Xgu r n > r.Target
  ·
   rw [if_pos h1, Xbo h1, Xad, snA, Xad]
  ·
   rw [if_neg h1, Xav h1, Xad]
   by_cases h2 : Xgu r n < -r.Target
   ·
    rw [if_pos h2, syA, wkA (e := r.Qp - 1), Xad]
   ·
    rw [if_neg h2, snA, Xad]
 ·
  rw [if_neg h, Xbk (by simpa using h)]
theorem Ytn (r : Rate) (key : Bool) : Xsf r key = some (Xza r key) := by
 unfold Xsf Xza
 rw [Xrf, Xad]
 by_cases h : Xok r = true
 ·
  rw [if_pos h, Xba (by rw [h]; rfl)]
  have h' := (Xsa r).1 h
  cases key with
  | true => rw [Xa0, wkA, Xdd, Xad, if_pos rfl]
  | false => rfl
 ·
  rw [if_neg h, Xbk (by simpa using h)]
theorem Yyb (r : Rate) (key : Bool) : 0 ≤ Xza r key ∧ Xza r key ≤ 40 := by
 unfold Xza
 split
 ·
  rename_i h
  have h' := (Xsa r).1 h
  split
  ·
   exact Xfv (by omega)
  ·
   omega
 ·
  omega
theorem Yjs {q : Seq} {p : Par} {h : Yv5} (hh : Xuk q p h = true) (h1 : q.Cols.length ≤ maxLen) (h2 : q.Rows.length ≤ maxLen) : Xnq q p h = some (strOfNums (Ywj q p h), true) := by
 obtain ⟨hs, hp, ht, hf, hq⟩ := Xul hh
 obtain ⟨_, _, b1, b2⟩ := Xbl hs
 obtain ⟨_, _, _, w4, _⟩ := Xrn q.Bits ⟨b1, b2⟩
 have hr := Xmc hs
 have pq := Yba hp
 have hfs := Yjh w4 hf.2
 have hf0 := hf.1
 unfold Xnq
 have fl := Xeo q.Bits.toNat h.Frame
 have u := Xcv h.Tile.toNat (by omega)
 have z := Xod (h.Qp - p.Qp) (by omega)
 rw [Yny _ _ _ h1 h2, Xad, hh, Bool.not_true, Xay, wkA (e := h.Qp - p.Qp), Xoq _ (by omega), Xad, show h.Tile = ((h.Tile.toNat : Nat) : Int) by omega, Xf3 _ (by omega), Xad, show q.Bits = ((q.Bits.toNat : Nat) : Int) by omega, Xou h.Frame _ hf0 (by omega) (by omega), Xad, Xaz (by simp only [strOfNums_size]; omega), Xa2, Xaz (by simp only [strOfNums_size, List.length_append]; omega), Xa2]
 rfl
theorem Zeb {b : Int} (h : 3 ≤ b ∧ b ≤ 8) : (Lit.int .i64 b).wf = true := by
 rcases (show b = 3 ∨ b = 4 ∨ b = 5 ∨ b = 6 ∨ b = 7 ∨ b = 8 by omega) with rfl | rfl | rfl | rfl | rfl | rfl <;> decide
def Xbi (s : Source) (want : Bool) : Bool := Xc5 s && (want || (!s.Has || decide (s.Since ≥ s.Every)))
theorem Xw2 (s : Source) (w : Bool) (h1 : s.Seq.Cols.length ≤ maxLen) (h2 : s.Seq.Rows.length ≤ maxLen) : Xpa s w = some (Xbi s w) := by
 unfold Xpa Xbi
 rw [Xes s h1 h2, Xad]
 cases Xc5 s with
 | false => rfl
 | true => cases w <;> cases s.Has <;> rfl
theorem Xnl (s : Source) (w : Bool) (hb : (Lit.int .i64 s.Seq.Bits).wf = true) : Xpx s w = some (Xbi s w) := by
 unfold Xpx Xbi
 rw [Xew s hb, Xad]
 cases Xc5 s with
 | false => rfl
 | true => cases w <;> cases s.Has <;> rfl
theorem Xqc {s : Source} (h : Xc5 s = true) : Xb2 s.Seq = 1 ∧ Xlt s.Seq = true ∧ Xuc s.Par = true ∧ Xok s.Rate = true ∧ (0 ≤ s.Frame ∧ s.Frame < 2 ^ s.Seq.Bits.toNat) ∧ (1 ≤ s.Every ∧ s.Every ≤ 1000) ∧ (0 ≤ s.Since ∧ s.Since ≤ 1000) ∧ (0 ≤ s.Reach ∧ s.Reach ≤ 4) ∧ (s.Has = true → Xya s.Ref s.Seq = true) ∧ (s.Has = false → s.Ref.Wide = 0 ∧ s.Ref.High = 0 ∧ s.Ref.Dots.size = 0) := by
 unfold Xc5 at h
 simp only [Bool.and_eq_true, decide_eq_true_eq] at h
 obtain ⟨⟨⟨⟨⟨a, b⟩, c⟩, d⟩, e⟩, f⟩ := h
 refine ⟨a, Xv3 a, b, c, d, e.1, e.2.1, e.2.2, ?_, ?_⟩
 ·
  intro hh
  rw [if_pos hh] at f
  exact f
 ·
  intro hh
  rw [if_neg (by rw [hh]; decide)] at f
  exact of_decide_eq_true f
theorem Yx6 {q : Seq} (h : Xb2 q = 1) : ∃ c r : Int, q.Cols = [c] ∧ q.Rows = [r] ∧ (1 ≤ c ∧ c ≤ 8) ∧ (1 ≤ r ∧ r ≤ 8) ∧ Xja q = (8 * c, 8 * r) := by
 have hs := Xv3 h
 obtain ⟨s1, s2, _⟩ := Xbl hs
 have l1 := Xc1 s1
 have l2 := Xc1 s2
 have ht : Xb2 q = (q.Cols.length : Int) * q.Rows.length := by unfold Xb2; rw [if_pos hs]
 have hn : q.Cols.length * q.Rows.length = 1 := by
  have : ((q.Cols.length * q.Rows.length : Nat) : Int) = 1 := by rw [Int.natCast_mul, ← ht, h]
  omega
 have n1 := Nat.eq_one_of_mul_eq_one_right hn
 have n2 := Nat.eq_one_of_mul_eq_one_left hn
 obtain ⟨c, ec⟩ := List.length_eq_one_iff.1 n1
 obtain ⟨r, er⟩ := List.length_eq_one_iff.1 n2
 obtain ⟨e, _⟩ := Ze0 hs
 unfold Xeh at s1 s2
 rw [Bool.and_eq_true] at s1 s2
 have a1 := List.all_eq_true.1 s1.2 c (by rw [ec]; simp)
 have a2 := List.all_eq_true.1 s2.2 r (by rw [er]; simp)
 unfold Xe8 at a1 a2
 rw [decide_eq_true_eq] at a1 a2
 refine ⟨c, r, ec, er, a1, a2, ?_⟩
 rw [e, ec, er]
 simp [Xpn]
theorem Yym {c : Int} (h : 1 ≤ c ∧ c ≤ 8) : Xu5 (8 * c) = true := by
 unfold Xu5
 rw [Bool.and_eq_true, decide_eq_true_eq, decide_eq_true_eq, Xb3 (by omega)]
 omega
def Xoh (s : Source) (key : Bool) : Xfs := ⟨key, Xza s.Rate key, s.Par.Large, s.Par.Exact⟩
def Yfn (s : Source) (key : Bool) (l : List Xau) : List Int := Ywj s.Seq s.Par ⟨0, s.Frame, Xza s.Rate key⟩ ++ Xmf l (Xoh s key)
def Xwl (s : Source) (key : Bool) (l : List Xau) : List ByteArray := (if key = true then [Ye1 7 (Yzn s.Seq), Ye1 8 (Yz2 s.Par)] else []) ++ [Ye1 (if key = true then 5 else 1) (Yfn s key l)]
def Ytt (s : Source) (key : Bool) (l : List Xau) (now : Pic) : Source := ⟨s.Seq, s.Par, Ybe s.Rate ((Yfn s key l).length : Int), (s.Frame + 1) % 2 ^ s.Seq.Bits.toNat, (if key = true then 1 else s.Since + 1), s.Every, s.Reach, true, now⟩
theorem Yyn {s : Source} (hs : Xc5 s = true) (key : Bool) : Xjc (Xoh s key) = true := by
 obtain ⟨_, _, hp, _⟩ := Xqc hs
 unfold Xuc at hp
 rw [Bool.and_eq_true] at hp
 unfold Xjc Xoh
 rw [Bool.and_eq_true]
 exact ⟨decide_eq_true (Yyb _ _), hp.2⟩
theorem Zd2 {s : Source} {pic : Pic} {want : Bool} (hs : Xc5 s = true) (hp : Xya pic s.Seq = true) : Zb8 pic s.Ref (Xoh s (Xbi s want)) s.Reach := by
 obtain ⟨t1, so, po, ro, hf, he, hsi, hre, hh, hn⟩ := Xqc hs
 obtain ⟨c, r, ec, er, hc, hr, esz⟩ := Yx6 t1
 obtain ⟨p1, p2, p3⟩ := Xuh hp
 rw [esz] at p2 p3
 refine ⟨p1, by rw [p2]; exact Yym hc, by rw [p3]; exact Yym hr, Yyn hs _, hre, ?_⟩
 intro hk
 have hk : Xbi s want = false := hk
 unfold Xbi at hk
 rw [hs, Bool.true_and] at hk
 have hH : s.Has = true := by
  cases hx : s.Has with
  | true => rfl
  | false => rw [hx] at hk; simp at hk
 obtain ⟨q1, q2, q3⟩ := Xuh (hh hH)
 rw [esz] at q2 q3
 exact ⟨q1, by rw [q2, p2], by rw [q3, p3]⟩
theorem Yyo {s : Source} (hs : Xc5 s = true) (key : Bool) : Xuk s.Seq s.Par ⟨0, s.Frame, Xza s.Rate key⟩ = true := by
 obtain ⟨t1, so, po, _, hf, _⟩ := Xqc hs
 unfold Xuk
 simp only [Bool.and_eq_true, decide_eq_true_eq]
 exact ⟨so, po, ⟨Int.le_refl _, by omega⟩, hf, Yyb _ _⟩
structure Zgu (s : Source) (pic : Pic) (key : Bool) (l : List Xau) (now : Pic) : Prop where
 til : Xn4 pic s.Ref (Xoh s key) s.Reach ((pic.Wide / 8).toNat * (pic.High / 8).toNat) l now
 fit : Xya now s.Seq = true
 sq : Yts l (Xoh s key) = true
 lv : ∀ q ∈ l, q.Levels.length ≤ 64
 len : 1 ≤ l.length ∧ l.length ≤ 64
 cnt : Xj8 s.Seq 0 = some (l.length : Int)
theorem Zez {s : Source} {pic : Pic} {want : Bool} {l : List Xau} {now : Pic} (hs : Xc5 s = true) (hp : Xya pic s.Seq = true) (h : Xn4 pic s.Ref (Xoh s (Xbi s want)) s.Reach ((pic.Wide / 8).toNat * (pic.High / 8).toNat) l now) : Zgu s pic (Xbi s want) l now := by
 have hm : maxLen = 9223372036854775807 := rfl
 have H := Zd2 (want := want) hs hp
 obtain ⟨t1, so, _⟩ := Xqc hs
 obtain ⟨c, r, ec, er, hc, hr, esz⟩ := Yx6 t1
 obtain ⟨p1, p2, p3⟩ := Xuh hp
 obtain ⟨ok, w, hh, hl, hall⟩ := h.pic H
 obtain ⟨n1, n2, n3⟩ := Yzz H.hw H.hh
 have hcc := Yyn hs (Xbi s want)
 obtain ⟨x, y, hx, hy, lx, ly, eT, _⟩ := Yi5 so (by rw [ec]; simp; omega) (by rw [er]; simp; omega) 0 ⟨Int.le_refl _, by omega⟩
 rw [ec] at hx lx eT
 rw [er] at ly eT
 have x0 : x = 0 := by simp at lx; exact lx
 have y0 : y = 0 := by simp at ly; exact ly
 subst x0 y0
 have eT' : Xj8 s.Seq 0 = some (c * r) := eT
 have e1 : pic.Wide = 8 * c := by rw [p2, esz]
 have e2 : pic.High = 8 * r := by rw [p3, esz]
 have mb : c * r ≤ 8 * 8 := Int.mul_le_mul hc.2 hr.2 (by omega) (by omega)
 have m0 : 1 * 1 ≤ c * r := Int.mul_le_mul hc.1 hr.1 (by omega) (by omega)
 have hlen : (l.length : Int) = c * r := by
  rw [hl, e1, e2, Int.natCast_mul, show 8 * c / 8 = c by omega, show 8 * r / 8 = r by omega, show ((c.toNat : Nat) : Int) = c by omega, show ((r.toNat : Nat) : Int) = r by omega]
 refine ⟨h, Zeh ok (by rw [w, p2]) (by rw [hh, p3]), ?_, fun q hq => (hall q hq).2.2, by omega, by rw [eT', hlen]⟩
 refine List.all_eq_true.2 fun q hq => ?_
 obtain ⟨a, b, _⟩ := hall q hq
 rw [a, b, hcc]; rfl
theorem Yw8 {s : Source} {pic : Pic} {key : Bool} {l : List Xau} {now : Pic} (hs : Xc5 s = true) (h : Zgu s pic key l now) : (Yfn s key l).length ≤ 400000 ∧ Xua (Yfn s key l) ∧ (Ywj s.Seq s.Par ⟨0, s.Frame, Xza s.Rate key⟩).length ≤ 200 ∧ (Xmf l (Xoh s key)).length ≤ 336960 := by
 have a := Zao (Yyo hs key)
 have b := Yre h.sq
 have c := h.len.2
 refine ⟨?_, Xa5 (Zan _ _ _) (Yrd _ _), a, by omega⟩
 unfold Yfn
 rw [List.length_append]
 omega
theorem Ynp {s : Source} {pic : Pic} {want : Bool} (hs : Xc5 s = true) (hp : Xya pic s.Seq = true) (hk : Xbi s want = true ∨ s.Since < 1000) : ∃ l now, Zgu s pic (Xbi s want) l now ∧ Xbz s pic want = some (Ytt s (Xbi s want) l now, Xwl s (Xbi s want) l, true) ∧ Xcj s pic want = some (Ytt s (Xbi s want) l now, Xwl s (Xbi s want) l, true) := by
 have hm : maxLen = 9223372036854775807 := rfl
 have H := Zd2 (want := want) hs hp
 obtain ⟨t1, so, po, ro, hf, he, hsi, hre, hh, hn⟩ := Xqc hs
 obtain ⟨s1, s2, b1, b2⟩ := Xbl so
 have c1 := Xc1 s1
 have c2 := Xc1 s2
 obtain ⟨z1, z2, z3, z4, z5⟩ := Xrn s.Seq.Bits ⟨b1, b2⟩
 obtain ⟨p1, p2, p3⟩ := Xuh hp
 obtain ⟨l, now, e1, e2, hT⟩ := Yv8 H
 have S := Zez hs hp hT
 refine ⟨l, now, S, ?_⟩
 obtain ⟨r1, r2, r3, r4⟩ := Yw8 hs S
 have hfs := Yjh z4 hf.2
 have hf0 := hf.1
 have hd := Yyo hs (Xbi s want)
 have hwf := Zeb ⟨b1, b2⟩
 have hss : Xo2 s = [Ye1 7 (Yzn s.Seq), Ye1 8 (Yz2 s.Par)] := by unfold Xo2; rw [if_pos hs]; rfl
 have htr : Ytx l (Xoh s (Xbi s want)) = (strOfNums (Xmf l (Xoh s (Xbi s want))), true) := by
  unfold Ytx
  rw [if_pos (by rw [decide_eq_true S.len, S.sq]; rfl)]
 have hcut : (sel (Xbi s want) (some false) (some (decide (s.Since ≥ 1000)))) = some false := by
  cases hx : Xbi s want with
  | true => rfl
  | false =>
   rw [Xay, decide_eq_false]
   rcases hk with hk | hk
   ·
    rw [hx] at hk; cases hk
   ·
    omega
 have hsq : ∀ q ∈ l, Xww q = true := fun q hq => by
  have := List.all_eq_true.1 S.sq q hq
  simp only [Bool.and_eq_true] at this
  exact this.1
 have hcp : Xce s = some s := by
  unfold Xce
  rw [(Yrs s.Seq (by omega) (by omega)).2, Xad]
 unfold Yfn at r1 r2
 have hkk : ∀ k : Int, k = 5 ∨ k = 1 → Ya4 k = true := fun k h => by rcases h with rfl | rfl <;> rfl
 constructor
 ·
  unfold Xbz
  rw [Xes s (by omega) (by omega), Xad, hs, Xa0, Xqn _ _ (by omega) (by omega), Xad, hp, Xad, Bool.not_true, Xay, Xw2 s want (by omega) (by omega), Xad, hcut, Xad, Xay, Yr3, Xad]
  have e1' : Xkr pic s.Ref ⟨Xbi s want, Xza s.Rate (Xbi s want), s.Par.Large, s.Par.Exact⟩ s.Reach = some (l, now, true) := e1
  have htr' : Xks l ⟨Xbi s want, Xza s.Rate (Xbi s want), s.Par.Large, s.Par.Exact⟩ = some (strOfNums (Xmf l (Xoh s (Xbi s want))), true) := (Ykh l _ (fun q hq => by have := S.lv q hq; omega)).trans (congrArg some htr)
  rw [e1', Xad]
  simp only
  rw [Yjs hd (by omega) (by omega), Xad]
  simp only
  rw [htr', Xad, hcp, Xad, Yaj s (by omega) (by omega), Xad, hss, wkA (e := s.Since + 1)]
  have e13 : (sel (Xbi s want) (some ((5 : Int), (1 : Int), [Ye1 7 (Yzn s.Seq), Ye1 8 (Yz2 s.Par)])) (some (1, s.Since + 1, ([] : List ByteArray)))) = some ((if Xbi s want = true then 5 else 1), (if Xbi s want = true then 1 else s.Since + 1), (if Xbi s want = true then [Ye1 7 (Yzn s.Seq), Ye1 8 (Yz2 s.Par)] else [])) := by
   cases Xbi s want <;> rfl
  rw [e13, Xad]
  simp only
  rw [Xaz (by simp only [strOfNums_size]; omega), Xa2, Xq4 _ _ (hkk _ (by cases Xbi s want <;> simp)) r2 r1, Xad, Yf6, Xad]
  simp only
  rw [z3, rqA, Xaz (Zd0 z5), Xaz (by
   simp only [List.length_singleton]
   split <;> simp <;> omega), wkA (e := s.Frame + 1), Xb3 (by omega), wk (by simp only [strOfNums_size]; omega) (by simp only [strOfNums_size]; omega)]
  unfold Ytt Xwl Yfn
  rw [strOfNums_size, strOfNums_size, List.length_append, Int.natCast_add]
  rfl
 ·
  unfold Xcj
  rw [Xjr, Xad, Xnl s want hwf, Xad, Xew s hwf, Xad, hs, Xa0, Xci, Xad, p1, Xa0, Xba (by rw [bne_eq_false_iff_eq]; exact p2), Xba (by rw [bne_eq_false_iff_eq]; exact p3), hcut, Xad, Xay, Ytn, Xad]
  have e2' : Xk0 pic s.Ref ⟨Xbi s want, Xza s.Rate (Xbi s want), s.Par.Large, s.Par.Exact⟩ s.Reach = some (l, now, true) := e2
  have htr' : Xna l ⟨Xbi s want, Xza s.Rate (Xbi s want), s.Par.Large, s.Par.Exact⟩ = some (strOfNums (Xmf l (Xoh s (Xbi s want)))) := Yqq l _ hsq S.len.2
  rw [e2', Xad]
  simp only
  rw [Yl4 hd, Xad]
  simp only
  rw [htr', Xad, Xaz (by simp only [strOfNums_size]; omega), Yb2 s hwf, Xad, hss]
  have e13 : (sel (Xbi s want) (some ((5 : Int), [Ye1 7 (Yzn s.Seq), Ye1 8 (Yz2 s.Par)])) (some (1, ([] : List ByteArray)))) = some ((if Xbi s want = true then 5 else 1), (if Xbi s want = true then [Ye1 7 (Yzn s.Seq), Ye1 8 (Yz2 s.Par)] else [])) := by
   cases Xbi s want <;> rfl
  have e16 : (sel (Xbi s want) (some (1 : Int)) (some (s.Since + 1))) = some (if Xbi s want = true then 1 else s.Since + 1) := by
   cases Xbi s want <;> rfl
  rw [e13, Xad]
  simp only
  rw [Xa2, Xrh _ _ (hkk _ (by cases Xbi s want <;> simp)) r2 r1, Xad]
  simp only
  rw [Xaz (by
   simp only [List.length_singleton]
   split <;> simp <;> omega), (Yrs s.Seq (by omega) (by omega)).1, Xad, Yhd, Xad, z2, Xaz z1, Xaz (Zd0 z5), wkA (e := s.Since + 1), e16, Xad, wkA (e := s.Frame + 1), Xb3 (by omega)]
  unfold Ytt Xwl Yfn
  rw [strOfNums_size]
  rfl
theorem Ytv (s : Source) (key : Bool) (l : List Xau) : (Xwl s key l).length = if key = true then 3 else 1 := by
 unfold Xwl
 cases key <;> rfl
theorem Yi4 (s : Source) (pic : Pic) (want : Bool) (h1 : s.Seq.Cols.length ≤ 1048576) (h2 : s.Seq.Rows.length ≤ 1048576) (hb : (Lit.int .i64 s.Seq.Bits).wf = true) : ∃ t us ok, Xbz s pic want = some (t, us, ok) ∧ Xcj s pic want = some (t, us, ok) ∧ us.length ≤ 3 ∧ t.Seq = s.Seq := by
 have hm : maxLen = 9223372036854775807 := rfl
 obtain ⟨c1, c2⟩ := Yrs s.Seq h1 h2
 have hcp : Xce s = some s := by
  unfold Xce
  rw [c2, Xad]
 have no : ∀ {x y : Option (Source × List ByteArray × Bool)}, x = some (s, [], false) → y = some (s, [], false) → ∃ t us ok, x = some (t, us, ok) ∧ y = some (t, us, ok) ∧ us.length ≤ 3 ∧ t.Seq = s.Seq := fun e1 e2 => ⟨s, [], false, e1, e2, by simp, rfl⟩
 cases hs : Xc5 s with
 | false =>
  refine no ?_ ?_
  ·
   unfold Xbz
   rw [Xes s (by omega) (by omega), Xad, hs, Xay, Xad, Xa0, hcp, Xad]
  ·
   unfold Xcj
   rw [Xjr, Xad, Xnl s want hb, Xad, Xew s hb, Xad, hs, Xay, Xad, Xa0, c1, Xad]
 | true =>
  cases hp : Xya pic s.Seq with
  | false =>
   refine no ?_ ?_
   ·
    unfold Xbz
    rw [Xes s (by omega) (by omega), Xad, hs, Xa0, Xqn _ _ (by omega) (by omega), Xad, hp, Xad, Bool.not_false, Xa0, hcp, Xad]
   ·
    have e3 : (sel (Xdq pic) (sel (pic.Wide != (Xja s.Seq).1) (some true) (sel (pic.High != (Xja s.Seq).2) (some true) (sel (Xbi s want) (some false) (some (decide (s.Since ≥ 1000)))))) (some true)) = some true := by
     unfold Xya at hp
     cases h3 : Xdq pic with
     | false => rfl
     | true =>
      rw [h3, Bool.true_and] at hp
      by_cases hw : pic.Wide = (Xja s.Seq).1
      ·
       rw [beq_iff_eq.2 hw, Bool.true_and, beq_eq_false_iff_ne] at hp
       rw [Xa0, Xba (by rw [bne_eq_false_iff_eq]; exact hw), Xbk (by rw [bne_iff_ne]; exact hp)]
      ·
       rw [Xa0, Xbk (by rw [bne_iff_ne]; exact hw)]
    unfold Xcj
    rw [Xjr, Xad, Xnl s want hb, Xad, Xew s hb, Xad, hs, Xa0, Xci, Xad, e3, Xad, Xa0, c1, Xad]
  | true =>
   by_cases hk : Xbi s want = true ∨ s.Since < 1000
   ·
    obtain ⟨l, now, S, e1, e2⟩ := Ynp hs hp hk
    refine ⟨_, _, _, e1, e2, ?_, rfl⟩
    rw [Ytv]
    split <;> omega
   ·
    have hkf : Xbi s want = false := by cases hx : Xbi s want with | true => exact absurd (.inl hx) hk | false => rfl
    have hcut : (sel (Xbi s want) (some false) (some (decide (s.Since ≥ 1000)))) = some true := by
     rw [hkf, Xay, decide_eq_true (by omega)]
    obtain ⟨p1, p2, p3⟩ := Xuh hp
    refine no ?_ ?_
    ·
     unfold Xbz
     rw [Xes s (by omega) (by omega), Xad, hs, Xa0, Xqn _ _ (by omega) (by omega), Xad, hp, Xad, Bool.not_true, Xay, Xw2 s want (by omega) (by omega), Xad, hcut, Xad, Xa0, hcp, Xad]
    ·
     unfold Xcj
     rw [Xjr, Xad, Xnl s want hb, Xad, Xew s hb, Xad, hs, Xa0, Xci, Xad, p1, Xa0, Xba (by rw [bne_eq_false_iff_eq]; exact p2), Xba (by rw [bne_eq_false_iff_eq]; exact p3), hcut, Xad, Xa0, c1, Xad]
theorem Ydu (s : Source) (h : Ya9 s) : ∃ t, Xlq s 1048576 = some t ∧ t ≤ 1048576 ∧ (0 ≤ t → s.Seq.Cols.length ≤ 1048576 ∧ s.Seq.Rows.length ≤ 1048576) := by
 unfold Ya9 Zcy Zcx at h
 obtain ⟨t, e, a, b, c⟩ := Yst s.Seq 1048576 h.1.2.2.1.1 h.1.2.2.2.1 (by omega) (by omega)
 unfold Xlq
 rw [e, Xad]
 by_cases ht : t < 0
 ·
  rw [Xbo ht]; exact ⟨_, rfl, by omega, by omega⟩
 ·
  rw [Xav ht, Ya7 s.Ref t h.2.2.2.2.2.2.2.2.2.2 (by omega) (by omega), Xad]
  split
  ·
   rw [syA]; exact ⟨_, rfl, by omega, by omega⟩
  ·
   rw [snA]; exact ⟨_, rfl, by omega, fun _ => c (by omega)⟩
def Yq3 (s : Source) (k : Int) : Source := ⟨⟨s.Seq.Level, s.Seq.Bits, Xub k s.Seq.Cols, Xub (k + (s.Seq.Cols.length : Int)) s.Seq.Rows⟩, s.Par, s.Rate, s.Frame, s.Since, s.Every, s.Reach, s.Has, s.Ref⟩
theorem Xpq (s : Source) (k : Int) (h0 : 0 < k) (h1 : k ≤ 100000000) (hc : s.Seq.Cols.length ≤ 100000000) (hr : s.Seq.Rows.length ≤ 100000000) : Xf6 s k = some (k + s.Seq.Cols.length + s.Seq.Rows.length, Yq3 s k) := by
 unfold Xf6
 rw [Yk6 _ _ h0 h1 hc hr, Xad]
 rfl
theorem Xy0 (s : Source) (k : Int) (h0 : 0 < k) (h1 : k ≤ 100000000) (hc : s.Seq.Cols.length ≤ 100000000) (hr : s.Seq.Rows.length ≤ 100000000) : Xf5 (Yq3 s k) k = some (k + s.Seq.Cols.length + s.Seq.Rows.length) := by
 unfold Xf5
 rw [Yk4 (Yq3 s k).Seq s.Seq.Cols s.Seq.Rows k h0 h1 hc hr rfl rfl, Xad, snA]
theorem FnExactSourceStep {p0 : Source} {p1 : Pic} {p2 : Bool} (h0 : Ya9 p0) (h1 : Zcx p1) : Xep p0 p1 p2 = some true := by
 have hm : maxLen = 9223372036854775807 := rfl
 unfold Xep
 obtain ⟨t, e, tb, a⟩ := Ydu p0 h0
 rw [e, Xad]
 by_cases ht : t < 0
 ·
  rw [Xbo ht]
 rw [Xav ht, Ya7 p1 t h1.2.2 (by omega) tb, Xad]
 split
 ·
  rw [syA]
 rw [snA]
 obtain ⟨l1, l2⟩ := a (by omega)
 have hb : (Lit.int .i64 p0.Seq.Bits).wf = true := by unfold Ya9 Zcy at h0; exact h0.1.2.1
 obtain ⟨g, us, ok, ei, es, hu, hq⟩ := Yi4 p0 p1 p2 l1 l2 hb
 have g1 : g.Seq.Cols.length ≤ 1048576 := by rw [hq]; exact l1
 have g2 : g.Seq.Rows.length ≤ 1048576 := by rw [hq]; exact l2
 have hsm : (⟨(⟨g.Seq.Level, g.Seq.Bits, (Yq3 g 1).Seq.Cols, (Yq3 g 1).Seq.Rows⟩ : Seq), g.Par, g.Rate, g.Frame, g.Since, g.Every, g.Reach, g.Has, g.Ref⟩ : Source) = Yq3 g 1 := rfl
 have etp : Xm0 p1 = some p1 := rfl
 simp only [Ygu p0 l1 l2, etp, Xad, es, ei, Xqr g (by omega) (by omega), Xqr p0 (by omega) (by omega), Xyx us (by omega), beq_self_eq_true, Bool.not_true, Xa0, Xay, Xpq p0 1 (by omega) (by omega) (by omega) (by omega), Xpq g 1 (by omega) (by omega) (by omega) (by omega), hsm, Xy0 g 1 (by omega) (by omega) (by omega) (by omega)]
 rw [snA, Xad, Xay]
 rw [Xy5 us (1 + (g.Seq.Cols.length : Int) + (g.Seq.Rows.length : Int)) (by omega) (by omega) (by omega), Xad]
 simp only [Xy1 us (1 + (g.Seq.Cols.length : Int) + (g.Seq.Rows.length : Int)) (by omega) (by omega) (by omega), Xad, bne_self_eq_false, Xay]
 rw [snA, snA, snA, snA]
end Go.Proofs.YtnhflbeahbcklabGreat.A.Pure
