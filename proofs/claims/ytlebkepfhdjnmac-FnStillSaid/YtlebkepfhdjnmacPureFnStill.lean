/- The pure statement of the law FnStill, part 2: over numbers, texts and lists alone, what the law computes is true. Conditions: the sizes of what a machine holds. -/
import Derived.Test.YtlebkepfhdjnmacPureFnStillx0
namespace Go.Proofs.Ytlebkepfhdjnmac.A.Pure
open Go Go.Proofs Go.Proofs.YtlebkepfhdjnmacAL Go.RowKit
set_option linter.unusedVariables false
set_option linter.unusedSimpArgs false
set_option maxHeartbeats 1000000
theorem Xnv (p : List Int) (c : Xdx) (hc : Xe0 c = true) (hl : p.length = 64) (hb : inB 255 p) : ∃ o, Xcq p c = some (o, true) ∧ Xxs o = true := by
 have hm : maxLen = 9223372036854775807 := rfl
 have hq := Xq1 hc
 unfold Xcq
 rw [Xdr, Xab, hc, Xaz, Xbr p 64 255 (by omega) (by omega) (by omega) hb, Xab, Bool.not_true, Xab, Xav]
 cases hE : c.Exact with
 | true =>
  obtain ⟨o, e, h1, h2⟩ := Xk3 8 (Or.inr rfl) p 255 (by omega) hb
  rw [Xaz, e, Xab]
  exact ⟨o, rfl, Yev (by omega) (Xlk h2 (by omega))⟩
 | false =>
  rw [Xav]
  cases hL : c.Large with
  | true =>
   obtain ⟨w, ew, w1⟩ := Xsk p hl hb
   obtain ⟨l, el, l1, l2⟩ := Xi7 (f := Xbp c) 64 (fun _ => True) (fun x => -5000 ≤ x ∧ x ≤ 5000) (by
    intro i l hi hll _
    obtain ⟨d, ed, d1, d2⟩ := Xlp (l.getD i 0) c.Qp hq
    unfold Xbp
    simp only [Int.toNat_natCast]
    rw [syA, rqA, rqA, ed, Xab, rqA, rqA, wkA (e := (i : Int) + 1)]
    exact ⟨d, rfl, d1, d2⟩) (by intro s; unfold Xbp; rw [Xao (by simp)]) w w1 (fun _ _ => trivial)
   obtain ⟨o, e, h1, h2⟩ := Xk3 8 (Or.inr rfl) l 5000 (by omega) l2
   rw [Xaz, ew, Xab, el, Xab, e, Xab]
   exact ⟨o, rfl, Yev (by omega) h2⟩
  | false =>
   obtain ⟨o, eo, o1, o2⟩ := Xcr (f := Xcw p c) 4 (fun k s => s.length = 16 * k ∧ inB 5000 s) (by
    intro k s hk ⟨g1, g2⟩
    obtain ⟨a, ea, a1, a2⟩ := Xls p k hk 255 hl hb
    obtain ⟨b, eb, b1, b2⟩ := Xuh a a1 a2
    obtain ⟨l, el, l1, l2⟩ := Xi7 (f := Xbi c) 16 (fun x => -9180 ≤ x ∧ x ≤ 9180) (fun x => -5000 ≤ x ∧ x ≤ 5000) (by
     intro i l hi hll hx
     obtain ⟨d, ed, d1, d2⟩ := Xlq (l.getD i 0) c.Qp i hx hq (by omega)
     unfold Xbi
     simp only [Int.toNat_natCast]
     rw [syA, rqA, rqA, ed, Xab, rqA, rqA, wkA (e := (i : Int) + 1)]
     exact ⟨d, rfl, d1, d2⟩) (by intro s; unfold Xbi; rw [Xao (by simp)]) b b1 b2
    obtain ⟨r, er, r1, r2⟩ := Xk3 4 (Or.inl rfl) l 5000 (by omega) l2
    unfold Xcw
    simp only
    rw [syA, ea, Xab, eb, Xab, el, Xab, er, Xab]
    simp only
    rw [rqA, wkA (e := (k : Int) + 1)]
    exact ⟨_, rfl, by rw [List.length_append]; omega, Xis g2 r2⟩) (by intro s; unfold Xcw; rw [Xao (by simp)]) [] ⟨rfl, Xqh _⟩
   rw [Xav, eo, Xab]
   exact ⟨o, rfl, Yev (by omega) o2⟩
theorem Xez (p : List Int) (c : Xdx) (hc : Xe0 c = true) (hp : Xxs p = true) : ∃ o, Xcc p c = some (o, true) ∧ o.length = 64 ∧ inB 10000000 o := by
 have hm : maxLen = 9223372036854775807 := rfl
 have hq := Xq1 hc
 obtain ⟨hl, hb⟩ := Xxt hp
 unfold Xcc
 rw [Xdr, Xab, hc, Xaz, Xbr p 64 5000 (by omega) (by omega) (by omega) hb, Xab, Bool.not_true, Xab, Xav]
 cases hE : c.Exact with
 | true =>
  obtain ⟨o, e, h1, h2⟩ := Xd6 8 (Or.inr rfl) p 5000 (by omega) (by omega) hb
  rw [Xaz, e, Xab]
  exact ⟨o, rfl, by omega, Xlk h2 (by omega)⟩
 | false =>
  rw [Xav]
  cases hL : c.Large with
  | true =>
   obtain ⟨w, ew, w1, w2⟩ := Xd6 8 (Or.inr rfl) p 5000 (by omega) (by omega) hb
   obtain ⟨l, el, l1, l2⟩ := Xi7 (f := Xa7 c) 64 (fun x => -5000 ≤ x ∧ x ≤ 5000) (fun x => -5760000 ≤ x ∧ x ≤ 5760000) (by
    intro i l hi hll hx
    obtain ⟨d, ed, d1, d2⟩ := Xml (l.getD i 0) c.Qp hx hq
    unfold Xa7
    simp only [Int.toNat_natCast]
    rw [syA, rqA, rqA, ed, Xab, rqA, rqA, wkA (e := (i : Int) + 1)]
    exact ⟨d, rfl, d1, d2⟩) (by intro s; unfold Xa7; rw [Xao (by simp)]) w (by omega) w2
   obtain ⟨o, e, h1, h2⟩ := Xtu l l1 l2
   rw [Xaz, ew, Xab, el, Xab, e, Xab]
   exact ⟨o, rfl, h1, h2⟩
  | false =>
   obtain ⟨o, eo, o1, o2⟩ := Xcr (f := Xb3 p c) 4 (fun k s => s.length = 64 ∧ inB 10000000 s) (by
    intro k s hk ⟨g1, g2⟩
    have hcut : ((p.drop (16 * k)).take 16).length = 16 := by rw [List.length_take, List.length_drop]; omega
    obtain ⟨a, ea, a1, a2⟩ := Xd6 4 (Or.inl rfl) ((p.drop (16 * k)).take 16) 5000 (by omega) (by omega) (Yfs (Yfq hb _) _)
    obtain ⟨l, el, l1, l2⟩ := Xi7 (f := Xa2 c) 16 (fun x => -5000 ≤ x ∧ x ≤ 5000) (fun x => -10000000 ≤ x ∧ x ≤ 10000000) (by
     intro i l hi hll hx
     obtain ⟨d, ed, d1, d2⟩ := Xmm (l.getD i 0) c.Qp i hx hq (by omega)
     unfold Xa2
     simp only [Int.toNat_natCast]
     rw [syA, rqA, rqA, ed, Xab, rqA, rqA, wkA (e := (i : Int) + 1)]
     exact ⟨d, rfl, d1, d2⟩) (by intro s; unfold Xa2; rw [Xao (by simp)]) a (by omega) a2
    obtain ⟨b, eb, b1, b2⟩ := Xnu l l1 l2
    obtain ⟨r, er, r1, r2⟩ := Xcr (f := Xa9 ((k : Int), s) b) 16 (fun i s => s.length = 64 ∧ inB 10000000 s) (by
     intro i s hi ⟨g1, g2⟩
     have ha := Xia b2 (i := i) (by omega)
     unfold Xa9
     simp only
     rw [syA, rqA, rqA, rqA, rqA, rqA, rqA, Xbx (a := (k : Int)) (by omega), Xbx (a := (i : Int)) (by omega), Xcg (a := (k : Int)) (by omega), Xcg (a := (i : Int)) (by omega), wkA (e := (k : Int) / 2), wkA (e := (k : Int) / 2 * 4), wkA (e := (i : Int) / 4), wkA (e := (k : Int) / 2 * 4 + (i : Int) / 4), wkA (e := 8 * ((k : Int) / 2 * 4 + (i : Int) / 4)), wkA (e := (k : Int) % 2 * 4), wkA (e := 8 * ((k : Int) / 2 * 4 + (i : Int) / 4) + (k : Int) % 2 * 4), wkA (e := 8 * ((k : Int) / 2 * 4 + (i : Int) / 4) + (k : Int) % 2 * 4 + (i : Int) % 4), rqA, rqA, wkA (e := (i : Int) + 1), Int.toNat_natCast]
     exact ⟨_, rfl, by rw [List.length_set]; exact g1, Yeo g2 _ ha⟩) (by intro s; unfold Xa9; rw [Xao (by simp)]) s ⟨g1, g2⟩
    unfold Xb3
    simp only
    rw [syA, wkA (e := 16 * (k : Int)), wkA (e := 16 * (k : Int) + 16), rqA, show (16 * (k : Int)).toNat = 16 * k by omega, show (16 * (k : Int) + 16).toNat - 16 * k = 16 by omega, ea, Xab, el, Xab, eb, Xab, er, Xab, wkA (e := (k : Int) + 1)]
    exact ⟨_, rfl, r1, r2⟩) (by intro s; unfold Xb3; rw [Xao (by simp)]) (List.replicate (64 : Int).toNat 0) ⟨by simp, Yen _ (by omega)⟩
   rw [Xav, rqA, eo, Xab]
   exact ⟨o, rfl, o1, o2⟩
theorem Xdc (l : List Int) (h : Xbc l = true) : Xec l = some true := by
 obtain ⟨h1, h2⟩ := Xba h
 unfold Xec
 rw [Xcp (by simp only [bne_eq_false_iff_eq]; omega), Xx9 l.length (f := Xc7 l) (by
  intro i hi
  have := h2 i (by omega)
  unfold Xc7
  rw [syA, rqA, Xah, Xab, Int.toNat_natCast, decide_eq_true this, Bool.not_true, Xav, wkA]
  rfl) (by unfold Xc7; rw [snA]), Xab]
theorem Ycn {l : List Int} (h1 : l.length = 64) (h2 : ∀ x ∈ l, 0 ≤ x ∧ x ≤ 255) : Xbc l = true := by
 unfold Xbc
 rw [Bool.and_eq_true, decide_eq_true_eq, List.all_eq_true]
 exact ⟨h1, fun x hx => by unfold Yef; rw [decide_eq_true_eq]; exact h2 x hx⟩
theorem Xpr (g b : List Int) (hg : Xbc g = true) (hl : b.length = 64) (hb : inB 10000000 b) : ∃ o, Xff g b = some o ∧ Xbc o = true := by
 have hm : maxLen = 9223372036854775807 := rfl
 obtain ⟨g1, g2⟩ := Xba hg
 unfold Xff
 rw [Xdc g hg, Xab, Xaz, Xbr b 64 10000000 (by omega) (by omega) (by omega) hb, Xab, Bool.not_true, Xab, Xav]
 obtain ⟨o, e, h1, h2⟩ := Xcr (f := Xb8 g b) 64 (fun i s => s.length = i ∧ ∀ x ∈ s, 0 ≤ x ∧ x ≤ 255) (by
  intro i s hi ⟨k1, k2⟩
  have ha := Xia hb (i := i) (by omega)
  have hd := g2 i hi
  have br := Xkg (n := g.getD i 0 + b.getD i 0) (a := 0) (b := 255) (by omega)
  unfold Xb8
  simp only [Int.toNat_natCast]
  rw [syA, rqA, rqA, wkA (e := g.getD i 0 + b.getD i 0), Xc2, Xab, Xbb (by simp only [List.length_singleton]; omega), wkA (e := (i : Int) + 1)]
  refine ⟨_, rfl, by simp; omega, fun x hx => ?_⟩
  rcases List.mem_append.1 hx with hx | hx
  ·
   exact k2 x hx
  ·
   rw [List.mem_singleton.1 hx]; exact br) (by intro s; unfold Xb8; rw [Xao (by simp)]) [] ⟨rfl, fun x hx => by simp at hx⟩
 exact ⟨o, (Xji e).trans rfl, Ycn h1 h2⟩
def Xnj (e : Xf3) : Prop := (e.Above.length = 0 ∨ e.Above.length = 8) ∧ (e.Left.length = 0 ∨ e.Left.length = 8) ∧ (∀ x ∈ e.Above, 0 ≤ x ∧ x ≤ 255) ∧ (∀ x ∈ e.Left, 0 ≤ x ∧ x ≤ 255) ∧ -1 ≤ e.Corner ∧ e.Corner ≤ 255
theorem Xnz {p : Pic} (ok : Xce p = true) (x y : Int) : Xjf p x y 8 8 = some (Xcb p x y) := by
 obtain ⟨k1, k2, k3⟩ := Xa6 ok
 unfold Xjf Xcb
 rw [Xek, Xab, ok, Xaz, Xah, Xab, Xah, Xab, wkA (e := p.Wide - 8), wkA (e := p.High - 8), Xah, Xab, Xah, Xab]
 simp only [Xgv, Xab]
 congr 1
 rw [Bool.eq_iff_iff]
 simp only [Bool.and_eq_true, decide_eq_true_eq]
 omega
theorem Xdd {p : Pic} (ok : Xce p = true) {x y : Int} (hx : x.tmod 8 = 0) (hy : y.tmod 8 = 0) (h : Xcb p x y = true) : Xg9 p x y = some true := by
 unfold Xg9
 rw [rqA, hx, rqA, hy, Xnz ok, Xab, h]
 rfl
theorem Xk0 {p : Pic} (ok : Xce p = true) {x y : Int} (hx : x.tmod 8 = 0) (hy : y.tmod 8 = 0) (h : Xcb p x y = true) : ∃ e, Xea p x y = some (e, true) ∧ Xnj e := by
 have hm : maxLen = 9223372036854775807 := rfl
 obtain ⟨k1, k2, k3⟩ := Xa6 ok
 have h' := h
 unfold Xcb at h'
 rw [decide_eq_true_eq] at h'
 unfold Xea
 rw [Xdd ok hx hy h, Xab, Bool.not_true, Xav]
 obtain ⟨o, e, o1, o2, o3, o4, o5, o6⟩ := Xcr (f := Xd4 p x y) 8 (fun i s => (y > 0 → s.1.length = i) ∧ (¬ y > 0 → s.1.length = 0) ∧ (x > 0 → s.2.length = i) ∧ (¬ x > 0 → s.2.length = 0) ∧ (∀ z ∈ s.1, 0 ≤ z ∧ z ≤ 255) ∧ (∀ z ∈ s.2, 0 ≤ z ∧ z ≤ 255)) (by
  intro i s hi ⟨g1, g2, g3, g4, g5, g6⟩
  obtain ⟨a, b⟩ := s
  simp only at g1 g2 g3 g4 g5 g6
  have d1 := Xmw p (x + i) (y - 1)
  have d2 := Xmw p (x - 1) (y + i)
  have st1 : ∃ a', (sel (decide (y > 0)) (bnd (Xdb p (Xaa .i64 (x + (i : Int))) (Xaa .i64 (y - 1))) fun q16 => req ((a.length + ([q16]).length) * 8 ≤ 140737488355328 ∧ a.length + ([q16]).length ≤ maxLen) <| some (a ++ ([q16]))) (some a)) = some a' ∧ (y > 0 → a'.length = i + 1) ∧ (¬ y > 0 → a'.length = 0) ∧ (∀ z ∈ a', 0 ≤ z ∧ z ≤ 255) := by
   by_cases c : y > 0
   ·
    rw [Xbj c, wkA (e := x + (i : Int)), wkA (e := y - 1), Xfv ok, Xab, Xbb (by simp only [List.length_singleton]; have := g1 c; omega)]
    refine ⟨_, rfl, fun _ => by simp; exact g1 c, fun hn => absurd c hn, fun z hz => ?_⟩
    rcases List.mem_append.1 hz with hz | hz
    ·
     exact g5 z hz
    ·
     rw [List.mem_singleton.1 hz]; exact d1
   ·
    rw [Xao c]
    exact ⟨_, rfl, fun hn => absurd hn c, fun _ => g2 c, g5⟩
  obtain ⟨a', ea, a1, a2, a3⟩ := st1
  have st2 : ∃ b', (sel (decide (x > 0)) (bnd (Xdb p (Xaa .i64 (x - 1)) (Xaa .i64 (y + (i : Int)))) fun q17 => req ((b.length + ([q17]).length) * 8 ≤ 140737488355328 ∧ b.length + ([q17]).length ≤ maxLen) <| some (a', (b ++ ([q17])))) (some (a', b))) = some (a', b') ∧ (x > 0 → b'.length = i + 1) ∧ (¬ x > 0 → b'.length = 0) ∧ (∀ z ∈ b', 0 ≤ z ∧ z ≤ 255) := by
   by_cases c : x > 0
   ·
    rw [Xbj c, wkA (e := y + (i : Int)), wkA (e := x - 1), Xfv ok, Xab, Xbb (by simp only [List.length_singleton]; have := g3 c; omega)]
    refine ⟨_, rfl, fun _ => by simp; exact g3 c, fun hn => absurd c hn, fun z hz => ?_⟩
    rcases List.mem_append.1 hz with hz | hz
    ·
     exact g6 z hz
    ·
     rw [List.mem_singleton.1 hz]; exact d2
   ·
    rw [Xao c]
    exact ⟨_, rfl, fun hn => absurd hn c, fun _ => g4 c, g6⟩
  obtain ⟨b', eb, b1, b2, b3⟩ := st2
  unfold Xd4
  simp only
  rw [syA, ea, Xab, eb, Xab, wkA (e := (i : Int) + 1)]
  exact ⟨(a', b'), rfl, a1, a2, b1, b2, a3, b3⟩) (by intro s; unfold Xd4; rw [Xao (by simp)]) ([], []) ⟨fun _ => rfl, fun _ => rfl, fun _ => rfl, fun _ => rfl, fun z hz => by simp at hz, fun z hz => by simp at hz⟩
 rw [e, Xab, Xgv, Xab]
 have d3 := Xmw p (x - 1) (y - 1)
 have ha : o.1.length = 0 ∨ o.1.length = 8 := by
  by_cases c : y > 0
  ·
   exact Or.inr (o1 c)
  ·
   exact Or.inl (o2 c)
 have hb : o.2.length = 0 ∨ o.2.length = 8 := by
  by_cases c : x > 0
  ·
   exact Or.inr (o3 c)
  ·
   exact Or.inl (o4 c)
 cases hc : (decide (x > 0) && decide (y > 0)) with
 | true =>
  rw [Xaz, wkA (e := x - 1), wkA (e := y - 1), Xfv ok, Xab, Xab]
  exact ⟨_, rfl, ha, hb, o5, o6, by simp only; omega, by simp only; omega⟩
 | false =>
  rw [Xav, Xab]
  exact ⟨_, rfl, ha, hb, o5, o6, by simp only; omega, by simp only; omega⟩
theorem Xn0 (l : List Int) (hl : l.length = 0 ∨ l.length = 8) (h : ∀ x ∈ l, 0 ≤ x ∧ x ≤ 255) : Xlr l = some true := by
 unfold Xlr
 have hc : (sel ((l.length : Int) != 0) (some ((l.length : Int) != 8)) (some false)) = some false := by
  rcases hl with e | e
  ·
   rw [e]; rfl
  ·
   rw [e]; rfl
 rw [hc, Xab, Xav, Xx9 l.length (f := Xh4 l) (by
  intro i hi
  have := h (l.getD i 0) (by rw [Xee l i hi]; exact List.getElem_mem _)
  unfold Xh4
  rw [syA, rqA, Xah, Xab, Int.toNat_natCast, decide_eq_true this, Bool.not_true, Xav, wkA]
  rfl) (by unfold Xh4; rw [snA]), Xab]
theorem Xgp {e : Xf3} (h : Xnj e) : Xlo e = some true := by
 obtain ⟨h1, h2, h3, h4, h5, h6⟩ := h
 unfold Xlo
 rw [Xn0 _ h1 h3, Xab, Xaz, Xn0 _ h2 h4, Xab, Xaz, Xah, Xab, decide_eq_true ⟨h5, h6⟩, Xab]
theorem Xmp (l : List Int) (k : Nat) (hk : k < 8) (hl : l.length = 0 ∨ l.length = 8) (h : ∀ x ∈ l, 0 ≤ x ∧ x ≤ 255) : ∃ x, Xdv l k = some x ∧ 0 ≤ x ∧ x ≤ 255 := by
 unfold Xdv
 rcases hl with e | e
 ·
  rw [Xc1 (by rw [e]; rfl)]; exact ⟨_, rfl, by omega, by omega⟩
 ·
  rw [Xcp (by rw [e]; rfl), rqA, Int.toNat_natCast]
  exact ⟨_, rfl, h _ (by rw [Xee l k (by omega)]; exact List.getElem_mem _)⟩
theorem Xpw {e : Xf3} (h : Xnj e) : ∃ x, Xk7 e = some x ∧ 0 ≤ x ∧ x ≤ 255 := by
 obtain ⟨h1, h2, h3, h4, _, _⟩ := h
 unfold Xk7
 rw [wkA (e := (e.Above.length : Int) + (e.Left.length : Int))]
 by_cases hz : (e.Above.length : Int) + (e.Left.length : Int) = 0
 ·
  rw [Xc1 (by simpa using hz)]; exact ⟨_, rfl, by omega, by omega⟩
 ·
  rw [Xcp (by simpa using hz), rqA, Xbx (by omega), wkA (e := ((e.Above.length : Int) + (e.Left.length : Int)) / 2)]
  obtain ⟨a, ea, a1, a2⟩ := Xld (f := Xgi e) e.Above.length (fun i s => 0 ≤ s ∧ s ≤ ((e.Above.length : Int) + (e.Left.length : Int)) / 2 + 255 * i) (by
   intro i s hi ⟨g1, g2⟩
   have := h3 (e.Above.getD i 0) (by rw [Xee _ i hi]; exact List.getElem_mem _)
   unfold Xgi
   simp only [Int.toNat_natCast]
   rw [syA, rqA, wkA (e := s + e.Above.getD i 0), wkA (e := (i : Int) + 1)]
   exact ⟨_, rfl, by omega, by omega⟩) (by intro s; unfold Xgi; rw [Xao (by simp)]) (((e.Above.length : Int) + (e.Left.length : Int)) / 2) ⟨by omega, by omega⟩
  obtain ⟨b, eb, b1, b2⟩ := Xld (f := Xgj e) e.Left.length (fun i s => 0 ≤ s ∧ s ≤ ((e.Above.length : Int) + (e.Left.length : Int)) / 2 + 255 * e.Above.length + 255 * i) (by
   intro i s hi ⟨g1, g2⟩
   have := h4 (e.Left.getD i 0) (by rw [Xee _ i hi]; exact List.getElem_mem _)
   unfold Xgj
   simp only [Int.toNat_natCast]
   rw [syA, rqA, wkA (e := s + e.Left.getD i 0), wkA (e := (i : Int) + 1)]
   exact ⟨_, rfl, by omega, by omega⟩) (by intro s; unfold Xgj; rw [Xao (by simp)]) a ⟨by omega, by omega⟩
  rw [ea, Xab, eb, Xab, Xbb hz, Xbx b1]
  have hn : (e.Above.length : Int) + (e.Left.length : Int) = 8 ∨ (e.Above.length : Int) + (e.Left.length : Int) = 16 := by omega
  have hr : 0 ≤ b / ((e.Above.length : Int) + (e.Left.length : Int)) ∧ b / ((e.Above.length : Int) + (e.Left.length : Int)) ≤ 255 := by
   rcases hn with hn | hn <;> rw [hn] <;> omega
  rw [wkA]
  exact ⟨_, rfl, hr⟩
theorem Xfe (m : Int) (hm0 : 0 ≤ m ∧ m ≤ 3) {e : Xf3} (h : Xnj e) : ∃ g, Xcs m e = some g ∧ Xbc g = true := by
 have hm : maxLen = 9223372036854775807 := rfl
 have h' := h
 obtain ⟨h1, h2, h3, h4, h5, h6⟩ := h'
 obtain ⟨mid, em, m1, m2⟩ := Xpw h
 unfold Xcs
 rw [Xgp h, Xab, Xaz, Xah, Xab, decide_eq_true hm0, Bool.not_true, Xab, Xav]
 have hc : ∃ v, sel (decide (e.Corner < 0)) (some (128 : Int)) (some e.Corner) = some v ∧ 0 ≤ v ∧ v ≤ 255 := by
  by_cases c : e.Corner < 0
  ·
   rw [Xbj c]; exact ⟨_, rfl, by omega, by omega⟩
  ·
   rw [Xao c]; exact ⟨_, rfl, by omega, by omega⟩
 obtain ⟨v, ev, v1, v2⟩ := hc
 rw [ev, Xab]
 obtain ⟨o, eo, o1, o2⟩ := Xcr (f := Xc3 m e v) 64 (fun i s => s.length = i ∧ ∀ x ∈ s, 0 ≤ x ∧ x ≤ 255) (by
  intro i s hi ⟨g1, g2⟩
  obtain ⟨a, ea, a1, a2⟩ := Xmp e.Above (i % 8) (by omega) h1 h3
  obtain ⟨b, eb, b1, b2⟩ := Xmp e.Left (i / 8) (by omega) h2 h4
  have br := Xkg (n := b + a - v) (a := 0) (b := 255) (by omega)
  have put : ∀ z : Int, 0 ≤ z ∧ z ≤ 255 → (s ++ [z]).length = i + 1 ∧ ∀ x ∈ s ++ [z], 0 ≤ x ∧ x ≤ 255 := by
   intro z hz
   refine ⟨by simp; omega, fun x hx => ?_⟩
   rcases List.mem_append.1 hx with hx | hx
   ·
    exact g2 x hx
   ·
    rw [List.mem_singleton.1 hx]; exact hz
  unfold Xc3
  simp only
  rw [syA, rqA, Xcg (by omega), show (i : Int) % 8 = ((i % 8 : Nat) : Int) by omega, ea, Xab, rqA, Xbx (by omega), wkA (e := (i : Int) / 8), show (i : Int) / 8 = ((i / 8 : Nat) : Int) by omega, eb, Xab, wkA (e := (i : Int) + 1), em]
  cases (m == 0) with
  | true =>
   rw [Xaz, Xab, Xbb (by simp only [List.length_singleton]; omega), Xab]
   exact ⟨_, rfl, put _ ⟨m1, m2⟩⟩
  | false =>
   rw [Xav]
   cases (m == 1) with
   | true =>
    rw [Xaz, Xbb (by simp only [List.length_singleton]; omega), Xab]
    exact ⟨_, rfl, put _ ⟨a1, a2⟩⟩
   | false =>
    rw [Xav]
    cases (m == 2) with
    | true =>
     rw [Xaz, Xbb (by simp only [List.length_singleton]; omega), Xab]
     exact ⟨_, rfl, put _ ⟨b1, b2⟩⟩
    | false =>
     rw [Xav, wkA (e := b + a), wkA (e := b + a - v), Xc2, Xab, Xbb (by simp only [List.length_singleton]; omega), Xab]
     exact ⟨_, rfl, put _ br⟩) (by intro s; unfold Xc3; rw [Xao (by simp)]) [] ⟨rfl, fun x hx => by simp at hx⟩
 exact ⟨o, (Xji eo).trans rfl, Ycn o1 o2⟩
theorem Yfp {l : List Int} (h : Xbc l = true) : l.length = 64 ∧ inB 1000 l := by
 simp only [Xbc, Bool.and_eq_true, decide_eq_true_eq] at h
 refine ⟨h.1, fun x hx => ?_⟩
 have := List.all_eq_true.1 h.2 x hx
 simp only [Yef, decide_eq_true_eq] at this
 omega
theorem Xnc {a b : List Int} (ha : Xbc a = true) (hb : Xbc b = true) : Xo2 a b = some (Xko a b 64) := by
 have la := Yfp ha
 have lb := Yfp hb
 unfold Xo2
 rw [Xbr a 64 1000 (by omega) (by omega) (by omega) la.2, Xab, Xaz, Xbr b 64 1000 (by omega) (by omega) (by omega) lb.2, Xab, Bool.not_true, Xab, Xav]
 have key : ∀ i : Nat, i ≤ 64 → loop (Xke a b) (Xko a b i, (i : Int)) = some (Xko a b 64) := by
  refine Xic _ ?_ ?_
  ·
   exact Xkx (by unfold Xke; rw [Xao (by simp)])
  ·
   intro i hi ih
   refine lgo (y := (Xko a b (i + 1), ((i + 1 : Nat) : Int))) ?_ ih
   have p := (Xba ha).2 i hi
   have q := (Xba hb).2 i hi
   have g := Xgy ha hb i (by omega)
   have ab : 0 ≤ Xt6 (a.getD i 0 - b.getD i 0) ∧ Xt6 (a.getD i 0 - b.getD i 0) ≤ 255 := by unfold Xt6; split <;> omega
   unfold Xke
   simp only [Int.toNat_natCast]
   rw [syA, rqA, rqA, wkA (e := a.getD i 0 - b.getD i 0), Xka _ (by omega), Xab, wkA (e := Xko a b i + Xt6 (a.getD i 0 - b.getD i 0)), wkA (e := (i : Int) + 1)]
   rfl
 exact (Xji (key 0 (by omega))).trans rfl
theorem Xzt (m : Int) (h : 0 ≤ m ∧ m ≤ 3) : ∃ s, Xi1 m = some s ∧ 0 ≤ s ∧ s ≤ 39 := by
 have := Xla m.toNat (by omega)
 unfold Xi1 Xtv
 rw [Xah, Xab, decide_eq_true (by omega), Bool.not_true, Xav, show m = ((m.toNat : Nat) : Int) by omega, Xng _ (by omega), Xab, Xab]
 refine ⟨_, rfl, ?_⟩
 rw [strOfNums_size]; omega
theorem Xtp {w : List Int} (hw : Xbc w = true) {e : Xf3} (h : Xnj e) : ∃ m c, Xgd w e = some (m, c) ∧ 0 ≤ m ∧ m ≤ 3 := by
 unfold Xgd
 rw [Xgp h, Xab, Xaz, Xdc w hw, Xab, Bool.not_true, Xab, Xav]
 obtain ⟨o, eo, o1, o2⟩ := Xlm (f := Xcv w e) (fun v => (0 ≤ v.1 ∧ v.1 ≤ 3) ∧ 0 ≤ v.2.2 ∧ v.2.2 ≤ 4) (fun v => (4 - v.2.2).toNat) (fun _ o => 0 ≤ o.1 ∧ o.1 ≤ 3) (by
  intro ⟨m, c, i⟩ ⟨g1, g2, g3⟩
  simp only at g1 g2 g3
  unfold Xcv
  simp only
  by_cases hi : i < 4
  ·
   obtain ⟨g, eg, hg⟩ := Xfe i ⟨g2, by omega⟩ h
   obtain ⟨s, es, s1, s2⟩ := Xzt i ⟨g2, by omega⟩
   rw [Xbj hi, eg, Xab, Xnc hw hg, Xab, es, Xab, Ygd, Xab, wkA (e := i + 1)]
   cases (decide (c < 0) || decide (Xaa IntKind.i64 (Xko w g 64 + s) < c)) with
   | true => exact .inr ⟨_, rfl, ⟨by simp only; omega, by simp only; omega, by simp only; omega⟩, by simp only; omega, fun _ h => h⟩
   | false => exact .inr ⟨_, rfl, ⟨by simp only; omega, by simp only; omega, by simp only; omega⟩, by simp only; omega, fun _ h => h⟩
  ·
   rw [Xao hi]
   exact .inl ⟨_, rfl, g1⟩) (0, -1, 0) ⟨by simp, by simp, by simp⟩
 exact ⟨o.1, o.2, (Xji eo).trans rfl, o1, o2⟩
theorem Xps (d : Int) (h : -500000 ≤ d ∧ d ≤ 500000) : Xne d = some (Ye2 d) := by
 unfold Xne Yaj Ye2
 rw [Xah, Xab, decide_eq_true h, Bool.not_true, Xav, Yb6 d h, Xab, Xab, strOfNums_size]
theorem Yhg {m : Int} {l : List Int} (hm : 0 ≤ m ∧ m ≤ 3) (hl : Xxs l = true) : Xqu ⟨2, m, 0, 0, l⟩ = true := by
 unfold Xqu
 simp only
 rw [if_neg (by omega), if_neg (by omega), if_pos trivial, hl, decide_eq_true hm]
 rfl
theorem Yi7 {dx dy : Int} {l : List Int} (hx : -16 ≤ dx ∧ dx ≤ 16) (hy : -16 ≤ dy ∧ dy ≤ 16) (hl : Xxs l = true) : Xqu ⟨1, 0, dx, dy, l⟩ = true := by
 unfold Xqu
 simp only
 rw [if_neg (by omega), if_pos trivial, hl, decide_eq_true hx, decide_eq_true hy]
 rfl
def Yj6 (p q : Pic) : Bool := Xce p && (Xce q && ((p.Wide == q.Wide) && (p.High == q.High)))
theorem Xyn (p q : Pic) : Xlt p q = some (Yj6 p q) := by
 unfold Xlt Yj6
 rw [Xek, Xab, Xek, Xab]
 simp only [Xgv, Xab]
theorem Yj7 {p q : Pic} (h1 : Xce p = true) (h2 : Xce q = true) (h3 : q.Wide = p.Wide) (h4 : q.High = p.High) : Yj6 p q = true := by
 unfold Yj6
 simp only [Bool.and_eq_true, beq_iff_eq]
 exact ⟨h1, h2, h3.symm, h4.symm⟩
theorem Xpx {p : Pic} {x y : Int} {d : List Int} (ok : Xce p = true) (h0 : Xcb p x y = true) (hd : Xbc d = true) : ∃ p', Xfm p x y d = some p' ∧ Xce p' = true ∧ p'.Wide = p.Wide ∧ p'.High = p.High := by
 have hm : maxLen = 9223372036854775807 := rfl
 obtain ⟨k1, k2, k3⟩ := Xa6 ok
 have ar := Xep k1 k2
 unfold Xcb at h0
 rw [decide_eq_true_eq] at h0
 have hdl := (Xba hd).1
 have hn := Xco p.Dots
 unfold Xfm
 rw [rqA]
 obtain ⟨o, e, o1⟩ := Xcr (f := Xb9 p x y d) 64 (fun _ s => s.length = p.Dots.size) (by
  intro i s hi g1
  have b1 : 0 ≤ (y + (i : Int) / 8) * p.Wide := Int.mul_nonneg (by omega) (by omega)
  have b2 : (y + (i : Int) / 8) * p.Wide ≤ (p.High - 1) * p.Wide := Int.mul_le_mul_of_nonneg_right (by omega) (by omega)
  have b3 : (p.High - 1) * p.Wide = p.Wide * p.High - p.Wide := by rw [Int.sub_mul, Int.one_mul, Int.mul_comm]
  unfold Xb9
  simp only
  rw [syA, rqA, rqA, rqA, Xbx (by omega), Xcg (by omega), wkA (e := (i : Int) / 8), wkA (e := y + (i : Int) / 8), wkA (e := (y + (i : Int) / 8) * p.Wide), wkA (e := (y + (i : Int) / 8) * p.Wide + x), wkA (e := (y + (i : Int) / 8) * p.Wide + x + (i : Int) % 8), rqA, rqA, wkA (e := (i : Int) + 1)]
  exact ⟨_, rfl, by rw [List.length_set]; exact g1⟩) (by intro s; unfold Xb9; rw [Xao (by simp)]) (Xax p.Dots) hn
 refine ⟨_, (Xji e).trans rfl, Xr8 k1 k2 ?_, rfl, rfl⟩
 simp only
 rw [strOfNums_size]; omega
def Xsh (n : Int) : Bool := decide (n.tmod 8 = 0) && decide (8 ≤ n ∧ n ≤ 64)
theorem Xqr (c : Xa3) (hc : Xj1 c) : ∃ p c', Xeo c = some (p, c') ∧ Ylw p = true ∧ Xj1 c' := by
 unfold Xeo
 obtain ⟨x, c1, e1, x0, x1, _, h1⟩ := Xa5 c 41 hc
 obtain ⟨b, c2, e2, h2⟩ := Xk5 c1 4 h1
 obtain ⟨y, c3, e3, y0, y1, _, h3⟩ := Xa5 c2 3 h2
 have x1' := x1 (by omega)
 rw [e1, Xab]
 simp only
 rw [e2, Xab]
 simp only
 rw [e3, Xab]
 simp only
 have po : ∀ (l e f : Bool), (l && e) = false → Ylw ⟨x, l, e, f⟩ = true := by
  intro l e f h
  unfold Ylw
  rw [Bool.and_eq_true, decide_eq_true_eq]
  exact ⟨by simp only; omega, by simp only [h]; rfl⟩
 cases (y == 0) with
 | true => exact ⟨_, _, rfl, po _ _ _ rfl, h3⟩
 | false =>
  cases (y == 1) with
  | true => exact ⟨_, _, rfl, po _ _ _ rfl, h3⟩
  | false => exact ⟨_, _, rfl, po _ _ _ rfl, h3⟩
theorem Ybh {V O : Type} {f g : V → Option (Lp V O)} (I : V → Prop) (h : ∀ v, I v → f v = g v) (hI : ∀ v v', I v → g v = some (.go v') → I v') : ∀ (k : Nat) (v : V), I v → it f k v = it g k v
 | 0, _, _ => rfl
 | k + 1, v, hv => by
  rw [it, it, h v hv]
  cases e : g v with
  | none => rfl
  | some s =>
   cases s with
   | go y => exact Ybh I h hI k y (hI v y hv e)
   | done o => rfl
theorem Xit {V O : Type} {f g : V → Option (Lp V O)} (I : V → Prop) (h : ∀ v, I v → f v = g v) (hI : ∀ v v', I v → g v = some (.go v') → I v') {v : V} (hv : I v) : loop f v = loop g v := by
 apply Option.ext
 intro o
 rw [Xf1, Xf1]
 exact ⟨fun ⟨k, hk⟩ => ⟨k, by rw [← Ybh I h hI k v hv]; exact hk⟩, fun ⟨k, hk⟩ => ⟨k, by rw [Ybh I h hI k v hv]; exact hk⟩⟩
theorem Yeu {V O : Type} {f : V → Option (Lp V O)} {v : V} {o : O} (k : Nat) (h : it f k v = some o) : loop f v = some o := Xf1.2 ⟨k, h⟩
theorem Xtk {a b : List Int} {n : Nat} (ha : a.length = n) (hb : b.length = n) (h : ∀ i : Nat, i < n → a.getD i 0 = b.getD i 0) : a = b := by
 apply List.ext_getElem (by omega)
 intro i h1 h2
 have := h i (by omega)
 rwa [Xee a i h1, Xee b i h2] at this
theorem Xgk {n : Nat} (g : Nat → Int) {i : Nat} (h : i < n) : ((List.range n).map g).getD i 0 = g i := by
 rw [Xee _ i (by simpa using h)]; simp
theorem Yfe {α : Type} {f : Int × List α → Option (Lp (Int × List α) (List α))} (n : Nat) (g : Nat → α) (a : List α) (hs : ∀ i : Nat, i < n → f ((i : Int), a ++ (List.range i).map g) = some (.go (((i + 1 : Nat) : Int), a ++ (List.range i).map g ++ [g i]))) (he : f ((n : Int), a ++ (List.range n).map g) = some (.done (a ++ (List.range n).map g))) : loop f (0, a) = some (a ++ (List.range n).map g) := by
 have key : ∀ i : Nat, i ≤ n → loop f ((i : Int), a ++ (List.range i).map g) = some (a ++ (List.range n).map g) := by
  refine Xic _ (Xkx he) ?_
  intro i hi ih
  refine lgo (hs i hi) ?_
  rw [List.append_assoc, show (List.range i).map g ++ [g i] = (List.range (i + 1)).map g by simp [List.range_succ]]
  exact ih
 have := key 0 (by omega)
 simpa using this
theorem Xjg {S : Type} {f : Int × S → Option (Lp (Int × S) S)} (n : Nat) (I : Nat → S → Prop) (hs : ∀ (i : Nat) (l : S), i < n → I i l → ∃ l', f ((i : Int), l) = some (.go (((i + 1 : Nat) : Int), l')) ∧ I (i + 1) l') (he : ∀ l, I n l → f ((n : Int), l) = some (.done l)) (l0 : S) (h0 : I 0 l0) : ∃ o, loop f (0, l0) = some o ∧ I n o := by
 have key : ∀ i : Nat, i ≤ n → ∀ l, I i l → ∃ o, loop f ((i : Int), l) = some o ∧ I n o := by
  refine Xic _ ?_ ?_
  ·
   intro l h; exact ⟨l, Xkx (he l h), h⟩
  ·
   intro i hi ih l h
   obtain ⟨l', e, h'⟩ := hs i l hi h
   obtain ⟨o, e2, h2⟩ := ih l' h'
   exact ⟨o, lgo e e2, h2⟩
 exact key 0 (by omega) l0 h0
theorem Yg4 {f : Int × List Int → Option (Lp (Int × List Int) (List Int))} (n : Nat) (g : Nat → Int) (l : List Int) (hl : l.length = n) (hs : ∀ (i : Nat) (s : List Int), i < n → s.length = n → s.getD i 0 = l.getD i 0 → f ((i : Int), s) = some (.go (((i + 1 : Nat) : Int), s.set i (g i)))) (he : ∀ s : List Int, s.length = n → f ((n : Int), s) = some (.done s)) : loop f (0, l) = some ((List.range n).map g) := by
 obtain ⟨o, e, h1, h2, _⟩ := Xjg (f := f) n (fun i s => s.length = n ∧ (∀ j, j < i → s.getD j 0 = g j) ∧ ∀ j, i ≤ j → s.getD j 0 = l.getD j 0) (by
  intro i s hi ⟨g1, g2, g3⟩
  refine ⟨_, hs i s hi g1 (g3 i (Nat.le_refl _)), by rw [List.length_set]; exact g1, fun j hj => ?_, fun j hj => ?_⟩
  ·
   rw [Xdm s i j _ (by omega)]
   by_cases h : i = j
   ·
    rw [if_pos h, h]
   ·
    rw [if_neg h]; exact g2 j (by omega)
  ·
   rw [Xdm s i j _ (by omega), if_neg (by omega)]; exact g3 j (by omega)) (fun s hs => he s hs.1) l ⟨hl, fun j hj => by omega, fun _ _ => rfl⟩
 rw [e]
 congr 1
 exact Xtk h1 (by simp) fun i hi => by rw [h2 i hi, Xgk g hi]
theorem Yei : Xkj = Xct := rfl
theorem Xzs (qp : Int) (h0 : 0 ≤ qp ∧ qp ≤ 40) : Xgw qp = some (Xk9 qp) := by
 have h := Yi8 ⟨qp.toNat, by omega⟩
 simp only at h
 rw [show ((qp.toNat : Nat) : Int) = qp by omega] at h
 unfold Xgw
 rw [Xah, Xab, decide_eq_true (by omega), Bool.not_true, Xav, rqA]
 have hb : (sel ((qp.tmod 6) == 0) (some (10 : Int)) (sel ((qp.tmod 6) == 1) (some 11) (sel ((qp.tmod 6) == 2) (some 13) (sel ((qp.tmod 6) == 3) (some 14) (sel ((qp.tmod 6) == 4) (some 16) (some 18)))))) = some (Xnh qp) := by
  unfold Xnh
  simp only [Yb0, beq_iff_eq]
  repeat' split
  all_goals rfl
 rw [hb, Xab]
 unfold Xk9 at h ⊢
 cases e : it (Xjd qp) 10 (Xnh qp, 0) with
 | none => rw [e] at h; simp only at h; omega
 | some q => rw [Xf1.2 ⟨10, e⟩, Xab]
theorem Ybd : ∀ q : Fin 41, Xgu (q.val : Int) = some (Xk9 (q.val : Int)) := by decide +kernel
theorem Xza (qp : Int) (h0 : 0 ≤ qp ∧ qp ≤ 40) : Xgu qp = some (Xk9 qp) := by
 have := Ybd ⟨qp.toNat, by omega⟩
 simp only at this
 rwa [show ((qp.toNat : Nat) : Int) = qp by omega] at this
theorem Xt5 (qp : Int) (h0 : 0 ≤ qp ∧ qp ≤ 40) : Xgu qp = Xgw qp := by rw [Xza qp h0, Xzs qp h0]
theorem Xpt (u v : Nat) (hu : u < 8) (hv : v < 8) : Xi0 u v = some (Xhs u v) := by
 have h := Yi4 ⟨u, hu⟩ ⟨v, hv⟩
 simp only at h
 unfold Xi0
 rw [Xah, Xab, decide_eq_true (by omega), Xaz, Xah, Xab, decide_eq_true (by omega), Bool.not_true, Xab, Xav]
 unfold Xhs at h ⊢
 cases e : it Xjb 10 (1, (IntKind.wrap .i64 (BitVec.ofInt (IntKind.bits .i64) (u : Int) &&& BitVec.ofInt (IntKind.bits .i64) (v : Int)).toNat)) with
 | none => rw [e] at h; simp only at h; omega
 | some q => rw [Xf1.2 ⟨10, e⟩, Xab]
theorem Ya8 : ∀ u v : Fin 8, Xij (u.val : Int) (v.val : Int) = some (Xhs (u.val : Int) (v.val : Int)) := by decide +kernel
theorem Xt4 (u v : Nat) (hu : u < 8) (hv : v < 8) : Xij u v = some (Xhs u v) := Ya8 ⟨u, hu⟩ ⟨v, hv⟩
def Ybz (qp p : Int) : Option Int :=
 bnd (Xk1 p) fun q1 => bnd (Xay q1 10 16 13) fun a1 => bnd (Xay q1 11 18 14) fun a2 => bnd (Xay q1 13 20 16) fun a3 => bnd (Xay q1 14 23 18) fun a4 => bnd (Xay q1 16 25 20) fun a5 => bnd (Xay q1 18 29 23) fun a6 =>
 it (Xd5 qp) 10 ((sel (qp.tmod 6 == 0) a1 (sel (qp.tmod 6 == 1) a2 (sel (qp.tmod 6 == 2) a3 (sel (qp.tmod 6 == 3) a4 (sel (qp.tmod 6 == 4) a5 (sel (qp.tmod 6 == 5) a6 0)))))), 0)
theorem Yix : ∀ q : Fin 41, ∀ p : Fin 16, (Ybz (q.val : Int) (p.val : Int)).isSome = true ∧ Xjk (q.val : Int) (p.val : Int) = Ybz (q.val : Int) (p.val : Int) := by decide +kernel
theorem Yan (qp p : Int) (h0 : 0 ≤ qp ∧ qp ≤ 40) (hp : 0 ≤ p ∧ p ≤ 15) : Xjk qp p = Xjs qp p := by
 have := Yix ⟨qp.toNat, by omega⟩ ⟨p.toNat, by omega⟩
 simp only at this
 rw [show ((qp.toNat : Nat) : Int) = qp by omega, show ((p.toNat : Nat) : Int) = p by omega] at this
 obtain ⟨h1, h2⟩ := this
 rw [h2]
 cases e : Ybz qp p with
 | none => rw [e] at h1; cases h1
 | some o =>
  unfold Ybz at e
  unfold Xjs
  obtain ⟨k, ek, k0, k1⟩ := Xl1 p hp
  rw [ek, Xab] at e ⊢
  rw [Xah, Xab, decide_eq_true h0, Xaz, decide_eq_false (by omega), Xab, Xav, rqA]
  obtain ⟨a1, e1, b1⟩ := Xau k 10 16 13
  obtain ⟨a2, e2, b2⟩ := Xau k 11 18 14
  obtain ⟨a3, e3, b3⟩ := Xau k 13 20 16
  obtain ⟨a4, e4, b4⟩ := Xau k 14 23 18
  obtain ⟨a5, e5, b5⟩ := Xau k 16 25 20
  obtain ⟨a6, e6, b6⟩ := Xau k 18 29 23
  rw [e1, e2, e3, e4, e5, e6] at e ⊢
  simp only [Xab, Yge] at e ⊢
  rw [Yeu 10 e, Xab]
def Xmj (n : Int) (v16 : Int × List Int) : Option (Lp (Int × List Int) (List Int)) :=
 sel (decide (v16.1 ≤ (Xaa .i64 ((Xaa .i64 (2 * n)) - 2)))) (
 bnd (it (Xhk n v16) 20 (0, v16.2)) fun v42 =>
 some (.go (Xaa .i64 (v16.1 + 1), v42))) (
 some (.done v16.2))
theorem Ydv {n : Int} {v : Int × List Int} {x : Lp (Int × List Int) (List Int)} (h : Xmj n v = some x) : Xex n v = some x := by
 unfold Xmj at h
 unfold Xex
 rcases Xgo h with ⟨hb, h⟩ | ⟨hb, h⟩
 ·
  rw [hb, Xaz]
  obtain ⟨a, h1, h2⟩ := Xbl h
  rw [Xf1.2 ⟨20, h1⟩, Xab]
  exact h2
 ·
  rw [hb, Xav]; exact h
def Xx8 (n : Int) : List Int := (it (Xmj n) 20 (0, [])).getD []
theorem Yl3 : (it (Xmj 4) 20 (0, [])).isSome = true ∧ (Xx8 4).length = 16 := by decide +kernel
theorem Yl4 : (it (Xmj 8) 20 (0, [])).isSome = true ∧ (Xx8 8).length = 64 := by decide +kernel
theorem Yiy : ∀ i : Fin 16, (Xx8 4).getD i.val 0 = Xen 4 (i.val : Int) := by decide +kernel
theorem Yiz : ∀ i : Fin 64, (Xx8 8).getD i.val 0 = Xen 8 (i.val : Int) := by decide +kernel
theorem Xmd (n : Int) (hn : n = 4 ∨ n = 8) : Xet n = some (Xx8 n) ∧ ((Xx8 n).length : Int) = n * n ∧ ∀ i : Nat, (i : Int) < n * n → (Xx8 n).getD i 0 = Xen n i := by
 have h : (it (Xmj n) 20 (0, [])).isSome = true ∧ ((Xx8 n).length : Int) = n * n := by
  rcases hn with rfl | rfl
  ·
   have := Yl3; exact ⟨this.1, by omega⟩
  ·
   have := Yl4; exact ⟨this.1, by omega⟩
 refine ⟨?_, h.2, fun i hi => ?_⟩
 ·
  obtain ⟨o, ho⟩ := Option.isSome_iff_exists.1 h.1
  have hl := Yeu 20 (Yj4 (fun v y => Ydv (n := n)) 20 _ ho)
  unfold Xet
  rw [hl, Xab]
  unfold Xx8; rw [ho]; rfl
 ·
  rcases hn with rfl | rfl
  ·
   exact Yiy ⟨i, by omega⟩
  ·
   exact Yiz ⟨i, by omega⟩
theorem Xn2 (n : Int) (hn : n = 4 ∨ n = 8) (l : List Int) (hl : (l.length : Int) = n * n) : Xdp n l = Xds n l := by
 obtain ⟨e, h1, h2⟩ := Xmd n hn
 have hw : Xaa .i64 (n * n) = n * n := by rcases hn with rfl | rfl <;> exact wkA
 have hn2 : n * n ≤ 64 := by rcases hn with rfl | rfl <;> omega
 unfold Xdp Xds
 rw [e]
 have : loop (Xfr l (Xx8 n)) (0, List.replicate (l.length : Int).toNat 0) = loop (Xb4 n l) (0, List.replicate (l.length : Int).toNat 0) := by
  refine Xit (fun v => (∃ i : Nat, v.1 = (i : Int) ∧ i ≤ l.length) ∧ v.2.length = l.length) ?_ ?_ ⟨⟨0, rfl, by omega⟩, by simp⟩
  ·
   intro ⟨i, s⟩ ⟨⟨k, ek, hk⟩, hs⟩
   simp only at hs ek
   subst ek
   unfold Xfr Xb4
   simp only [Int.toNat_natCast]
   rw [hw]
   by_cases hi : (k : Int) < n * n
   ·
    have hp := Xfa n hn k hi
    have h3 := h2 k hi
    simp only [h3]
    rw [syA, Xbj hi, Xev n hn k hi, Xab, rqA, rqA]
   ·
    rw [snA, Xao hi]
  ·
   intro ⟨i, s⟩ v' ⟨⟨k, ek, hk⟩, hs⟩ he
   simp only at hs ek
   subst ek
   unfold Xb4 at he
   simp only [Int.toNat_natCast] at he
   rw [hw] at he
   by_cases hi : (k : Int) < n * n
   ·
    have hp := Xfa n hn k hi
    rw [Xbj hi, Xev n hn k hi, Xab, rqA, rqA, rqA, wkA] at he
    cases he
    exact ⟨⟨k + 1, rfl, by omega⟩, by rw [List.length_set]; exact hs⟩
   ·
    rw [Xao hi] at he; cases he
 simp only [Xab, this]
theorem Xmt (n : Int) (hn : n = 4 ∨ n = 8) (l : List Int) (hl : (l.length : Int) = n * n) : Xe3 n l = Xfh n l := by
 have hm : maxLen = 9223372036854775807 := rfl
 obtain ⟨e, h1, h2⟩ := Xmd n hn
 have hw : Xaa .i64 (n * n) = n * n := by rcases hn with rfl | rfl <;> exact wkA
 have hn2 : n * n ≤ 64 := by rcases hn with rfl | rfl <;> omega
 unfold Xe3 Xfh
 rw [e]
 have : loop (Xhg l (Xx8 n)) (0, ([] : List Int)) = loop (Xc4 n l) (0, ([] : List Int)) := by
  refine Xit (fun v => ∃ i : Nat, v.1 = (i : Int) ∧ i ≤ l.length) ?_ ?_ ⟨0, rfl, by omega⟩
  ·
   intro ⟨i, s⟩ ⟨k, ek, hk⟩
   simp only at ek
   subst ek
   unfold Xhg Xc4
   simp only [Int.toNat_natCast]
   rw [hw]
   by_cases hi : (k : Int) < n * n
   ·
    have hp := Xfa n hn k hi
    have h3 := h2 k hi
    simp only [h3]
    rw [syA, Xbj hi, Xev n hn k hi, Xab, rqA, rqA]
   ·
    rw [snA, Xao hi]
  ·
   intro ⟨i, s⟩ v' ⟨k, ek, hk⟩ he
   simp only at ek
   subst ek
   unfold Xc4 at he
   simp only [Int.toNat_natCast] at he
   rw [hw] at he
   by_cases hi : (k : Int) < n * n
   ·
    have hp := Xfa n hn k hi
    rw [Xbj hi, Xev n hn k hi, Xab, rqA] at he
    obtain ⟨_, he⟩ := Xat he
    rw [wkA] at he
    cases he
    exact ⟨k + 1, rfl, by omega⟩
   ·
    rw [Xao hi] at he; cases he
 simp only [Xab, this]
def Ycc (t : Nat → Int) : Nat → Int
 | 0 => 0
 | k + 1 => Xaa .i64 (Ycc t k + t k)
def Yl0 (p : List Int) (i v k : Nat) : Int := Xaa .i64 (Xhs v k * p.getD (8 * i + k) 0)
def Ylm (p : List Int) (u v k : Nat) : Int := Xaa .i64 (Xhs u k * p.getD (8 * k + v) 0)
def Xn5 (p : List Int) : List Int := (List.range 64).map fun j => Ycc (Yl0 p (j / 8) (j % 8)) 8
def Yhj (p : List Int) : List Int := (List.range 64).map fun j => Ycc (Ylm (Xn5 p) (j / 8) (j % 8)) 8
theorem Ycu (p : List Int) : (Xn5 p).length = 64 := by simp [Xn5]
theorem Yja (p : List Int) : (Yhj p).length = 64 := by simp [Yhj]
theorem Yd1 {f1 : Int × List Int → Option (Lp (Int × List Int) (List Int))} {f2 : Int × List Int → Int × List Int → Option (Lp (Int × List Int) (List Int))} {f3 : Int × List Int → Int × List Int → Int × List Int → Option (Lp (Int × List Int) (List Int))} (t : Nat → Nat → Nat → Int)
  (h1 : ∀ v, f1 v = sel (decide (v.1 < 8)) (bnd (loop (f2 v) (0, v.2)) fun w => some (.go (Xaa .i64 (v.1 + 1), w))) (some (.done v.2)))
  (h2 : ∀ v w, f2 v w = sel (decide (w.1 < 8)) (bnd (loop (f3 v w) (0, w.2)) fun x => some (.go (Xaa .i64 (w.1 + 1), x))) (some (.done w.2)))
  (h3 : ∀ (i v k : Nat) (a b s : List Int), i < 8 → v < 8 → k < 8 → s.length = 64 → f3 ((i : Int), a) ((v : Int), b) ((k : Int), s) = some (.go (((k + 1 : Nat) : Int), s.set (8 * i + v) (Xaa .i64 (s.getD (8 * i + v) 0 + t i v k)))))
  (h4 : ∀ (i v : Nat) (a b s : List Int), f3 ((i : Int), a) ((v : Int), b) (8, s) = some (.done s)) : loop f1 (0, List.replicate 64 0) = some ((List.range 64).map fun j => Ycc (t (j / 8) (j % 8)) 8) := by
 obtain ⟨o, e, o1, o2, _⟩ := Xjg (f := f1) 8 (fun i s => s.length = 64 ∧ (∀ j, j < 8 * i → s.getD j 0 = Ycc (t (j / 8) (j % 8)) 8) ∧ ∀ j, 8 * i ≤ j → s.getD j 0 = 0) (by
  intro i s hi ⟨g1, g2, g3⟩
  obtain ⟨r, er, r1, r2, r3⟩ := Xjg (f := f2 ((i : Int), s)) 8 (fun v s => s.length = 64 ∧ (∀ j, j < 8 * i + v → s.getD j 0 = Ycc (t (j / 8) (j % 8)) 8) ∧ ∀ j, 8 * i + v ≤ j → s.getD j 0 = 0) (by
   intro v s' hv ⟨k1, k2, k3⟩
   obtain ⟨q, eq, q1, q2, q3⟩ := Xjg (f := f3 ((i : Int), s) ((v : Int), s')) 8 (fun k s => s.length = 64 ∧ (∀ j, j ≠ 8 * i + v → s.getD j 0 = s'.getD j 0) ∧ s.getD (8 * i + v) 0 = Ycc (t i v) k) (by
    intro k s'' hk ⟨m1, m2, m3⟩
    refine ⟨_, h3 i v k s s' s'' hi hv hk m1, by rw [List.length_set]; exact m1, fun j hj => ?_, ?_⟩
    ·
     rw [Xdm _ _ _ _ (by omega), if_neg (fun h => hj h.symm)]; exact m2 j hj
    ·
     rw [Xdm _ _ _ _ (by omega), if_pos rfl, m3]; rfl) (fun z _ => h4 i v s s' z) s' ⟨k1, fun _ _ => rfl, by rw [k3 _ (Nat.le_refl _)]; rfl⟩
   refine ⟨q, by rw [h2, Xbj (by simp only; omega), eq, Xab, wk (by simp only; omega) (by simp only; omega)]; rfl, q1, fun j hj => ?_, fun j hj => ?_⟩
   ·
    by_cases h : j = 8 * i + v
    ·
     rw [h, q3, show (8 * i + v) / 8 = i by omega, show (8 * i + v) % 8 = v by omega]
    ·
     rw [q2 j h]; exact k2 j (by omega)
   ·
    rw [q2 j (by omega)]; exact k3 j (by omega)) (fun z _ => by rw [h2, Xao (by simp)]) s ⟨g1, g2, g3⟩
  refine ⟨r, by rw [h1, Xbj (by simp only; omega), er, Xab, wk (by simp only; omega) (by simp only; omega)]; rfl, r1, fun j hj => r2 j (by omega), fun j hj => r3 j (by omega)⟩) (fun z _ => by rw [h1, Xao (by simp)]) (List.replicate 64 0) ⟨by simp, fun j hj => by omega, fun j _ => by
   by_cases h : j < 64
   ·
    rw [Xee _ _ (by rw [List.length_replicate]; exact h)]; exact List.getElem_replicate ..
   ·
    rw [List.getD_eq_getElem?_getD, List.getElem?_eq_none (by rw [List.length_replicate]; omega)]; rfl⟩
 rw [e]
 congr 1
 exact Xtk o1 (by simp) fun j hj => by rw [o2 j (by omega), Xgk (fun j => Ycc (t (j / 8) (j % 8)) 8) hj]
theorem Xuc (p : List Int) (hp : p.length = 64) : Xmf p = some (Yhj p) := by
 unfold Xmf
 rw [rqA]
 have e1 : loop (Xm7 p) (0, List.replicate (64 : Int).toNat 0) = some (Xn5 p) :=
  Yd1 (f2 := Xm8 p) (f3 := Xhm p) (fun i v k => Yl0 p i v k) (fun _ => rfl) (fun _ _ => rfl) (fun i v k a b s hi hv hk hs => by
   unfold Xhm
   simp only
   rw [syA, wkA (e := 8 * (i : Int)), wkA (e := 8 * (i : Int) + (v : Int)), wkA (e := 8 * (i : Int) + (k : Int)), rqA, rqA, Xt4 v k hv hk, Xab, rqA, rqA, rqA, wkA (e := (k : Int) + 1), show (8 * (i : Int) + (v : Int)).toNat = 8 * i + v by omega, show (8 * (i : Int) + (k : Int)).toNat = 8 * i + k by omega]
   rfl) (fun i v a b s => by unfold Xhm; rw [Xao (by simp)])
 have e2 : loop (Xlw (Xn5 p)) (0, List.replicate (64 : Int).toNat 0) = some (Yhj p) :=
  Yd1 (f2 := Xlx (Xn5 p)) (f3 := Xgc (Xn5 p)) (fun i v k => Ylm (Xn5 p) i v k) (fun _ => rfl) (fun _ _ => rfl) (fun i v k a b s hi hv hk hs => by
   have hl := Ycu p
   unfold Xgc
   simp only
   rw [syA, wkA (e := 8 * (i : Int)), wkA (e := 8 * (i : Int) + (v : Int)), wkA (e := 8 * (k : Int)), wkA (e := 8 * (k : Int) + (v : Int)), rqA, rqA, Xt4 i k hi hk, Xab, rqA, rqA, rqA, rqA, wkA (e := (k : Int) + 1), show (8 * (i : Int) + (v : Int)).toNat = 8 * i + v by omega, show (8 * (k : Int) + (v : Int)).toNat = 8 * k + v by omega]
   rfl) (fun i v a b s => by unfold Xgc; rw [Xao (by simp)])
 rw [e1, Xab, rqA, e2, Xab]
theorem Xzx (p : List Int) (hp : p.length = 64) (i v : Nat) (hi : i < 8) (hv : v < 8) : Xk6 p i v = some (Ycc (Yl0 p i v) 8) := by
 obtain ⟨o, e, h⟩ := Xld (f := Xdu p i v) 8 (fun k s => s = Ycc (Yl0 p i v) k) (by
  intro k s hk g
  subst g
  unfold Xdu
  simp only
  rw [syA, wkA (e := 8 * (i : Int)), wkA (e := 8 * (i : Int) + (k : Int)), rqA, Xpt v k hv hk, Xab, wkA (e := (k : Int) + 1), show (8 * (i : Int) + (k : Int)).toNat = 8 * i + k by omega, Int.mul_comm (p.getD _ _)]
  exact ⟨_, rfl, rfl⟩) (by intro s; unfold Xdu; rw [Xao (by simp)]) 0 rfl
 unfold Xk6
 rw [e, Xab, h]
theorem Xoo (p : List Int) (hp : p.length = 64) : Xg8 p = some (Yhj p) := by
 have hm : maxLen = 9223372036854775807 := rfl
 unfold Xg8
 obtain ⟨o, e, ho⟩ := Xcr (f := Xcj p) 8 (fun i s => s = (List.range (8 * i)).map fun j => Ycc (Yl0 p (j / 8) (j % 8)) 8) (by
  intro i s hi g
  subst g
  obtain ⟨r, er, hr⟩ := Xcr (f := Xck p ((i : Int), (List.range (8 * i)).map fun j => Ycc (Yl0 p (j / 8) (j % 8)) 8)) 8 (fun v s => s = (List.range (8 * i + v)).map fun j => Ycc (Yl0 p (j / 8) (j % 8)) 8) (by
   intro v s hv g
   subst g
   unfold Xck
   simp only
   rw [syA, Xzx p hp i v hi hv, Xab, Xbb (by simp only [List.length_singleton, List.length_map, List.length_range]; omega), wkA (e := (v : Int) + 1)]
   refine ⟨_, rfl, ?_⟩
   rw [show 8 * i + (v + 1) = (8 * i + v) + 1 by omega, List.range_succ, List.map_append, List.map_singleton, show (8 * i + v) / 8 = i by omega, show (8 * i + v) % 8 = v by omega]) (by intro s; unfold Xck; rw [Xao (by simp)]) _ rfl
  rw [Nat.add_zero] at er
  unfold Xcj
  simp only
  rw [syA, er, Xab, wkA (e := (i : Int) + 1)]
  exact ⟨_, rfl, by rw [hr, show 8 * (i + 1) = 8 * i + 8 by omega]⟩) (by intro s; unfold Xcj; rw [Xao (by simp)]) [] rfl
 have ho' : o = Xn5 p := by rw [ho]; rfl
 rw [e, Xab, ho']
 obtain ⟨o2, e2, ho2⟩ := Xcr (f := Xb5 (Xn5 p)) 8 (fun i s => s = (List.range (8 * i)).map fun j => Ycc (Ylm (Xn5 p) (j / 8) (j % 8)) 8) (by
  intro i s hi g
  subst g
  obtain ⟨r, er, hr⟩ := Xcr (f := Xb6 (Xn5 p) ((i : Int), (List.range (8 * i)).map fun j => Ycc (Ylm (Xn5 p) (j / 8) (j % 8)) 8)) 8 (fun v s => s = (List.range (8 * i + v)).map fun j => Ycc (Ylm (Xn5 p) (j / 8) (j % 8)) 8) (by
   intro v s hv g
   obtain ⟨c, ec, hc⟩ := Xld (f := Xb7 (Xn5 p) ((i : Int), (List.range (8 * i)).map fun j => Ycc (Ylm (Xn5 p) (j / 8) (j % 8)) 8) ((v : Int), s)) 8 (fun k x => x = Ycc (Ylm (Xn5 p) i v) k) (by
    intro k x hk g
    subst g
    have hl := Ycu p
    unfold Xb7
    simp only
    rw [syA, Xpt i k hi hk, Xab, wkA (e := 8 * (k : Int)), wkA (e := 8 * (k : Int) + (v : Int)), rqA, rqA, wkA (e := (k : Int) + 1), show (8 * (k : Int) + (v : Int)).toNat = 8 * k + v by omega]
    exact ⟨_, rfl, rfl⟩) (by intro s; unfold Xb7; rw [Xao (by simp)]) 0 rfl
   subst g
   unfold Xb6
   simp only
   rw [syA, ec, Xab, Xbb (by simp only [List.length_singleton, List.length_map, List.length_range]; omega), wkA (e := (v : Int) + 1)]
   refine ⟨_, rfl, ?_⟩
   rw [hc, show 8 * i + (v + 1) = (8 * i + v) + 1 by omega, List.range_succ, List.map_append, List.map_singleton, show (8 * i + v) / 8 = i by omega, show (8 * i + v) % 8 = v by omega]) (by intro s; unfold Xb6; rw [Xao (by simp)]) _ rfl
  rw [Nat.add_zero] at er
  unfold Xb5
  simp only
  rw [syA, er, Xab, wkA (e := (i : Int) + 1)]
  exact ⟨_, rfl, by rw [hr, show 8 * (i + 1) = 8 * i + 8 by omega]⟩) (by intro s; unfold Xb5; rw [Xao (by simp)]) [] rfl
 rw [e2, Xab, ho2]
 rfl
theorem Xl6 (l : List Int) (n B : Int) (hn : (l.length : Int) = n) (hn2 : n ≤ 1000000) (h : inB B l) : Xa8 l n (-B) B = some true := by
 rw [Xhi l n (-B) B (by omega), hn, beq_self_eq_true, Bool.and_true]
 congr 1
 rw [List.all_eq_true]
 intro x hx
 rw [decide_eq_true_eq]; exact h x hx
theorem Xsg (o : List Int) {f : Int × List Int → Option (Lp (Int × List Int) (List Int))} (n : Nat) (hn : n ≤ 64) (hl : o.length = n) (hf : ∀ v : Int × List Int, f v = sel (decide (v.1 < (n : Int))) (req (0 ≤ v.1 ∧ v.1 < v.2.length) <| req (v.1.toNat < v.2.length) <| bnd (Xct (Xaa .i64 ((v.2.getD v.1.toNat 0) + 32)) 64) fun q => req (0 ≤ v.1 ∧ v.1 < v.2.length) <| req (v.1.toNat < v.2.length) <| some (.go (Xaa .i64 (v.1 + 1), (v.2.set v.1.toNat q)))) (some (.done v.2))) : bnd (Xg4 o) (fun q => some q.2) = bnd (loop f (0, o)) fun q => some q := by
 unfold Xg4
 have : Xkt o = f := by
  funext v
  rw [hf, ← hl]; rfl
 rw [this]
 cases loop f (0, o) <;> rfl
theorem Xwd (p : List Int) (hl : p.length = 64) (hb : inB 10000000 p) : Xf7 p = Xge p := by
 unfold Xf7 Xge
 rw [Xl6 p 64 10000000 (by omega) (by omega) hb, Xbr p 64 10000000 (by omega) (by omega) (by omega) hb, Xab, Xab, Bool.not_true, Xav, Xav, Xuc p hl, Xoo p hl, Xab, Xab]
 exact Xsg (Yhj p) 64 (by omega) (Yja p) (fun _ => rfl)
theorem Yd3 (p : List Int) (hl : p.length = 64) (hb : inB 1000 p) : Xl7 p = Xmk p := by
 unfold Xl7 Xmk
 rw [Xl6 p 64 1000 (by omega) (by omega) hb, Xbr p 64 1000 (by omega) (by omega) (by omega) hb, Xab, Xab, Bool.not_true, Xav, Xav, Xuc p hl, Xoo p hl, Xab]
def tgA (q : Int → Int → Int → Int → Option (Int × Int × Int × Int)) (v4 : (Int × (List Int))) : Option (Lp (Int × (List Int)) (List Int)) :=
 sel (decide (v4.1 < 16)) (
 req (0 ≤ v4.1 ∧ v4.1 < v4.2.length) <|
 req (v4.1.toNat < v4.2.length) <|
 req (0 ≤ (Xaa .i64 (v4.1 + 1)) ∧ (Xaa .i64 (v4.1 + 1)) < v4.2.length) <|
 req ((Xaa .i64 (v4.1 + 1)).toNat < v4.2.length) <|
 req (0 ≤ (Xaa .i64 (v4.1 + 2)) ∧ (Xaa .i64 (v4.1 + 2)) < v4.2.length) <|
 req ((Xaa .i64 (v4.1 + 2)).toNat < v4.2.length) <|
 req (0 ≤ (Xaa .i64 (v4.1 + 3)) ∧ (Xaa .i64 (v4.1 + 3)) < v4.2.length) <|
 req ((Xaa .i64 (v4.1 + 3)).toNat < v4.2.length) <|
 bnd (q (v4.2.getD v4.1.toNat 0) (v4.2.getD ((Xaa .i64 (v4.1 + 1)).toNat) 0) (v4.2.getD ((Xaa .i64 (v4.1 + 2)).toNat) 0) (v4.2.getD ((Xaa .i64 (v4.1 + 3)).toNat) 0)) fun q8 =>
 req (0 ≤ v4.1 ∧ v4.1 ≤ (Xaa .i64 (v4.1 + 4)) ∧ (Xaa .i64 (v4.1 + 4)) ≤ (v4.2.length : Int)) <|
 req ((v4.1.toNat + ((Xaa .i64 (v4.1 + 4)).toNat - v4.1.toNat) ≤ v4.2.length ∧ ([q8.1, q8.2.1, q8.2.2.1, q8.2.2.2]).length ≤ ((Xaa .i64 (v4.1 + 4)).toNat - v4.1.toNat))) <|
 some (.go (Xaa .i64 (v4.1 + 4), (over v4.2 v4.1.toNat ([q8.1, q8.2.1, q8.2.2.1, q8.2.2.2]))))) (
 some (.done v4.2))
def tgB (v17 : (Int × (List Int))) (q26 : (Int × Int × Int × Int)) (v28 : (Int × (List Int))) : Option (Lp (Int × (List Int)) (List Int)) :=
 sel (decide (v28.1 < 4)) (
 req (0 ≤ v28.1 ∧ v28.1 < ([q26.1, q26.2.1, q26.2.2.1, q26.2.2.2] : List Int).length) <|
 req (0 ≤ (Xaa .i64 (v17.1 + (Xaa .i64 (4 * v28.1)))) ∧ (Xaa .i64 (v17.1 + (Xaa .i64 (4 * v28.1)))) < v28.2.length) <|
 req ((Xaa .i64 (v17.1 + (Xaa .i64 (4 * v28.1)))).toNat < v28.2.length) <|
 some (.go (Xaa .i64 (v28.1 + 1), (v28.2.set ((Xaa .i64 (v17.1 + (Xaa .i64 (4 * v28.1)))).toNat) (([q26.1, q26.2.1, q26.2.2.1, q26.2.2.2] : List Int).getD v28.1.toNat 0))))) (
 some (.done v28.2))
noncomputable def tgC (q : Int → Int → Int → Int → Option (Int × Int × Int × Int)) (v17 : (Int × (List Int))) : Option (Lp (Int × (List Int)) (List Int)) :=
 sel (decide (v17.1 < 4)) (
 req (0 ≤ v17.1 ∧ v17.1 < v17.2.length) <|
 req (v17.1.toNat < v17.2.length) <|
 req (0 ≤ (Xaa .i64 (v17.1 + 4)) ∧ (Xaa .i64 (v17.1 + 4)) < v17.2.length) <|
 req ((Xaa .i64 (v17.1 + 4)).toNat < v17.2.length) <|
 req (0 ≤ (Xaa .i64 (v17.1 + 8)) ∧ (Xaa .i64 (v17.1 + 8)) < v17.2.length) <|
 req ((Xaa .i64 (v17.1 + 8)).toNat < v17.2.length) <|
 req (0 ≤ (Xaa .i64 (v17.1 + 12)) ∧ (Xaa .i64 (v17.1 + 12)) < v17.2.length) <|
 req ((Xaa .i64 (v17.1 + 12)).toNat < v17.2.length) <|
 bnd (q (v17.2.getD v17.1.toNat 0) (v17.2.getD ((Xaa .i64 (v17.1 + 4)).toNat) 0) (v17.2.getD ((Xaa .i64 (v17.1 + 8)).toNat) 0) (v17.2.getD ((Xaa .i64 (v17.1 + 12)).toNat) 0)) fun q26 =>
 bnd (loop (tgB v17 q26) (0, v17.2)) fun v30 =>
 some (.go (Xaa .i64 (v17.1 + 1), v30))) (
 some (.done v17.2))
noncomputable def Ykv (q : Int → Int → Int → Int → Option (Int × Int × Int × Int)) (p0 : (List Int)) : Option (List Int) :=
 bnd (Xfs p0) fun q1 =>
 bnd (loop (tgA q) (0, q1)) fun v7 =>
 bnd (loop (tgC q) (0, v7)) fun v25 =>
 some v25
theorem Yjc : Xbt = Ykv Xcx := rfl
theorem Yjd : Xcn = Ykv Xie := rfl
abbrev Q4 := Int × Int × Int × Int
def Ydl (q : Q4) (i : Nat) : Int := [q.1, q.2.1, q.2.2.1, q.2.2.2].getD i 0
def Xo5 (t : Int → Int → Int → Int → Q4) (p : List Int) : List Int := (List.range 16).map fun j => Ydl (t (p.getD (4 * (j / 4)) 0) (p.getD (4 * (j / 4) + 1) 0) (p.getD (4 * (j / 4) + 2) 0) (p.getD (4 * (j / 4) + 3) 0)) (j % 4)
def Xq3 (p : List Int) : List Int := (List.range 16).map fun j => p.getD (j % 4 * 4 + j / 4) 0
theorem Xmi (t : Int → Int → Int → Int → Q4) (p : List Int) : (Xo5 t p).length = 16 := by simp [Xo5]
theorem Xn4 (p : List Int) : (Xq3 p).length = 16 := by simp [Xq3]
theorem Ydj {l m : List Int} {i : Nat} (h : i + m.length ≤ l.length) (j : Nat) : (over l i m).getD j 0 = if i ≤ j ∧ j < i + m.length then m.getD (j - i) 0 else l.getD j 0 := by
 rw [List.getD_eq_getElem?_getD, Yf7 h]
 split <;> rw [List.getD_eq_getElem?_getD]
theorem Ygl {q : Int → Int → Int → Int → Option Q4} {t : Int → Int → Int → Int → Q4} (hq : ∀ a b c d, q a b c d = some (t a b c d)) (p : List Int) (hp : p.length = 16) : Ykv q p = some (Xq3 (Xo5 t (Xq3 (Xo5 t p)))) := by
 have hm : maxLen = 9223372036854775807 := rfl
 unfold Ykv Xfs
 rw [Xbb (by simp only [List.length_nil]; omega), Xab, List.nil_append]
 have hA : loop (tgA q) (0, p) = some (Xo5 t p) := by
  have key : ∀ r : Nat, r ≤ 4 → ∀ s : List Int, s.length = 16 → (∀ j, j < 4 * r → s.getD j 0 = (Xo5 t p).getD j 0) → (∀ j, 4 * r ≤ j → s.getD j 0 = p.getD j 0) → loop (tgA q) (((4 * r : Nat) : Int), s) = some (Xo5 t p) := by
   refine Xic _ ?_ ?_
   ·
    intro s h1 h2 _
    refine Xkx ?_
    unfold tgA
    rw [Xao (by simp), Xtk h1 (Xmi t p) h2]
   ·
    intro r hr ih s h1 h2 h3
    refine lgo (y := (((4 * (r + 1) : Nat) : Int), over s (4 * r) [Ydl (t (p.getD (4 * r) 0) (p.getD (4 * r + 1) 0) (p.getD (4 * r + 2) 0) (p.getD (4 * r + 3) 0)) 0, Ydl (t (p.getD (4 * r) 0) (p.getD (4 * r + 1) 0) (p.getD (4 * r + 2) 0) (p.getD (4 * r + 3) 0)) 1, Ydl (t (p.getD (4 * r) 0) (p.getD (4 * r + 1) 0) (p.getD (4 * r + 2) 0) (p.getD (4 * r + 3) 0)) 2, Ydl (t (p.getD (4 * r) 0) (p.getD (4 * r + 1) 0) (p.getD (4 * r + 2) 0) (p.getD (4 * r + 3) 0)) 3])) ?_ (ih _ ?_ ?_ ?_)
    ·
     unfold tgA
     simp only
     rw [syA, wkA (e := ((4 * r : Nat) : Int) + 1), wkA (e := ((4 * r : Nat) : Int) + 2), wkA (e := ((4 * r : Nat) : Int) + 3), wkA (e := ((4 * r : Nat) : Int) + 4)]
     rw [rqA, rqA, rqA, rqA, rqA, rqA, rqA, rqA, hq, Xab, rqA, Xbb (by simp only [List.length_cons, List.length_nil]; omega)]
     rw [show (((4 * r : Nat) : Int) + 1).toNat = 4 * r + 1 by omega, show (((4 * r : Nat) : Int) + 2).toNat = 4 * r + 2 by omega, show (((4 * r : Nat) : Int) + 3).toNat = 4 * r + 3 by omega, Int.toNat_natCast, h3 _ (by omega), h3 _ (by omega), h3 _ (by omega), h3 _ (by omega)]
     rfl
    ·
     rw [Xxw (by simp only [List.length_cons, List.length_nil]; omega)]; exact h1
    ·
     intro j hj
     rw [Ydj (by simp only [List.length_cons, List.length_nil]; omega)]
     simp only [List.length_cons, List.length_nil]
     by_cases h : 4 * r ≤ j
     ·
      rw [if_pos (by omega)]
      unfold Xo5
      rw [Xgk _ (by omega), show 4 * (j / 4) = 4 * r by omega]
      obtain h | h | h | h : j = 4 * r ∨ j = 4 * r + 1 ∨ j = 4 * r + 2 ∨ j = 4 * r + 3 := by omega
      ·
       rw [h, show 4 * r - 4 * r = 0 by omega, show (4 * r) % 4 = 0 by omega]; rfl
      ·
       rw [h, show 4 * r + 1 - 4 * r = 1 by omega, show (4 * r + 1) % 4 = 1 by omega]; rfl
      ·
       rw [h, show 4 * r + 2 - 4 * r = 2 by omega, show (4 * r + 2) % 4 = 2 by omega]; rfl
      ·
       rw [h, show 4 * r + 3 - 4 * r = 3 by omega, show (4 * r + 3) % 4 = 3 by omega]; rfl
     ·
      rw [if_neg (by omega)]; exact h2 j (by omega)
    ·
     intro j hj
     rw [Ydj (by simp only [List.length_cons, List.length_nil]; omega), if_neg (by simp only [List.length_cons, List.length_nil]; omega)]
     exact h3 j (by omega)
  exact key 0 (by omega) p hp (fun j hj => by omega) fun _ _ => rfl
 rw [hA, Xab]
 generalize hR : Xo5 t p = R
 have hl : R.length = 16 := by rw [← hR]; exact Xmi t p
 have hC : loop (tgC q) (0, R) = some (Xq3 (Xo5 t (Xq3 R))) := by
  have at4 : ∀ j : Nat, j < 16 → (Xq3 (Xo5 t (Xq3 R))).getD j 0 = Ydl (t (R.getD (j % 4) 0) (R.getD (j % 4 + 4) 0) (R.getD (j % 4 + 8) 0) (R.getD (j % 4 + 12) 0)) (j / 4) := by
   intro j hj
   rw [Xq3, Xgk _ hj, Xo5, Xgk _ (by omega), Xq3, Xgk _ (by omega), Xgk _ (by omega), Xgk _ (by omega), Xgk _ (by omega)]
   rw [show (j % 4 * 4 + j / 4) / 4 = j % 4 by omega, show (j % 4 * 4 + j / 4) % 4 = j / 4 by omega, show 4 * (j % 4) % 4 * 4 + 4 * (j % 4) / 4 = j % 4 by omega, show (4 * (j % 4) + 1) % 4 * 4 + (4 * (j % 4) + 1) / 4 = j % 4 + 4 by omega, show (4 * (j % 4) + 2) % 4 * 4 + (4 * (j % 4) + 2) / 4 = j % 4 + 8 by omega, show (4 * (j % 4) + 3) % 4 * 4 + (4 * (j % 4) + 3) / 4 = j % 4 + 12 by omega]
  obtain ⟨o, e, o1, o2, _⟩ := Xjg (f := tgC q) 4 (fun c s => s.length = 16 ∧ (∀ j, j < 16 → j % 4 < c → s.getD j 0 = (Xq3 (Xo5 t (Xq3 R))).getD j 0) ∧ ∀ j, j < 16 → c ≤ j % 4 → s.getD j 0 = R.getD j 0) (by
   intro c s hc ⟨g1, g2, g3⟩
   obtain ⟨r, er, r1, r2, r3⟩ := Xjg (f := tgB ((c : Int), s) (t (R.getD c 0) (R.getD (c + 4) 0) (R.getD (c + 8) 0) (R.getD (c + 12) 0))) 4 (fun i s' => s'.length = 16 ∧ (∀ j, j < 16 → j % 4 ≠ c → s'.getD j 0 = s.getD j 0) ∧ ∀ j, j < 16 → j % 4 = c → j / 4 < i → s'.getD j 0 = Ydl (t (R.getD c 0) (R.getD (c + 4) 0) (R.getD (c + 8) 0) (R.getD (c + 12) 0)) (j / 4)) (by
    intro i s' hi ⟨k1, k2, k3⟩
    unfold tgB
    simp only
    rw [syA, Xbb (by simp only [List.length_cons, List.length_nil]; omega), wkA (e := 4 * (i : Int)), wkA (e := (c : Int) + 4 * (i : Int)), rqA, rqA, wkA (e := (i : Int) + 1), show ((c : Int) + 4 * (i : Int)).toNat = c + 4 * i by omega, Int.toNat_natCast]
    refine ⟨_, rfl, by rw [List.length_set]; exact k1, fun j hj hjc => ?_, fun j hj hjc hji => ?_⟩
    ·
     rw [Xdm _ _ _ _ (by omega), if_neg (by omega)]; exact k2 j hj hjc
    ·
     rw [Xdm _ _ _ _ (by omega)]
     by_cases h : c + 4 * i = j
     ·
      rw [if_pos h, show j / 4 = i by omega]; rfl
     ·
      rw [if_neg h]; exact k3 j hj hjc (by omega)) (fun z _ => by unfold tgB; rw [Xao (by simp)]) s ⟨g1, fun _ _ _ => rfl, fun j hj hjc hji => by omega⟩
   unfold tgC
   simp only
   rw [syA, wkA (e := (c : Int) + 4), wkA (e := (c : Int) + 8), wkA (e := (c : Int) + 12), rqA, rqA, rqA, rqA, rqA, rqA, rqA, rqA, hq, Xab, show ((c : Int) + 4).toNat = c + 4 by omega, show ((c : Int) + 8).toNat = c + 8 by omega, show ((c : Int) + 12).toNat = c + 12 by omega, Int.toNat_natCast, g3 c (by omega) (by omega), g3 (c + 4) (by omega) (by omega), g3 (c + 8) (by omega) (by omega), g3 (c + 12) (by omega) (by omega), er, Xab, wkA (e := (c : Int) + 1)]
   refine ⟨r, rfl, r1, fun j hj hjc => ?_, fun j hj hjc => ?_⟩
   ·
    by_cases h : j % 4 = c
    ·
     rw [r3 j hj h (by omega), at4 j hj, h]
    ·
     rw [r2 j hj h]; exact g2 j hj (by omega)
   ·
    rw [r2 j hj (by omega)]; exact g3 j hj (by omega)) (fun z _ => by unfold tgC; rw [Xao (by simp)]) R ⟨hl, fun j hj hjc => by omega, fun _ _ _ => rfl⟩
  rw [e]
  congr 1
  exact Xtk o1 (Xn4 _) fun j hj => o2 j hj (by omega)
 rw [hC, Xab]
theorem Xh0 (p : List Int) (hl : p.length = 16) : Xeb p = some (Xq3 p) := by
 unfold Xeb
 rw [rqA]
 obtain ⟨o, e, o1, o2⟩ := Xjg (f := Xc5 p) 16 (fun i s => s.length = 16 ∧ ∀ j, j < 16 → j % 4 * 4 + j / 4 < i → s.getD j 0 = p.getD (j % 4 * 4 + j / 4) 0) (by
  intro i s hi ⟨g1, g2⟩
  unfold Xc5
  simp only
  rw [syA, rqA, rqA, rqA, Xcg (by omega), Xbx (by omega), wkA (e := (i : Int) / 4), wkA (e := (i : Int) % 4 * 4), wkA (e := (i : Int) % 4 * 4 + (i : Int) / 4), rqA, rqA, wkA (e := (i : Int) + 1), Int.toNat_natCast, show ((i : Int) % 4 * 4 + (i : Int) / 4).toNat = i % 4 * 4 + i / 4 by omega]
  refine ⟨_, rfl, by rw [List.length_set]; exact g1, fun j hj hji => ?_⟩
  rw [Xdm _ _ _ _ (by omega)]
  by_cases h : i % 4 * 4 + i / 4 = j
  ·
   rw [if_pos h, show j % 4 * 4 + j / 4 = i by omega]
  ·
   rw [if_neg h]; exact g2 j hj (by omega)) (fun z _ => by unfold Xc5; rw [Xao (by simp)]) (List.replicate (16 : Int).toNat 0) ⟨by simp, fun j hj h => by omega⟩
 rw [e, Xab]
 congr 1
 exact Xtk o1 (Xn4 p) fun j hj => by rw [o2 j hj (by omega), Xq3, Xgk _ hj]
theorem Ydp {f : Int × List Int → Option (Lp (Int × List Int) (List Int))} {t : Int → Int → Int → Int → Q4} (p : List Int) (h : ∀ (i : Nat) (s : List Int), i < 4 → s.length = 4 * i → f ((i : Int), s) = some (.go (((i + 1 : Nat) : Int), s ++ [(t (p.getD (4 * i) 0) (p.getD (4 * i + 1) 0) (p.getD (4 * i + 2) 0) (p.getD (4 * i + 3) 0)).1, (t (p.getD (4 * i) 0) (p.getD (4 * i + 1) 0) (p.getD (4 * i + 2) 0) (p.getD (4 * i + 3) 0)).2.1, (t (p.getD (4 * i) 0) (p.getD (4 * i + 1) 0) (p.getD (4 * i + 2) 0) (p.getD (4 * i + 3) 0)).2.2.1, (t (p.getD (4 * i) 0) (p.getD (4 * i + 1) 0) (p.getD (4 * i + 2) 0) (p.getD (4 * i + 3) 0)).2.2.2]))) (he : ∀ s, f (4, s) = some (.done s)) : loop f (0, []) = some (Xo5 t p) := by
 obtain ⟨o, e, ho⟩ := Xjg (f := f) 4 (fun i s => s = (List.range (4 * i)).map fun j => Ydl (t (p.getD (4 * (j / 4)) 0) (p.getD (4 * (j / 4) + 1) 0) (p.getD (4 * (j / 4) + 2) 0) (p.getD (4 * (j / 4) + 3) 0)) (j % 4)) (by
  intro i s hi g
  refine ⟨_, h i s hi (by rw [g]; simp), ?_⟩
  rw [g, show 4 * (i + 1) = 4 * i + 1 + 1 + 1 + 1 by omega]
  simp only [List.range_succ, List.map_append, List.map_singleton, List.append_assoc]
  rw [show (4 * i + 1 + 1 + 1) / 4 = i by omega, show (4 * i + 1 + 1) / 4 = i by omega, show (4 * i + 1) / 4 = i by omega, show 4 * i / 4 = i by omega, show (4 * i + 1 + 1 + 1) % 4 = 3 by omega, show (4 * i + 1 + 1) % 4 = 2 by omega, show (4 * i + 1) % 4 = 1 by omega, show 4 * i % 4 = 0 by omega]
  rfl) (fun z _ => he z) [] rfl
 rw [e, ho]; rfl
def t4F (a b c d : Int) : Q4 := (Xaa .i64 ((Xaa .i64 ((Xaa .i64 (a + b)) + c)) + d), Xaa .i64 ((Xaa .i64 ((Xaa .i64 ((Xaa .i64 (2 * a)) + b)) - c)) - (Xaa .i64 (2 * d))), Xaa .i64 ((Xaa .i64 ((Xaa .i64 (a - b)) - c)) + d), Xaa .i64 ((Xaa .i64 ((Xaa .i64 (a - (Xaa .i64 (2 * b)))) + (Xaa .i64 (2 * c)))) - d))
theorem Xy5 (a b c d : Int) : Xie a b c d = some (t4F a b c d) := rfl
def Xz8 (a b : Int) : Int := Xaa .i64 (if a.tmod b < 0 then Xaa .i64 (a.tdiv b) - 1 else a.tdiv b)
theorem Xow (a b : Int) (hb : b ≠ 0) : Xct a b = some (Xz8 a b) := by
 unfold Xct Xz8
 rw [Xbb hb, Xbb hb, Yg9]
 split <;> rfl
def t4B (a b c d : Int) : Q4 := (Xaa .i64 ((Xaa .i64 (a + c)) + (Xaa .i64 (b + Xz8 d 2))), Xaa .i64 ((Xaa .i64 (a - c)) + (Xaa .i64 (Xz8 b 2 - d))), Xaa .i64 ((Xaa .i64 (a - c)) - (Xaa .i64 (Xz8 b 2 - d))), Xaa .i64 ((Xaa .i64 (a + c)) - (Xaa .i64 (b + Xz8 d 2))))
theorem Xra (a b c d : Int) : Xcx a b c d = some (t4B a b c d) := by
 unfold Xcx
 rw [Yei, Xow b 2 (by omega), Xow d 2 (by omega), Xab, Xab]; rfl
theorem Xnx (p : List Int) (hl : p.length = 16) : Xfx p = some (Xo5 t4B p) := by
 have hm : maxLen = 9223372036854775807 := rfl
 unfold Xfx
 rw [Ydp (f := Xci p) (t := t4B) p (by
  intro i s hi hs
  unfold Xci
  simp only
  rw [syA, wkA (e := 4 * (i : Int)), wkA (e := 4 * (i : Int) + 1), wkA (e := 4 * (i : Int) + 2), wkA (e := 4 * (i : Int) + 3), rqA, rqA, rqA, rqA, show (4 * (i : Int)).toNat = 4 * i by omega, show (4 * (i : Int) + 1).toNat = 4 * i + 1 by omega, show (4 * (i : Int) + 2).toNat = 4 * i + 2 by omega, show (4 * (i : Int) + 3).toNat = 4 * i + 3 by omega, Xow _ 2 (by omega), Xab, Xow _ 2 (by omega), Xab, wkA (e := (i : Int) + 1), Xbb (by simp only [List.length_cons, List.length_nil]; omega)]
  rfl) (by intro s; unfold Xci; rw [Xao (by simp)]), Xab]
theorem Xom (p : List Int) (hl : p.length = 16) : Xg7 p = some (Xo5 t4F p) := by
 have hm : maxLen = 9223372036854775807 := rfl
 unfold Xg7
 rw [Ydp (f := Xc6 p) (t := t4F) p (by
  intro i s hi hs
  unfold Xc6
  simp only
  rw [syA, wkA (e := 4 * (i : Int)), wkA (e := 4 * (i : Int) + 1), wkA (e := 4 * (i : Int) + 2), wkA (e := 4 * (i : Int) + 3), rqA, rqA, rqA, rqA, show (4 * (i : Int)).toNat = 4 * i by omega, show (4 * (i : Int) + 1).toNat = 4 * i + 1 by omega, show (4 * (i : Int) + 2).toNat = 4 * i + 2 by omega, show (4 * (i : Int) + 3).toNat = 4 * i + 3 by omega, wkA (e := (i : Int) + 1), Xbb (by simp only [List.length_cons, List.length_nil]; omega)]
  rfl) (by intro s; unfold Xc6; rw [Xao (by simp)]), Xab]
theorem Xyy (p : List Int) (hl : p.length = 16) (hb : inB 10000000 p) : Xhe p = Xhw p := by
 unfold Xhe Xhw
 rw [Xl6 p 16 10000000 (by omega) (by omega) hb, Xbr p 16 10000000 (by omega) (by omega) (by omega) hb, Xab, Xab, Bool.not_true, Xav, Xav, Yjc, Ygl Xra p hl, Xnx p hl, Xab, Xab, Xh0 _ (Xmi _ _), Xab, Xnx _ (Xn4 _), Xab, Xh0 _ (Xmi _ _), Xab]
 exact Xsg _ 16 (by omega) (Xn4 _) (fun _ => rfl)
theorem Ygn (p : List Int) (hl : p.length = 16) (hb : inB 1000 p) : Xn8 p = Xoj p := by
 unfold Xn8 Xoj
 rw [Xl6 p 16 1000 (by omega) (by omega) hb, Xbr p 16 1000 (by omega) (by omega) (by omega) hb, Xab, Xab, Bool.not_true, Xav, Xav, Yjd, Ygl Xy5 p hl, Xom p hl, Xab, Xab, Xh0 _ (Xmi _ _), Xab, Xom _ (Xn4 _), Xab, Xh0 _ (Xmi _ _), Xab]
theorem Yg5 {β : Type} {c : Prop} [Decidable c] {k k' : Option β} (h : c → k = k') : req c k = req c k' := by
 by_cases hc : c
 ·
  rw [Xbb hc, Xbb hc, h hc]
 ·
  unfold req; rw [if_neg hc, if_neg hc]
theorem Xib {β : Type} {c : Prop} [Decidable c] {k k' : Option β} (h0 : c) (h : k = k') : req c k = k' := by rw [Xbb h0, h]
theorem Xsf {β : Type} {b : Bool} {x x' y y' : β} (h : b = true → x = x') (h2 : b = false → y = y') : sel b x y = sel b x' y' := by
 cases b
 ·
  exact h2 rfl
 ·
  exact h rfl
theorem Ygs {α β : Type} {x x' : Option α} {f f' : α → Option β} (h : x = x') (h2 : ∀ a, x' = some a → f a = f' a) : bnd x f = bnd x' f' := by
 subst h
 cases x with
 | none => rfl
 | some a => exact h2 a rfl
theorem Yig {V O : Type} {f : V → Option (Lp V O)} (I : V → Prop) (J : O → Prop) (h1 : ∀ v v', I v → f v = some (.go v') → I v') (h2 : ∀ v o, I v → f v = some (.done o) → J o) {v : V} {o : O} (h : loop f v = some o) (hv : I v) : J o := by
 obtain ⟨k, hk⟩ := Xf1.1 h
 clear h
 induction k generalizing v with
 | zero => cases hk
 | succ k ih =>
  rw [it] at hk
  cases e : f v with
  | none => rw [e] at hk; cases hk
  | some s =>
   rw [e] at hk
   cases s with
   | go y => exact ih (h1 v y hv e) hk
   | done o' => cases hk; exact h2 v o hv e
theorem Xwf (l qp p : Int) (h0 : 0 ≤ qp ∧ qp ≤ 40) (hp : 0 ≤ p ∧ p ≤ 15) : Xga l qp p = Xgg l qp p := by
 unfold Xga Xgg
 rw [Xal, Xah, Yan qp p h0 hp]
theorem Xwe (l qp : Int) (h0 : 0 ≤ qp ∧ qp ≤ 40) : Xf8 l qp = Xgf l qp := by
 unfold Xf8 Xgf
 rw [Xal, Xah, Xt5 qp h0]
theorem Xya (x : Int) (h : -1000000000000 ≤ x ∧ x ≤ 1000000000000) : Xjo x = Xel x := by
 unfold Xjo Xel
 rw [wkA]
 by_cases hx : x < 0
 ·
  rw [Xbj hx, if_pos (by omega)]
 ·
  rw [Xao hx, if_neg (by omega)]
theorem Yi2 : ∀ q : Fin 41, ∀ p : Fin 16, Xjl (q.val : Int) (p.val : Int) = Xjt (q.val : Int) (p.val : Int) := by decide +kernel
theorem Yao (qp p : Int) (h0 : 0 ≤ qp ∧ qp ≤ 40) (hp : 0 ≤ p ∧ p ≤ 15) : Xjl qp p = Xjt qp p := by
 have := Yi2 ⟨qp.toNat, by omega⟩ ⟨p.toNat, by omega⟩
 simp only at this
 rwa [show ((qp.toNat : Nat) : Int) = qp by omega, show ((p.toNat : Nat) : Int) = p by omega] at this
theorem Ydw (x w : Int) : Xku x w = Xgh w x := rfl
theorem Xui (w qp : Int) (h0 : 0 ≤ qp ∧ qp ≤ 40) : Xe1 w qp = Xfg w qp := by
 unfold Xe1 Xfg
 rw [Xal, Xah, Xal, Xah, Xt5 qp h0]
 by_cases hw : -20000 ≤ w ∧ w ≤ 20000
 ·
  rw [Xya w (by omega)]; rfl
 ·
  rw [decide_eq_false hw]; rfl
theorem Yoa (qp : Int) (h0 : 0 ≤ qp ∧ qp ≤ 40) : Xaa .u64 (Xaa .i64 (15 + (Xaa .i64 (qp.tdiv 6)))) = Xaa .i64 (15 + (Xaa .i64 (qp.tdiv 6))) := by
 have h : ∀ q : Fin 41, Xaa .u64 (Xaa .i64 (15 + (Xaa .i64 ((q.val : Int).tdiv 6)))) = Xaa .i64 (15 + (Xaa .i64 ((q.val : Int).tdiv 6))) := by decide +kernel
 have := h ⟨qp.toNat, by omega⟩
 simp only at this
 rwa [show ((qp.toNat : Nat) : Int) = qp by omega] at this
theorem Xuj (w qp p : Int) (h0 : 0 ≤ qp ∧ qp ≤ 40) (hp : 0 ≤ p ∧ p ≤ 15) : Xe4 w qp p = Xfi w qp p := by
 unfold Xe4 Xfi
 have h15 := Yoa qp h0
 simp only [Xal, Xah, Yao qp p h0 hp, h15, Ydw]
 by_cases hw : -20000 ≤ w ∧ w ≤ 20000
 ·
  simp only [Xya w (by omega)]
 ·
  simp only [decide_eq_false hw, Xab, Xav, Xaz]
def Xsb (k : Int) (v7 : Int × List Int) : Option (Lp (Int × List Int) (List Int)) :=
 sel (decide (v7.1 < 4)) (
 bnd (it (Xj6 k v7) 10 (0, v7.2)) fun v18 =>
 some (.go (Xaa .i64 (v7.1 + 1), v18))) (
 some (.done v7.2))
theorem Ydn {k : Int} {v : Int × List Int} {x : Lp (Int × List Int) (List Int)} (h : Xsb k v = some x) : Xgn k v = some x := by
 unfold Xsb at h
 unfold Xgn
 rcases Xgo h with ⟨hb, h⟩ | ⟨hb, h⟩
 ·
  rw [hb, Xaz]
  obtain ⟨a, h1, h2⟩ := Xbl h
  rw [Xf1.2 ⟨10, h1⟩, Xab]
  exact h2
 ·
  rw [hb, Xav]; exact h
def Xhp (k : Int) : List Int := (it (Xsb k) 10 (0, [])).getD []
def Xjr (k i : Int) : Int := (Xaa .i64 ((Xaa .i64 ((Xaa .i64 (8 * (Xaa .i64 ((Xaa .i64 ((Xaa .i64 (k.tdiv 2)) * 4)) + (Xaa .i64 (i.tdiv 4)))))) + (Xaa .i64 ((k.tmod 2) * 4)))) + (i.tmod 4)))
theorem Yey : ∀ k : Fin 4, (it (Xsb (k.val : Int)) 10 (0, [])).isSome = true ∧ (Xhp (k.val : Int)).length = 16 ∧ ∀ i : Fin 16, (Xhp (k.val : Int)).getD i.val 0 = Xjr (k.val : Int) (i.val : Int) ∧ 0 ≤ Xjr (k.val : Int) (i.val : Int) ∧ Xjr (k.val : Int) (i.val : Int) < 64 := by decide +kernel
theorem Xks (k : Nat) (hk : k < 4) : Xg1 k = some (Xhp k) ∧ (Xhp k).length = 16 ∧ ∀ i : Nat, i < 16 → (Xhp k).getD i 0 = Xjr k i ∧ 0 ≤ Xjr k i ∧ Xjr k i < 64 := by
 obtain ⟨h1, h2, h3⟩ := Yey ⟨k, hk⟩
 refine ⟨?_, h2, fun i hi => h3 ⟨i, hi⟩⟩
 obtain ⟨o, ho⟩ := Option.isSome_iff_exists.1 h1
 have hl := Yeu 10 (Yj4 (fun v y => Ydn (k := (k : Int))) 10 _ ho)
 unfold Xg1
 rw [hl, Xab]
 unfold Xhp; simp only at ho; rw [ho]; rfl
theorem Xni (p : List Int) (c : Xdx) (hc : Xe0 c = true) (hp : Xxs p = true) : Xe2 p c = Xcc p c := by
 have hq := Xq1 hc
 obtain ⟨hl, hb⟩ := Xxt hp
 unfold Xe2 Xcc
 rw [Xdr, Xer, Xl8 p (by omega), hp, hc, Xbr p 64 5000 (by omega) (by omega) (by omega) hb]
 simp only [Xab, Xaz, Bool.not_true, Xav]
 rw [Xn2 8 (Or.inr rfl) p (by omega)]
 refine Xsf (fun _ => rfl) fun _ => Xsf (fun _ => ?_) fun _ => ?_
 ·
  obtain ⟨w, ew, w1, w2⟩ := Xd6 8 (Or.inr rfl) p 5000 (by omega) (by omega) hb
  rw [ew, Xab, Xab]
  have hloop : loop (Xdf c (w, true)) (0, (w, true).1) = loop (Xa7 c) (0, (w, true).1) := by
   have : Xdf c (w, true) = Xa7 c := by
    funext v
    unfold Xdf Xa7
    simp only [Xwe _ _ hq, w1, hl]
    rfl
   rw [this]
  rw [hloop]
  obtain ⟨l, el, l1, l2⟩ := Xi7 (f := Xa7 c) 64 (fun x => -5000 ≤ x ∧ x ≤ 5000) (fun x => -5760000 ≤ x ∧ x ≤ 5760000) (by
   intro i l hi hll hx
   obtain ⟨d, ed, d1, d2⟩ := Xml (l.getD i 0) c.Qp hx hq
   unfold Xa7
   simp only [Int.toNat_natCast]
   rw [syA, rqA, rqA, ed, Xab, rqA, rqA, wkA (e := (i : Int) + 1)]
   exact ⟨d, rfl, d1, d2⟩) (by intro s; unfold Xa7; rw [Xao (by simp)]) w (by omega) w2
  simp only [el, Xab]
  rw [Xwd l l1 (Xlk l2 (by omega))]
 ·
  refine Yg5 fun _ => Ygs ?_ fun _ _ => rfl
  refine Xit (fun v => (∃ k : Nat, v.1 = (k : Int) ∧ k ≤ 4) ∧ v.2.length = 64) ?_ ?_ ⟨⟨0, rfl, by omega⟩, by simp⟩
  ·
   intro ⟨k0, s⟩ ⟨⟨k, ek, hk⟩, hs⟩
   simp only at ek hs
   subst ek
   unfold Xgt Xb3
   simp only
   refine Xsf (fun hk4 => ?_) fun _ => rfl
   have hk4 : k < 4 := by have := of_decide_eq_true hk4; omega
   rw [wkA (e := 16 * (k : Int)), wkA (e := 16 * (k : Int) + 16)]
   refine Yg5 fun _ => ?_
   rw [show (16 * (k : Int)).toNat = 16 * k by omega, show (16 * (k : Int) + 16).toNat - 16 * k = 16 by omega]
   have hcut : ((p.drop (16 * k)).take 16).length = 16 := by rw [List.length_take, List.length_drop]; omega
   obtain ⟨a, ea, a1, a2⟩ := Xd6 4 (Or.inl rfl) ((p.drop (16 * k)).take 16) 5000 (by omega) (by omega) (Yfs (Yfq hb _) _)
   rw [Xn2 4 (Or.inl rfl) _ (by omega), ea, Xab, Xab]
   have hloop : loop (Xcy c (a, true)) (0, (a, true).1) = loop (Xa2 c) (0, (a, true).1) := by
    have : Xcy c (a, true) = Xa2 c := by
     funext v
     unfold Xcy Xa2
     simp only [show ((a.length : Nat) : Int) = 16 by omega]
     refine Xsf (fun h16 => ?_) fun _ => rfl
     have := of_decide_eq_true h16
     refine Yg5 fun h0 => Yg5 fun _ => ?_
     rw [Xwf _ _ _ hq (by omega)]
    rw [this]
   rw [hloop]
   obtain ⟨l, el, l1, l2⟩ := Xi7 (f := Xa2 c) 16 (fun x => -5000 ≤ x ∧ x ≤ 5000) (fun x => -10000000 ≤ x ∧ x ≤ 10000000) (by
    intro i l hi hll hx
    obtain ⟨d, ed, d1, d2⟩ := Xmm (l.getD i 0) c.Qp i hx hq (by omega)
    unfold Xa2
    simp only [Int.toNat_natCast]
    rw [syA, rqA, rqA, ed, Xab, rqA, rqA, wkA (e := (i : Int) + 1)]
    exact ⟨d, rfl, d1, d2⟩) (by intro s; unfold Xa2; rw [Xao (by simp)]) a (by omega) a2
   obtain ⟨b, eb, b1, b2⟩ := Xnu l l1 l2
   obtain ⟨q1, q2, q3⟩ := Xks k hk4
   simp only [el, Xab]
   rw [Xyy l l1 l2, eb, Xab, Xab, q1, Xab]
   refine Ygs ?_ fun _ _ => rfl
   have : Xef b (Xhp k) = Xa9 ((k : Int), s) b := by
    funext v
    unfold Xef Xa9
    simp only [show (((Xhp k).length : Nat) : Int) = 16 by omega]
    refine Xsf (fun h16 => ?_) fun _ => rfl
    have h16 := of_decide_eq_true h16
    by_cases h0 : 0 ≤ v.1
    ·
     obtain ⟨i, hi⟩ : ∃ i : Nat, v.1 = (i : Int) := ⟨v.1.toNat, by omega⟩
     obtain ⟨v1, v2⟩ := v
     simp only at hi h0 h16
     subst hi
     obtain ⟨r1, r2, r3⟩ := q3 i (by omega)
     have e1 : (Xaa .i64 ((Xaa .i64 ((Xaa .i64 (8 * (Xaa .i64 ((Xaa .i64 ((Xaa .i64 ((k : Int).tdiv 2)) * 4)) + (Xaa .i64 ((i : Int).tdiv 4)))))) + (Xaa .i64 (((k : Int).tmod 2) * 4)))) + ((i : Int).tmod 4))) = Xjr k i := rfl
     simp only [Int.toNat_natCast, r1, e1]
     refine Xib (by omega) (Xib (by omega) (Xib (by omega) (Xib (by omega) ?_)))
     refine (Xib (by omega) (Xib (by omega) (Xib (by omega) (Xib (by omega) (Xib (by omega) (Xib (by omega) ?_)))))).symm
     rfl
    ·
     unfold req
     rw [if_neg (by omega), if_pos (by omega), if_pos (by omega), if_pos (by omega), if_pos (by omega), if_neg (by omega)]
   rw [this]
  ·
   intro ⟨k0, s⟩ v' ⟨⟨k, ek, hk⟩, hs⟩ he
   simp only at ek hs
   subst ek
   unfold Xb3 at he
   simp only at he
   rcases Xgo he with ⟨hb4, he⟩ | ⟨_, he⟩
   ·
    have hk4 : k < 4 := by have := of_decide_eq_true hb4; omega
    obtain ⟨_, he⟩ := Xat he
    obtain ⟨a, _, he⟩ := Xbl he
    obtain ⟨l, _, he⟩ := Xbl he
    obtain ⟨b, _, he⟩ := Xbl he
    obtain ⟨r, hr, he⟩ := Xbl he
    rw [wkA (e := (k : Int) + 1)] at he
    cases he
    refine ⟨⟨k + 1, rfl, by omega⟩, ?_⟩
    refine Yig (f := Xa9 ((k : Int), s) b) (fun v => v.2.length = 64) (fun o => o.length = 64) ?_ ?_ hr hs
    ·
     intro v v' hv he
     unfold Xa9 at he
     rcases Xgo he with ⟨_, he⟩ | ⟨_, he⟩
     ·
      obtain ⟨_, he⟩ := Xat he
      obtain ⟨_, he⟩ := Xat he
      obtain ⟨_, he⟩ := Xat he
      obtain ⟨_, he⟩ := Xat he
      obtain ⟨_, he⟩ := Xat he
      obtain ⟨_, he⟩ := Xat he
      obtain ⟨_, he⟩ := Xat he
      obtain ⟨_, he⟩ := Xat he
      cases he
      simp only [List.length_set]; exact hv
     ·
      cases he
    ·
     intro v o hv he
     unfold Xa9 at he
     rcases Xgo he with ⟨_, he⟩ | ⟨_, he⟩
     ·
      obtain ⟨_, he⟩ := Xat he
      obtain ⟨_, he⟩ := Xat he
      obtain ⟨_, he⟩ := Xat he
      obtain ⟨_, he⟩ := Xat he
      obtain ⟨_, he⟩ := Xat he
      obtain ⟨_, he⟩ := Xat he
      obtain ⟨_, he⟩ := Xat he
      obtain ⟨_, he⟩ := Xat he
      cases he
     ·
      cases he; exact hv
   ·
    cases he
theorem Yf2 {S O : Type} {f g : Int × S → Option (Lp (Int × S) O)} (n : Nat) (I : Nat → S → Prop) (h : ∀ (i : Nat) (s : S), i ≤ n → I i s → f ((i : Int), s) = g ((i : Int), s)) (hI : ∀ (i : Nat) (s : S) (v' : Int × S), i ≤ n → I i s → g ((i : Int), s) = some (.go v') → v'.1 = ((i + 1 : Nat) : Int) ∧ i + 1 ≤ n ∧ I (i + 1) v'.2) {s0 : S} (h0 : I 0 s0) : loop f (0, s0) = loop g (0, s0) := by
 refine Xit (fun v => ∃ i : Nat, v.1 = (i : Int) ∧ i ≤ n ∧ I i v.2) ?_ ?_ ⟨0, rfl, by omega, h0⟩
 ·
  intro ⟨k, s⟩ ⟨i, e, hi, hs⟩
  simp only at e hs
  subst e
  exact h i s hi hs
 ·
  intro ⟨k, s⟩ v' ⟨i, e, hi, hs⟩ he
  simp only at e hs
  subst e
  obtain ⟨a, b, c⟩ := hI i s v' hi hs he
  exact ⟨i + 1, a, b, c⟩
theorem Ydo (p : List Int) (hl : p.length = 64) (k : Nat) (hk : k < 4) : loop (Xd0 p (Xhp k)) (0, ([] : List Int)) = Xfl p k := by
 obtain ⟨q1, q2, q3⟩ := Xks k hk
 unfold Xfl
 rw [Yf2 (f := Xd0 p (Xhp k)) (g := Xbn p k) 16 (fun _ _ => True) ?_ ?_ trivial]
 ·
  cases loop (Xbn p k) (0, ([] : List Int)) <;> rfl
 ·
  intro i s hi _
  unfold Xd0 Xbn
  simp only [show (((Xhp k).length : Nat) : Int) = 16 by omega]
  refine Xsf (fun h16 => ?_) fun _ => rfl
  have h16 := of_decide_eq_true h16
  obtain ⟨r1, r2, r3⟩ := q3 i (by omega)
  have e1 : (Xaa .i64 ((Xaa .i64 ((Xaa .i64 (8 * (Xaa .i64 ((Xaa .i64 ((Xaa .i64 ((k : Int).tdiv 2)) * 4)) + (Xaa .i64 ((i : Int).tdiv 4)))))) + (Xaa .i64 (((k : Int).tmod 2) * 4)))) + ((i : Int).tmod 4))) = Xjr k i := rfl
  simp only [Int.toNat_natCast, r1, e1]
  refine Xib (by omega) (Xib (by omega) (Xib (by omega) ?_))
  refine (Xib (by omega) (Xib (by omega) (Xib (by omega) (Xib (by omega) (Xib (by omega) ?_))))).symm
  rfl
 ·
  intro i s v' hi _ he
  unfold Xbn at he
  rcases Xgo he with ⟨hb, he⟩ | ⟨_, he⟩
  ·
   have h16 := of_decide_eq_true hb
   simp only at h16 he
   obtain ⟨_, he⟩ := Xat he
   obtain ⟨_, he⟩ := Xat he
   obtain ⟨_, he⟩ := Xat he
   obtain ⟨_, he⟩ := Xat he
   obtain ⟨_, he⟩ := Xat he
   obtain ⟨_, he⟩ := Xat he
   injection he with he
   injection he with he
   subst he
   exact ⟨wkA, by omega, trivial⟩
  ·
   cases he
theorem Xo8 (p : List Int) (c : Xdx) (hc : Xe0 c = true) (hl : p.length = 64) (hb : inB 255 p) : Xeg p c = Xcq p c := by
 have hq := Xq1 hc
 unfold Xeg Xcq
 rw [Xdr, Xer, Xl6 p 64 255 (by omega) (by omega) hb, hc, Xbr p 64 255 (by omega) (by omega) (by omega) hb]
 simp only [Xab, Xaz, Bool.not_true, Xav]
 rw [Xmt 8 (Or.inr rfl) p (by omega)]
 refine Xsf (fun _ => rfl) fun _ => Xsf (fun _ => ?_) fun _ => ?_
 ·
  obtain ⟨w, ew, w1⟩ := Xsk p hl hb
  rw [Yd3 p hl (Xlk hb (by omega)), ew, Xab, Xab]
  have : Xgl c w = Xbp c := by
   funext v
   unfold Xgl Xbp
   simp only [Xui _ _ hq, w1]
   rfl
  rw [this]
  obtain ⟨l, el, l1, l2⟩ := Xi7 (f := Xbp c) 64 (fun _ => True) (fun x => -5000 ≤ x ∧ x ≤ 5000) (by
   intro i l hi hll _
   obtain ⟨d, ed, d1, d2⟩ := Xlp (l.getD i 0) c.Qp hq
   unfold Xbp
   simp only [Int.toNat_natCast]
   rw [syA, rqA, rqA, ed, Xab, rqA, rqA, wkA (e := (i : Int) + 1)]
   exact ⟨d, rfl, d1, d2⟩) (by intro s; unfold Xbp; rw [Xao (by simp)]) w w1 (fun _ _ => trivial)
  rw [el, Xab, Xab, Xmt 8 (Or.inr rfl) l (by omega)]
 ·
  refine Ygs ?_ fun _ _ => rfl
  refine Yf2 4 (fun _ _ => True) ?_ ?_ trivial
  ·
   intro k s hk _
   unfold Xig Xcw
   refine Xsf (fun h4 => ?_) fun _ => rfl
   have hk4 : k < 4 := by have := of_decide_eq_true h4; simp only at this; omega
   obtain ⟨q1, q2, q3⟩ := Xks k hk4
   simp only [q1, Xab]
   rw [Ydo p hl k hk4]
   obtain ⟨a, ea, a1, a2⟩ := Xls p k hk4 255 hl hb
   obtain ⟨b, eb, b1, b2⟩ := Xuh a a1 a2
   rw [ea, Xab, Xab, Ygn a a1 (Xlk a2 (by omega)), eb, Xab, Xab]
   have : Xfp c b = Xbi c := by
    funext v
    unfold Xfp Xbi
    simp only [show ((b.length : Nat) : Int) = 16 by omega]
    refine Xsf (fun h16 => ?_) fun _ => rfl
    have := of_decide_eq_true h16
    refine Yg5 fun h0 => Yg5 fun _ => ?_
    rw [Xuj _ _ _ hq (by omega)]
   rw [this]
   obtain ⟨l, el, l1, l2⟩ := Xi7 (f := Xbi c) 16 (fun x => -9180 ≤ x ∧ x ≤ 9180) (fun x => -5000 ≤ x ∧ x ≤ 5000) (by
    intro i l hi hll hx
    obtain ⟨d, ed, d1, d2⟩ := Xlq (l.getD i 0) c.Qp i hx hq (by omega)
    unfold Xbi
    simp only [Int.toNat_natCast]
    rw [syA, rqA, rqA, ed, Xab, rqA, rqA, wkA (e := (i : Int) + 1)]
    exact ⟨d, rfl, d1, d2⟩) (by intro s; unfold Xbi; rw [Xao (by simp)]) b b1 b2
   rw [el, Xab, Xab, Xmt 4 (Or.inl rfl) l (by omega)]
  ·
   intro k s v' hk _ he
   unfold Xcw at he
   rcases Xgo he with ⟨hb4, he⟩ | ⟨_, he⟩
   ·
    have hk4 := of_decide_eq_true hb4
    simp only at hk4 he
    obtain ⟨a, _, he⟩ := Xbl he
    obtain ⟨l, _, he⟩ := Xbl he
    obtain ⟨b, _, he⟩ := Xbl he
    obtain ⟨r, _, he⟩ := Xbl he
    obtain ⟨_, he⟩ := Xat he
    injection he with he
    injection he with he
    subst he
    exact ⟨wkA, by omega, trivial⟩
   ·
    cases he
theorem Ycl {p : Pic} (ok : Xce p = true) (x y : Int) : Xdj p x y = Xdb p x y := by rw [Xxg ok, Xfv ok]
theorem Xof {p : Pic} (ok : Xce p = true) {x y : Int} (hx : x.tmod 8 = 0) (hy : y.tmod 8 = 0) (h : Xcb p x y = true) : Xbg p x y = some true := Xj5 ok x y hx hy h
theorem Xqw {p : Pic} (ok : Xce p = true) {x y : Int} (hx : x.tmod 8 = 0) (hy : y.tmod 8 = 0) (h : Xcb p x y = true) : Xgz p x y = Xea p x y := by
 unfold Xgz Xea
 rw [Xcm, ok, Xof ok hx hy h, Xdd ok hx hy h]
 have : Xhd p x y = Xd4 p x y := by
  funext v
  unfold Xhd Xd4
  simp only [Ycl ok]
 simp only [Xab, Xaz, Bool.not_true, Xav, this, Ycl ok]
theorem Xwc {e : Xf3} (h : Xnj e) : Xg0 e = some true := by
 obtain ⟨h1, h2, h3, h4, h5, h6⟩ := h
 have side : ∀ l : List Int, (l.length = 0 ∨ l.length = 8) → (∀ x ∈ l, 0 ≤ x ∧ x ≤ 255) → bnd (sel (decide ((l.length : Int) > 0)) (bnd (Xa8 l 8 0 255) fun q10 => some (!q10)) (some false)) (fun v9 => some v9) = some false := by
  intro l hl hb
  rcases hl with e | e
  ·
   rw [snA]; rfl
  ·
   rw [syA, Xhi l 8 0 255 (by omega)]
   have : (l.all fun x => decide (0 ≤ x ∧ x ≤ 255)) = true := List.all_eq_true.2 fun x hx => decide_eq_true (hb x hx)
   rw [this, e]; rfl
 have go : ∀ (i : Nat) (l : List Int), i < 2 → ([e.Above, e.Left]).getD i Xvz = l → (l.length = 0 ∨ l.length = 8) → (∀ x ∈ l, 0 ≤ x ∧ x ≤ 255) → Xdz e (i : Int) = some (.go ((i + 1 : Nat) : Int)) := by
  intro i l hi hg hl hb
  unfold Xdz
  simp only [Int.toNat_natCast, hg]
  have hs := side l hl hb
  rw [Xbj (by simp only [List.length_cons, List.length_nil]; omega), Xbb (by simp only [List.length_cons, List.length_nil]; omega), Xbb (by simp only [List.length_cons, List.length_nil]; omega)]
  obtain ⟨a, ea, hs⟩ := Xbl hs
  injection hs with hs
  subst hs
  rw [ea, Xab, Xav, wkA]
  rfl
 unfold Xg0
 have : loop (Xdz e) 0 = some (.out ()) := by
  refine lgo (go 0 e.Above (by omega) rfl h1 h3) (lgo (go 1 e.Left (by omega) rfl h2 h4) (Xkx ?_))
  unfold Xdz
  rw [Xao (by simp)]
 rw [this, Xab, Xal, Xab, decide_eq_true ⟨h5, h6⟩]
def Ygj (l : List Int) : Nat → Int
 | 0 => 0
 | n + 1 => Ygj l n + l.getD n 0
theorem Xo3 {l : List Int} (h : ∀ x ∈ l, 0 ≤ x ∧ x ≤ 255) : ∀ n : Nat, n ≤ l.length → 0 ≤ Ygj l n ∧ Ygj l n ≤ 255 * n
 | 0, _ => by simp [Ygj]
 | n + 1, hn => by
  have a := Xo3 h n (by omega)
  have b := h (l.getD n 0) (by rw [Xee l n (by omega)]; exact List.getElem_mem _)
  rw [Ygj]; omega
theorem Yb8 {f : Int × Int → Option (Lp (Int × Int) Int)} {l : List Int} (hl : l.length ≤ 64) (h : ∀ x ∈ l, 0 ≤ x ∧ x ≤ 255) (hf : ∀ v, f v = sel (decide (v.2 < (l.length : Int))) (req (0 ≤ v.2 ∧ v.2 < l.length) <| some (.go (Xaa .i64 (v.1 + (l.getD v.2.toNat 0)), Xaa .i64 (v.2 + 1)))) (some (.done v.1))) (a : Int) (ha : 0 ≤ a ∧ a ≤ 100000) : loop f (a, 0) = some (a + Ygj l l.length) := by
 obtain ⟨o, e, ho⟩ := Xld (f := f) l.length (fun i s => s = a + Ygj l i) (by
  intro i s hi g
  have r := Xo3 h i (by omega)
  have b := h (l.getD i 0) (by rw [Xee l i (by omega)]; exact List.getElem_mem _)
  rw [hf]
  simp only [Int.toNat_natCast]
  rw [syA, rqA, wkA (e := s + l.getD i 0), wkA (e := (i : Int) + 1)]
  exact ⟨_, rfl, by rw [Ygj]; omega⟩) (by intro s; rw [hf, Xao (by simp)]) a (by simp [Ygj])
 rw [e, ho]
theorem Xr5 {l : List Int} (hl : l.length ≤ 64) (h : ∀ x ∈ l, 0 ≤ x ∧ x ≤ 255) : Xg5 l = some (Ygj l l.length) := by
 unfold Xg5
 rw [Yb8 (f := Xm6 l) hl h (fun _ => rfl) 0 (by omega), Xab, Int.zero_add]
theorem Yil {e : Xf3} (h : Xnj e) : (sel (decide ((Xaa .i64 ((e.Above.length : Int) + (e.Left.length : Int))) > 0)) (bnd (Xg5 e.Above) fun q5 => bnd (Xg5 e.Left) fun q6 => req ((2 : Int) ≠ 0) <| req ((Xaa .i64 ((e.Above.length : Int) + (e.Left.length : Int))) ≠ 0) <|
  some (Xaa .i64 ((Xaa .i64 ((Xaa .i64 (q5 + q6)) + (Xaa .i64 ((Xaa .i64 ((e.Above.length : Int) + (e.Left.length : Int))).tdiv 2)))).tdiv (Xaa .i64 ((e.Above.length : Int) + (e.Left.length : Int)))))) (some 128)) = Xk7 e := by
 obtain ⟨h1, h2, h3, h4, h5, h6⟩ := h
 unfold Xk7
 have r1 := Xo3 h3 e.Above.length (Nat.le_refl _)
 have r2 := Xo3 h4 e.Left.length (Nat.le_refl _)
 rw [wkA (e := (e.Above.length : Int) + (e.Left.length : Int))]
 by_cases hz : (e.Above.length : Int) + (e.Left.length : Int) = 0
 ·
  rw [snA, Xc1 (by simpa using hz)]
 ·
  rw [syA, Xcp (by simpa using hz), Xr5 (by omega) h3, Xab, Xr5 (by omega) h4, Xab, rqA, Xbb hz, rqA, Xbx (a := (e.Above.length : Int) + (e.Left.length : Int)) (by omega), wkA (e := ((e.Above.length : Int) + (e.Left.length : Int)) / 2),
   Yb8 (f := Xgi e) (by omega) h3 (fun _ => rfl) _ (by omega), Xab, Yb8 (f := Xgj e) (by omega) h4 (fun _ => rfl) _ (by omega), Xab, Xbb hz, wkA (e := Ygj e.Above e.Above.length + Ygj e.Left e.Left.length), wkA (e := Ygj e.Above e.Above.length + Ygj e.Left e.Left.length + ((e.Above.length : Int) + (e.Left.length : Int)) / 2)]
  congr 3; omega
theorem Ydi (l : List Int) (hl : l.length = 0 ∨ l.length = 8) : ∃ g, Xio l = some g ∧ g.length = 8 ∧ ∀ k : Nat, k < 8 → Xdv l k = some (g.getD k 0) := by
 unfold Xio
 rcases hl with e | e
 ·
  refine ⟨_, Xc1 (by rw [e]; rfl), rfl, fun k hk => ?_⟩
  unfold Xdv
  rw [Xc1 (by rw [e]; rfl)]
  congr 1
  obtain rfl | rfl | rfl | rfl | rfl | rfl | rfl | rfl : k = 0 ∨ k = 1 ∨ k = 2 ∨ k = 3 ∨ k = 4 ∨ k = 5 ∨ k = 6 ∨ k = 7 := by omega
  all_goals rfl
 ·
  refine ⟨l, Xcp (by rw [e]; rfl), e, fun k hk => ?_⟩
  unfold Xdv
  rw [Xcp (by rw [e]; rfl), rqA, Int.toNat_natCast]
theorem Yat (n a b : Int) : Xde n a b = Xdk n a b := by rw [Xhc, Xc2]
def Xsw (m mid v : Int) (A B : List Int) (i : Nat) : Int := sel (m == 0) mid (sel (m == 1) (A.getD (i % 8) 0) (sel (m == 2) (B.getD (i / 8) 0) (Xbs (Xaa .i64 (Xaa .i64 (B.getD (i / 8) 0 + A.getD (i % 8) 0) - v)) 0 255)))
theorem Ygz {f1 : Int × List Int → Option (Lp (Int × List Int) (List Int))} {f2 : Int × List Int → Int × List Int → Option (Lp (Int × List Int) (List Int))} (g : Nat → Int)
  (h1 : ∀ v, f1 v = sel (decide (v.1 < 8)) (bnd (loop (f2 v) (0, v.2)) fun w => some (.go (Xaa .i64 (v.1 + 1), w))) (some (.done v.2)))
  (h2 : ∀ (r c : Nat) (a s : List Int), r < 8 → c < 8 → s.length = 8 * r + c → f2 ((r : Int), a) ((c : Int), s) = some (.go (((c + 1 : Nat) : Int), s ++ [g (8 * r + c)])))
  (h3 : ∀ (r : Nat) (a s : List Int), f2 ((r : Int), a) (8, s) = some (.done s)) : loop f1 (0, []) = some ((List.range 64).map g) := by
 obtain ⟨o, e, ho⟩ := Xcr (f := f1) 8 (fun r s => s = (List.range (8 * r)).map g) (by
  intro r s hr hs
  obtain ⟨q, eq, hq⟩ := Xjg (f := f2 ((r : Int), s)) 8 (fun c s' => s' = (List.range (8 * r + c)).map g) (by
   intro c s' hc hs'
   exact ⟨_, h2 r c s s' hr hc (by rw [hs']; simp), by rw [hs', show 8 * r + (c + 1) = (8 * r + c) + 1 by omega, List.range_succ, List.map_append]; rfl⟩) (fun z _ => h3 r s z) s hs
  rw [h1]
  refine ⟨q, ?_, by rw [hq, show 8 * (r + 1) = 8 * r + 8 by omega]⟩
  simp only
  rw [syA, eq, Xab, wkA]
  rfl) (by intro s; rw [h1, Xao (by simp)]) [] rfl
 rw [e, ho]
theorem Yce (m : Int) (hm0 : 0 ≤ m ∧ m ≤ 3) {e : Xf3} (h : Xnj e) : ∃ g, Xd8 m e = some g ∧ Xcs m e = some g := by
 have hm : maxLen = 9223372036854775807 := rfl
 obtain ⟨mid, em, m1, m2⟩ := Xpw h
 obtain ⟨A, eA, hA, fA⟩ := Ydi e.Above h.1
 obtain ⟨B, eB, hB, fB⟩ := Ydi e.Left h.2.1
 obtain ⟨v, ev⟩ : ∃ v, sel (decide (e.Corner < 0)) (some (128 : Int)) (some e.Corner) = some v := by rw [Yge]; exact ⟨_, rfl⟩
 refine ⟨(List.range 64).map (Xsw m mid v A B), ?_, ?_⟩
 ·
  unfold Xd8
  rw [Xwc h, Xab, Xaz, Xal, Xab, decide_eq_true hm0, Bool.not_true, Xab, Xav, Yil h, em, Xab, eA, Xab, eB, Xab, ev, Xab, Ygz (f1 := Xj2 m mid A B v) (f2 := Xem m mid A B v) (Xsw m mid v A B) (fun _ => rfl) ?_ ?_, Xab]
  ·
   intro r c a s hr hc hs
   unfold Xem Xsw
   simp only [Int.toNat_natCast, Xhc, Xab]
   rw [syA, wkA (e := (c : Int) + 1), show (8 * r + c) % 8 = c by omega, show (8 * r + c) / 8 = r by omega]
   cases (m == 0) with
   | true => rw [Xaz, Xbb (by simp only [List.length_singleton]; omega), Xab]; rfl
   | false =>
    rw [Xav]
    cases (m == 1) with
    | true => rw [Xaz, rqA, Xbb (by simp only [List.length_singleton]; omega), Xab]; rfl
    | false =>
     rw [Xav]
     cases (m == 2) with
     | true => rw [Xaz, rqA, Xbb (by simp only [List.length_singleton]; omega), Xab]; rfl
     | false => rw [Xav, rqA, rqA, Xbb (by simp only [List.length_singleton]; omega), Xab]; rfl
  ·
   intro r a s
   unfold Xem
   rw [Xao (by simp)]
 ·
  unfold Xcs
  rw [Xgp h, Xab, Xaz, Xah, Xab, decide_eq_true hm0, Bool.not_true, Xab, Xav, ev, Xab]
  obtain ⟨o, eo, ho⟩ := Xcr (f := Xc3 m e v) 64 (fun i s => s = (List.range i).map (Xsw m mid v A B)) (by
   intro i s hi hs
   have hlen : s.length = i := by rw [hs]; simp
   refine ⟨s ++ [Xsw m mid v A B i], ?_, by rw [hs, List.range_succ, List.map_append]; rfl⟩
   unfold Xc3 Xsw
   simp only
   rw [syA, rqA, Xcg (by omega), show (i : Int) % 8 = ((i % 8 : Nat) : Int) by omega, fA _ (by omega), Xab, rqA, Xbx (by omega), wkA (e := (i : Int) / 8), show (i : Int) / 8 = ((i / 8 : Nat) : Int) by omega, fB _ (by omega), Xab, wkA (e := (i : Int) + 1), em]
   cases (m == 0) with
   | true => rw [Xaz, Xab, Xbb (by simp only [List.length_singleton]; omega), Xab]; rfl
   | false =>
    rw [Xav]
    cases (m == 1) with
    | true => rw [Xaz, Xbb (by simp only [List.length_singleton]; omega), Xab]; rfl
    | false =>
     rw [Xav]
     cases (m == 2) with
     | true => rw [Xaz, Xbb (by simp only [List.length_singleton]; omega), Xab]; rfl
     | false => rw [Xav, Xc2, Xab, Xbb (by simp only [List.length_singleton]; omega), Xab]; rfl) (by intro s; unfold Xc3; rw [Xao (by simp)]) [] rfl
  rw [eo, Xab, ho]
theorem Xms (m : Int) (hm0 : 0 ≤ m ∧ m ≤ 3) {e : Xf3} (h : Xnj e) : Xd8 m e = Xcs m e := by
 obtain ⟨g, h1, h2⟩ := Yce m hm0 h
 rw [h1, h2]
theorem Xt3 (g b : List Int) (hg : Xbc g = true) (hl : b.length = 64) (hb : inB 10000000 b) : Xif g b = Xff g b := by
 obtain ⟨g1, g2⟩ := Xba hg
 unfold Xif Xff
 rw [Xdc g hg, Xe5 g (by omega), hg, Xl6 b 64 10000000 (by omega) (by omega) hb, Xbr b 64 10000000 (by omega) (by omega) (by omega) hb]
 have : Xi4 g b = Xb8 g b := by
  funext v
  unfold Xi4 Xb8
  simp only [Yat, show ((g.length : Nat) : Int) = 64 by omega]
 simp only [Xab, Xaz, Bool.not_true, Xav, this]
theorem Xyq {s : Xan} (h : Xqu s = true) (h1 : s.Kind = 0) : s.Dx = 0 ∧ s.Dy = 0 := by
 unfold Xqu at h
 rw [h1] at h
 simp at h
 exact ⟨h.2.1, h.2.2.1⟩
theorem Ygf {s : Xan} (h : Xqu s = true) : (-16 ≤ s.Dx ∧ s.Dx ≤ 16) ∧ (-16 ≤ s.Dy ∧ s.Dy ≤ 16) := by
 have hk := Xor h
 obtain h1 | h1 | h1 : s.Kind = 0 ∨ s.Kind = 1 ∨ s.Kind = 2 := by omega
 ·
  obtain ⟨a, b⟩ := Xyq h h1; omega
 ·
  obtain ⟨a, b, _⟩ := Xso h h1; exact ⟨a, b⟩
 ·
  unfold Xqu at h
  rw [h1] at h
  simp at h
  omega
theorem Yej (s : Xan) (c : Xdx) : Xc0 s c = some (Xmq s c) := by
 unfold Xc0 Xmq
 cases c.Key <;> rfl
structure Yno (now ref : Pic) (l t x y : Int) (c : Xdx) (q : Xan) : Prop where
 ok : Xce now = true
 hx : x.tmod 8 = 0
 hy : y.tmod 8 = 0
 h0 : Xcb now x y = true
 hl : 0 ≤ l ∧ l ≤ 256
 ht : 0 ≤ t ∧ t ≤ 256
 hc : Xe0 c = true
 hs : q.Levels.length ≤ 1048576
theorem Xkl {now ref : Pic} {l t x y : Int} {c : Xdx} {q : Xan} (h : Yno now ref l t x y c q) (hq : Xqu q = true) (hL : Xmq q c = true) (hr : c.Key = false → Xce ref = true) : ∃ d, Xcz now ref l t c x y q = some (d, true) ∧ Xbv now ref l t c x y q = some (d, true) ∧ Xbc d = true := by
 obtain ⟨ok, hx, hy, h0, hl, ht, hc, hs⟩ := h
 obtain ⟨k1, k2, k3⟩ := Xa6 ok
 have h0' := h0
 unfold Xcb at h0'
 rw [decide_eq_true_eq] at h0'
 have dxy := Ygf hq
 unfold Xbv Xcz
 rw [Xdd ok hx hy h0, Xab, Xaz, Xah, Xab, decide_eq_true hl, Xaz, Xah, Xab, decide_eq_true ht, Xaz, Xnw, Xab, hq, Xaz, Xdr, Xab, hc, Bool.not_true, Xab, Xav]
 rw [Xcm, Xab, ok, Xaz, Xof ok hx hy h0, Xab, Xaz, Xal, Xab, decide_eq_true hl, Xaz, Xal, Xab, decide_eq_true ht, Xaz, Xno q (by omega), Xab, hq, Xaz, Xer, Xab, hc, Xaz, Yej, Xab, hL, Xaz]
 by_cases h2 : q.Kind = 2
 ·
  obtain ⟨hm, hlv⟩ := Xv8 hq h2
  obtain ⟨e, ee, he⟩ := Xk0 ok hx hy h0
  obtain ⟨b, eb, b1, b2⟩ := Xez q.Levels c hc hlv
  obtain ⟨g, eg, hg⟩ := Xfe q.Mode hm he
  obtain ⟨j, ej, hj⟩ := Xpr g b hg b1 b2
  refine ⟨j, ?_, ?_, hj⟩
  ·
   rw [Xcp (b := q.Kind != 2) (by simpa using h2), Xab, Xav, Xcp (by rw [h2]; rfl), Xni q.Levels c hc hlv, eb, Xab, Xcp (by rw [h2]; rfl), Xqw ok hx hy h0, ee, Xab, Xms q.Mode hm he, eg, Xab, Xt3 g b hg b1 b2, ej, Xab]
  ·
   rw [Xc1 (by simpa using h2), ee, Xab, eb, Xab, eg, Xab, ej, Xab]
 ·
  have hK : c.Key = false := by
   unfold Xmq at hL
   cases hk : c.Key with
   | false => rfl
   | true => rw [hk] at hL; simp at hL; exact absurd hL h2
  have rok := hr hK
  rw [Xc1 (b := q.Kind != 2) (by simpa using h2), Xcm, Xab, rok, Bool.not_true, Xab, Xav]
  rw [Xcp (b := q.Kind == 2) (by simpa using h2), hK, Xav, Xek, Xab, rok, Bool.not_true, Xab, Xav]
  rw [wkA (e := l + x), wkA (e := l + x + q.Dx), wkA (e := t + y), wkA (e := t + y + q.Dy), Xfc rok _ _ (by omega) (by omega), Xab, Xeh rok _ _ (by omega) (by omega), Xab, Xeh rok _ _ (by omega) (by omega)]
  by_cases h3 : q.Kind = 0
  ·
   obtain ⟨z1, z2⟩ := Xyq hq h3
   rw [Xc1 (b := q.Kind == 0) (by simpa using h3), Xc1 (b := q.Kind == 0) (by simpa using h3), z1, z2, Int.add_zero, Int.add_zero]
   exact ⟨_, rfl, rfl, Xf4 _ _ _⟩
  ·
   have h1 : q.Kind = 1 := by have := Xor hq; omega
   obtain ⟨_, _, hlv⟩ := Xso hq h1
   obtain ⟨b, eb, b1, b2⟩ := Xez q.Levels c hc hlv
   obtain ⟨j, ej, hj⟩ := Xpr _ b (Xf4 ref (l + x + q.Dx) (t + y + q.Dy)) b1 b2
   rw [Xcp (b := q.Kind == 0) (by simpa using h3), Xcp (b := q.Kind == 0) (by simpa using h3), Xni q.Levels c hc hlv, eb, Xab, Xab, Xc1 (b := q.Kind == 1) (by simpa using h1), Xab, Xt3 _ b (Xf4 _ _ _) b1 b2, ej, Xab]
   exact ⟨_, rfl, rfl, hj⟩
theorem Yke {β : Type} {a b c : Prop} [Decidable a] [Decidable b] [Decidable c] (hb : b) (hc : c) (k : Option β) : req a (req b (req c k)) = req b (req c (req a k)) := by
 rw [Xbb hb, Xbb hc, Xbb hb, Xbb hc]
theorem Yjv {p : Pic} (ok : Xce p = true) : p.Dots.size ≤ 65536 := by
 obtain ⟨k1, k2, k3⟩ := Xa6 ok
 have := Xep k1 k2
 omega
theorem Yip {p : Pic} {x y : Int} {d : List Int} (hd : Xbc d = true) (hp : p.Dots.size ≤ maxLen) : Xr1 p x y d = Xfm p x y d := by
 obtain ⟨d1, d2⟩ := Xba hd
 unfold Xr1 Xfm Xrw
 rw [Xbb hp, Xab, Xbb hp]
 have : Xm5 p x y d = Xb9 p x y d := by
  funext v
  unfold Xm5 Xb9
  simp only [show ((d.length : Nat) : Int) = 64 by omega]
  exact Xsf (fun _ => Yke (by omega) (by omega) _) fun _ => rfl
 rw [this]
theorem Yii (n : Nat) (x : Int) : ((List.range n).map fun _ => x) = List.replicate n x := by
 apply List.ext_getElem
 ·
  simp
 ·
  intro i h1 h2; simp
theorem Yc0 (w h : Int) (hw : 1 ≤ w ∧ w ≤ 256) (hh : 1 ≤ h ∧ h ≤ 256) : Xn9 w h = some ⟨w, h, strOfNums (List.replicate (w * h).toNat 128)⟩ := by
 have ar := Xep hw hh
 unfold Xn9
 rw [Xal, Xab, decide_eq_true hw, Xaz, Xal, Xab, decide_eq_true hh, Bool.not_true, Xab, Xav, wkA (e := w * h), rqA]
 rw [Yg4 (f := Xjj w h) (w * h).toNat (fun _ => 128) (List.replicate (w * h).toNat 0) (by simp) ?_ ?_, Xab, Yii]
 ·
  intro i s hi hs _
  unfold Xjj
  simp only [List.length_replicate, Int.toNat_natCast]
  rw [wkA (e := w * h), syA, rqA, rqA, wkA]
  rfl
 ·
  intro s hs
  unfold Xjj
  simp only [List.length_replicate]
  rw [wkA (e := w * h), snA]
theorem Xpk (n : Int) : Xin n = some (Xsh n) := by
 unfold Xin Xsh
 rw [rqA, Xal, Xab, Xgv, Xab, Yea]
theorem Yhm {w h : Int} (hw : Xsh w = true) (hh : Xsh h = true) (i : Nat) (hi : (i : Int) < w / 8 * (h / 8)) : (8 ≤ w ∧ w ≤ 64) ∧ (8 ≤ h ∧ h ≤ 64) ∧ 1 ≤ w / 8 ∧ w / 8 ≤ 8 ∧ 1 ≤ h / 8 ∧ h / 8 ≤ 8 ∧ 0 ≤ (i : Int) % (w / 8) * 8 ∧ (i : Int) % (w / 8) * 8 ≤ w - 8 ∧ 0 ≤ (i : Int) / (w / 8) * 8 ∧ (i : Int) / (w / 8) * 8 ≤ h - 8 := by
 unfold Xsh at hw hh
 rw [Bool.and_eq_true, decide_eq_true_eq, decide_eq_true_eq] at hw hh
 rw [Xcg (by omega)] at hw hh
 have h1 : 1 ≤ w / 8 ∧ w / 8 ≤ 8 := by omega
 have h2 : 1 ≤ h / 8 ∧ h / 8 ≤ 8 := by omega
 have m0 : 0 ≤ (i : Int) % (w / 8) := Int.emod_nonneg _ (by omega)
 have m1 : (i : Int) % (w / 8) < w / 8 := Int.emod_lt_of_pos _ (by omega)
 have d0 : 0 ≤ (i : Int) / (w / 8) := Int.ediv_nonneg (by omega) (by omega)
 have d1 : (i : Int) / (w / 8) < h / 8 := Int.ediv_lt_of_lt_mul (by omega) (by rw [Int.mul_comm]; exact hi)
 exact ⟨hw.2, hh.2, h1.1, h1.2, h2.1, h2.2, by omega, by omega, by omega, by omega⟩
theorem Xej {w : Int} (hw : Xsh w = true) : w % 8 = 0 ∧ 8 ≤ w ∧ w ≤ 64 := by
 unfold Xsh at hw
 rw [Bool.and_eq_true, decide_eq_true_eq, decide_eq_true_eq] at hw
 rw [Xcg (by omega)] at hw
 exact ⟨hw.1, hw.2⟩
theorem Xyk (l : List Int) : Xec l = some (Xbc l) := by
 unfold Xec Xbc
 by_cases h : l.length = 64
 ·
  rw [Xcp (by simp only [bne_eq_false_iff_eq]; omega), Xvw Yef l (Xc7 l) (by
   intro i hi
   unfold Xc7
   rw [syA, rqA, Xah, Xab, wkA, Int.toNat_natCast]
   rfl) (by unfold Xc7; rw [snA]), Xab, decide_eq_true h, Bool.true_and]
  cases l.all Yef <;> rfl
 ·
  rw [Xc1 (by simp only [bne_iff_ne, ne_eq]; omega), decide_eq_false h, Bool.false_and]
theorem Ykw (m : Int) (h : 0 ≤ m ∧ m ≤ 3) : ∃ s, Xik m = some s ∧ Xi1 m = some s := by
 have e1 : Xi1 m = some (((strOfNums (ueL m.toNat)).size : Nat) : Int) := by
  unfold Xi1 Xtv
  rw [Xah, Xab, decide_eq_true (by omega), Bool.not_true, Xav]
  have : Xmn m = some (strOfNums (ueL m.toNat)) := by
   have := Xng m.toNat (by omega)
   rwa [show ((m.toNat : Nat) : Int) = m by omega] at this
  rw [this, Xab, Xab]
 have e2 : Xik m = some (((strOfNums (ueL m.toNat)).size : Nat) : Int) := by
  unfold Xik Xki
  rw [Xal, Xab, decide_eq_true (by omega), Bool.not_true, Xav]
  have : Xj7 m = some (strOfNums (ueL m.toNat)) := by
   have := Xir m.toNat (by omega)
   rwa [show ((m.toNat : Nat) : Int) = m by omega] at this
  rw [this, Xab, Xab]
 exact ⟨_, e2, e1⟩
theorem Xwa {w : List Int} (hw : Xbc w = true) {e : Xf3} (h : Xnj e) : Xf6 w e = Xgd w e := by
 have hwl := (Xba hw).1
 unfold Xf6 Xgd
 rw [Xwc h, Xgp h, Xe5 w (by omega), Xyk, hw]
 have : loop (Xfo w e) (0, -1, 0) = loop (Xcv w e) (0, -1, 0) := by
  refine Xit (fun v => 0 ≤ v.2.2 ∧ v.2.2 ≤ 4) ?_ ?_ (by simp)
  ·
   intro ⟨m, c, i⟩ ⟨h1, h2⟩
   simp only at h1 h2
   unfold Xfo Xcv
   simp only
   by_cases hi : i < 4
   ·
    obtain ⟨g, eg, hg⟩ := Xfe i ⟨h1, by omega⟩ h
    obtain ⟨s, e1, e2⟩ := Ykw i ⟨h1, by omega⟩
    rw [Xbj (show i ≤ 3 by omega), Xbj hi, Xms i ⟨h1, by omega⟩ h, eg, Xab, Xab, Xm4 hw hg, Xnc hw hg, Xab, Xab, e1, e2]
   ·
    rw [Xao (show ¬ i ≤ 3 by omega), Xao hi]
  ·
   intro ⟨m, c, i⟩ v' ⟨h1, h2⟩ he
   simp only at h1 h2
   unfold Xcv at he
   rcases Xgo he with ⟨hb, he⟩ | ⟨_, he⟩
   ·
    have hi := of_decide_eq_true hb
    simp only at hi
    obtain ⟨q, _, he⟩ := Xbl he
    injection he with he
    injection he with he
    subst he
    simp only
    rw [wkA]; omega
   ·
    cases he
 simp only [Xab, Xaz, Bool.not_true, Xav, this]
theorem Xyx {p : Pic} {w : List Int} {x y r : Int} (ok : Xce p = true) (hw : Xbc w = true) (hr : 0 ≤ r ∧ r ≤ 4) (hx : x.tmod 8 = 0) (hy : y.tmod 8 = 0) (h0 : Xcb p x y = true) : Xcl p w x y r = Xkd p w x y r := by
 obtain ⟨k1, k2, k3⟩ := Xa6 ok
 have hwl := (Xba hw).1
 have h0' := h0
 unfold Xcb at h0'
 rw [decide_eq_true_eq] at h0'
 unfold Xcl Xkd
 rw [Xcm, Xab, ok, Xaz, Xe5 w (by omega), Xab, hw, Xaz, Xal, Xab, decide_eq_true hr, Xaz, Xj5 ok x y hx hy h0, Xab, Bool.not_true, Xab, Xav]
 rw [Xdc w hw, Xab, Xaz, Xah, Xab, decide_eq_true hr, Xaz, Xdd ok hx hy h0, Xab, Bool.not_true, Xab, Xav, wkA (e := 0 - r)]
 refine Ygs ?_ fun _ _ => rfl
 refine Xit (fun s => -r ≤ s.2.2.2 ∧ s.2.2.2 ≤ r + 1) ?_ ?_ (by simp only; omega)
 ·
  intro s ⟨g1, g2⟩
  unfold Xdy Xix
  refine Xsf (fun hs => ?_) fun _ => rfl
  have hs := of_decide_eq_true hs
  rw [wkA (e := 0 - r)]
  refine Ygs ?_ fun _ _ => rfl
  refine Xit (fun v => -r ≤ v.2.2.2 ∧ v.2.2.2 ≤ r + 1) ?_ ?_ (by simp only; omega)
  ·
   intro v ⟨f1, f2⟩
   unfold Xbz Xiy
   refine Xsf (fun hv => ?_) fun _ => rfl
   have hv := of_decide_eq_true hv
   rw [wkA (e := x + v.2.2.2), wkA (e := y + s.2.2.2), Xt8 ok, Xnz ok, Xab, Xab]
   refine Ygs ?_ fun _ _ => rfl
   refine Xsf (fun _ => rfl) fun _ => ?_
   have hb := Xf4 p (x + v.2.2.2) (y + s.2.2.2)
   rw [Xfc ok _ _ (by omega) (by omega), Xeh ok _ _ (by omega) (by omega), Xab, Xab, Xnc hw hb, Xm4 hw hb, Xab, Xab, Xps _ (by omega), Xi5 _ (by omega), Xab, Xab, Xps _ (by omega), Xi5 _ (by omega), Xab]
  ·
   intro v v' ⟨f1, f2⟩ he
   unfold Xiy at he
   rcases Xgo he with ⟨hb, he⟩ | ⟨_, he⟩
   ·
    have hi := of_decide_eq_true hb
    obtain ⟨q, _, he⟩ := Xbl he
    injection he with he
    injection he with he
    subst he
    simp only
    rw [wkA]; omega
   ·
    cases he
 ·
  intro s v' ⟨g1, g2⟩ he
  unfold Xix at he
  rcases Xgo he with ⟨hb, he⟩ | ⟨_, he⟩
  ·
   have hi := of_decide_eq_true hb
   obtain ⟨q, _, he⟩ := Xbl he
   injection he with he
   injection he with he
   subst he
   simp only
   rw [wkA]; omega
  ·
   cases he
def Xqj (a b : List Int) : List Int := (List.range 64).map fun i => a.getD i 0 - b.getD i 0
theorem Xky (a b : List Int) : (Xqj a b).length = 64 := by simp [Xqj]
theorem Ybm (a b : List Int) {i : Nat} (hi : i < 64) : (Xqj a b).getD i 0 = a.getD i 0 - b.getD i 0 := Xgk _ hi
theorem Xv4 {a b : List Int} (ha : Xbc a = true) (hb : Xbc b = true) : inB 255 (Xqj a b) := by
 intro x hx
 obtain ⟨i, hi, rfl⟩ := List.mem_map.1 hx
 rw [List.mem_range] at hi
 have p := (Xba ha).2 i hi
 have q := (Xba hb).2 i hi
 omega
theorem Ydb {a b : List Int} (ha : Xbc a = true) (hb : Xbc b = true) {f : Int × List Int → Option (Lp (Int × List Int) (List Int))} (hf : ∀ v, f v = sel (decide (v.1 < 64)) (req (0 ≤ v.1 ∧ v.1 < a.length) <| req (0 ≤ v.1 ∧ v.1 < b.length) <| req ((v.2.length + ([Xaa .i64 ((a.getD v.1.toNat 0) - (b.getD v.1.toNat 0))]).length) * 8 ≤ 140737488355328 ∧ v.2.length + ([Xaa .i64 ((a.getD v.1.toNat 0) - (b.getD v.1.toNat 0))]).length ≤ maxLen) <| some (.go (Xaa .i64 (v.1 + 1), (v.2 ++ ([Xaa .i64 ((a.getD v.1.toNat 0) - (b.getD v.1.toNat 0))]))))) (some (.done v.2))) : loop f (0, []) = some (Xqj a b) := by
 have hm : maxLen = 9223372036854775807 := rfl
 obtain ⟨a1, a2⟩ := Xba ha
 obtain ⟨b1, b2⟩ := Xba hb
 have := Yfe (f := f) 64 (fun i => a.getD i 0 - b.getD i 0) [] (by
  intro i hi
  have x := a2 i hi
  have y := b2 i hi
  rw [hf]
  simp only [Int.toNat_natCast]
  rw [syA, rqA, rqA, Xbb (by simp only [List.length_append, List.length_nil, List.length_map, List.length_range, List.length_singleton]; omega), wkA (e := a.getD i 0 - b.getD i 0), wkA (e := (i : Int) + 1)]
  rfl) (by rw [hf, Xao (by simp)])
 rw [List.nil_append] at this
 exact this
theorem Xnt {a b : List Int} (ha : Xbc a = true) (hb : Xbc b = true) : Xei a b = some (Xqj a b) := by
 have a1 := (Xba ha).1
 unfold Xei
 rw [Ydb ha hb (f := Xgm a b) (fun v => by unfold Xgm; rw [show ((a.length : Nat) : Int) = 64 by omega]), Xab]
theorem Xh5 {a b : List Int} (ha : Xbc a = true) (hb : Xbc b = true) : Xjw a b = some (Xqj a b) := by
 have a1 := (Xba ha).1
 unfold Xjw
 rw [Ydb ha hb (f := Xk8 a b) (fun v => by unfold Xk8; rw [show ((a.length : Nat) : Int) = 64 by omega]), Xab]
theorem Xoq (l : List Int) (hl : l.length ≤ 1000000) : Xlu l = some (l.all fun x => x == 0) := by
 unfold Xlu
 rw [Xvw (fun x => x == 0) l (Xh8 l) (by
  intro i hi
  unfold Xh8
  rw [syA, rqA, Int.toNat_natCast, wkA]
  rfl) (by unfold Xh8; rw [snA]), Xab]
 cases l.all (fun x => x == 0) <;> rfl
theorem Yj3 {a b : List Int} (ha : Xbc a = true) (hb : Xbc b = true) : (Xko a b 64 == 0) = ((Xqj a b).all fun x => x == 0) := by
 have key : ∀ n : Nat, n ≤ 64 → (Xko a b n = 0 ↔ ∀ i, i < n → a.getD i 0 - b.getD i 0 = 0) := by
  intro n
  induction n with
  | zero => intro _; exact ⟨fun _ i hi => by omega, fun _ => rfl⟩
  | succ n ih =>
   intro hn
   have g := Xgy ha hb n (by omega)
   have e : Xko a b (n + 1) = Xko a b n + Xt6 (a.getD n 0 - b.getD n 0) := rfl
   have ab : 0 ≤ Xt6 (a.getD n 0 - b.getD n 0) ∧ (Xt6 (a.getD n 0 - b.getD n 0) = 0 ↔ a.getD n 0 - b.getD n 0 = 0) := by unfold Xt6; split <;> omega
   rw [e]
   constructor
   ·
    intro h i hi
    rcases Nat.lt_or_ge i n with h1 | h1
    ·
     exact (ih (by omega)).1 (by omega) i h1
    ·
     have : i = n := by omega
     subst this
     exact ab.2.1 (by omega)
   ·
    intro h
    have h1 := (ih (by omega)).2 fun i hi => h i (by omega)
    have h2 := ab.2.2 (h n (by omega))
    omega
 rw [Bool.eq_iff_iff, beq_iff_eq, List.all_eq_true, key 64 (by omega)]
 constructor
 ·
  intro h x hx
  obtain ⟨i, hi, rfl⟩ := List.mem_map.1 hx
  rw [List.mem_range] at hi
  rw [beq_iff_eq]; exact h i hi
 ·
  intro h i hi
  have := h ((Xqj a b).getD i 0) (by rw [Xee _ i (by rw [Xky]; exact hi)]; exact List.getElem_mem _)
  rw [beq_iff_eq, Ybm a b hi] at this
  exact this
theorem Ygp (l : List Int) (hl : l.length = 64) : Xa8 l 64 0 0 = some (l.all fun x => x == 0) := by
 rw [Xhi l 64 0 0 (by omega), show ((l.length : Int) == 64) = true by rw [beq_iff_eq]; omega, Bool.and_true]
 congr 2
 funext x
 rw [Bool.eq_iff_iff, decide_eq_true_eq, beq_iff_eq]; omega
structure Ymk (now ref : Pic) (w : List Int) (x y : Int) (c : Xdx) (r : Int) : Prop where
 ok : Xce now = true
 hx : x.tmod 8 = 0
 hy : y.tmod 8 = 0
 h0 : Xcb now x y = true
 hw : Xbc w = true
 hc : Xe0 c = true
 hr : 0 ≤ r ∧ r ≤ 4
 hk : c.Key = false → Xce ref = true ∧ ref.Wide = now.Wide ∧ ref.High = now.High
inductive Xl5 (now ref : Pic) (w : List Int) (x y : Int) (c : Xdx) (r : Int) : Xan → Prop
 | same (hK : c.Key = false) (h : ∀ i : Nat, i < 64 → w.getD i 0 = (Xlb ref x y 64).getD i 0) : Xl5 now ref w x y c r ⟨0, 0, 0, 0, []⟩
 | still (hK : c.Key = false) (l : List Int) (h : Xcq (Xqj w (Xlb ref x y 64)) c = some (l, true)) (hl : Xxs l = true) (hz : ∀ i : Nat, i < 64 → l.getD i 0 = 0) : Xl5 now ref w x y c r ⟨0, 0, 0, 0, []⟩
 | move (hK : c.Key = false) (dx dy : Int) (hdx : -r ≤ dx ∧ dx ≤ r) (hdy : -r ≤ dy ∧ dy ≤ r) (hh : Xcb ref (x + dx) (y + dy) = true) (l : List Int) (h : Xcq (Xqj w (Xlb ref (x + dx) (y + dy) 64)) c = some (l, true)) (hl : Xxs l = true) (hn : ¬ ∀ i : Nat, i < 64 → w.getD i 0 = (Xlb ref x y 64).getD i 0) : Xl5 now ref w x y c r ⟨1, 0, dx, dy, l⟩
 | guess (e : Xf3) (he : Xea now x y = some (e, true)) (hp : Xnj e) (m : Int) (hm : 0 ≤ m ∧ m ≤ 3) (g : List Int) (hg : Xcs m e = some g) (hd : Xbc g = true) (l : List Int) (h : Xcq (Xqj w g) c = some (l, true)) (hl : Xxs l = true) (hn : c.Key = false → ¬ ∀ i : Nat, i < 64 → w.getD i 0 = (Xlb ref x y 64).getD i 0) : Xl5 now ref w x y c r ⟨2, m, 0, 0, l⟩
theorem Xl5.ok {now ref : Pic} {w : List Int} {x y : Int} {c : Xdx} {r : Int} {q : Xan} (hr : 0 ≤ r ∧ r ≤ 4) (h : Xl5 now ref w x y c r q) : Xqu q = true ∧ Xmq q c = true ∧ q.Levels.length ≤ 64 := by
 cases h with
 | same hK _ => exact ⟨rfl, by unfold Xmq; rw [hK]; rfl, by simp⟩
 | still hK l _ _ _ => exact ⟨rfl, by unfold Xmq; rw [hK]; rfl, by simp⟩
 | move hK dx dy hdx hdy hh l h hl hn => exact ⟨Yi7 (by omega) (by omega) hl, by unfold Xmq; rw [hK]; rfl, by simp only; have := (Xxt hl).1; omega⟩
 | guess e he hp m hm g hg hd l h hl hn => exact ⟨Yhg hm hl, by unfold Xmq; simp, by simp only; have := (Xxt hl).1; omega⟩
theorem Ygm {l : List Int} (hl : l.length = 64) : (l.all fun x => x == 0) = true ↔ ∀ i : Nat, i < 64 → l.getD i 0 = 0 := by
 rw [List.all_eq_true]
 constructor
 ·
  intro h i hi
  have := h (l.getD i 0) (by rw [Xee l i (by omega)]; exact List.getElem_mem _)
  rwa [beq_iff_eq] at this
 ·
  intro h x hx
  obtain ⟨i, hi, rfl⟩ := List.getElem_of_mem hx
  rw [beq_iff_eq, ← Xee l i hi 0]
  exact h i (by omega)
theorem Yam {p : Pic} {w : List Int} {x y r : Int} (ok : Xce p = true) (hw : Xbc w = true) (hr : 0 ≤ r ∧ r ≤ 4) (hx : x.tmod 8 = 0) (hy : y.tmod 8 = 0) (h0 : Xcb p x y = true) :
  ∃ b, Xcl p w x y r = some b ∧ Xkd p w x y r = some b ∧ (-r ≤ b.1 ∧ b.1 ≤ r) ∧ (-r ≤ b.2.1 ∧ b.2.1 ≤ r) ∧ Xcb p (x + b.1) (y + b.2.1) = true := by
 obtain ⟨b, e, h1, h2, h3, _⟩ := Xun ok hw hr hx hy h0
 exact ⟨b, e, by rw [← Xyx ok hw hr hx hy h0]; exact e, h1, h2, h3⟩
theorem Xmu {now ref : Pic} {w : List Int} {x y : Int} {c : Xdx} {r : Int} (H : Ymk now ref w x y c r) : ∃ q d, Xdo now ref w x y c r = some (q, d, true) ∧ Xjc now ref w x y c r = some (q, d, true) ∧ Xl5 now ref w x y c r q ∧ Xcz now ref 0 0 c x y q = some (d, true) ∧ Xbc d = true := by
 obtain ⟨ok, hx, hy, h0, hw, hc, hr, hk⟩ := H
 have hwl := (Xba hw).1
 obtain ⟨e, ee, he⟩ := Xk0 ok hx hy h0
 obtain ⟨m, co, eb, hm⟩ := Xtp hw he
 obtain ⟨g, eg, hg⟩ := Xfe m hm he
 obtain ⟨l, el, hl⟩ := Xnv (Xqj w g) c hc (Xky w g) (Xv4 hw hg)
 have hh := h0
 unfold Xcb at hh
 rw [decide_eq_true_eq] at hh
 obtain ⟨k1, k2, k3⟩ := Xa6 ok
 -- the square
 have main : ∃ q, Xl5 now ref w x y c r q ∧ Xl4 now ref w x y c r = some q ∧
   (sel (!c.Key) (bnd (Xbf ref x y) fun q15 => bnd (Xlj w q15) fun q16 => sel (q16 == 0) (some ((0 : Int), (0 : Int), (0 : Int), (0 : Int), ([] : List Int))) (bnd (Xcl ref w x y r) fun q17 => sel (decide (q17.2.2 ≤ co)) (bnd (Xbf ref (Xaa .i64 (x + q17.1)) (Xaa .i64 (y + q17.2.1))) fun q18 => bnd (Xei w q18) fun q19 => bnd (Xeg q19 c) fun q20 =>
    bnd (sel (q17.1 == 0) (sel (q17.2.1 == 0) (bnd (Xa8 q20.1 64 0 0) fun q22 => some q22) (some false)) (some false)) fun v21 => sel v21 (some (0, 0, 0, 0, [])) (some (1, 0, q17.1, q17.2.1, q20.1))) (some (2, m, 0, 0, l)))) (some (2, m, 0, 0, l))) = some (q.Kind, q.Mode, q.Dx, q.Dy, q.Levels) := by
  unfold Xl4
  cases hK : c.Key with
  | true =>
   refine ⟨⟨2, m, 0, 0, l⟩, .guess e ee he m hm g eg hg l el hl (fun h => by rw [hK] at h; cases h), ?_, rfl⟩
   rw [Xaz, Xab, Xav, ee, Xab, eb, Xab, Bool.not_true]
   simp only [Yj5, Xav, eg, Xab, Xh5 hw hg, el]
  | false =>
   obtain ⟨rok, rw', rh⟩ := hk hK
   have hb := Xf4 ref x y
   have r0 : Xcb ref x y = true := by unfold Xcb; rw [decide_eq_true_eq, rw', rh]; exact hh
   have gz := Yj3 hw hb
   have lz := Ygm (Xky w (Xlb ref x y 64))
   rw [Bool.not_false, Xaz, Xav, Xeh rok x y (by omega) (by omega), Xab, Xm4 hw hb, Xab, Xfc rok x y (by omega) (by omega), Xab, Xh5 hw hb, Xab, Xoq _ (by rw [Xky]; omega), Xab, Xab, gz]
   cases hz : ((Xqj w (Xlb ref x y 64)).all fun x => x == 0) with
   | true =>
    refine ⟨⟨0, 0, 0, 0, []⟩, .same hK fun i hi => ?_, rfl, rfl⟩
    have := lz.1 hz i hi
    rw [Ybm _ _ hi] at this; omega
   | false =>
    have hne : ¬ ∀ i : Nat, i < 64 → w.getD i 0 = (Xlb ref x y 64).getD i 0 := fun hall => by
     have := lz.2 fun i hi => by rw [Ybm _ _ hi, hall i hi]; omega
     rw [hz] at this; cases this
    obtain ⟨b, bi, bs, b1, b2, b3⟩ := Yam rok hw hr hx hy r0
    rw [Xav, Xav, ee, Xab, eb, Xab, bi, Xab]
    simp only [Yj5, Xaz, bs, Xab]
    by_cases hco : b.2.2 ≤ co
    ·
     have hb2 := Xf4 ref (x + b.1) (y + b.2.1)
     obtain ⟨l2, el2, hl2⟩ := Xnv (Xqj w (Xlb ref (x + b.1) (y + b.2.1) 64)) c hc (Xky _ _) (Xv4 hw hb2)
     have hl2n := (Xxt hl2).1
     rw [Xbj hco, Xbj hco, wkA (e := x + b.1), wkA (e := y + b.2.1), Xfc rok _ _ (by omega) (by omega), Xeh rok _ _ (by omega) (by omega), Xab, Xab, Xnt hw hb2, Xh5 hw hb2, Xab, Xab, Xo8 _ c hc (Xky _ _) (Xv4 hw hb2), el2, Xab, Xab, Ygp l2 hl2n, Xab, Xoq l2 (by omega), Xab]
     simp only [Xgv, Xab]
     cases hst : (b.1 == 0 && (b.2.1 == 0 && l2.all fun x => x == 0)) with
     | true =>
      simp only [Bool.and_eq_true, beq_iff_eq] at hst
      obtain ⟨z1, z2, z3⟩ := hst
      rw [z1, z2, Int.add_zero, Int.add_zero] at el2
      exact ⟨⟨0, 0, 0, 0, []⟩, .still hK l2 el2 hl2 ((Ygm hl2n).1 z3), rfl, rfl⟩
     | false => exact ⟨⟨1, 0, b.1, b.2.1, l2⟩, .move hK b.1 b.2.1 b1 b2 b3 l2 el2 hl2 hne, rfl, rfl⟩
    ·
     rw [Xao hco, Xao hco]
     refine ⟨⟨2, m, 0, 0, l⟩, .guess e ee he m hm g eg hg l el hl (fun _ => hne), ?_, rfl⟩
     simp only [eg, Xab, Xh5 hw hg, el]
 obtain ⟨q, hq, es, ei⟩ := main
 obtain ⟨q1, q2, q3⟩ := hq.ok hr
 obtain ⟨d, di, ds, hd⟩ := Xkl (now := now) (ref := ref) (l := 0) (t := 0) (x := x) (y := y) (c := c) (q := q) ⟨ok, hx, hy, h0, by omega, by omega, hc, by omega⟩ q1 q2 (fun h => (hk h).1)
 refine ⟨q, d, ?_, ?_, hq, di, hd⟩
 ·
  unfold Xdo
  have hl7 : (sel c.Key (some false) (bnd (Xcf ref) fun q8 => sel q8 (sel (ref.Wide != now.Wide) (some true) (some (ref.High != now.High))) (some true))) = some false := by
   cases hK : c.Key with
   | true => rfl
   | false =>
    obtain ⟨a1, a2, a3⟩ := hk hK
    rw [Xav, Xcm, Xab, a1, a2, a3, Xaz, bne_self_eq_false, Xav, bne_self_eq_false]
  rw [Xcm, Xab, ok, Xaz, Xof ok hx hy h0, Xab, Xaz, Xe5 w (by omega), Xab, hw, Xaz, Xer, Xab, hc, Xaz, Xal, Xab, decide_eq_true hr, Bool.not_true, Xab, Xav, hl7, Xab, Xav, Xqw ok hx hy h0, ee, Xab, Xwa hw he, eb, Xab, Xms m hm he, eg, Xab, Xnt hw hg, Xab, Xo8 _ c hc (Xky _ _) (Xv4 hw hg), el, Xab]
  simp only
  rw [ei, Xab]
  simp only
  rw [show (⟨q.Kind, q.Mode, q.Dx, q.Dy, q.Levels⟩ : Xan) = q from rfl, di, Xab]
  rfl
 ·
  unfold Xjc
  have hl7 : (sel c.Key (some false) (bnd (Xlt now ref) fun q6 => some (!q6))) = some false := by
   cases hK : c.Key with
   | true => rfl
   | false =>
    obtain ⟨a1, a2, a3⟩ := hk hK
    rw [Xav, Xyn, Xab, Yj7 ok a1 a2 a3]; rfl
  rw [Xdd ok hx hy h0, Xab, Xaz, Xdc w hw, Xab, Xaz, Xdr, Xab, hc, Xaz, Xah, Xab, decide_eq_true hr, Xaz, hl7, Xab, Xav, es, Xab, ds, Xab]
def Yeq (g b : List Int) : List Int := (List.range 64).map fun i => Xbs (g.getD i 0 + b.getD i 0) 0 255
theorem Xpq (g b : List Int) (hg : Xbc g = true) (hl : b.length = 64) (hb : inB 10000000 b) : Xff g b = some (Yeq g b) := by
 have hm : maxLen = 9223372036854775807 := rfl
 obtain ⟨g1, g2⟩ := Xba hg
 unfold Xff
 rw [Xdc g hg, Xab, Xaz, Xbr b 64 10000000 (by omega) (by omega) (by omega) hb, Xab, Bool.not_true, Xab, Xav]
 have := Yfe (f := Xb8 g b) 64 (fun i => Xbs (g.getD i 0 + b.getD i 0) 0 255) [] (by
  intro i hi
  have ha := Xia hb (i := i) (by omega)
  have hd := g2 i hi
  unfold Xb8
  simp only [Int.toNat_natCast]
  rw [syA, rqA, rqA, wkA (e := g.getD i 0 + b.getD i 0), Xc2, Xab, Xbb (by simp only [List.length_append, List.length_nil, List.length_map, List.length_range, List.length_singleton]; omega), wkA (e := (i : Int) + 1)]
  rfl) (by unfold Xb8; rw [Xao (by simp)])
 rw [List.nil_append] at this
 rw [this, Xab]; rfl
theorem Xy0 {now ref : Pic} {l t x y : Int} {c : Xdx} {q : Xan} (h : Yno now ref l t x y c q) (hq : Xqu q = true) (hL : Xmq q c = true) (hr : c.Key = false → Xce ref = true) : ∃ d, Xbv now ref l t c x y q = some (d, true) ∧ Xbc d = true ∧
  ((q.Kind = 0 ∧ c.Key = false ∧ d = Xlb ref (l + x) (t + y) 64) ∨ (q.Kind = 1 ∧ c.Key = false ∧ ∃ b, Xcc q.Levels c = some (b, true) ∧ d = Yeq (Xlb ref (l + x + q.Dx) (t + y + q.Dy) 64) b) ∨ (q.Kind = 2 ∧ ∃ e b g, Xea now x y = some (e, true) ∧ Xnj e ∧ Xcc q.Levels c = some (b, true) ∧ Xcs q.Mode e = some g ∧ Xbc g = true ∧ d = Yeq g b)) := by
 obtain ⟨d, _, ed, hd⟩ := Xkl h hq hL hr
 obtain ⟨ok, hx, hy, h0, hl, ht, hc, hs⟩ := h
 obtain ⟨k1, k2, k3⟩ := Xa6 ok
 have h0' := h0
 unfold Xcb at h0'
 rw [decide_eq_true_eq] at h0'
 have dxy := Ygf hq
 refine ⟨d, ed, hd, ?_⟩
 unfold Xbv at ed
 rw [Xdd ok hx hy h0, Xab, Xaz, Xah, Xab, decide_eq_true hl, Xaz, Xah, Xab, decide_eq_true ht, Xaz, Xnw, Xab, hq, Xaz, Xdr, Xab, hc, Bool.not_true, Xab, Xav] at ed
 by_cases h2 : q.Kind = 2
 ·
  obtain ⟨hm, hlv⟩ := Xv8 hq h2
  obtain ⟨e, ee, he⟩ := Xk0 ok hx hy h0
  obtain ⟨b, eb, b1, b2⟩ := Xez q.Levels c hc hlv
  obtain ⟨g, eg, hg⟩ := Xfe q.Mode hm he
  rw [Xc1 (by simpa using h2), ee, Xab, eb, Xab, eg, Xab, Xpq g b hg b1 b2, Xab] at ed
  injection ed with ed
  injection ed with ed _
  exact .inr (.inr ⟨h2, e, b, g, ee, he, eb, eg, hg, ed.symm⟩)
 ·
  have hK : c.Key = false := by
   unfold Xmq at hL
   cases hk : c.Key with
   | false => rfl
   | true => rw [hk] at hL; simp at hL; exact absurd hL h2
  have rok := hr hK
  rw [Xcp (b := q.Kind == 2) (by simpa using h2), hK, Xav, Xek, Xab, rok, Bool.not_true, Xab, Xav, wkA (e := l + x), wkA (e := l + x + q.Dx), wkA (e := t + y), wkA (e := t + y + q.Dy), Xfc rok _ _ (by omega) (by omega), Xab] at ed
  by_cases h3 : q.Kind = 0
  ·
   obtain ⟨z1, z2⟩ := Xyq hq h3
   rw [Xc1 (b := q.Kind == 0) (by simpa using h3), z1, z2, Int.add_zero, Int.add_zero] at ed
   injection ed with ed
   injection ed with ed _
   exact .inl ⟨h3, hK, ed.symm⟩
  ·
   have h1 : q.Kind = 1 := by have := Xor hq; omega
   obtain ⟨_, _, hlv⟩ := Xso hq h1
   obtain ⟨b, eb, b1, b2⟩ := Xez q.Levels c hc hlv
   rw [Xcp (b := q.Kind == 0) (by simpa using h3), eb, Xab, Xpq _ b (Xf4 _ _ _) b1 b2, Xab] at ed
   injection ed with ed
   injection ed with ed _
   exact .inr (.inl ⟨h1, hK, b, eb, ed.symm⟩)
theorem Xym (u : Xa3) (hu : Xj1 u) : ∃ c u', Xjv u = some (c, u') ∧ Xe0 c = true ∧ Xj1 u' := by
 unfold Xjv
 obtain ⟨p, u1, e1, hp, h1⟩ := Xqr u hu
 obtain ⟨b, u2, e2, h2⟩ := Xk5 u1 2 h1
 rw [e1, Xab, e2, Xab]
 refine ⟨_, _, rfl, ?_, h2⟩
 unfold Xe0
 exact hp
theorem Xvh (b : List Int) (hb : b.length ≤ 1048576) : ∃ c, Xhu b = some c ∧ Xe0 c = true := by
 unfold Xhu
 obtain ⟨u, e, hu⟩ := Xl3 b hb
 obtain ⟨c, u', e2, hc, _⟩ := Xym u hu
 rw [e, Xab, e2, Xab]
 exact ⟨_, rfl, hc⟩
theorem Xr9 {W x y : Int} (hx : 0 ≤ x ∧ x < W) : (y * W + x) / W = y ∧ (y * W + x) % W = x := by
 have hW : 0 < W := by omega
 constructor
 ·
  rw [Int.add_comm, Int.add_mul_ediv_right _ _ (by omega), Int.ediv_eq_zero_of_lt hx.1 hx.2, Int.zero_add]
 ·
  rw [Int.add_comm, Int.add_mul_emod_self_right, Int.emod_eq_of_lt hx.1 hx.2]
theorem Xsa {W H x y : Int} (hx : 0 ≤ x ∧ x < W) (hy : 0 ≤ y ∧ y < H) : 0 ≤ y * W + x ∧ y * W + x < W * H := by
 have a : 0 ≤ y * W := Int.mul_nonneg hy.1 (by omega)
 have b : y * W ≤ (H - 1) * W := Int.mul_le_mul_of_nonneg_right (by omega) (by omega)
 have c : (H - 1) * W = W * H - W := by rw [Int.sub_mul, Int.one_mul, Int.mul_comm]
 omega
theorem Xz5 {n m : Int} (h : 0 ≤ n ∧ n ≤ m) : Xbs n 0 m = n := by
 unfold Xbs
 repeat' split
 all_goals omega
theorem Xv0 {p : Pic} {x y : Int} (hx : 0 ≤ x ∧ x < p.Wide) (hy : 0 ≤ y ∧ y < p.High) : Xmv p x y = Yeb p.Dots (y * p.Wide + x) := by
 unfold Xmv
 rw [Xz5 (by omega), Xz5 (by omega)]
theorem Xqk (s : ByteArray) (k : Nat) (hk : k < s.size) : (Xax s).getD k 0 = Yeb s k := by
 have := Yk4 (Xax s) (by intro x hx; obtain ⟨b, _, rfl⟩ := List.mem_map.1 hx; have := b.toNat_lt; omega) k (by rw [Xco]; exact hk)
 rw [Xt1] at this
 exact this.symm
theorem Ygt (s : ByteArray) : Yec (Xax s) := fun x hx => by
 obtain ⟨b, _, rfl⟩ := List.mem_map.1 hx
 have := b.toNat_lt
 omega
theorem Yh0 {l : List Int} (h : Yec l) (i : Nat) {y : Int} (hy : 0 ≤ y ∧ y ≤ 255) : Yec (l.set i y) := fun x hx => by
 rcases List.mem_or_eq_of_mem_set hx with hx | hx
 ·
  exact h x hx
 ·
  rw [hx]; exact hy
theorem Ymz {p q : Pic} (hp : Xce p = true) (hq : Xce q = true) (hw : p.Wide = q.Wide) (hh : p.High = q.High) (h : ∀ x y : Int, 0 ≤ x ∧ x < p.Wide → 0 ≤ y ∧ y < p.High → Xmv p x y = Xmv q x y) : p = q := by
 obtain ⟨p1, p2, p3⟩ := Xa6 hp
 obtain ⟨q1, q2, q3⟩ := Xa6 hq
 have hd : p.Dots = q.Dots := by
  rw [← Xt1 p.Dots, ← Xt1 q.Dots]
  congr 1
  have hsz : p.Dots.size = q.Dots.size := by
   have : (p.Dots.size : Int) = q.Dots.size := by rw [p3, q3, hw, hh]
   omega
  refine Xtk (n := p.Dots.size) (Xco _) ((Xco _).trans hsz.symm) fun k hk => ?_
  have hkW : (k : Int) < p.Wide * p.High := by omega
  have m0 := Int.emod_nonneg (k : Int) (show p.Wide ≠ 0 by omega)
  have m1 := Int.emod_lt_of_pos (k : Int) (show 0 < p.Wide by omega)
  have d0 : 0 ≤ (k : Int) / p.Wide := Int.ediv_nonneg (by omega) (by omega)
  have d1 : (k : Int) / p.Wide < p.High := Int.ediv_lt_of_lt_mul (by omega) (by rw [Int.mul_comm]; exact hkW)
  have e := h ((k : Int) % p.Wide) ((k : Int) / p.Wide) ⟨m0, m1⟩ ⟨d0, d1⟩
  rw [Xv0 ⟨m0, m1⟩ ⟨d0, d1⟩, Xv0 (by rw [← hw]; exact ⟨m0, m1⟩) (by rw [← hh]; exact ⟨d0, d1⟩), ← hw, Int.ediv_mul_add_emod] at e
  rw [Xqk _ k hk, Xqk _ k (by omega)]
  exact e
 cases p; cases q
 simp only at hw hh hd
 rw [hw, hh, hd]
def Yh8 (x y X Y : Int) : Bool := decide (x ≤ X ∧ X < x + 8 ∧ y ≤ Y ∧ Y < y + 8)
theorem Ykc {p : Pic} {x y : Int} {d : List Int} (ok : Xce p = true) (h0 : Xcb p x y = true) (hd : Xbc d = true) : ∃ p', Xfm p x y d = some p' ∧ Xce p' = true ∧ p'.Wide = p.Wide ∧ p'.High = p.High ∧ ∀ X Y : Int, 0 ≤ X ∧ X < p.Wide → 0 ≤ Y ∧ Y < p.High → Xmv p' X Y = if Yh8 x y X Y = true then d.getD ((Y - y) * 8 + (X - x)).toNat 0 else Xmv p X Y := by
 obtain ⟨k1, k2, k3⟩ := Xa6 ok
 have ar := Xep k1 k2
 have hm : maxLen = 9223372036854775807 := rfl
 obtain ⟨d1, d2⟩ := Xba hd
 have h0' := h0
 unfold Xcb at h0'
 rw [decide_eq_true_eq] at h0'
 have hn := Xco p.Dots
 unfold Xfm
 rw [rqA]
 obtain ⟨o, e, o1, o2, o3⟩ := Xjg (f := Xb9 p x y d) 64 (fun i s => s.length = p.Dots.size ∧ Yec s ∧ ∀ X Y : Int, 0 ≤ X ∧ X < p.Wide → 0 ≤ Y ∧ Y < p.High → s.getD (Y * p.Wide + X).toNat 0 = if Yh8 x y X Y = true ∧ ((Y - y) * 8 + (X - x)).toNat < i then d.getD ((Y - y) * 8 + (X - x)).toNat 0 else (Xax p.Dots).getD (Y * p.Wide + X).toNat 0) (by
  intro i s hi ⟨g1, g2, g3⟩
  have di := d2 i hi
  have hxx : 0 ≤ x + (i : Int) % 8 ∧ x + (i : Int) % 8 < p.Wide := by omega
  have hyy : 0 ≤ y + (i : Int) / 8 ∧ y + (i : Int) / 8 < p.High := by omega
  have pin := Xsa hxx hyy
  have b1 : 0 ≤ (y + (i : Int) / 8) * p.Wide := Int.mul_nonneg (by omega) (by omega)
  have b2 : (y + (i : Int) / 8) * p.Wide ≤ (p.High - 1) * p.Wide := Int.mul_le_mul_of_nonneg_right (by omega) (by omega)
  have b3 : (p.High - 1) * p.Wide = p.Wide * p.High - p.Wide := by rw [Int.sub_mul, Int.one_mul, Int.mul_comm]
  unfold Xb9
  simp only
  rw [syA, rqA, rqA, rqA, Xbx (by omega), Xcg (by omega), wkA (e := (i : Int) / 8), wkA (e := y + (i : Int) / 8), wkA (e := (y + (i : Int) / 8) * p.Wide), wkA (e := (y + (i : Int) / 8) * p.Wide + x), wkA (e := (y + (i : Int) / 8) * p.Wide + x + (i : Int) % 8), rqA, rqA, wkA (e := (i : Int) + 1), Int.toNat_natCast, w8 di.1 di.2]
  refine ⟨_, rfl, by rw [List.length_set]; exact g1, Yh0 g2 _ di, fun X Y hX hY => ?_⟩
  have pXY := Xsa hX hY
  rw [Xdm _ _ _ _ (by omega)]
  by_cases heq : ((y + (i : Int) / 8) * p.Wide + x + (i : Int) % 8).toNat = (Y * p.Wide + X).toNat
  ·
   rw [if_pos heq]
   have heq' : (y + (i : Int) / 8) * p.Wide + (x + (i : Int) % 8) = Y * p.Wide + X := by omega
   have q1 := Xr9 (y := y + (i : Int) / 8) hxx
   have q2 := Xr9 (y := Y) hX
   rw [heq'] at q1
   have eY : Y = y + (i : Int) / 8 := q2.1.symm.trans q1.1
   have eX : X = x + (i : Int) % 8 := q2.2.symm.trans q1.2
   have hin : Yh8 x y X Y = true := by unfold Yh8; rw [decide_eq_true_eq]; omega
   have hpl : ((Y - y) * 8 + (X - x)).toNat = i := by omega
   rw [if_pos ⟨hin, by omega⟩, hpl]
  ·
   rw [if_neg heq, g3 X Y hX hY]
   by_cases hin : Yh8 x y X Y = true
   ·
    have hin' := hin
    unfold Yh8 at hin'
    rw [decide_eq_true_eq] at hin'
    by_cases hlt : ((Y - y) * 8 + (X - x)).toNat < i
    ·
     rw [if_pos ⟨hin, hlt⟩, if_pos ⟨hin, by omega⟩]
    ·
     have hne : ((Y - y) * 8 + (X - x)).toNat ≠ i := fun h => heq (by
      have eY : Y = y + (i : Int) / 8 := by omega
      have eX : X = x + (i : Int) % 8 := by omega
      rw [eY, eX]; congr 1; omega)
     rw [if_neg (fun h => hlt h.2), if_neg (fun h => by omega)]
   ·
    rw [if_neg (fun h => hin h.1), if_neg (fun h => hin h.1)]) (fun s _ => by unfold Xb9; rw [Xao (by simp)]) (Xax p.Dots) ⟨hn, Ygt _, fun X Y hX hY => by rw [if_neg (fun h => by omega)]⟩
 refine ⟨_, (Xji e).trans rfl, Xr8 k1 k2 (by simp only; rw [strOfNums_size]; omega), rfl, rfl, fun X Y hX hY => ?_⟩
 have pXY := Xsa hX hY
 rw [Xv0 (p := ⟨p.Wide, p.High, strOfNums o⟩) hX hY, Xv0 hX hY]
 simp only
 have e1 : Yeb (strOfNums o) (Y * p.Wide + X) = o.getD (Y * p.Wide + X).toNat 0 := by
  have := Yk4 o o2 (Y * p.Wide + X).toNat (by omega)
  rwa [show (((Y * p.Wide + X).toNat : Nat) : Int) = Y * p.Wide + X by omega] at this
 have e2 : Yeb p.Dots (Y * p.Wide + X) = (Xax p.Dots).getD (Y * p.Wide + X).toNat 0 := by
  rw [Xqk _ _ (by omega), show (((Y * p.Wide + X).toNat : Nat) : Int) = Y * p.Wide + X by omega]
 rw [e1, e2, o3 X Y hX hY]
 by_cases hin : Yh8 x y X Y = true
 ·
  have hin' := hin
  unfold Yh8 at hin'
  rw [decide_eq_true_eq] at hin'
  rw [if_pos ⟨hin, by omega⟩, if_pos hin]
 ·
  rw [if_neg (fun h => hin h.1), if_neg hin]
def tX (W : Int) (i : Nat) : Int := (i : Int) % (W / 8) * 8
def tY (W : Int) (i : Nat) : Int := (i : Int) / (W / 8) * 8
structure Yjo (src ref : Pic) (c : Xdx) (r : Int) : Prop where
 ok : Xce src = true
 hw : Xsh src.Wide = true
 hh : Xsh src.High = true
 hc : Xe0 c = true
 hr : 0 ≤ r ∧ r ≤ 4
 hk : c.Key = false → Xce ref = true ∧ ref.Wide = src.Wide ∧ ref.High = src.High
inductive Xkm (src ref : Pic) (c : Xdx) (r : Int) : Nat → List Xan → Pic → Prop
 | zero : Xkm src ref c r 0 [] ⟨src.Wide, src.High, strOfNums (List.replicate (src.Wide * src.High).toNat 128)⟩
 | succ {n : Nat} {l : List Xan} {now : Pic} (h : Xkm src ref c r n l now) (hn : (n : Int) < src.Wide / 8 * (src.High / 8)) (q : Xan) (d : List Int) (now' : Pic)
   (hi : Xdo now ref (Xlb src (tX src.Wide n) (tY src.Wide n) 64) (tX src.Wide n) (tY src.Wide n) c r = some (q, d, true)) (hs : Xjc now ref (Xlb src (tX src.Wide n) (tY src.Wide n) 64) (tX src.Wide n) (tY src.Wide n) c r = some (q, d, true)) (hq : Xl5 now ref (Xlb src (tX src.Wide n) (tY src.Wide n) 64) (tX src.Wide n) (tY src.Wide n) c r q)
   (hd : Xcz now ref 0 0 c (tX src.Wide n) (tY src.Wide n) q = some (d, true)) (hp : Xfm now (tX src.Wide n) (tY src.Wide n) d = some now') : Xkm src ref c r (n + 1) (l ++ [q]) now'
theorem Ylp {w h : Int} (hw : 1 ≤ w ∧ w ≤ 256) (hh : 1 ≤ h ∧ h ≤ 256) : Xce ⟨w, h, strOfNums (List.replicate (w * h).toNat 128)⟩ = true := by
 have ar := Xep hw hh
 refine Xr8 hw hh ?_
 simp only
 rw [strOfNums_size, List.length_replicate]; omega
theorem Ye5 {src ref now : Pic} {c : Xdx} {r : Int} (H : Yjo src ref c r) {n : Nat} (hn : (n : Int) < src.Wide / 8 * (src.High / 8)) (ok : Xce now = true) (hw : now.Wide = src.Wide) (hh : now.High = src.High) : Ymk now ref (Xlb src (tX src.Wide n) (tY src.Wide n) 64) (tX src.Wide n) (tY src.Wide n) c r := by
 obtain ⟨p1, p2, p3, p4, p5, p6, p7, p8, p9, p10⟩ := Yhm H.hw H.hh n hn
 refine ⟨ok, by unfold tX; rw [Xcg p7]; omega, by unfold tY; rw [Xcg p9]; omega, by unfold Xcb tX tY; rw [decide_eq_true_eq, hw, hh]; exact ⟨p7, p8, p9, p10⟩, Xf4 _ _ _, H.hc, H.hr, fun hK => ?_⟩
 obtain ⟨a, b, c⟩ := H.hk hK
 exact ⟨a, by rw [b, hw], by rw [c, hh]⟩
theorem Xkm.pic {src ref : Pic} {c : Xdx} {r : Int} (H : Yjo src ref c r) {n : Nat} {l : List Xan} {now : Pic} (h : Xkm src ref c r n l now) : Xce now = true ∧ now.Wide = src.Wide ∧ now.High = src.High ∧ l.length = n ∧ (∀ q ∈ l, Xqu q = true ∧ Xmq q c = true ∧ q.Levels.length ≤ 64) := by
 induction h with
 | zero =>
  obtain ⟨k1, k2, k3⟩ := Xa6 H.ok
  exact ⟨Ylp k1 k2, rfl, rfl, rfl, fun q hq => by simp at hq⟩
 | succ h hn q d now' hi hs hq hd hp ih =>
  obtain ⟨ok, w, hh, hl, hall⟩ := ih
  have SF := Ye5 H hn ok w hh
  obtain ⟨q2, d2, e2, _, _, _, hd64⟩ := Xmu SF
  rw [hi] at e2
  injection e2 with e2
  injection e2 with e2 e3
  injection e3 with e3 _
  subst e2; subst e3
  obtain ⟨p', ep, p1, p2, p3⟩ := Xpx ok SF.h0 hd64
  rw [hp] at ep
  injection ep with ep
  subst ep
  refine ⟨p1, by rw [p2, w], by rw [p3, hh], by rw [List.length_append, hl]; rfl, fun x hx => ?_⟩
  rcases List.mem_append.1 hx with hx | hx
  ·
   exact hall x hx
  ·
   rw [List.mem_singleton.1 hx]; exact hq.ok H.hr
theorem Xkm.step {src ref : Pic} {c : Xdx} {r : Int} (H : Yjo src ref c r) {n : Nat} {l : List Xan} {now : Pic} (h : Xkm src ref c r n l now) (hn : (n : Int) < src.Wide / 8 * (src.High / 8)) : ∃ q d now', Xdo now ref (Xlb src (tX src.Wide n) (tY src.Wide n) 64) (tX src.Wide n) (tY src.Wide n) c r = some (q, d, true) ∧ Xjc now ref (Xlb src (tX src.Wide n) (tY src.Wide n) 64) (tX src.Wide n) (tY src.Wide n) c r = some (q, d, true) ∧ Xbc d = true ∧ Xfm now (tX src.Wide n) (tY src.Wide n) d = some now' ∧ Xkm src ref c r (n + 1) (l ++ [q]) now' := by
 obtain ⟨ok, w, hh, hl, _⟩ := h.pic H
 have SF := Ye5 H hn ok w hh
 obtain ⟨q, d, e1, e2, hq, ed, hd64⟩ := Xmu SF
 obtain ⟨p', ep, p1, p2, p3⟩ := Xpx ok SF.h0 hd64
 exact ⟨q, d, p', e1, e2, hd64, ep, .succ h hn q d p' e1 e2 hq ed ep⟩
theorem Ync {W : Int} (hW : Xsh W = true) (a b : Nat) (hb : (b : Int) < W / 8) : tX W ((W / 8).toNat * a + b) = 8 * b ∧ tY W ((W / 8).toNat * a + b) = 8 * a := by
 have s := Xej hW
 have e : (((W / 8).toNat * a + b : Nat) : Int) = (a : Int) * (W / 8) + b := by
  rw [Int.natCast_add, Int.natCast_mul, show (((W / 8).toNat : Nat) : Int) = W / 8 by omega, Int.mul_comm]
 have d := Xr9 (W := W / 8) (x := b) (y := a) ⟨by omega, hb⟩
 unfold tX tY
 rw [e, d.1, d.2]
 omega
theorem Ylb {W H : Int} (hW : Xsh W = true) (a b : Nat) (hb : (b : Int) < W / 8) (ha : (a : Int) < H / 8) : (((W / 8).toNat * a + b : Nat) : Int) < W / 8 * (H / 8) := by
 have s := Xej hW
 have p := Xsa (W := W / 8) (H := H / 8) (x := b) (y := a) ⟨by omega, hb⟩ ⟨by omega, ha⟩
 rw [Int.natCast_add, Int.natCast_mul, show (((W / 8).toNat : Nat) : Int) = W / 8 by omega, Int.mul_comm (W / 8)]
 exact p.2
theorem Xu4 {src ref : Pic} {c : Xdx} {r : Int} (H : Yjo src ref c r) : ∃ l now, Xjm src ref c r = some (l, now, true) ∧ Xkm src ref c r ((src.Wide / 8).toNat * (src.High / 8).toNat) l now := by
 have hm : maxLen = 9223372036854775807 := rfl
 have sw := Xej H.hw
 have sh := Xej H.hh
 obtain ⟨k1, k2, k3⟩ := Xa6 H.ok
 -- one row
 have row : ∀ a : Nat, (a : Int) < src.High / 8 → ∀ (l : List Xan) (now : Pic), Xkm src ref c r ((src.Wide / 8).toNat * a) l now → ∃ l' now', loop (Xda src ref c r ((8 * a : Nat), l, now.Wide, now.High, now.Dots)) (0, l, now.Wide, now.High, now.Dots) = some (.out (l', now'.Wide, now'.High, now'.Dots)) ∧ Xkm src ref c r ((src.Wide / 8).toNat * (a + 1)) l' now' := by
  intro a ha l now hT
  have key : ∀ b : Nat, b ≤ (src.Wide / 8).toNat → ∀ (l2 : List Xan) (now2 : Pic), Xkm src ref c r ((src.Wide / 8).toNat * a + b) l2 now2 → ∃ l' now', loop (Xda src ref c r ((8 * a : Nat), l, now.Wide, now.High, now.Dots)) (((8 * b : Nat) : Int), l2, now2.Wide, now2.High, now2.Dots) = some (.out (l', now'.Wide, now'.High, now'.Dots)) ∧ Xkm src ref c r ((src.Wide / 8).toNat * (a + 1)) l' now' := by
   refine Xic _ ?_ ?_
   ·
    intro l2 now2 h2
    refine ⟨l2, now2, Xkx ?_, by rw [Nat.mul_add, Nat.mul_one]; exact h2⟩
    unfold Xda
    rw [Xao (by simp only; omega)]
   ·
    intro b hb ih l2 now2 h2
    have hbI : (b : Int) < src.Wide / 8 := by omega
    obtain ⟨eX, eY⟩ := Ync H.hw a b hbI
    obtain ⟨q, d, now', e1, _, hd, ep, hT'⟩ := h2.step H (Ylb H.hw a b hbI ha)
    rw [eX, eY] at e1 ep
    obtain ⟨ok2, w2, hh2, hl2, _⟩ := h2.pic H
    obtain ⟨l', n', el, hT2⟩ := ih (l2 ++ [q]) now' hT'
    refine ⟨l', n', lgo (y := (((8 * (b + 1) : Nat) : Int), l2 ++ [q], now'.Wide, now'.High, now'.Dots)) ?_ el, hT2⟩
    have lb : l2.length ≤ 1000 := by
     have := Ylb H.hw a b hbI ha
     have : src.Wide / 8 * (src.High / 8) ≤ 8 * 8 := Int.mul_le_mul (by omega) (by omega) (by omega) (by omega)
     omega
    unfold Xda
    simp only
    rw [show ((8 * a : Nat) : Int) = 8 * (a : Int) by omega, show ((8 * b : Nat) : Int) = 8 * (b : Int) by omega, syA, Xeh H.ok _ _ (by omega) (by omega), Xab, show (⟨now2.Wide, now2.High, now2.Dots⟩ : Pic) = now2 from rfl, e1, Xab]
    simp only
    rw [Bool.not_true, Xav, Xbb (by simp only [List.length_singleton]; omega), Yip hd (by have := Yjv ok2; omega), ep, Xab, wkA, show ((8 * (b + 1) : Nat) : Int) = 8 * (b : Int) + 8 by omega]
  exact key 0 (by omega) l now hT
 have rows : ∀ a : Nat, a ≤ (src.High / 8).toNat → ∀ (l : List Xan) (now : Pic), Xkm src ref c r ((src.Wide / 8).toNat * a) l now → ∃ l' now', loop (Xc9 src ref c r) (((8 * a : Nat) : Int), l, now.Wide, now.High, now.Dots) = some (.out (l', now'.Wide, now'.High, now'.Dots)) ∧ Xkm src ref c r ((src.Wide / 8).toNat * (src.High / 8).toNat) l' now' := by
  refine Xic _ ?_ ?_
  ·
   intro l now h
   refine ⟨l, now, Xkx ?_, h⟩
   unfold Xc9
   rw [Xao (by simp only; omega)]
  ·
   intro a ha ih l now h
   obtain ⟨l', n', el, hT⟩ := row a (by omega) l now h
   obtain ⟨l2, n2, el2, hT2⟩ := ih l' n' hT
   refine ⟨l2, n2, lgo (y := (((8 * (a + 1) : Nat) : Int), l', n'.Wide, n'.High, n'.Dots)) ?_ el2, hT2⟩
   unfold Xc9
   rw [Xbj (by simp only; omega)]
   simp only
   rw [el, Xab]
   simp only
   rw [wkA, show ((8 * (a + 1) : Nat) : Int) = ((8 * a : Nat) : Int) + 8 by omega]
 obtain ⟨l, now, e, hT⟩ := rows 0 (by omega) [] ⟨src.Wide, src.High, strOfNums (List.replicate (src.Wide * src.High).toNat 128)⟩ (by rw [Nat.mul_zero]; exact .zero)
 refine ⟨l, now, ?_, hT⟩
 unfold Xjm
 have hl7 : (sel c.Key (some false) (bnd (Xcf ref) fun q8 => sel q8 (sel (ref.Wide != src.Wide) (some true) (some (ref.High != src.High))) (some true))) = some false := by
  cases hK : c.Key with
  | true => rfl
  | false =>
   obtain ⟨a1, a2, a3⟩ := H.hk hK
   rw [Xav, Xcm, Xab, a1, a2, a3, Xaz, bne_self_eq_false, Xav, bne_self_eq_false]
 rw [Xcm, Xab, H.ok, Xaz, Xpk, Xab, H.hw, Xaz, Xpk, Xab, H.hh, Xaz, Xer, Xab, H.hc, Xaz, Xal, Xab, decide_eq_true H.hr, Bool.not_true, Xab, Xav, hl7, Xab, Xav, Yc0 _ _ k1 k2, Xab]
 have e' : loop (Xc9 src ref c r) (0, [], src.Wide, src.High, strOfNums (List.replicate (src.Wide * src.High).toNat 128)) = some (.out (l, now.Wide, now.High, now.Dots)) := e
 rw [e', Xab]
theorem Xkm.dots {src ref : Pic} {c : Xdx} {r : Int} (H : Yjo src ref c r) (P : Int → Int → Int → Prop)
  (hP : ∀ (n : Nat) (now : Pic) (q : Xan) (d : List Int), (n : Int) < src.Wide / 8 * (src.High / 8) → Ymk now ref (Xlb src (tX src.Wide n) (tY src.Wide n) 64) (tX src.Wide n) (tY src.Wide n) c r → Xl5 now ref (Xlb src (tX src.Wide n) (tY src.Wide n) 64) (tX src.Wide n) (tY src.Wide n) c r q → Xbv now ref 0 0 c (tX src.Wide n) (tY src.Wide n) q = some (d, true) → ∀ i : Nat, i < 64 → P (tX src.Wide n + ((i % 8 : Nat) : Int)) (tY src.Wide n + ((i / 8 : Nat) : Int)) (d.getD i 0))
  {n : Nat} {l : List Xan} {now : Pic} (h : Xkm src ref c r n l now) : ∀ X Y : Int, 0 ≤ X ∧ X < src.Wide → 0 ≤ Y ∧ Y < src.High → Y / 8 * (src.Wide / 8) + X / 8 < n → P X Y (Xmv now X Y) := by
 induction h with
 | zero =>
  intro X Y hX hY hlt
  have := Int.mul_nonneg (show 0 ≤ Y / 8 by omega) (show 0 ≤ src.Wide / 8 by omega)
  omega
 | succ h hn q d now' hi hs hq hd hp ih =>
  rename_i n0 l0 now0
  obtain ⟨ok, w, hh, hl, hall⟩ := h.pic H
  have SF := Ye5 H hn ok w hh
  obtain ⟨q2, d2, e2, _, _, _, hd64⟩ := Xmu SF
  rw [hi] at e2
  injection e2 with e2
  injection e2 with e2 e3
  injection e3 with e3 _
  subst e2; subst e3
  obtain ⟨p', ep, p1, p2, p3, p4⟩ := Ykc ok SF.h0 hd64
  rw [hp] at ep
  injection ep with ep
  subst ep
  obtain ⟨q1, q2', q3⟩ := hq.ok H.hr
  obtain ⟨d', ei', es', _⟩ := Xkl (now := now0) (ref := ref) (l := 0) (t := 0) (x := tX src.Wide n0) (y := tY src.Wide n0) (c := c) (q := q) ⟨ok, SF.hx, SF.hy, SF.h0, by omega, by omega, H.hc, by omega⟩ q1 q2' (fun hK => (H.hk hK).1)
  rw [hd] at ei'
  injection ei' with ei'
  injection ei' with ei' _
  subst ei'
  have hPd := hP n0 now0 q d hn SF hq es'
  intro X Y hX hY hlt
  rw [p4 X Y (by rw [w]; exact hX) (by rw [hh]; exact hY)]
  have sw := Xej H.hw
  have dv := Xr9 (W := src.Wide / 8) (x := X / 8) (y := Y / 8) ⟨by omega, by omega⟩
  by_cases hin : Yh8 (tX src.Wide n0) (tY src.Wide n0) X Y = true
  ·
   rw [if_pos hin]
   unfold Yh8 at hin
   rw [decide_eq_true_eq] at hin
   have := hPd ((Y - tY src.Wide n0) * 8 + (X - tX src.Wide n0)).toNat (by omega)
   have e1 : tX src.Wide n0 + (((((Y - tY src.Wide n0) * 8 + (X - tX src.Wide n0)).toNat % 8 : Nat)) : Int) = X := by omega
   have e2 : tY src.Wide n0 + (((((Y - tY src.Wide n0) * 8 + (X - tX src.Wide n0)).toNat / 8 : Nat)) : Int) = Y := by omega
   rw [e1, e2] at this
   exact this
  ·
   rw [if_neg hin]
   refine ih X Y hX hY ?_
   have hne : Y / 8 * (src.Wide / 8) + X / 8 ≠ n0 := fun e => hin (by
    rw [e] at dv
    unfold Yh8 tX tY
    rw [dv.1, dv.2, decide_eq_true_eq]
    omega)
   omega
theorem Xkm.all {src ref : Pic} {c : Xdx} {r : Int} (H : Yjo src ref c r) (P : Int → Int → Int → Prop)
  (hP : ∀ (n : Nat) (now : Pic) (q : Xan) (d : List Int), (n : Int) < src.Wide / 8 * (src.High / 8) → Ymk now ref (Xlb src (tX src.Wide n) (tY src.Wide n) 64) (tX src.Wide n) (tY src.Wide n) c r → Xl5 now ref (Xlb src (tX src.Wide n) (tY src.Wide n) 64) (tX src.Wide n) (tY src.Wide n) c r q → Xbv now ref 0 0 c (tX src.Wide n) (tY src.Wide n) q = some (d, true) → ∀ i : Nat, i < 64 → P (tX src.Wide n + ((i % 8 : Nat) : Int)) (tY src.Wide n + ((i / 8 : Nat) : Int)) (d.getD i 0))
  {l : List Xan} {now : Pic} (h : Xkm src ref c r ((src.Wide / 8).toNat * (src.High / 8).toNat) l now) : ∀ X Y : Int, 0 ≤ X ∧ X < src.Wide → 0 ≤ Y ∧ Y < src.High → P X Y (Xmv now X Y) := by
 intro X Y hX hY
 refine h.dots H P hP X Y hX hY ?_
 have sw := Xej H.hw
 have sh := Xej H.hh
 have p := Xsa (W := src.Wide / 8) (H := src.High / 8) (x := X / 8) (y := Y / 8) ⟨by omega, by omega⟩ ⟨by omega, by omega⟩
 rw [Int.natCast_mul, show (((src.Wide / 8).toNat : Nat) : Int) = src.Wide / 8 by omega, show (((src.High / 8).toNat : Nat) : Int) = src.High / 8 by omega]
 exact p.2
theorem Ylj (p : Pic) (x y : Int) {i : Nat} (hi : i < 64) : (Xlb p x y 64).getD i 0 = Xmv p (x + ((i % 8 : Nat) : Int)) (y + ((i / 8 : Nat) : Int)) := Xgk _ hi
theorem Xkm.same {src ref : Pic} {c : Xdx} {r : Int} (H : Yjo src ref c r) (hd : ∀ (now : Pic) (w : List Int) (x y : Int) (q : Xan) (d : List Int), Ymk now ref w x y c r → w = Xlb src x y 64 → Xl5 now ref w x y c r q → Xbv now ref 0 0 c x y q = some (d, true) → d = w) {l : List Xan} {now : Pic} (h : Xkm src ref c r ((src.Wide / 8).toNat * (src.High / 8).toNat) l now) : now = src := by
 obtain ⟨ok, w, hh, _, _⟩ := h.pic H
 refine Ymz ok H.ok w hh fun X Y hX hY => ?_
 rw [w] at hX
 rw [hh] at hY
 refine h.all H (fun X Y v => v = Xmv src X Y) (fun n now q d hn SF hq hs i hi => ?_) X Y hX hY
 rw [hd now _ _ _ q d SF rfl hq hs]
 exact Ylj _ _ _ hi
theorem Yhl {src : Pic} (hw : Xsh src.Wide = true) (hh : Xsh src.High = true) : (((src.Wide / 8).toNat * (src.High / 8).toNat : Nat) : Int) = src.Wide / 8 * (src.High / 8) ∧ 1 ≤ src.Wide / 8 * (src.High / 8) ∧ src.Wide / 8 * (src.High / 8) ≤ 64 := by
 have a := Xej hw
 have b := Xej hh
 have m1 : src.Wide / 8 * (src.High / 8) ≤ 8 * 8 := Int.mul_le_mul (by omega) (by omega) (by omega) (by omega)
 have m2 : 1 * 1 ≤ src.Wide / 8 * (src.High / 8) := Int.mul_le_mul (by omega) (by omega) (by omega) (by omega)
 rw [Int.natCast_mul, show (((src.Wide / 8).toNat : Nat) : Int) = src.Wide / 8 by omega, show (((src.High / 8).toNat : Nat) : Int) = src.High / 8 by omega]
 exact ⟨rfl, by omega, by omega⟩
theorem Yi3 {n : Int} (h : n = 8 ∨ n = 16) : Xsh n = true := by rcases h with rfl | rfl <;> rfl
theorem Yg2 (p : Pic) : ((p.Wide == p.Wide) && ((p.High == p.High) && (p.Dots.toList == p.Dots.toList))) = true := by
 simp only [beq_self_eq_true, Bool.and_self]
theorem Xkm.still {src : Pic} {c : Xdx} {r : Int} (H : Yjo src src c r) (hK : c.Key = false) {n : Nat} {l : List Xan} {now : Pic} (h : Xkm src src c r n l now) : l = List.replicate n ⟨0, 0, 0, 0, []⟩ := by
 induction h with
 | zero => rfl
 | succ h hn q d now' hi hs hq hd hp ih =>
  have : q = ⟨0, 0, 0, 0, []⟩ := by
   cases hq with
   | same => rfl
   | still => rfl
   | move _ _ _ _ _ _ _ _ _ hn => exact absurd (fun _ _ => rfl) hn
   | guess _ _ _ _ _ _ _ _ _ _ _ hn => exact absurd (fun _ _ => rfl) (hn hK)
  rw [ih, this, List.replicate_succ']
theorem Yhi {src : Pic} {c : Xdx} {r : Int} (hK : c.Key = false) (now : Pic) (w : List Int) (x y : Int) (q : Xan) (d : List Int) (SF : Ymk now src w x y c r) (hw : w = Xlb src x y 64) (hq : Xl5 now src w x y c r q) (hs : Xbv now src 0 0 c x y q = some (d, true)) : d = w := by
 have hq0 : q = ⟨0, 0, 0, 0, []⟩ := by
  cases hq with
  | same => rfl
  | still => rfl
  | move _ _ _ _ _ _ _ _ _ hn => exact absurd (fun i _ => by rw [hw]) hn
  | guess _ _ _ _ _ _ _ _ _ _ _ hn => exact absurd (fun i _ => by rw [hw]) (hn hK)
 subst hq0
 have SD : Yno now src 0 0 x y c ⟨0, 0, 0, 0, []⟩ := ⟨SF.ok, SF.hx, SF.hy, SF.h0, by omega, by omega, SF.hc, by simp⟩
 obtain ⟨d', e', _, hv⟩ := Xy0 SD rfl (by unfold Xmq; rw [hK]; rfl) (fun h => (SF.hk h).1)
 rw [hs] at e'
 injection e' with e'
 injection e' with e' _
 subst e'
 rcases hv with ⟨_, _, e⟩ | ⟨k, _⟩ | ⟨k, _⟩
 ·
  rw [e, Int.zero_add, Int.zero_add, hw]
 ·
  simp at k
 ·
  simp at k
theorem Ymh : (ueL 0).length = 1 := by
 have := Yi0
 unfold Ye2 at this
 have e : seL 0 = ueL 0 := rfl
 rw [e] at this
 omega
theorem Yfc (n : Nat) (c : Xdx) (hK : c.Key = false) : (Xys (List.replicate n ⟨0, 0, 0, 0, []⟩) c).length = n := by
 induction n with
 | zero => rfl
 | succ n ih =>
  rw [List.replicate_succ, Xys, List.length_append, ih]
  have : (sqL (⟨0, 0, 0, 0, []⟩ : Xan) c).length = 1 := by
   unfold sqL
   rw [hK, if_neg (by decide), if_neg (by simp), if_neg (by simp), List.append_nil]
   exact Ymh
  omega
theorem FnStill {p0 : List Int} (h0 : p0.length ≤ maxLen ∧ ∀ y ∈ p0, (Lit.int .u8 y).wf = true) : Xll p0 = some true := by
 have hm : maxLen = 9223372036854775807 := rfl
 unfold Xll
 rw [Yes, Xab]
 by_cases hb : (p0.length : Int) > 1048576
 ·
  rw [Xbj hb]
 rw [Xao hb]
 obtain ⟨src, ref, e, pw, ph, ok, qw, qh, ok2⟩ := Xvj p0 (by omega)
 obtain ⟨c0, ec, hc0⟩ := Xvh p0 (by omega)
 obtain ⟨l, el, ll, lb⟩ := Xsj p0 (by omega)
 rw [e, Xab, ec, Xab, el, Xab]
 simp only
 have a0 : 0 ≤ l.getD 0 0 ∧ l.getD 0 0 < 10000 := lb _ (by rw [Xee l 0 (by omega)]; exact List.getElem_mem _)
 rw [show ((0 : Int).toNat) = 0 from rfl]
 generalize l.getD 0 0 = u at *
 have tm : 0 ≤ u.tmod 3 ∧ u.tmod 3 ≤ 2 := by rw [Xcg a0.1]; omega
 generalize u.tmod 3 = r at *
 have hc : Xe0 ⟨false, c0.Qp, c0.Large, c0.Exact⟩ = true := hc0
 generalize hcc : (⟨false, c0.Qp, c0.Large, c0.Exact⟩ : Xdx) = c at *
 have hK : c.Key = false := by rw [← hcc]
 have H : Yjo src src c r := ⟨ok, Yi3 pw, Yi3 ph, hc, by omega, fun _ => ⟨ok, rfl, rfl⟩⟩
 obtain ⟨ls, now, et, hT⟩ := Xu4 H
 have hn := hT.same H (Yhi hK)
 have hl := hT.still H hK
 obtain ⟨t1, t2, t3⟩ := Yhl H.hw H.hh
 subst hn
 obtain ⟨_, _, _, hlen, hall⟩ := hT.pic H
 have es : Xhh ls c = some (ls.length : Int) := by
  unfold Xhh
  rw [Xxd ls c (fun s hs => by have := (hall s hs).2.2; omega), Xab]
  have hsq : Ydy ls c = true := by
   unfold Ydy
   rw [List.all_eq_true]
   intro s hs
   obtain ⟨a, b, _⟩ := hall s hs
   rw [a, b, hc]; rfl
  unfold Yfb
  rw [decide_eq_true (show 1 ≤ ls.length ∧ ls.length ≤ 64 by omega), hsq]
  simp only [Bool.and_self, if_true]
  rw [strOfNums_size, hl, Yfc _ c hK, List.length_replicate]
 rw [rqA, rqA, rqA, et, Xab]
 simp only
 rw [Xaz, Yg2, Xc1 (by rfl), rqA, rqA, Xbx (a := now.Wide) (by omega), Xbx (a := now.High) (by omega), wkA (e := now.Wide / 8), wkA (e := now.High / 8), wkA (e := now.Wide / 8 * (now.High / 8)), Xc1 (by rw [beq_iff_eq]; omega), es, Xab, Xab, beq_self_eq_true]
end Go.Proofs.Ytlebkepfhdjnmac.A.Pure
