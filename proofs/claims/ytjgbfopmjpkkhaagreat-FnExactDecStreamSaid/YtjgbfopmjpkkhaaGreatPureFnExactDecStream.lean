/- The pure statement of the law FnExactDecStream, part 2: over numbers, texts and lists alone, what the law computes is true. Conditions: the sizes of what a machine holds. -/
import Derived.Test.YtjgbfopmjpkkhaaGreatPureFnExactDecStreamx0
namespace Go.Proofs.YtjgbfopmjpkkhaaGreat.A.Pure
open Go Go.Proofs Go.Proofs.YtjgbfopmjpkkhaaGreatAL Go.RowKit
set_option linter.unusedVariables false
set_option linter.unusedSimpArgs false
set_option maxHeartbeats 1000000
theorem Ymt (m : Int) (hm0 : 0 ≤ m ∧ m ≤ 3) {e : Xkb} (h : Xzc e) : ∃ g, Xix m e = some g ∧ Xfn m e = some g := by
 have hm : maxLen = 9223372036854775807 := rfl
 obtain ⟨mid, em, m1, m2⟩ := Xtj h
 obtain ⟨A, eA, hA, fA⟩ := Yn9 e.Above h.1
 obtain ⟨B, eB, hB, fB⟩ := Yn9 e.Left h.2.1
 obtain ⟨v, ev⟩ : ∃ v, sel (decide (e.Corner < 0)) (some (128 : Int)) (some e.Corner) = some v := by rw [Yua]; exact ⟨_, rfl⟩
 refine ⟨(List.range 64).map (Xxb m mid v A B), ?_, ?_⟩
 ·
  unfold Xix
  rw [Yo1 h, Xad, Xax, Xan, Xad, decide_eq_true hm0, Bool.not_true, Xad, Xaw, Yts h, em, Xad, eA, Xad, eB, Xad, ev, Xad, Yrx (f1 := Xl3 m mid A B v) (f2 := Xfx m mid A B v) (Xxb m mid v A B) (fun _ => rfl) ?_ ?_, Xad]
  ·
   intro r c a s hr hc hs
   unfold Xfx Xxb
   simp only [Int.toNat_natCast, Xje, Xad]
   rw [Xaj (by omega), wk (e := (c : Int) + 1) (by omega) (by omega), show (8 * r + c) % 8 = c by omega, show (8 * r + c) / 8 = r by omega]
   cases (m == 0) with
   | true => rw [Xax, Xai (by simp only [List.length_singleton]; omega), Xad]; rfl
   | false =>
    rw [Xaw]
    cases (m == 1) with
    | true => rw [Xax, Xai (by omega), Xai (by simp only [List.length_singleton]; omega), Xad]; rfl
    | false =>
     rw [Xaw]
     cases (m == 2) with
     | true => rw [Xax, Xai (by omega), Xai (by simp only [List.length_singleton]; omega), Xad]; rfl
     | false => rw [Xaw, Xai (by omega), Xai (by omega), Xai (by simp only [List.length_singleton]; omega), Xad]; rfl
  ·
   intro r a s
   unfold Xfx
   rw [Xal (by simp)]
 ·
  unfold Xfn
  rw [Xqg h, Xad, Xax, Xak, Xad, decide_eq_true hm0, Bool.not_true, Xad, Xaw, ev, Xad]
  obtain ⟨o, eo, ho⟩ := Xe5 (f := Xdc m e v) 64 (fun i s => s = (List.range i).map (Xxb m mid v A B)) (by
   intro i s hi hs
   have hlen : s.length = i := by rw [hs]; simp
   refine ⟨s ++ [Xxb m mid v A B i], ?_, by rw [hs, List.range_succ, List.map_append]; rfl⟩
   unfold Xdc Xxb
   simp only
   rw [Xaj (by omega), Xai (by omega), Xch (by omega), show (i : Int) % 8 = ((i % 8 : Nat) : Int) by omega, fA _ (by omega), Xad, Xai (by omega), Xbn (by omega), wk (e := (i : Int) / 8) (by omega) (by omega), show (i : Int) / 8 = ((i / 8 : Nat) : Int) by omega, fB _ (by omega), Xad, wk (e := (i : Int) + 1) (by omega) (by omega), em]
   cases (m == 0) with
   | true => rw [Xax, Xad, Xai (by simp only [List.length_singleton]; omega), Xad]; rfl
   | false =>
    rw [Xaw]
    cases (m == 1) with
    | true => rw [Xax, Xai (by simp only [List.length_singleton]; omega), Xad]; rfl
    | false =>
     rw [Xaw]
     cases (m == 2) with
     | true => rw [Xax, Xai (by simp only [List.length_singleton]; omega), Xad]; rfl
     | false => rw [Xaw, Xfb, Xad, Xai (by simp only [List.length_singleton]; omega), Xad]; rfl) (by intro s; unfold Xdc; rw [Xal (by simp)]) [] rfl
  rw [eo, Xad, ho]
theorem Ykh (m : Int) (hm0 : 0 ≤ m ∧ m ≤ 3) {e : Xkb} (h : Xzc e) : Xix m e = Xfn m e := by
 obtain ⟨g, h1, h2⟩ := Ymt m hm0 h
 rw [h1, h2]
theorem Xy8 (g b : List Int) (hg : Xmw g = true) (hl : b.length = 64) (hb : inB 10000000 b) : Xkd g b = Xgw g b := by
 obtain ⟨g1, g2⟩ := Xq0 hg
 unfold Xkd Xgw
 rw [Xqq g hg, Yej g (by omega), hg, Yc6 b 64 10000000 (by omega) (by omega) hb, Xi3 b 64 10000000 (by omega) (by omega) (by omega) hb]
 have : Xk6 g b = Xe1 g b := by
  funext v
  unfold Xk6 Xe1
  simp only [Ykt, show ((g.length : Nat) : Int) = 64 by omega]
 simp only [Xad, Xax, Bool.not_true, Xaw, this]
theorem Yor {s : Xa1} (h : Xrw s = true) (h1 : s.Kind = 0) : s.Dx = 0 ∧ s.Dy = 0 := by
 unfold Xrw at h
 rw [h1] at h
 simp at h
 exact ⟨h.2.1, h.2.2.1⟩
theorem Yv2 {s : Xa1} (h : Xrw s = true) : (-16 ≤ s.Dx ∧ s.Dx ≤ 16) ∧ (-16 ≤ s.Dy ∧ s.Dy ≤ 16) := by
 have hk := Yoq h
 obtain h1 | h1 | h1 : s.Kind = 0 ∨ s.Kind = 1 ∨ s.Kind = 2 := by omega
 ·
  obtain ⟨a, b⟩ := Yor h h1; omega
 ·
  obtain ⟨a, b, _⟩ := Yq8 h h1; exact ⟨a, b⟩
 ·
  unfold Xrw at h
  rw [h1] at h
  simp at h
  omega
theorem Yet (s : Xa1) (c : Xj9) : Xgo s c = some (Xma s c) := by
 unfold Xgo Xma
 cases c.Key <;> rfl
structure Yw2 (now ref : Pic) (l t x y : Int) (c : Xj9) (q : Xa1) : Prop where
 ok : Xcc now = true
 hx : x.tmod 8 = 0
 hy : y.tmod 8 = 0
 h0 : Xle now x y = true
 hl : 0 ≤ l ∧ l ≤ 256
 ht : 0 ≤ t ∧ t ≤ 256
 hc : Xjb c = true
 hs : q.Levels.length ≤ 1048576
theorem Ykl {now ref : Pic} {l t x y : Int} {c : Xj9} {q : Xa1} (h : Yw2 now ref l t x y c q) (hq : (Xrw q && Xma q c) = false) : Xdb now ref l t c x y q = some ([], false) := by
 unfold Xdb
 rw [Xck, Xad, h.ok, Xax, Xq9 h.ok h.hx h.hy h.h0, Xad, Xax, Xan, Xad, decide_eq_true h.hl, Xax, Xan, Xad, decide_eq_true h.ht, Xax, Xfy q (by have := h.hs; omega), Xad, Xdv, Xad, h.hc, Xax, Yet, Xad]
 cases h1 : Xrw q with
 | false => rfl
 | true =>
  rw [h1, Bool.true_and] at hq
  rw [hq]; rfl
theorem Yc2 {now ref : Pic} {l t x y : Int} {c : Xj9} {q : Xa1} (h : Yw2 now ref l t x y c q) (hq : Xrw q = true) (hL : Xma q c = true) (hr : c.Key = false → Xcc ref = true) : ∃ d, Xdb now ref l t c x y q = some (d, true) ∧ Xcq now ref l t c x y q = some (d, true) ∧ Xmw d = true := by
 obtain ⟨ok, hx, hy, h0, hl, ht, hc, hs⟩ := h
 obtain ⟨k1, k2, k3⟩ := Xbo ok
 have h0' := h0
 unfold Xle at h0'
 rw [decide_eq_true_eq] at h0'
 have dxy := Yv2 hq
 unfold Xcq Xdb
 rw [Xl9 ok hx hy h0, Xad, Xax, Xak, Xad, decide_eq_true hl, Xax, Xak, Xad, decide_eq_true ht, Xax, Xim, Xad, hq, Xax, Xez, Xad, hc, Bool.not_true, Xad, Xaw]
 rw [Xck, Xad, ok, Xax, Xq9 ok hx hy h0, Xad, Xax, Xan, Xad, decide_eq_true hl, Xax, Xan, Xad, decide_eq_true ht, Xax, Xfy q (by omega), Xad, hq, Xax, Xdv, Xad, hc, Xax, Yet, Xad, hL, Xax]
 by_cases h2 : q.Kind = 2
 ·
  obtain ⟨hm, hlv⟩ := Yv3 hq h2
  obtain ⟨e, ee, he⟩ := Yfz ok hx hy h0
  obtain ⟨b, eb, b1, b2⟩ := Xnw q.Levels c hc hlv
  obtain ⟨g, eg, hg⟩ := Yf4 q.Mode hm he
  obtain ⟨j, ej, hj⟩ := Xtc g b hg b1 b2
  refine ⟨j, ?_, ?_, hj⟩
  ·
   rw [Xa9 (b := q.Kind != 2) (by simpa using h2), Xad, Xaw, Xa9 (by rw [h2]; rfl), Xp7 q.Levels c hc hlv, eb, Xad, Xa9 (by rw [h2]; rfl), Ykg ok hx hy h0, ee, Xad, Ykh q.Mode hm he, eg, Xad, Xy8 g b hg b1 b2, ej, Xad]
  ·
   rw [Xbh (by simpa using h2), ee, Xad, eb, Xad, eg, Xad, ej, Xad]
 ·
  have hK : c.Key = false := by
   unfold Xma at hL
   cases hk : c.Key with
   | false => rfl
   | true => rw [hk] at hL; simp at hL; exact absurd hL h2
  have rok := hr hK
  rw [Xbh (b := q.Kind != 2) (by simpa using h2), Xck, Xad, rok, Bool.not_true, Xad, Xaw]
  rw [Xa9 (b := q.Kind == 2) (by simpa using h2), hK, Xaw, Xfv, Xad, rok, Bool.not_true, Xad, Xaw]
  rw [wk (e := l + x) (by omega) (by omega), wk (e := l + x + q.Dx) (by omega) (by omega), wk (e := t + y) (by omega) (by omega), wk (e := t + y + q.Dy) (by omega) (by omega), Yfq rok _ _ (by omega) (by omega), Xad, Xvp rok _ _ (by omega) (by omega), Xad, Xvp rok _ _ (by omega) (by omega)]
  by_cases h3 : q.Kind = 0
  ·
   obtain ⟨z1, z2⟩ := Yor hq h3
   rw [Xbh (b := q.Kind == 0) (by simpa using h3), Xbh (b := q.Kind == 0) (by simpa using h3), z1, z2, Int.add_zero, Int.add_zero]
   exact ⟨_, rfl, rfl, Yc9 _ _ _⟩
  ·
   have h1 : q.Kind = 1 := by have := Yoq hq; omega
   obtain ⟨_, _, hlv⟩ := Yq8 hq h1
   obtain ⟨b, eb, b1, b2⟩ := Xnw q.Levels c hc hlv
   obtain ⟨j, ej, hj⟩ := Xtc _ b (Yc9 ref (l + x + q.Dx) (t + y + q.Dy)) b1 b2
   rw [Xa9 (b := q.Kind == 0) (by simpa using h3), Xa9 (b := q.Kind == 0) (by simpa using h3), Xp7 q.Levels c hc hlv, eb, Xad, Xad, Xbh (b := q.Kind == 1) (by simpa using h1), Xad, Xy8 _ b (Yc9 _ _ _) b1 b2, ej, Xad]
   exact ⟨_, rfl, rfl, hj⟩
theorem Yvv {β : Type} {a b c : Prop} [Decidable a] [Decidable b] [Decidable c] (hb : b) (hc : c) (k : Option β) : req a (req b (req c k)) = req b (req c (req a k)) := by
 rw [Xai hb, Xai hc, Xai hb, Xai hc]
theorem Yqa {p : Pic} (ok : Xcc p = true) : p.Dots.size ≤ 65536 := by
 obtain ⟨k1, k2, k3⟩ := Xbo ok
 have := Xdz k1 k2
 omega
theorem Ytx {p : Pic} {x y : Int} {d : List Int} (hd : Xmw d = true) (hp : p.Dots.size ≤ maxLen) : Xr3 p x y d = Xg9 p x y d := by
 obtain ⟨d1, d2⟩ := Xq0 hd
 unfold Xr3 Xg9 Xos
 rw [Xai hp, Xad, Xai hp]
 have : Xpr p x y d = Xe4 p x y d := by
  funext v
  unfold Xpr Xe4
  simp only [show ((d.length : Nat) : Int) = 64 by omega]
  exact Ypv (fun _ => Yvv (by omega) (by omega) _) fun _ => rfl
 rw [this]
theorem Ytq (n : Nat) (x : Int) : ((List.range n).map fun _ => x) = List.replicate n x := by
 apply List.ext_getElem
 ·
  simp
 ·
  intro i h1 h2; simp
theorem Xze (w h : Int) (hw : 1 ≤ w ∧ w ≤ 256) (hh : 1 ≤ h ∧ h ≤ 256) : Xmz w h = some ⟨w, h, strOfNums (List.replicate (w * h).toNat 128)⟩ := by
 have ar := Xdz hw hh
 unfold Xmz
 rw [Xan, Xad, decide_eq_true hw, Xax, Xan, Xad, decide_eq_true hh, Bool.not_true, Xad, Xaw, wk (e := w * h) (by omega) (by omega), Xai (by omega)]
 rw [Yr3 (f := Xlj w h) (w * h).toNat (fun _ => 128) (List.replicate (w * h).toNat 0) (by simp) ?_ ?_, Xad, Ytq]
 ·
  intro i s hi hs _
  unfold Xlj
  simp only [List.length_replicate, Int.toNat_natCast]
  rw [wk (e := w * h) (by omega) (by omega), Xaj (by omega), Xai (by omega), Xai (by omega), wk (by omega) (by omega)]
  rfl
 ·
  intro s hs
  unfold Xlj
  simp only [List.length_replicate]
  rw [wk (e := w * h) (by omega) (by omega), Xal (by omega)]
theorem Xzp (w h : Int) (hw : 1 ≤ w ∧ w ≤ 256) (hh : 1 ≤ h ∧ h ≤ 256) : Xna w h = some ⟨w, h, strOfNums (List.replicate (w * h).toNat 128)⟩ := by
 have ar := Xdz hw hh
 unfold Xna
 rw [Xak, Xad, decide_eq_true hw, Xax, Xak, Xad, decide_eq_true hh, Bool.not_true, Xad, Xaw, wk (e := w * h) (by omega) (by omega), show w * h = (((w * h).toNat : Nat) : Int) by omega, Ygr _ _ (by omega), Xad, Int.toNat_natCast]
def Xlf (p : Pic) (r : Xph) : Bool := decide (1 ≤ r.Wide ∧ r.Wide ≤ p.Wide) && (decide (1 ≤ r.High ∧ r.High ≤ p.High) && (decide (0 ≤ r.Left ∧ r.Left ≤ p.Wide - r.Wide) && decide (0 ≤ r.Top ∧ r.Top ≤ p.High - r.High)))
theorem Xpq {p : Pic} (ok : Xcc p = true) (r : Xph) : Xdw p r = some (Xlf p r) := by
 obtain ⟨k1, k2, k3⟩ := Xbo ok
 unfold Xdw Xlf
 rw [Xan, Xan, Xad, Xad]
 by_cases h1 : 1 ≤ r.Wide ∧ r.Wide ≤ p.Wide
 ·
  rw [decide_eq_true h1, Xax, Bool.true_and]
  by_cases h2 : 1 ≤ r.High ∧ r.High ≤ p.High
  ·
   rw [decide_eq_true h2, Xax, Bool.true_and, wk (e := p.Wide - r.Wide) (by omega) (by omega), wk (e := p.High - r.High) (by omega) (by omega), Xan, Xan, Xad, Xad, Xcj, Xad]
  ·
   rw [decide_eq_false h2, Xaw, Bool.false_and]; rfl
 ·
  rw [decide_eq_false h1, Xaw, Bool.false_and]; rfl
theorem Xk1 (p : Pic) (r : Xph) : Xb6 p r.Left r.Top r.Wide r.High = some (Xcc p && Xlf p r) := by
 unfold Xb6 Xlf
 rw [Xfv, Xad]
 cases ok : Xcc p with
 | false => rfl
 | true =>
  obtain ⟨k1, k2, k3⟩ := Xbo ok
  rw [Xax, Xak, Xak, Xad, Xad]
  by_cases h1 : 1 ≤ r.Wide ∧ r.Wide ≤ p.Wide
  ·
   rw [decide_eq_true h1, Xax, Bool.true_and, Bool.true_and]
   by_cases h2 : 1 ≤ r.High ∧ r.High ≤ p.High
   ·
    rw [decide_eq_true h2, Xax, Bool.true_and, wk (e := p.Wide - r.Wide) (by omega) (by omega), wk (e := p.High - r.High) (by omega) (by omega), Xak, Xak, Xad, Xad, Xcj, Xad]
   ·
    rw [decide_eq_false h2, Xaw, Bool.false_and]; rfl
  ·
   rw [decide_eq_false h1, Xaw, Bool.false_and]; rfl
theorem Xiv {p : Pic} {r : Xph} (h : Xlf p r = true) : (1 ≤ r.Wide ∧ r.Wide ≤ p.Wide) ∧ (1 ≤ r.High ∧ r.High ≤ p.High) ∧ (0 ≤ r.Left ∧ r.Left ≤ p.Wide - r.Wide) ∧ (0 ≤ r.Top ∧ r.Top ≤ p.High - r.High) := by
 unfold Xlf at h
 simp only [Bool.and_eq_true, decide_eq_true_eq] at h
 exact h
def Xnz (p : Pic) (r : Xph) : Nat → List Int
 | 0 => []
 | n + 1 => Xnz p r n ++ Xav (p.Dots.extract ((r.Top + n) * p.Wide + r.Left).toNat ((r.Top + n) * p.Wide + r.Left + r.Wide).toNat)
theorem Ys3 {p : Pic} {r : Xph} (ok : Xcc p = true) (h : Xlf p r = true) (n : Nat) (hn : (n : Int) < r.High) : 0 ≤ (r.Top + n) * p.Wide ∧ (r.Top + n) * p.Wide + r.Left + r.Wide ≤ p.Dots.size ∧ (r.Top + n) * p.Wide ≤ 65536 ∧ (Xav (p.Dots.extract ((r.Top + n) * p.Wide + r.Left).toNat ((r.Top + n) * p.Wide + r.Left + r.Wide).toNat)).length = r.Wide.toNat := by
 obtain ⟨k1, k2, k3⟩ := Xbo ok
 obtain ⟨a1, a2, a3, a4⟩ := Xiv h
 have ar := Xdz k1 k2
 have b1 : 0 ≤ (r.Top + n) * p.Wide := Int.mul_nonneg (by omega) (by omega)
 have b2 : (r.Top + n) * p.Wide ≤ (p.High - 1) * p.Wide := Int.mul_le_mul_of_nonneg_right (by omega) (by omega)
 have b3 : (p.High - 1) * p.Wide = p.Wide * p.High - p.Wide := by rw [Int.sub_mul, Int.one_mul, Int.mul_comm]
 refine ⟨b1, by omega, by omega, ?_⟩
 rw [Xa2, ByteArray.size_extract]
 omega
theorem Xtq {p : Pic} {r : Xph} (ok : Xcc p = true) (h : Xlf p r = true) : ∀ n : Nat, (n : Int) ≤ r.High → ((Xnz p r n).length : Int) = n * r.Wide
 | 0, _ => by simp [Xnz]
 | n + 1, hn => by
  have a := Xiv h
  have b := Ys3 ok h n (by omega)
  rw [Xnz, List.length_append, Int.natCast_add, Xtq ok h n (by omega), b.2.2.2, Int.natCast_add, Int.add_mul]
  simp only [Int.natCast_one, Int.one_mul]
  omega
theorem Yp9 {p : Pic} {r : Xph} {f : Int × List Int → Option (Lp (Int × List Int) (List Int))} (ok : Xcc p = true) (h : Xlf p r = true) (hf : f = Xhp p r) : loop f (r.Top, []) = some (Xnz p r r.High.toNat) := by
 have hm : maxLen = 9223372036854775807 := rfl
 obtain ⟨k1, k2, k3⟩ := Xbo ok
 obtain ⟨a1, a2, a3, a4⟩ := Xiv h
 subst hf
 have key : ∀ n : Nat, n ≤ r.High.toNat → loop (Xhp p r) (r.Top + n, Xnz p r n) = some (Xnz p r r.High.toNat) := by
  refine Xdk _ ?_ ?_
  ·
   refine Xb1 ?_
   unfold Xhp
   rw [wk (e := r.Top + r.High) (by omega) (by omega), Xal (by simp only; omega)]
  ·
   intro n hn ih
   refine lgo (y := (r.Top + ((n + 1 : Nat) : Int), Xnz p r (n + 1))) ?_ ih
   obtain ⟨b1, b2, b3, b4⟩ := Ys3 ok h n (by omega)
   have cl := Xtq ok h n (by omega)
   have cw : (n : Int) * r.Wide ≤ 256 * r.Wide := Int.mul_le_mul_of_nonneg_right (by omega) (by omega)
   unfold Xhp
   simp only
   rw [wk (e := r.Top + r.High) (by omega) (by omega), Xaj (by omega), wk (e := (r.Top + n) * p.Wide) (by omega) (by omega), wk (e := (r.Top + n) * p.Wide + r.Left) (by omega) (by omega), wk (e := (r.Top + n) * p.Wide + r.Left + r.Wide) (by omega) (by omega), Xai (by omega), Xai (by rw [b4]; omega), wk (e := r.Top + n + 1) (by omega) (by omega), show r.Top + ((n + 1 : Nat) : Int) = r.Top + n + 1 by omega]
   rfl
 have := key 0 (by omega)
 simpa [Xnz] using this
def Yyb (p : Pic) (r : Xph) : Pic := ⟨r.Wide, r.High, strOfNums (Xnz p r r.High.toNat)⟩
theorem Yxf {p : Pic} {r : Xph} (ok : Xcc p = true) (h : Xlf p r = true) : Xcc (Yyb p r) = true := by
 obtain ⟨k1, k2, k3⟩ := Xbo ok
 obtain ⟨a1, a2, a3, a4⟩ := Xiv h
 refine Xv0 (by show 1 ≤ r.Wide ∧ r.Wide ≤ 256; omega) (by show 1 ≤ r.High ∧ r.High ≤ 256; omega) ?_
 show ((strOfNums _).size : Int) = r.Wide * r.High
 rw [strOfNums_size, Xtq ok h _ (by omega), Int.mul_comm]
 congr 1; omega
theorem Ymc {p : Pic} {r : Xph} (ok : Xcc p = true) (h : Xlf p r = true) : Xmv p r = some (Yyb p r, true) := by
 unfold Xmv
 rw [Xk1, ok, h, Xad]
 simp only [Bool.true_and, Bool.not_true, Xaw]
 rw [Yp9 ok h rfl, Xad]
 rfl
theorem Yk2 {p : Pic} {r : Xph} (ok : Xcc p = true) (h : Xlf p r = true) : Xmt p r = some (Yyb p r, true) := by
 obtain ⟨k1, k2, k3⟩ := Xbo ok
 obtain ⟨a1, a2, a3, a4⟩ := Xiv h
 have ar := Xdz (w := r.Wide) (h := r.High) (by omega) (by omega)
 unfold Xmt
 rw [Xck, Xad, ok, Xax, Xpq ok, Xad, h, Bool.not_true, Xad, Xaw, wk (e := r.Wide * r.High) (by omega) (by omega), Xai (by omega)]
 have := Yp9 (f := Xpo p r) ok h rfl
 rw [show List.replicate (0 : Int).toNat (0 : Int) = [] from rfl, this, Xad]
 rfl
def Xny (l : List Xa1) (c : Xj9) : Bool := l.all fun q => Xrw q && Xma q c
theorem Xs4 (n : Int) : Xkk n = some (Xp1 n) := by
 unfold Xkk Xp1
 rw [Xai (by omega), Xan, Xad, Xcj, Xad, Yc8]
theorem Ymj (l : List Xa1) (c : Xj9) (hl : l.length ≤ 1048576) : Xpe l c = some (Xjb c && (decide (1 ≤ l.length ∧ l.length ≤ 64) && Xny l c)) := by
 unfold Xpe
 rw [Xez, Xad]
 cases hc : Xjb c with
 | false => rfl
 | true =>
  rw [Xax, Xak, Xad, Xad]
  by_cases h64 : 1 ≤ l.length ∧ l.length ≤ 64
  ·
   rw [decide_eq_true (show 1 ≤ (l.length : Int) ∧ (l.length : Int) ≤ 64 by omega), decide_eq_true h64, Bool.not_true, Xaw, Bool.true_and, Bool.true_and]
   have key : ∀ (r a : List Xa1), l = a ++ r → loop (Xfw l c) (a.length : Int) = some (if Xny r c = true then .out () else .ret false) := by
    intro r
    induction r with
    | nil =>
     intro a ha
     rw [List.append_nil] at ha
     exact Xb1 (by unfold Xfw; rw [Xal (by rw [ha]; omega)]; rfl)
    | cons s r ih =>
     intro a ha
     have hlen : a.length < l.length := by rw [ha]; simp
     have hx : l.getD a.length Xbv = s := by rw [ha]; exact Xnp a s _ r
     have hn := ih (a ++ [s]) (by rw [ha]; simp)
     rw [List.length_append, List.length_singleton] at hn
     have hstep : Xfw l c (a.length : Int) = sel (!(Xrw s && Xma s c)) (some (.done (.ret false))) (some (.go ((a.length + 1 : Nat) : Int))) := by
      unfold Xfw
      simp only [Int.toNat_natCast, hx]
      rw [Xaj (by omega), Xai (by omega), show (⟨s.Kind, s.Mode, s.Dx, s.Dy, s.Levels⟩ : Xa1) = s from rfl, Xim, Xad, Xai (by omega), wk (by omega) (by omega)]
      unfold Xma
      cases Xrw s with
      | false => rfl
      | true =>
       cases c.Key with
       | false => rfl
       | true => rw [Xax, Xax, Xad, Bool.true_and, Bool.not_true, Bool.false_or]; rfl
     unfold Xny at hn ⊢
     rw [List.all_cons]
     cases hq : (Xrw s && Xma s c) with
     | true =>
      rw [hq] at hstep
      rw [Xn9 (hstep.trans (by rw [Bool.not_true, Xaw])), hn, Bool.true_and]
     | false =>
      rw [hq] at hstep
      rw [Xco (hstep.trans (by rw [Bool.not_false, Xax]))]
      simp
   have k0 : loop (Xfw l c) 0 = some (if Xny l c = true then .out () else .ret false) := key l [] rfl
   rw [k0, Xad]
   cases Xny l c <;> rfl
  ·
   rw [decide_eq_false (show ¬ (1 ≤ (l.length : Int) ∧ (l.length : Int) ≤ 64) by omega), decide_eq_false h64]; rfl
theorem Yke {w h : Int} (hw : Xp1 w = true) (hh : Xp1 h = true) (i : Nat) (hi : (i : Int) < w / 8 * (h / 8)) : (8 ≤ w ∧ w ≤ 64) ∧ (8 ≤ h ∧ h ≤ 64) ∧ 1 ≤ w / 8 ∧ w / 8 ≤ 8 ∧ 1 ≤ h / 8 ∧ h / 8 ≤ 8 ∧ 0 ≤ (i : Int) % (w / 8) * 8 ∧ (i : Int) % (w / 8) * 8 ≤ w - 8 ∧ 0 ≤ (i : Int) / (w / 8) * 8 ∧ (i : Int) / (w / 8) * 8 ≤ h - 8 := by
 unfold Xp1 at hw hh
 rw [Bool.and_eq_true, decide_eq_true_eq, decide_eq_true_eq] at hw hh
 rw [Xch (by omega)] at hw hh
 have h1 : 1 ≤ w / 8 ∧ w / 8 ≤ 8 := by omega
 have h2 : 1 ≤ h / 8 ∧ h / 8 ≤ 8 := by omega
 have m0 : 0 ≤ (i : Int) % (w / 8) := Int.emod_nonneg _ (by omega)
 have m1 : (i : Int) % (w / 8) < w / 8 := Int.emod_lt_of_pos _ (by omega)
 have d0 : 0 ≤ (i : Int) / (w / 8) := Int.ediv_nonneg (by omega) (by omega)
 have d1 : (i : Int) / (w / 8) < h / 8 := Int.ediv_lt_of_lt_mul (by omega) (by rw [Int.mul_comm]; exact hi)
 exact ⟨hw.2, hh.2, h1.1, h1.2, h2.1, h2.2, by omega, by omega, by omega, by omega⟩
theorem Xkw {w : Int} (hw : Xp1 w = true) : w % 8 = 0 ∧ 8 ≤ w ∧ w ≤ 64 := by
 unfold Xp1 at hw
 rw [Bool.and_eq_true, decide_eq_true_eq, decide_eq_true_eq] at hw
 rw [Xch (by omega)] at hw
 exact ⟨hw.1, hw.2⟩
structure Yuy (ref : Pic) (le tp : Int) (r : Xph) (c : Xj9) (l : List Xa1) : Prop where
 hw : Xp1 r.Wide = true
 hh : Xp1 r.High = true
 hl : 0 ≤ le ∧ le ≤ 256
 ht : 0 ≤ tp ∧ tp ≤ 256
 hc : Xjb c = true
 hn : (l.length : Int) = r.Wide / 8 * (r.High / 8)
 hs : ∀ q ∈ l, q.Levels.length ≤ 1048576
 hr : c.Key = false → Xcc ref = true
def tbI (r : Xph) (v : Int × Int × ByteArray) : Prop := Xcc ⟨v.1, v.2.1, v.2.2⟩ = true ∧ v.1 = r.Wide ∧ v.2.1 = r.High
theorem Yuk {ref : Pic} {le tp : Int} {r : Xph} {c : Xj9} {l : List Xa1} (H : Yuy ref le tp r c l) (i : Nat) (hi : i < l.length) (s : Int × Int × ByteArray) (hs : tbI r s) :
  ((Xrw (l.getD i Xbv) && Xma (l.getD i Xbv) c) = false → Xbp r c l (le, tp, ref.Wide, ref.High, ref.Dots) ((i : Int), s) = some (.done (.ret (⟨0, 0, ⟨#[]⟩⟩, false)))) ∧
  ((Xrw (l.getD i Xbv) && Xma (l.getD i Xbv) c) = true → ∃ s', Xbp r c l (le, tp, ref.Wide, ref.High, ref.Dots) ((i : Int), s) = some (.go (((i + 1 : Nat) : Int), s')) ∧ Xbd r c l (le, tp, ref.Wide, ref.High, ref.Dots) ((i : Int), s) = some (.go (((i + 1 : Nat) : Int), s')) ∧ tbI r s') := by
 obtain ⟨hw, hh, hl, ht, hc, hn, hls, hr⟩ := H
 obtain ⟨w, h, dt⟩ := s
 obtain ⟨ok, e1, e2⟩ := hs
 simp only at ok e1 e2
 subst e1; subst e2
 obtain ⟨p1, p2, p3, p4, p5, p6, p7, p8, p9, p10⟩ := Yke hw hh i (by omega)
 have hmem : l.getD i Xbv ∈ l := by rw [Xci l i hi]; exact List.getElem_mem _
 have held : Xle (⟨r.Wide, r.High, dt⟩ : Pic) ((i : Int) % (r.Wide / 8) * 8) ((i : Int) / (r.Wide / 8) * 8) = true := by
  unfold Xle; rw [decide_eq_true_eq]; exact ⟨p7, p8, p9, p10⟩
 have SD : Yw2 (⟨r.Wide, r.High, dt⟩ : Pic) ref le tp ((i : Int) % (r.Wide / 8) * 8) ((i : Int) / (r.Wide / 8) * 8) c (l.getD i Xbv) :=
  ⟨ok, by rw [Xch p7]; omega, by rw [Xch p9]; omega, held, hl, ht, hc, hls _ hmem⟩
 have l64 : l.length ≤ 64 := by
  have : r.Wide / 8 * (r.High / 8) ≤ 8 * 8 := Int.mul_le_mul (by omega) (by omega) (by omega) (by omega)
  omega
 have eI : Xbp r c l (le, tp, ref.Wide, ref.High, ref.Dots) ((i : Int), r.Wide, r.High, dt) = bnd (Xdb (⟨r.Wide, r.High, dt⟩ : Pic) ref le tp c ((i : Int) % (r.Wide / 8) * 8) ((i : Int) / (r.Wide / 8) * 8) (l.getD i Xbv)) fun q21 => sel (!q21.2) (some (.done (.ret (⟨0, 0, ⟨#[]⟩⟩, false)))) (bnd (Xr3 (⟨r.Wide, r.High, dt⟩ : Pic) ((i : Int) % (r.Wide / 8) * 8) ((i : Int) / (r.Wide / 8) * 8) q21.1) fun q22 => some (.go (((i + 1 : Nat) : Int), q22.Wide, q22.High, q22.Dots))) := by
  unfold Xbp
  simp only [Int.toNat_natCast]
  rw [Xaj (by omega), Xai (by omega), Xai (by omega), Xbn (a := r.Wide) (by omega), wk (e := r.Wide / 8) (by omega) (by omega), Xai (by omega), Xai (by omega), Xai (by omega), Xch (a := (i : Int)) (by omega), Xbn (a := (i : Int)) (by omega), wk (e := (i : Int) % (r.Wide / 8) * 8) (by omega) (by omega), wk (e := (i : Int) / (r.Wide / 8)) (by omega) (by omega), wk (e := (i : Int) / (r.Wide / 8) * 8) (by omega) (by omega), wk (e := (i : Int) + 1) (by omega) (by omega)]
  rfl
 have eS : Xbd r c l (le, tp, ref.Wide, ref.High, ref.Dots) ((i : Int), r.Wide, r.High, dt) = bnd (Xcq (⟨r.Wide, r.High, dt⟩ : Pic) ref le tp c ((i : Int) % (r.Wide / 8) * 8) ((i : Int) / (r.Wide / 8) * 8) (l.getD i Xbv)) fun q21 => bnd (Xg9 (⟨r.Wide, r.High, dt⟩ : Pic) ((i : Int) % (r.Wide / 8) * 8) ((i : Int) / (r.Wide / 8) * 8) q21.1) fun q22 => some (.go (((i + 1 : Nat) : Int), q22.Wide, q22.High, q22.Dots)) := by
  unfold Xbd
  simp only [Int.toNat_natCast]
  rw [Xaj (by omega), Xai (by omega), Xbn (a := r.Wide) (by omega), wk (e := r.Wide / 8) (by omega) (by omega), Xai (by omega), Xai (by omega), Xai (by omega), Xai (by omega), Xch (a := (i : Int)) (by omega), Xbn (a := (i : Int)) (by omega), Int.mul_comm 8 ((i : Int) % (r.Wide / 8)), wk (e := (i : Int) / (r.Wide / 8)) (by omega) (by omega), Int.mul_comm 8 ((i : Int) / (r.Wide / 8)), wk (e := (i : Int) % (r.Wide / 8) * 8) (by omega) (by omega), wk (e := (i : Int) / (r.Wide / 8) * 8) (by omega) (by omega), wk (e := (i : Int) + 1) (by omega) (by omega)]
  rfl
 refine ⟨fun hq => ?_, fun hq => ?_⟩
 ·
  rw [eI, Ykl SD hq, Xad]; rfl
 ·
  rw [Bool.and_eq_true] at hq
  obtain ⟨d, d1, d2, d3⟩ := Yc2 SD hq.1 hq.2 hr
  obtain ⟨p', ep, g1, g2, g3⟩ := Yjr ok held d3
  refine ⟨(p'.Wide, p'.High, p'.Dots), ?_, ?_, g1, g2, g3⟩
  ·
   rw [eI, d1, Xad, Bool.not_true, Xaw, Ytx d3 (by have := Yqa ok; have hm : maxLen = 9223372036854775807 := rfl; simp only at this ⊢; omega), ep, Xad]
  ·
   rw [eS, d2, Xad, ep, Xad]
theorem Yxi {r : Xph} (hw : Xp1 r.Wide = true) (hh : Xp1 r.High = true) : tbI r (r.Wide, r.High, strOfNums (List.replicate (r.Wide * r.High).toNat 128)) := by
 have a := Xkw hw
 have b := Xkw hh
 have ar := Xdz (w := r.Wide) (h := r.High) (by omega) (by omega)
 refine ⟨Xv0 (by simp only; omega) (by simp only; omega) ?_, rfl, rfl⟩
 simp only
 rw [strOfNums_size, List.length_replicate]; omega
theorem Yv7 {ref : Pic} {le tp : Int} {r : Xph} {c : Xj9} {l : List Xa1} (H : Yuy ref le tp r c l) (s0 : Int × Int × ByteArray) (h0 : tbI r s0) :
  (Xny l c = false → loop (Xbp r c l (le, tp, ref.Wide, ref.High, ref.Dots)) (0, s0) = some (.ret (⟨0, 0, ⟨#[]⟩⟩, false))) ∧
  (Xny l c = true → ∃ s, loop (Xbp r c l (le, tp, ref.Wide, ref.High, ref.Dots)) (0, s0) = some (.out s) ∧ loop (Xbd r c l (le, tp, ref.Wide, ref.High, ref.Dots)) (0, s0) = some s ∧ tbI r s) := by
 have key : ∀ i : Nat, i ≤ l.length → ∀ s, tbI r s →
  ((∃ j, i ≤ j ∧ j < l.length ∧ (Xrw (l.getD j Xbv) && Xma (l.getD j Xbv) c) = false) → loop (Xbp r c l (le, tp, ref.Wide, ref.High, ref.Dots)) ((i : Int), s) = some (.ret (⟨0, 0, ⟨#[]⟩⟩, false))) ∧
  ((∀ j, i ≤ j → j < l.length → (Xrw (l.getD j Xbv) && Xma (l.getD j Xbv) c) = true) → ∃ s', loop (Xbp r c l (le, tp, ref.Wide, ref.High, ref.Dots)) ((i : Int), s) = some (.out s') ∧ loop (Xbd r c l (le, tp, ref.Wide, ref.High, ref.Dots)) ((i : Int), s) = some s' ∧ tbI r s') := by
  refine Xdk _ ?_ ?_
  ·
   intro s hs
   refine ⟨fun ⟨j, h1, h2, _⟩ => by omega, fun _ => ⟨s, Xb1 ?_, Xb1 ?_, hs⟩⟩
   ·
    unfold Xbp; rw [Xal (by simp)]
   ·
    unfold Xbd; rw [Xal (by simp)]
  ·
   intro i hi ih s hs
   obtain ⟨hno, hyes⟩ := Yuk H i hi s hs
   cases hq : (Xrw (l.getD i Xbv) && Xma (l.getD i Xbv) c) with
   | false =>
    refine ⟨fun _ => Xb1 (hno hq), fun hall => ?_⟩
    have := hall i (Nat.le_refl _) hi
    rw [hq] at this; cases this
   | true =>
    obtain ⟨s', e1, e2, hs'⟩ := hyes hq
    obtain ⟨i1, i2⟩ := ih s' hs'
    refine ⟨fun ⟨j, h1, h2, h3⟩ => lgo e1 (i1 ⟨j, ?_, h2, h3⟩), fun hall => ?_⟩
    ·
     rcases Nat.lt_or_ge i j with h | h
     ·
      exact h
     ·
      have : j = i := by omega
      subst this
      rw [hq] at h3; cases h3
    ·
     obtain ⟨s2, k1, k2, k3⟩ := i2 fun j hj => hall j (by omega)
     exact ⟨s2, lgo e1 k1, lgo e2 k2, k3⟩
 obtain ⟨k1, k2⟩ := key 0 (by omega) s0 h0
 refine ⟨fun hf => k1 ?_, fun ht => k2 fun j _ hj => ?_⟩
 ·
  unfold Xny at hf
  rw [List.all_eq_false] at hf
  obtain ⟨x, hx, hxf⟩ := hf
  obtain ⟨j, hj, rfl⟩ := List.getElem_of_mem hx
  exact ⟨j, by omega, hj, by rw [Xci l j hj]; simpa using hxf⟩
 ·
  unfold Xny at ht
  rw [List.all_eq_true] at ht
  exact ht _ (by rw [Xci l j hj]; exact List.getElem_mem _)
theorem Yvl {now ref ref' : Pic} {l l' t t' x y : Int} {c : Xj9} {q : Xa1} (h : Yw2 now ref l t x y c q) (h' : Yw2 now ref' l' t' x y c q) (hq : Xrw q = true) (hL : Xma q c = true) (hK : c.Key = true) : Xcq now ref l t c x y q = Xcq now ref' l' t' c x y q := by
 have h2 : (q.Kind == 2) = true := by unfold Xma at hL; rw [hK] at hL; simpa using hL
 unfold Xcq
 rw [Xak, Xak, Xak, Xak, decide_eq_true h.hl, decide_eq_true h.ht, decide_eq_true h'.hl, decide_eq_true h'.ht, h2]
 simp only [Xax]
theorem Yvm {ref ref' : Pic} {le tp le' tp' : Int} {r : Xph} {c : Xj9} {l : List Xa1} (H : Yuy ref le tp r c l) (H' : Yuy ref' le' tp' r c l) (hK : c.Key = true) (ha : Xny l c = true) (s0 : Int × Int × ByteArray) (h0 : tbI r s0) :
  loop (Xbd r c l (le, tp, ref.Wide, ref.High, ref.Dots)) (0, s0) = loop (Xbd r c l (le', tp', ref'.Wide, ref'.High, ref'.Dots)) (0, s0) := by
 have hall : ∀ i, i < l.length → (Xrw (l.getD i Xbv) && Xma (l.getD i Xbv) c) = true := fun i hi => by
  unfold Xny at ha
  rw [List.all_eq_true] at ha
  exact ha _ (by rw [Xci l i hi]; exact List.getElem_mem _)
 refine Yqu l.length (fun _ s => tbI r s) ?_ ?_ h0
 ·
  intro i s hi hs
  rcases Nat.lt_or_ge i l.length with hlt | hge
  ·
   have hq := hall i hlt
   rw [Bool.and_eq_true] at hq
   obtain ⟨w, h, dt⟩ := s
   obtain ⟨ok, e1, e2⟩ := hs
   simp only at ok e1 e2
   subst e1; subst e2
   have hn := H.hn
   obtain ⟨p1, p2, p3, p4, p5, p6, p7, p8, p9, p10⟩ := Yke H.hw H.hh i (by omega)
   have hmem : l.getD i Xbv ∈ l := by rw [Xci l i hlt]; exact List.getElem_mem _
   have held : Xle (⟨r.Wide, r.High, dt⟩ : Pic) ((i : Int) % (r.Wide / 8) * 8) ((i : Int) / (r.Wide / 8) * 8) = true := by
    unfold Xle; rw [decide_eq_true_eq]; exact ⟨p7, p8, p9, p10⟩
   have SD : Yw2 (⟨r.Wide, r.High, dt⟩ : Pic) ref le tp ((i : Int) % (r.Wide / 8) * 8) ((i : Int) / (r.Wide / 8) * 8) c (l.getD i Xbv) :=
    ⟨ok, by rw [Xch p7]; omega, by rw [Xch p9]; omega, held, H.hl, H.ht, H.hc, H.hs _ hmem⟩
   have SD' : Yw2 (⟨r.Wide, r.High, dt⟩ : Pic) ref' le' tp' ((i : Int) % (r.Wide / 8) * 8) ((i : Int) / (r.Wide / 8) * 8) c (l.getD i Xbv) :=
    ⟨ok, by rw [Xch p7]; omega, by rw [Xch p9]; omega, held, H'.hl, H'.ht, H'.hc, H'.hs _ hmem⟩
   have l64 : l.length ≤ 64 := by
    have : r.Wide / 8 * (r.High / 8) ≤ 8 * 8 := Int.mul_le_mul (by omega) (by omega) (by omega) (by omega)
    omega
   unfold Xbd
   simp only [Int.toNat_natCast]
   refine Ypv (fun _ => Ylx fun _ => ?_) fun _ => rfl
   rw [Xbn (a := r.Wide) (by omega), wk (e := r.Wide / 8) (by omega) (by omega), Xch (a := (i : Int)) (by omega), Xbn (a := (i : Int)) (by omega), Int.mul_comm 8 ((i : Int) % (r.Wide / 8)), wk (e := (i : Int) / (r.Wide / 8)) (by omega) (by omega), Int.mul_comm 8 ((i : Int) / (r.Wide / 8)), wk (e := (i : Int) % (r.Wide / 8) * 8) (by omega) (by omega), wk (e := (i : Int) / (r.Wide / 8) * 8) (by omega) (by omega)]
   refine Ylx fun _ => Ylx fun _ => Ylx fun _ => Ylx fun _ => Yw9 ?_ fun _ _ => rfl
   exact Yvl SD SD' hq.1 hq.2 hK
  ·
   unfold Xbd
   rw [Xal (by simp only; omega), Xal (by simp only; omega)]
 ·
  intro i s v' hi hs he
  rcases Nat.lt_or_ge i l.length with hlt | hge
  ·
   obtain ⟨s', _, e2, hs'⟩ := (Yuk H' i hlt s hs).2 (hall i hlt)
   rw [e2] at he
   injection he with he
   injection he with he
   subst he
   exact ⟨rfl, by omega, hs'⟩
  ·
   unfold Xbd at he
   rw [Xal (by simp only; omega)] at he
   cases he
theorem Ykm (ref : Pic) (r : Xph) (c : Xj9) (cf : Bool) (l : List Xa1) (hll : l.length ≤ 1048576) (hs : ∀ q ∈ l, q.Levels.length ≤ 1048576) : ∃ x, Xjl ref r c cf l = some x ∧ Xj2 ref r c cf l = some x ∧ (x.2 = true → tbI r (x.1.Wide, x.1.High, x.1.Dots)) := by
 unfold Xjl Xj2
 rw [Xs4, Xad, Xrv, Xad]
 cases hw : Xp1 r.Wide with
 | false => exact ⟨_, rfl, rfl, fun h => by cases h⟩
 | true =>
  rw [Xax, Xax, Xs4, Xad, Xrv, Xad]
  cases hh : Xp1 r.High with
  | false => exact ⟨_, rfl, rfl, fun h => by cases h⟩
  | true =>
   rw [Xax, Xax, Xan, Xad, Xak, Xad]
   by_cases hL : 0 ≤ r.Left ∧ r.Left ≤ 256
   ·
    rw [decide_eq_true hL, Xax, Xax, Xan, Xad, Xak, Xad]
    by_cases hT : 0 ≤ r.Top ∧ r.Top ≤ 256
    ·
     rw [decide_eq_true hT, Xax, Xax, Xdv, Xad, Ymj l c hll, Xad]
     cases hc : Xjb c with
     | false => exact ⟨_, rfl, rfl, fun h => by cases h⟩
     | true =>
      have sw := Xkw hw
      have sh := Xkw hh
      have mb : r.Wide / 8 * (r.High / 8) ≤ 8 * 8 := Int.mul_le_mul (by omega) (by omega) (by omega) (by omega)
      have m0 : 1 * 1 ≤ r.Wide / 8 * (r.High / 8) := Int.mul_le_mul (by omega) (by omega) (by omega) (by omega)
      rw [Xax, Xai (by omega), Xai (by omega), Bool.true_and, Xbn (a := r.Wide) (by omega), Xbn (a := r.High) (by omega), wk (e := r.Wide / 8) (by omega) (by omega), wk (e := r.High / 8) (by omega) (by omega), wk (e := r.Wide / 8 * (r.High / 8)) (by omega) (by omega)]
      by_cases hn : (l.length : Int) = r.Wide / 8 * (r.High / 8)
      ·
       have hne : ((l.length : Int) != r.Wide / 8 * (r.High / 8)) = false := by simpa using hn
       rw [decide_eq_true (show 1 ≤ l.length ∧ l.length ≤ 64 by omega), Bool.true_and, hne]
       -- the picture before
       have ha : (sel c.Key (some false) (bnd (Xdh ref) fun q8 => sel q8 (bnd (Xdw ref r) fun q9 => some (!q9)) (some true))) = some (!c.Key && !(Xcc ref && Xlf ref r)) := by
        cases c.Key with
        | true => rfl
        | false =>
         rw [Xaw, Xck, Xad]
         cases hp : Xcc ref with
         | false => rfl
         | true => rw [Xax, Xpq hp, Xad]; rfl
       have hb : (sel c.Key (some false) (bnd (Xb6 ref r.Left r.Top r.Wide r.High) fun q8 => some (!q8))) = some (!c.Key && !(Xcc ref && Xlf ref r)) := by
        cases c.Key with
        | true => rfl
        | false => rw [Xaw, Xk1, Xad]; rfl
       have G := Yxi hw hh
       have gI := Xze r.Wide r.High (by omega) (by omega)
       have gS := Xzp r.Wide r.High (by omega) (by omega)
       rw [ha, hb, gI, gS]
       simp only [Xad, Xaw]
       cases hbad : (!c.Key && !(Xcc ref && Xlf ref r)) with
       | true => cases Xny l c <;> exact ⟨_, rfl, rfl, fun h => by cases h⟩
       | false =>
        have hr : c.Key = false → Xcc ref = true ∧ Xlf ref r = true := by
         intro hk
         rw [hk] at hbad
         simp only [Bool.not_false, Bool.true_and, Bool.not_eq_false'] at hbad
         rwa [Bool.and_eq_true] at hbad
        have vI : ∃ (rI : Pic) (lI tI : Int), (sel cf (sel (!c.Key) (bnd (Xmt ref r) fun q11 => some ((0 : Int), (0 : Int), q11.1.Wide, q11.1.High, q11.1.Dots)) (some (0, 0, ref.Wide, ref.High, ref.Dots))) (some (r.Left, r.Top, ref.Wide, ref.High, ref.Dots))) = some (lI, tI, rI.Wide, rI.High, rI.Dots) ∧ Yuy rI lI tI r c l ∧
          ∃ (rS : Pic) (lS tS : Int), (bnd (sel c.Key (some false) (some cf)) fun v10 => sel v10 (bnd (Xmv ref r) fun q11 => some ((0 : Int), (0 : Int), q11.1.Wide, q11.1.High, q11.1.Dots)) (some (r.Left, r.Top, ref.Wide, ref.High, ref.Dots))) = some (lS, tS, rS.Wide, rS.High, rS.Dots) ∧ Yuy rS lS tS r c l ∧ (c.Key = false → rI = rS ∧ lI = lS ∧ tI = tS) := by
         cases hK : c.Key with
         | true =>
          have TT : ∀ le tp : Int, (0 ≤ le ∧ le ≤ 256) → (0 ≤ tp ∧ tp ≤ 256) → Yuy ref le tp r c l := fun le tp h1 h2 => ⟨hw, hh, h1, h2, hc, hn, hs, fun h => by rw [hK] at h; cases h⟩
          cases cf with
          | true => exact ⟨ref, 0, 0, rfl, TT 0 0 (by omega) (by omega), ref, r.Left, r.Top, rfl, TT _ _ hL hT, fun h => by cases h⟩
          | false => exact ⟨ref, r.Left, r.Top, rfl, TT _ _ hL hT, ref, r.Left, r.Top, rfl, TT _ _ hL hT, fun h => by cases h⟩
         | false =>
          obtain ⟨hp, ho⟩ := hr hK
          cases cf with
          | true =>
           rw [Xax, Bool.not_false, Xax, Yk2 hp ho, Xad, Xaw, Xad, Xax, Ymc hp ho, Xad]
           have TT : Yuy (Yyb ref r) 0 0 r c l := ⟨hw, hh, by omega, by omega, hc, hn, hs, fun _ => Yxf hp ho⟩
           exact ⟨Yyb ref r, 0, 0, rfl, TT, Yyb ref r, 0, 0, rfl, TT, fun _ => ⟨rfl, rfl, rfl⟩⟩
          | false =>
           have TT : Yuy ref r.Left r.Top r c l := ⟨hw, hh, hL, hT, hc, hn, hs, fun _ => hp⟩
           exact ⟨ref, r.Left, r.Top, rfl, TT, ref, r.Left, r.Top, rfl, TT, fun _ => ⟨rfl, rfl, rfl⟩⟩
        obtain ⟨rI, lI, tI, eI, HI, rS, lS, tS, eS, HS, hk⟩ := vI
        rw [Xaw, eI, eS]
        simp only [Xad, Xaw]
        obtain ⟨n1, n2⟩ := Yv7 HI _ G
        cases hall : Xny l c with
        | false =>
         rw [n1 hall, Xad]
         exact ⟨_, rfl, rfl, fun h => by cases h⟩
        | true =>
         obtain ⟨s, e1, e2, e3⟩ := n2 hall
         have e4 : loop (Xbd r c l (lS, tS, rS.Wide, rS.High, rS.Dots)) (0, r.Wide, r.High, strOfNums (List.replicate (r.Wide * r.High).toNat 128)) = some s := by
          cases hK : c.Key with
          | true => rw [Yvm HS HI hK hall _ G]; exact e2
          | false =>
           obtain ⟨q1, q2, q3⟩ := hk hK
           subst q1; subst q2; subst q3
           exact e2
         rw [e1, Xad, Xax, Xad, Xaw, e4, Xad]
         exact ⟨_, rfl, rfl, fun _ => e3⟩
      ·
       have hne : ((l.length : Int) != r.Wide / 8 * (r.High / 8)) = true := by simpa using hn
       rw [hne, Xad, Xax]
       refine ⟨_, rfl, ?_, fun h => by cases h⟩
       cases (decide (1 ≤ l.length ∧ l.length ≤ 64) && Xny l c) <;> rfl
    ·
     rw [decide_eq_false hT]; exact ⟨_, rfl, rfl, fun h => by cases h⟩
   ·
    rw [decide_eq_false hL]; exact ⟨_, rfl, rfl, fun h => by cases h⟩
theorem Yfa (s : ByteArray) (k : Nat) (hk : k < s.size) : (Xav s).getD k 0 = Xb7 s k := by
 have := Ym4 (Xav s) (by intro x hx; obtain ⟨b, _, rfl⟩ := List.mem_map.1 hx; have := b.toNat_lt; omega) k (by rw [Xa2]; exact hk)
 rw [Xpf] at this
 exact this.symm
theorem Yxj {w h : Int} (hw : 1 ≤ w ∧ w ≤ 256) (hh : 1 ≤ h ∧ h ≤ 256) : Xcc ⟨w, h, strOfNums (List.replicate (w * h).toNat 128)⟩ = true := by
 have ar := Xdz hw hh
 refine Xv0 hw hh ?_
 simp only
 rw [strOfNums_size, List.length_replicate]; omega
theorem Yyp (a b : List Int) (i : Nat) : (a ++ b).getD (a.length + i) 0 = b.getD i 0 := by
 rw [List.getD_eq_getElem?_getD, List.getD_eq_getElem?_getD, List.getElem?_append_right (by omega)]
 congr 2; omega
theorem Yyo (a b : List Int) (i : Nat) (hi : i < a.length) : (a ++ b).getD i 0 = a.getD i 0 := by
 rw [List.getD_eq_getElem?_getD, List.getD_eq_getElem?_getD, List.getElem?_append_left hi]
theorem Yyx (v x : Int) (h0 : 0 ≤ v) (h1 : v ≤ 1000000000000000000) (hx : x = 0 ∨ x = 1) : IntKind.wrap .i64 (BitVec.ofInt (IntKind.bits .i64) (v * 2) ||| BitVec.ofInt (IntKind.bits .i64) x).toNat = v * 2 + x := by
 obtain ⟨a, rfl⟩ : ∃ a : Nat, v = a := ⟨v.toNat, by omega⟩
 obtain ⟨b, rfl⟩ : ∃ b : Nat, x = b := ⟨x.toNat, by omega⟩
 have h : (BitVec.ofInt 64 ((a : Int) * 2) ||| BitVec.ofInt 64 (b : Int)).toNat = a * 2 + b := by
  rw [BitVec.toNat_or, BitVec.toNat_ofInt, BitVec.toNat_ofInt]
  have e1 : (((a : Int) * 2) % ((2 ^ 64 : Nat) : Int)).toNat = a * 2 := by omega
  have e2 : ((b : Int) % ((2 ^ 64 : Nat) : Int)).toNat = b := by omega
  rw [e1, e2]
  have := Nat.two_pow_add_eq_or_of_lt (i := 1) (b := b) (by omega) a
  rw [show 2 ^ 1 * a = a * 2 by omega] at this
  exact this.symm
 show IntKind.wrap .i64 ((BitVec.ofInt 64 ((a : Int) * 2) ||| BitVec.ofInt 64 (b : Int)).toNat : Int) = _
 rw [h, ← Xw4, wk (by omega) (by omega)]
 omega
theorem Xv1 {i : Nat} (h : i ≤ 40) : (2 : Int) ^ i ≤ 1099511627776 := by
 have h2 : (2 : Nat) ^ i ≤ 1099511627776 := Nat.pow_le_pow_right (n := 2) (by omega) h
 have := Int.ofNat_le.2 h2
 rw [Int.natCast_pow] at this
 exact this
theorem Ypu {L a f b : List Int} (hL : L = a ++ (f ++ b)) (hb : Xoe L) (hl : L.length ≤ 400000) (hf : f.length ≤ 41) : Xa4 ⟨strOfNums L, (a.length : Int), false⟩ (f.length : Int) = some (Xof f, ⟨strOfNums L, ((a.length + f.length : Nat) : Int), false⟩) := by
 have hLl : L.length = a.length + (f.length + b.length) := by rw [hL]; simp only [List.length_append]
 have hfb : Xoe f := fun x hx => hb x (by rw [hL]; simp [hx])
 unfold Xa4
 simp only
 rw [Xaw, strOfNums_size, wk (by omega) (by omega), Xad, Xal (by omega)]
 have key : ∀ i : Nat, i ≤ f.length → loop (Xf0 ⟨strOfNums L, (a.length : Int), false⟩ (f.length : Int)) (Xof (f.take i), (i : Int)) = some (Xof f) := by
  refine Xdk _ ?_ ?_
  ·
   refine Xb1 ?_
   unfold Xf0
   simp only
   rw [Xal (by omega), List.take_length]
  ·
   intro i hi ih
   refine lgo ?_ ih
   have hx : L.getD (a.length + i) 0 = f.getD i 0 := by rw [hL, Yyp, Yyo _ _ _ hi]
   have hbt : Xb7 (strOfNums L) ((a.length : Int) + i) = f.getD i 0 := by
    rw [show (a.length : Int) + i = ((a.length + i : Nat) : Int) by omega, Ym4 L (Xqz hb) _ (by omega), hx]
   have h2 : f.getD i 0 = 48 ∨ f.getD i 0 = 49 := hfb _ (by rw [Xci f i hi]; exact List.getElem_mem hi)
   have ht : Xoe (f.take i) := fun x hx => hfb x (List.mem_of_mem_take hx)
   have hr := Xpg ht
   have hp : (2 : Int) ^ (f.take i).length ≤ 1099511627776 := Xv1 (by rw [List.length_take]; omega)
   have hv : Xof (f.take (i + 1)) = Xof (f.take i) * 2 + (f.getD i 0 - 48) := by
    rw [List.take_add_one, Yp3, Xci f i hi, List.getElem?_eq_getElem hi]
    simp [Xof]
   unfold Xf0
   simp only
   rw [Xaj (by omega), Xai (by omega), wk (e := (a.length : Int) + i) (by omega) (by omega), Xai (by rw [strOfNums_size]; omega), hbt, w8 (by omega) (by omega), wk (e := f.getD i 0 - 48) (by omega) (by omega), show (2 : Int) ^ min (1 : Int).toNat (IntKind.bits .i64) = 2 from rfl, wk (e := Xof (f.take i) * 2) (by omega) (by omega), Yyx _ _ (by omega) (by omega) (by omega), wk (by omega) (by omega), hv]
   rfl
 have := key 0 (by omega)
 rw [List.take_zero] at this
 refine (Xeu this).trans ?_
 rw [wk (by omega) (by omega)]
 rfl
def Yz3 (t : Nat → Int) : Nat → Int
 | 0 => 0
 | k + 1 => Yz3 t k + t k
def eT (f : Nat → Int) (u : Nat) : Int := Yz3 (fun k => Xic (u : Int) (k : Int) * f k) 8
def eS (X : Nat → Nat → Int) (u v : Nat) : Int := eT (fun i => eT (X i) v) u
theorem Ysg {L : List Int} {i w : Nat} (h : i + w ≤ L.length) : L = L.take i ++ ((L.drop i).take w ++ L.drop (i + w)) ∧ (L.take i).length = i ∧ ((L.drop i).take w).length = w := by
 refine ⟨?_, by rw [List.length_take]; omega, by rw [List.length_take, List.length_drop]; omega⟩
 rw [← List.drop_drop, List.take_append_drop, List.take_append_drop]
theorem Yem {L : List Int} (hb : Xoe L) (hl : L.length ≤ 400000) {i w : Nat} (h : i + w ≤ L.length) (hw : w ≤ 41) : Xa4 ⟨strOfNums L, (i : Int), false⟩ (w : Int) = some (Xof ((L.drop i).take w), ⟨strOfNums L, ((i + w : Nat) : Int), false⟩) := by
 obtain ⟨h1, h2, h3⟩ := Ysg h
 have := Ypu h1 hb hl (by omega)
 rw [h2, h3] at this
 exact this
theorem Xzb {L : List Int} (hb : Xoe L) {i : Nat} (h : i < L.length) : Xb7 (strOfNums L) (i : Int) = L.getD i 0 ∧ (L.getD i 0 = 48 ∨ L.getD i 0 = 49) := ⟨Ym4 L (Xqz hb) i h, hb _ (by rw [Xci L i h]; exact List.getElem_mem h)⟩
theorem Xp6 {L : List Int} {i k : Nat} (h : i + k < L.length) : Xof ((L.drop i).take (k + 1)) = 2 * Xof ((L.drop i).take k) + L.getD (i + k) 0 - 48 := by
 rw [List.take_add_one, Yp3, List.getElem?_eq_getElem (by rw [List.length_drop]; omega), List.getElem_drop, Xci L _ h]
 simp [Xof]
 omega
theorem Xug {L : List Int} (hb : Xoe L) (hl : L.length ≤ 400000) {i w : Nat} (hi : i ≤ L.length) (hw : w ≤ 41) : Xb3 (strOfNums L) (i : Int) (w : Int) = some (if i + w ≤ L.length then (Xof ((L.drop i).take w), ((i + w : Nat) : Int), true) else (0, 0, false)) := by
 unfold Xb3
 rw [strOfNums_size, wk (e := (L.length : Int) - i) (by omega) (by omega)]
 by_cases h : i + w ≤ L.length
 ·
  rw [Xal (by omega), if_pos h]
  have key : ∀ k : Nat, k ≤ w → loop (Xg1 (strOfNums L) (i : Int) (w : Int)) (Xof ((L.drop i).take k), ((i + k : Nat) : Int)) = some (Xof ((L.drop i).take w)) := by
   refine Xdk _ ?_ ?_
   ·
    refine Xb1 ?_
    unfold Xg1
    simp only
    rw [Xal (by rw [wk (by omega) (by omega)]; omega)]
   ·
    intro k hk ih
    refine lgo ?_ ih
    obtain ⟨b1, b2⟩ := Xzb hb (i := i + k) (by omega)
    have hr := Xpg (l := (L.drop i).take k) (fun x hx => hb x (List.mem_of_mem_drop (List.mem_of_mem_take hx)))
    have hp : (2 : Int) ^ ((L.drop i).take k).length ≤ 1099511627776 := Xv1 (by rw [List.length_take]; omega)
    have hv := Xp6 (L := L) (i := i) (k := k) (by omega)
    unfold Xg1
    simp only
    rw [Xaj (by rw [wk (by omega) (by omega)]; omega), Xai (by rw [strOfNums_size]; omega), b1, wk (e := 2 * Xof ((L.drop i).take k)) (by omega) (by omega), wk (e := L.getD (i + k) 0) (by omega) (by omega), wk (e := 2 * Xof ((L.drop i).take k) + L.getD (i + k) 0) (by omega) (by omega), wk (e := 2 * Xof ((L.drop i).take k) + L.getD (i + k) 0 - 48) (by omega) (by omega), wk (e := ((i + k : Nat) : Int) + 1) (by omega) (by omega), ← hv]
    rfl
  have := key 0 (by omega)
  refine (Xeu this).trans ?_
  rw [wk (by omega) (by omega)]
  rfl
 ·
  rw [Xaj (by omega), if_neg h]
theorem Yrh {L : List Int} (hb : Xoe L) : ∀ n i : Nat, i + n = L.length → ∃ z : Nat, i + z ≤ L.length ∧ (∀ k, k < z → L.getD (i + k) 0 = 48) ∧ (i + z < L.length → L.getD (i + z) 0 = 49)
 | 0, i, h => ⟨0, by omega, fun k hk => by omega, fun h2 => by omega⟩
 | n + 1, i, h => by
  rcases (Xzb hb (i := i) (by omega)).2 with e | e
  ·
   obtain ⟨z, h1, h2, h3⟩ := Yrh hb n (i + 1) (by omega)
   refine ⟨z + 1, by omega, fun k hk => ?_, fun hz => ?_⟩
   ·
    cases k with
    | zero => exact e
    | succ k => have := h2 k (by omega); rwa [show i + 1 + k = i + (k + 1) by omega] at this
   ·
    have := h3 (by omega)
    rwa [show i + 1 + z = i + (z + 1) by omega] at this
  ·
   exact ⟨0, by omega, fun k hk => by omega, fun _ => e⟩
theorem Yoy {L : List Int} {i : Nat} : ∀ z : Nat, i + z ≤ L.length → (∀ k, k < z → L.getD (i + k) 0 = 48) → Xof ((L.drop i).take z) = 0
 | 0, _, _ => rfl
 | z + 1, h, hz => by rw [Xp6 (by omega), Yoy z (by omega) (fun k hk => hz k (by omega)), hz z (by omega)]; rfl
theorem Yox {L : List Int} {i z w : Nat} (h : i + z + w ≤ L.length) (hz : ∀ k, k < z → L.getD (i + k) 0 = 48) : Xof ((L.drop i).take (z + w)) = Xof ((L.drop (i + z)).take w) := by
 induction w with
 | zero => rw [Nat.add_zero, Yoy z (by omega) hz]; rfl
 | succ w ih =>
  rw [← Nat.add_assoc, Xp6 (by omega), Xp6 (by omega), ih (by omega)]
  rw [Nat.add_assoc]
theorem Yuo {L : List Int} (hb : Xoe L) {i w : Nat} (h : i + (w + 1) ≤ L.length) (h1 : L.getD i 0 = 49) : (2 : Int) ^ w ≤ Xof ((L.drop i).take (w + 1)) := by
 induction w with
 | zero => rw [Xp6 (by omega)]; simp only [Nat.add_zero]; rw [h1, show Xof ((L.drop i).take 0) = 0 from rfl]; decide
 | succ w ih =>
  have := ih (by omega)
  have := (Xzb hb (i := i + (w + 1)) (by omega)).2
  rw [Xp6 (by omega), Int.pow_succ]
  omega
theorem Yoe (z : Nat) (h : z ≤ 21) : 0 ≤ Xaa .u64 (z : Int) ∧ Xaa .i64 (1 * 2 ^ min (Xaa .u64 (z : Int)).toNat (IntKind.bits .i64)) = (2 : Int) ^ z := by
 have all : ∀ q : Fin 22, (0 ≤ Xaa .u64 (q.val : Int) ∧ Xaa .i64 (1 * 2 ^ min (Xaa .u64 (q.val : Int)).toNat (IntKind.bits .i64)) = (2 : Int) ^ q.val) := by decide +kernel
 exact all ⟨z, by omega⟩
theorem Yrf (s : ByteArray) (a : Int) : Xbl ⟨s, a, true⟩ = some (0, ⟨s, a, true⟩) := by
 have h : Xd6 ⟨s, a, true⟩ 0 = some (.done 0) := rfl
 unfold Xbl
 rw [Xco h, Xad]
 rfl
theorem Xp5 {L : List Int} (hb : Xoe L) (hl : L.length ≤ 400000) (i : Nat) (hi : i ≤ L.length) :
  (∃ v j : Nat, Xbb (strOfNums L) (i : Int) = some ((v : Int), (j : Int), true) ∧ Xbl ⟨strOfNums L, (i : Int), false⟩ = some ((v : Int), ⟨strOfNums L, (j : Int), false⟩) ∧ v ≤ 1000000 ∧ i < j ∧ j ≤ L.length) ∨ (Xbb (strOfNums L) (i : Int) = some (0, 0, false) ∧ ∃ a : Int, Xbl ⟨strOfNums L, (i : Int), false⟩ = some (0, ⟨strOfNums L, a, true⟩)) := by
 obtain ⟨z, h1, h2, h3⟩ := Yrh hb (L.length - i) i (by omega)
 have lI : loop (Xd6 ⟨strOfNums L, (i : Int), false⟩) 0 = some (z : Int) := by
  have key : ∀ k : Nat, k ≤ z → loop (Xd6 ⟨strOfNums L, (i : Int), false⟩) (k : Int) = some (z : Int) := by
   refine Xdk _ ?_ ?_
   ·
    refine Xb1 ?_
    unfold Xd6
    simp only
    rw [Xaw, wk (e := (i : Int) + (z : Int)) (by omega) (by omega), strOfNums_size]
    by_cases hlt : i + z < L.length
    ·
     rw [Xaj (by omega), Xai (by omega), show (i : Int) + (z : Int) = ((i + z : Nat) : Int) by omega, (Xzb hb hlt).1, h3 hlt, Xad]; rfl
    ·
     rw [Xal (by omega), Xad, Xaw]
   ·
    intro k hk ih
    refine lgo ?_ ih
    unfold Xd6
    simp only
    rw [Xaw, wk (e := (i : Int) + (k : Int)) (by omega) (by omega), strOfNums_size, Xaj (by omega), Xai (by omega), show (i : Int) + (k : Int) = ((i + k : Nat) : Int) by omega, (Xzb hb (by omega)).1, h2 k hk, Xad, wk (by omega) (by omega)]
    rfl
  exact key 0 (by omega)
 have lS : ∀ m : Nat, m = min z 21 → loop (Xd3 (strOfNums L) (i : Int)) 0 = some (m : Int) := by
  intro m hm
  have key : ∀ k : Nat, k ≤ m → loop (Xd3 (strOfNums L) (i : Int)) (k : Int) = some (m : Int) := by
   refine Xdk _ ?_ ?_
   ·
    refine Xb1 ?_
    unfold Xd3
    rw [wk (e := (i : Int) + (m : Int)) (by omega) (by omega), strOfNums_size]
    by_cases hlt : i + m < L.length
    ·
     rw [Xaj (by omega), Xai (by omega), show (i : Int) + (m : Int) = ((i + m : Nat) : Int) by omega, (Xzb hb hlt).1]
     by_cases hz : z ≤ 21
     ·
      have : m = z := by omega
      subst this
      rw [h3 hlt, Xa9 (by rfl), Xad, Xaw]
     ·
      have : m = 21 := by omega
      subst this
      rw [h2 21 (by omega), Xbh (by rfl), decide_eq_false (by omega), Xad, Xaw]
    ·
     rw [Xal (by omega), Xad, Xaw]
   ·
    intro k hk ih
    refine lgo ?_ ih
    unfold Xd3
    rw [wk (e := (i : Int) + (k : Int)) (by omega) (by omega), strOfNums_size, Xaj (by omega), Xai (by omega), show (i : Int) + (k : Int) = ((i + k : Nat) : Int) by omega, (Xzb hb (by omega)).1, h2 k (by omega), Xbh (by rfl), decide_eq_true (by omega), Xad, Xax, wk (by omega) (by omega)]
    rfl
  exact key 0 (by omega)
 unfold Xbb Xbl
 rw [lI, Xad, lS _ rfl, Xad]
 simp only
 by_cases hz : z ≤ 20
 ·
  rw [show min z 21 = z by omega, Xal (by omega), Xad, wk (e := 2 * (z : Int)) (by omega) (by omega), wk (e := 2 * (z : Int) + 1) (by omega) (by omega), wk (e := (i : Int) + (z : Int)) (by omega) (by omega), wk (e := (z : Int) + 1) (by omega) (by omega), show (i : Int) + (z : Int) = ((i + z : Nat) : Int) by omega, show (z : Int) + 1 = ((z + 1 : Nat) : Int) by omega, show 2 * (z : Int) + 1 = ((z + (z + 1) : Nat) : Int) by omega, Xug hb hl h1 (by omega), Xad]
  obtain ⟨p1, p2⟩ := Yoe z (by omega)
  by_cases hfit : i + z + (z + 1) ≤ L.length
  ·
   rw [if_pos hfit, Yem hb hl (by omega) (by omega), Xad, Yox (by omega) h2]
   simp only
   have hge := Yuo hb (i := i + z) (w := z) (by omega) (h3 (by omega))
   have hpp : (1 : Int) ≤ 2 ^ z := Int.pow_pos (by omega)
   have hr := Xpg (l := (L.drop (i + z)).take (z + 1)) (fun x hx => hb x (List.mem_of_mem_drop (List.mem_of_mem_take hx)))
   have hp : (2 : Int) ^ ((L.drop (i + z)).take (z + 1)).length ≤ 1099511627776 := Xv1 (by rw [List.length_take]; omega)
   generalize hq : Xof ((L.drop (i + z)).take (z + 1)) = q at *
   rw [Xax, Xai p1, p2, Xal (by omega), wk (e := q - 1) (by omega) (by omega), Xad, Xaw, Xad]
   by_cases hbig : q - 1 > 1000000
   ·
    rw [Xaj hbig, Xaj hbig]
    exact .inr ⟨rfl, _, rfl⟩
   ·
    rw [Xal hbig, Xal hbig]
    exact .inl ⟨(q - 1).toNat, i + z + (z + 1), by rw [show (((q - 1).toNat : Nat) : Int) = q - 1 by omega], by rw [show (((q - 1).toNat : Nat) : Int) = q - 1 by omega, show i + (z + (z + 1)) = i + z + (z + 1) by omega], by omega, by omega, by omega⟩
  ·
   rw [if_neg hfit]
   simp only
   rw [Xaw, Xad, Xax]
   refine .inr ⟨rfl, (i : Int), ?_⟩
   have : Xa4 ⟨strOfNums L, (i : Int), false⟩ ((z + (z + 1) : Nat) : Int) = some (0, ⟨strOfNums L, (i : Int), true⟩) := by
    unfold Xa4
    simp only
    rw [Xaw, strOfNums_size, wk (by omega) (by omega), Xad, Xaj (by omega)]
   rw [this, Xad]
   rfl
 ·
  have hm : min z 21 = 21 := by omega
  rw [hm, Xaj (by omega), Xad]
  refine .inr ⟨?_, (i : Int), ?_⟩
  ·
   rw [wk (e := (i : Int) + ((21 : Nat) : Int)) (by omega) (by omega), wk (e := ((21 : Nat) : Int) + 1) (by omega) (by omega), show (i : Int) + ((21 : Nat) : Int) = ((i + 21 : Nat) : Int) by omega, show ((21 : Nat) : Int) + 1 = ((22 : Nat) : Int) by omega, Xug hb hl (by omega) (by omega), Xad]
   obtain ⟨p1, p2⟩ := Yoe 21 (by omega)
   by_cases hfit : i + 21 + 22 ≤ L.length
   ·
    rw [if_pos hfit]
    simp only
    rw [Xax, Xai p1, p2]
    by_cases h21 : z = 21
    ·
     subst h21
     have hge : (2 : Int) ^ 21 ≤ Xof ((L.drop (i + 21)).take 22) := Yuo hb (i := i + 21) (w := 21) (by omega) (h3 (by omega))
     have hr := Xpg (l := (L.drop (i + 21)).take 22) (fun x hx => hb x (List.mem_of_mem_drop (List.mem_of_mem_take hx)))
     have hp : (2 : Int) ^ ((L.drop (i + 21)).take 22).length ≤ 1099511627776 := Xv1 (by rw [List.length_take]; omega)
     have e21 : (2 : Int) ^ 21 = 2097152 := by decide
     rw [e21] at hge ⊢
     rw [Xal (by omega), wk (by omega) (by omega), decide_eq_true (by omega), Xad, Xax]
    ·
     have hlt : Xof ((L.drop (i + 21)).take 22) < 2 ^ 21 := by
      have a := Yox (L := L) (i := i + 21) (z := 1) (w := 21) (by omega) (fun k hk => by
       have : k = 0 := by omega
       subst this
       exact h2 21 (by omega))
      rw [show (1 + 21 : Nat) = 22 from rfl] at a
      have hr := Xpg (l := (L.drop (i + 21 + 1)).take 21) (fun x hx => hb x (List.mem_of_mem_drop (List.mem_of_mem_take hx)))
      rw [a]
      have : ((L.drop (i + 21 + 1)).take 21).length = 21 := by rw [List.length_take, List.length_drop]; omega
      rw [this] at hr
      exact hr.2
     rw [Xaj hlt, Xad, Xax]
   ·
    rw [if_neg hfit]
    simp only
    rw [Xaw, Xad, Xax]
  ·
   have : ∀ w : Int, Xa4 ⟨strOfNums L, (i : Int), true⟩ w = some (0, ⟨strOfNums L, (i : Int), true⟩) := fun w => rfl
   rw [this, Xad]
   rfl
theorem Ytv (v : Nat) (hv : v ≤ 1000000) : ∃ n : Int, Xm1 (v : Int) = some (n, true) ∧ Xnc (v : Int) = some (n, true) ∧ -500000 ≤ n ∧ n ≤ 500000 := by
 unfold Xm1 Xnc
 rw [Xan, Xad, Xak, Xad, decide_eq_true (by omega), Bool.not_true, Xaw, Xaw, Xai (by omega), Xai (by omega), Xch (by omega)]
 by_cases h : (v : Int) % 2 = 1
 ·
  rw [Xbh (by rw [beq_iff_eq]; exact h), Xbh (by rw [beq_iff_eq]; exact h), Xai (by omega), wk (e := (v : Int) + 1) (by omega) (by omega), Xbn (by omega), wk (by omega) (by omega)]
  exact ⟨_, rfl, rfl, by omega, by omega⟩
 ·
  rw [Xa9 (by rw [beq_eq_false_iff_ne]; exact h), Xa9 (by rw [beq_eq_false_iff_ne]; exact h), Xai (by omega), Xai (by omega), wk (e := 0 - (v : Int)) (by omega) (by omega)]
  have e1 : (0 - (v : Int)).tdiv 2 = -((v : Int) / 2) := by
   rw [show (0 - (v : Int)) = (-((v : Int) / 2)) * 2 by omega]
   exact Int.mul_tdiv_cancel _ (by omega)
  rw [e1, Xbn (a := (v : Int)) (by omega), wk (e := (v : Int) / 2) (by omega) (by omega), wk (e := 0 - (v : Int) / 2) (by omega) (by omega), wk (e := -((v : Int) / 2)) (by omega) (by omega), show 0 - (v : Int) / 2 = -((v : Int) / 2) by omega]
  exact ⟨_, rfl, rfl, by omega, by omega⟩
theorem Yq7 (s : ByteArray) (a : Int) : Xb2 ⟨s, a, true⟩ = some (0, ⟨s, a, true⟩) := by
 unfold Xb2
 rw [Yrf, Xad]
 rfl
theorem Yfm {L : List Int} (hb : Xoe L) (hl : L.length ≤ 400000) (i : Nat) (hi : i ≤ L.length) :
  (∃ (n : Int) (j : Nat), Xby (strOfNums L) (i : Int) = some (n, (j : Int), true) ∧ Xb2 ⟨strOfNums L, (i : Int), false⟩ = some (n, ⟨strOfNums L, (j : Int), false⟩) ∧ (-500000 ≤ n ∧ n ≤ 500000) ∧ i < j ∧ j ≤ L.length) ∨ (Xby (strOfNums L) (i : Int) = some (0, 0, false) ∧ ∃ a : Int, Xb2 ⟨strOfNums L, (i : Int), false⟩ = some (0, ⟨strOfNums L, a, true⟩)) := by
 unfold Xby Xb2
 rcases Xp5 hb hl i hi with ⟨v, j, e1, e2, h1, h2, h3⟩ | ⟨e1, a, e2⟩
 ·
  obtain ⟨n, o1, o2, o3, o4⟩ := Ytv v h1
  refine .inl ⟨n, j, ?_, ?_, ⟨o3, o4⟩, h2, h3⟩
  ·
   rw [e1, Xad]
   simp only
   rw [Bool.not_true, Xaw, o2, Xad]
  ·
   rw [e2, Xad]
   simp only
   rw [o1, Xad]
   rfl
 ·
  refine .inr ⟨?_, a, ?_⟩
  ·
   rw [e1, Xad]; rfl
  ·
   rw [e2, Xad]; rfl
def Yso (L : List Int) (N n pos : Nat) : Prop := pos ≤ N → N ≤ pos + n → ∀ (i : Nat) (l : List Int) (rem : Nat), i ≤ L.length → l.length = N → rem ≤ 1000000 →
  (∃ (j : Nat) (l' : List Int), (∀ (k : Nat) (q1 : Int × Int × Bool), q1.1 = ((k + rem : Nat) : Int) → k + rem ≤ 1000000 → loop (Xb5 (strOfNums L) (N : Int) q1) ((i : Int), (pos : Int), (k : Int), l) = some (.out ((j : Int), l'))) ∧ loop (Xbg (N : Int)) ((pos : Int), (rem : Int), strOfNums L, (i : Int), false, l) = some (l', strOfNums L, (j : Int), false) ∧ l'.length = N ∧ j ≤ L.length ∧ rem ≤ N - pos) ∨
  ((∀ (k : Nat) (q1 : Int × Int × Bool), q1.1 = ((k + rem : Nat) : Int) → k + rem ≤ 1000000 → loop (Xb5 (strOfNums L) (N : Int) q1) ((i : Int), (pos : Int), (k : Int), l) = some (.ret ([], 0, false))) ∧ ∃ (l' : List Int) (a : Int), loop (Xbg (N : Int)) ((pos : Int), (rem : Int), strOfNums L, (i : Int), false, l) = some (l', strOfNums L, a, true) ∧ l'.length = N)
theorem Yok {L : List Int} (hb : Xoe L) (hl : L.length ≤ 400000) (N : Nat) (hN : N ≤ 64) (n : Nat) (ih : ∀ n', n' + 1 = n → ∀ pos, Yso L N n' pos) (pos : Nat) : Yso L N n pos := by
 intro hp hn i l rem hi hll hrem
 cases rem with
 | zero =>
  refine .inl ⟨i, l, fun k q1 hq hk => Xb1 ?_, Xb1 ?_, hll, hi, by omega⟩
  ·
   unfold Xb5
   simp only
   rw [Xal (by omega)]
  ·
   unfold Xbg
   simp only
   rw [Xal (by omega), Xad, Xaw]
 | succ r =>
  have sI : Xbg (N : Int) ((pos : Int), ((r + 1 : Nat) : Int), strOfNums L, (i : Int), false, l) = bnd (Xbl ⟨strOfNums L, (i : Int), false⟩) fun q17 => bnd (Xb2 q17.2) fun q18 => bnd (sel (decide ((Xaa .i64 ((pos : Int) + q17.1)) ≥ (N : Int))) (some true) (sel (q18.1 == 0) (some true) (bnd (Xat q18.1 (-5000) 5000) fun q20 => some (!q20)))) fun v19 => sel v19 (some (.done (l, q18.2.row_, q18.2.at_, true))) (req (0 ≤ (Xaa .i64 ((pos : Int) + q17.1)) ∧ (Xaa .i64 ((pos : Int) + q17.1)) < l.length) <| req ((Xaa .i64 ((pos : Int) + q17.1)).toNat < l.length) <| some (.go (Xaa .i64 ((Xaa .i64 ((pos : Int) + q17.1)) + 1), Xaa .i64 (((r + 1 : Nat) : Int) - 1), q18.2.row_, q18.2.at_, q18.2.bad_, (l.set ((Xaa .i64 ((pos : Int) + q17.1)).toNat) q18.1)))) := by
   unfold Xbg
   simp only
   rw [Xaj (by omega), Bool.not_false, Xad, Xax]
  have sS : ∀ (k : Nat) (q1 : Int × Int × Bool), q1.1 = ((k + (r + 1) : Nat) : Int) → Xb5 (strOfNums L) (N : Int) q1 ((i : Int), (pos : Int), (k : Int), l) = bnd (Xbb (strOfNums L) (i : Int)) fun q17 => bnd (sel q17.2.2 (some (decide (q17.1 > (Xaa .i64 ((Xaa .i64 ((N : Int) - 1)) - (pos : Int)))))) (some true)) fun v18 => sel v18 (some (.done (.ret (([] : List Int), 0, false)))) (bnd (Xby (strOfNums L) q17.2.1) fun q19 => bnd (sel q19.2.2 (sel (q19.1 == 0) (some true) (bnd (Xay q19.1 (-5000) 5000) fun q21 => some (!q21))) (some true)) fun v20 => sel v20 (some (.done (.ret (([] : List Int), 0, false)))) (req (0 ≤ (Xaa .i64 ((pos : Int) + q17.1)) ∧ (Xaa .i64 ((pos : Int) + q17.1)) < l.length) <| req ((Xaa .i64 ((pos : Int) + q17.1)).toNat < l.length) <| some (.go (q19.2.1, Xaa .i64 ((Xaa .i64 ((pos : Int) + q17.1)) + 1), Xaa .i64 ((k : Int) + 1), (l.set ((Xaa .i64 ((pos : Int) + q17.1)).toNat) q19.1))))) := fun k q1 hq => by
   unfold Xb5
   simp only
   rw [Xaj (by omega)]
  rcases Xp5 hb hl i hi with ⟨v, j, e1, e2, h1, h2, h3⟩ | ⟨e1, a, e2⟩
  ·
   rw [e2, Xad] at sI
   simp only at sI
   have sS' := fun k q1 hq => (sS k q1 hq).trans (by rw [e1, Xad])
   simp only at sS'
   by_cases hge : pos + v ≥ N
   ·
    refine .inr ⟨fun k q1 hq hk => Xb1 ((sS' k q1 hq).trans ?_), ?_⟩
    ·
     rw [Xax, wk (e := (N : Int) - 1) (by omega) (by omega), wk (e := (N : Int) - 1 - pos) (by omega) (by omega), decide_eq_true (by omega), Xad, Xax]
    ·
     rcases Yfm hb hl j h3 with ⟨m, j2, _, f2, _⟩ | ⟨_, a, f2⟩
     ·
      refine ⟨l, (j2 : Int), Xb1 (sI.trans ?_), hll⟩
      rw [f2, Xad, wk (e := (pos : Int) + v) (by omega) (by omega), Xaj (by omega), Xad, Xax]
     ·
      refine ⟨l, a, Xb1 (sI.trans ?_), hll⟩
      rw [f2, Xad, wk (e := (pos : Int) + v) (by omega) (by omega), Xaj (by omega), Xad, Xax]
   ·
    have sS2 := fun k q1 hq => (sS' k q1 hq).trans (by rw [Xax, wk (e := (N : Int) - 1) (by omega) (by omega), wk (e := (N : Int) - 1 - pos) (by omega) (by omega), decide_eq_false (by omega), Xad, Xaw])
    rw [wk (e := (pos : Int) + v) (by omega) (by omega)] at sI
    rcases Yfm hb hl j h3 with ⟨m, j2, f1, f2, f3, f4, f5⟩ | ⟨f1, a, f2⟩
    ·
     rw [f2, Xad, Xal (by omega)] at sI
     have sS3 := fun k q1 hq => (sS2 k q1 hq).trans (by rw [f1, Xad])
     simp only at sS3 sI
     by_cases hm : m = 0 ∨ ¬ (-5000 ≤ m ∧ m ≤ 5000)
     ·
      have hv : (sel (m == 0) (some true) (bnd (Xat m (-5000) 5000) fun q20 => some (!q20))) = some true ∧ (sel true (sel (m == 0) (some true) (bnd (Xay m (-5000) 5000) fun q20 => some (!q20))) (some true)) = some true := by
       rw [Xax, Xan, Xak, Xad]
       rcases hm with h0 | h0
       ·
        rw [Xbh (by rw [beq_iff_eq]; exact h0)]; exact ⟨rfl, rfl⟩
       ·
        rw [decide_eq_false h0]
        cases (m == 0) <;> exact ⟨rfl, rfl⟩
      refine .inr ⟨fun k q1 hq hk => Xb1 ((sS3 k q1 hq).trans ?_), l, (j2 : Int), Xb1 (sI.trans ?_), hll⟩
      ·
       rw [hv.2, Xad, Xax]
      ·
       rw [hv.1, Xad, Xax]
     ·
      have hm0 : m ≠ 0 := fun h => hm (.inl h)
      have hm1 : -5000 ≤ m ∧ m ≤ 5000 := Classical.byContradiction fun h => hm (.inr h)
      have hv : (sel (m == 0) (some true) (bnd (Xat m (-5000) 5000) fun q20 => some (!q20))) = some false ∧ (sel true (sel (m == 0) (some true) (bnd (Xay m (-5000) 5000) fun q20 => some (!q20))) (some true)) = some false := by
       rw [Xax, Xan, Xak, Xad, Xa9 (by rw [beq_eq_false_iff_ne]; exact hm0), decide_eq_true hm1]
       exact ⟨rfl, rfl⟩
      have gI : Xbg (N : Int) ((pos : Int), ((r + 1 : Nat) : Int), strOfNums L, (i : Int), false, l) = some (.go (((pos + v + 1 : Nat) : Int), (r : Int), strOfNums L, (j2 : Int), false, l.set (pos + v) m)) := by
       rw [sI, hv.1, Xad, Xaw, Xai (by omega), Xai (by omega), wk (by omega) (by omega), wk (by omega) (by omega), show ((r + 1 : Nat) : Int) - 1 = (r : Int) by omega, show ((pos : Int) + (v : Int)).toNat = pos + v by omega]
       rfl
      have gS : ∀ (k : Nat) (q1 : Int × Int × Bool), q1.1 = ((k + (r + 1) : Nat) : Int) → k + (r + 1) ≤ 1000000 → Xb5 (strOfNums L) (N : Int) q1 ((i : Int), (pos : Int), (k : Int), l) = some (.go ((j2 : Int), ((pos + v + 1 : Nat) : Int), ((k + 1 : Nat) : Int), l.set (pos + v) m)) := fun k q1 hq hk => by
       refine (sS3 k q1 hq).trans ?_
       rw [hv.2, Xad, Xaw, wk (e := (pos : Int) + v) (by omega) (by omega), Xai (by omega), Xai (by omega), wk (by omega) (by omega), wk (by omega) (by omega), show ((pos : Int) + (v : Int)).toNat = pos + v by omega]
       rfl
      have hR := ih (n - 1) (by omega) (pos + v + 1) (by omega) (by omega) j2 (l.set (pos + v) m) r f5 (by rw [List.length_set]; exact hll) (by omega)
      rcases hR with ⟨j3, l', r1, r2, r3, r4, r5⟩ | ⟨r1, l', a, r2, r3⟩
      ·
       exact .inl ⟨j3, l', fun k q1 hq hk => lgo (gS k q1 hq hk) (r1 (k + 1) q1 (by rw [hq]; omega) (by omega)), lgo gI r2, r3, r4, by omega⟩
      ·
       exact .inr ⟨fun k q1 hq hk => lgo (gS k q1 hq hk) (r1 (k + 1) q1 (by rw [hq]; omega) (by omega)), l', a, lgo gI r2, r3⟩
    ·
     refine .inr ⟨fun k q1 hq hk => Xb1 ((sS2 k q1 hq).trans ?_), l, a, Xb1 (sI.trans ?_), hll⟩
     ·
      rw [f1, Xad]; rfl
     ·
      rw [f2, Xad, Xal (by omega)]; rfl
  ·
   refine .inr ⟨fun k q1 hq hk => Xb1 ((sS k q1 hq).trans ?_), l, a, Xb1 (sI.trans ?_), hll⟩
   ·
    rw [e1, Xad]; rfl
   ·
    rw [e2, Xad]
    simp only
    rw [Yq7, Xad]
    simp only
    cases decide ((Xaa .i64 ((pos : Int) + 0)) ≥ (N : Int)) <;> rfl
theorem Yxv {L : List Int} (hb : Xoe L) (hl : L.length ≤ 400000) (N : Nat) (hN : N ≤ 64) : ∀ n pos : Nat, Yso L N n pos := by
 intro n
 induction n with
 | zero => exact fun pos => Yok hb hl N hN 0 (fun n' h => by omega) pos
 | succ n ih => exact fun pos => Yok hb hl N hN (n + 1) (fun n' h pos => by
   have : n' = n := by omega
   subst this
   exact ih pos) pos
theorem Yq6 (s : ByteArray) (a : Int) (N : Nat) (hN : N ≤ 64) : Xc4 ⟨s, a, true⟩ (N : Int) = some (List.replicate N 0, ⟨s, a, true⟩) := by
 unfold Xc4
 rw [Xai (by omega), Yrf, Xad]
 have h : ∀ l, Xbg (N : Int) (0, 0, s, a, true, l) = some (.done (l, s, a, true)) := fun l => rfl
 simp only
 rw [Xco (h _), Xad, Int.toNat_natCast]
theorem Yoh {L : List Int} (hb : Xoe L) (hl : L.length ≤ 400000) (N : Nat) (hN : N ≤ 64) (i : Nat) (hi : i ≤ L.length) :
  (∃ (l : List Int) (j : Nat), Xg6 (strOfNums L) (i : Int) (N : Int) = some (l, (j : Int), true) ∧ Xc4 ⟨strOfNums L, (i : Int), false⟩ (N : Int) = some (l, ⟨strOfNums L, (j : Int), false⟩) ∧ l.length = N ∧ j ≤ L.length) ∨ (Xg6 (strOfNums L) (i : Int) (N : Int) = some ([], 0, false) ∧ ∃ (l : List Int) (a : Int), Xc4 ⟨strOfNums L, (i : Int), false⟩ (N : Int) = some (l, ⟨strOfNums L, a, true⟩) ∧ l.length = N) := by
 unfold Xg6 Xc4
 rw [Xai (by omega), Xai (by omega)]
 rcases Xp5 hb hl i hi with ⟨v, j, e1, e2, h1, h2, h3⟩ | ⟨e1, a, e2⟩
 ·
  rw [e1, Xad, e2, Xad]
  simp only
  rw [Xax, Xad, Int.toNat_natCast]
  rcases Yxv hb hl N hN N 0 (by omega) (by omega) j (List.replicate N 0) v h3 (by simp) h1 with ⟨j3, l', r1, r2, r3, r4, r5⟩ | ⟨r1, l', a, r2, r3⟩
  ·
   have r1' := r1 0 ((v : Int), (j : Int), true) (by simp) (by omega)
   have r2' : loop (Xbg (N : Int)) (0, (v : Int), strOfNums L, (j : Int), false, List.replicate N 0) = some (l', strOfNums L, (j3 : Int), false) := r2
   have r3' : loop (Xb5 (strOfNums L) (N : Int) ((v : Int), (j : Int), true)) ((j : Int), 0, 0, List.replicate N 0) = some (.out ((j3 : Int), l')) := r1'
   rw [Xal (by omega), r2', r3', Xad, Xad]
   exact .inl ⟨l', j3, rfl, rfl, r3, r4⟩
  ·
   have r2' : loop (Xbg (N : Int)) (0, (v : Int), strOfNums L, (j : Int), false, List.replicate N 0) = some (l', strOfNums L, a, true) := r2
   refine .inr ⟨?_, l', a, ?_, r3⟩
   ·
    by_cases hbig : (v : Int) > N
    ·
     rw [Xaj hbig]
    ·
     have r3' : loop (Xb5 (strOfNums L) (N : Int) ((v : Int), (j : Int), true)) ((j : Int), 0, 0, List.replicate N 0) = some (.ret ([], 0, false)) := r1 0 ((v : Int), (j : Int), true) (by simp) (by omega)
     rw [Xal hbig, r3', Xad]
   ·
    rw [r2', Xad]
 ·
  refine .inr ⟨?_, List.replicate N 0, a, ?_, by simp⟩
  ·
   rw [e1, Xad]; rfl
  ·
   rw [e2, Xad]
   have h : ∀ l, Xbg (N : Int) (0, 0, strOfNums L, a, true, l) = some (.done (l, strOfNums L, a, true)) := fun l => rfl
   simp only
   rw [Xco (h _), Xad, Int.toNat_natCast]
theorem Ypl (s : ByteArray) (a : Int) : ∀ n k : Nat, k + n = 4 → ∀ l : List Int, l.length = 16 * k → ∃ l' : List Int, loop Xbe ((k : Int), s, a, true, l) = some (l', s, a, true) ∧ l'.length = 64
 | 0, k, hk, l, hl => ⟨l, Xb1 (by unfold Xbe; simp only; rw [Xal (by omega)]), by omega⟩
 | n + 1, k, hk, l, hl => by
  have hm : maxLen = 9223372036854775807 := rfl
  obtain ⟨l', e, h⟩ := Ypl s a n (k + 1) (by omega) (l ++ List.replicate 16 0) (by rw [List.length_append, List.length_replicate]; omega)
  refine ⟨l', lgo ?_ e, h⟩
  have := Yq6 s a 16 (by omega)
  unfold Xbe
  simp only
  rw [Xaj (by omega)]
  refine (Xeu this).trans ?_
  simp only
  rw [Xai (by simp only [List.length_replicate]; omega), wk (by omega) (by omega)]
  rfl
theorem Xx8 (s : ByteArray) (a : Int) (c : Xj9) : ∃ l : List Int, Xbq ⟨s, a, true⟩ c = some (l, ⟨s, a, true⟩) ∧ l.length = 64 := by
 unfold Xbq
 rw [Yka, Xad]
 by_cases h : (c.Large || c.Exact) = true
 ·
  rw [Xbh h]
  have := Yq6 s a 64 (by omega)
  exact ⟨_, (Xeu this).trans rfl, by simp⟩
 ·
  rw [Xa9 (by simpa using h)]
  obtain ⟨l', e, hl⟩ := Ypl s a 4 0 rfl [] rfl
  exact ⟨l', (Xeu e).trans rfl, hl⟩
theorem Yqp {L : List Int} (hb : Xoe L) (hl : L.length ≤ 400000) : ∀ n k : Nat, k + n = 4 → ∀ (i : Nat) (l : List Int), i ≤ L.length → l.length = 16 * k →
  (∃ (l' : List Int) (j : Nat), loop (Xdg (strOfNums L)) ((i : Int), (k : Int), l) = some (.out ((j : Int), l')) ∧ loop Xbe ((k : Int), strOfNums L, (i : Int), false, l) = some (l', strOfNums L, (j : Int), false) ∧ l'.length = 64 ∧ j ≤ L.length) ∨
  (loop (Xdg (strOfNums L)) ((i : Int), (k : Int), l) = some (.ret ([], 0, false)) ∧ ∃ (l' : List Int) (a : Int), loop Xbe ((k : Int), strOfNums L, (i : Int), false, l) = some (l', strOfNums L, a, true) ∧ l'.length = 64)
 | 0, k, hk, i, l, hi, hll => .inl ⟨l, i, Xb1 (by unfold Xdg; simp only; rw [Xal (by omega)]), Xb1 (by unfold Xbe; simp only; rw [Xal (by omega)]), by omega, hi⟩
 | n + 1, k, hk, i, l, hi, hll => by
  have hm : maxLen = 9223372036854775807 := rfl
  rcases Yoh hb hl 16 (by omega) i hi with ⟨q, j, e1, e2, h1, h2⟩ | ⟨e1, q, a, e2, h1⟩
  ·
   have gI : Xbe ((k : Int), strOfNums L, (i : Int), false, l) = some (.go (((k + 1 : Nat) : Int), strOfNums L, (j : Int), false, l ++ q)) := by
    unfold Xbe
    simp only
    rw [Xaj (by omega)]
    refine (Xeu e2).trans ?_
    simp only
    rw [Xai (by omega), wk (by omega) (by omega)]
    rfl
   have gS : Xdg (strOfNums L) ((i : Int), (k : Int), l) = some (.go ((j : Int), ((k + 1 : Nat) : Int), l ++ q)) := by
    unfold Xdg
    simp only
    rw [Xaj (by omega)]
    refine (Xeu e1).trans ?_
    simp only
    rw [Bool.not_true, Xaw, Xai (by omega), wk (by omega) (by omega)]
    rfl
   rcases Yqp hb hl n (k + 1) (by omega) j (l ++ q) h2 (by rw [List.length_append]; omega) with ⟨l', j', r1, r2, r3, r4⟩ | ⟨r1, l', a, r2, r3⟩
   ·
    exact .inl ⟨l', j', lgo gS r1, lgo gI r2, r3, r4⟩
   ·
    exact .inr ⟨lgo gS r1, l', a, lgo gI r2, r3⟩
  ·
   obtain ⟨l', r1, r2⟩ := Ypl (strOfNums L) a n (k + 1) (by omega) (l ++ q) (by rw [List.length_append]; omega)
   refine .inr ⟨Xb1 ?_, l', a, lgo ?_ r1, r2⟩
   ·
    unfold Xdg
    simp only
    rw [Xaj (by omega)]
    refine (Xeu e1).trans ?_
    rfl
   ·
    unfold Xbe
    simp only
    rw [Xaj (by omega)]
    refine (Xeu e2).trans ?_
    simp only
    rw [Xai (by omega), wk (by omega) (by omega)]
    rfl
theorem Ye6 {L : List Int} (hb : Xoe L) (hl : L.length ≤ 400000) (i : Nat) (hi : i ≤ L.length) (c : Xj9) :
  (∃ (l : List Int) (j : Nat), Xfq (strOfNums L) (i : Int) c = some (l, (j : Int), true) ∧ Xbq ⟨strOfNums L, (i : Int), false⟩ c = some (l, ⟨strOfNums L, (j : Int), false⟩) ∧ l.length = 64 ∧ j ≤ L.length) ∨
  (Xfq (strOfNums L) (i : Int) c = some ([], 0, false) ∧ ∃ (l : List Int) (a : Int), Xbq ⟨strOfNums L, (i : Int), false⟩ c = some (l, ⟨strOfNums L, a, true⟩) ∧ l.length = 64) := by
 unfold Xfq Xbq
 rw [Yka, Xad, Xad]
 by_cases h : (c.Large || c.Exact) = true
 ·
  rw [Xbh h, Xbh h]
  rcases Yoh hb hl 64 (by omega) i hi with ⟨q, j, e1, e2, h1, h2⟩ | ⟨e1, q, a, e2, h1⟩
  ·
   exact .inl ⟨q, j, (Xeu e1).trans rfl, (Xeu e2).trans rfl, h1, h2⟩
  ·
   exact .inr ⟨(Xeu e1).trans rfl, q, a, (Xeu e2).trans rfl, h1⟩
 ·
  rw [Xa9 (by simpa using h), Xa9 (by simpa using h)]
  rcases Yqp hb hl 4 0 rfl i [] hi rfl with ⟨l', j', r1, r2, r3, r4⟩ | ⟨r1, l', a, r2, r3⟩
  ·
   exact .inl ⟨l', j', (Xeu r1).trans rfl, (Xeu r2).trans rfl, r3, r4⟩
  ·
   exact .inr ⟨(Xeu r1).trans rfl, l', a, (Xeu r2).trans rfl, r3⟩
theorem Ykc (s : ByteArray) (a : Int) (c : Xj9) : ∃ (q : Xa1) (a' : Int), Xcu ⟨s, a, true⟩ c = some (q, ⟨s, a', true⟩) := by
 unfold Xcu
 cases hK : c.Key with
 | true => exact ⟨_, _, rfl⟩
 | false =>
  simp only
  rw [Bool.not_false, Xax, Yrf, Xad, Xad]
  exact ⟨_, _, rfl⟩
theorem Yp1 {L : List Int} (hb : Xoe L) (hl : L.length ≤ 400000) (i : Nat) (hi : i ≤ L.length) (c : Xj9) :
  (∃ (q : Xa1) (j : Nat), Xi9 (strOfNums L) (i : Int) c = some (q, (j : Int), true) ∧ Xcu ⟨strOfNums L, (i : Int), false⟩ c = some (q, ⟨strOfNums L, (j : Int), false⟩) ∧ q.Levels.length ≤ 64 ∧ j ≤ L.length ∧ Xrw q = true ∧ Xma q c = true) ∨
  (Xi9 (strOfNums L) (i : Int) c = some (⟨0, 0, 0, 0, []⟩, 0, false) ∧ ∃ (q : Xa1) (a : Int), Xcu ⟨strOfNums L, (i : Int), false⟩ c = some (q, ⟨strOfNums L, a, true⟩)) := by
 -- the kind
 have tail : ∀ (kd : Int) (i1 : Nat), i1 ≤ L.length → (0 ≤ kd ∧ kd ≤ 2) → (c.Key = true → kd = 2) → ∀ (x y : Option (Xa1 × Int × Bool)) (z : Option (Xa1 × Xka)),
   x = (sel (kd == 0) (some ((⟨kd, 0, 0, 0, []⟩ : Xa1), (i1 : Int), true)) (sel (kd == 1) (bnd (Xby (strOfNums L) i1) fun q5 => sel (!q5.2.2) (some ((⟨0, 0, 0, 0, []⟩ : Xa1), 0, false)) (bnd (Xby (strOfNums L) q5.2.1) fun q6 => (sel (!q6.2.2) (some ((⟨0, 0, 0, 0, []⟩ : Xa1), 0, false)) (bnd (Xfq (strOfNums L) q6.2.1 c) fun q8 => bnd (sel q8.2.2 (bnd (Xdu (⟨kd, 0, q5.1, q6.1, q8.1⟩ : Xa1)) fun q10 => some (!q10)) (some true)) fun v9 => sel v9 (some ((⟨0, 0, 0, 0, []⟩ : Xa1), 0, false)) (some ((⟨kd, 0, q5.1, q6.1, q8.1⟩ : Xa1), q8.2.1, true)))))) (bnd (Xbb (strOfNums L) i1) fun q7 => (sel (!q7.2.2) (some ((⟨0, 0, 0, 0, []⟩ : Xa1), 0, false)) (bnd (Xfq (strOfNums L) q7.2.1 c) fun q8 => bnd (sel q8.2.2 (bnd (Xdu (⟨kd, q7.1, 0, 0, q8.1⟩ : Xa1)) fun q10 => some (!q10)) (some true)) fun v9 => sel v9 (some ((⟨0, 0, 0, 0, []⟩ : Xa1), 0, false)) (some ((⟨kd, q7.1, 0, 0, q8.1⟩ : Xa1), q8.2.1, true))))))) →
   z = (bnd (sel (kd == 1) (bnd (Xb2 (⟨strOfNums L, (i1 : Int), false⟩ : Xka)) fun q4 => bnd (Xb2 q4.2) fun q5 => bnd (Xbq q5.2 c) fun q6 => some (q6.2.row_, q6.2.at_, q6.2.bad_, (0 : Int), q4.1, q5.1, q6.1)) (sel (kd == 2) (bnd (Xbl (⟨strOfNums L, (i1 : Int), false⟩ : Xka)) fun q7 => bnd (Xbq q7.2 c) fun q8 => some (q8.2.row_, q8.2.at_, q8.2.bad_, q7.1, 0, 0, q8.1)) (some (strOfNums L, (i1 : Int), false, 0, 0, 0, [])))) fun v3 => bnd (sel v3.2.2.1 (some true) (bnd (Xft (⟨kd, v3.2.2.2.1, v3.2.2.2.2.1, v3.2.2.2.2.2.1, v3.2.2.2.2.2.2⟩ : Xa1)) fun q10 => some (!q10))) fun v9 => some ((⟨kd, v3.2.2.2.1, v3.2.2.2.2.1, v3.2.2.2.2.2.1, v3.2.2.2.2.2.2⟩ : Xa1), (⟨v3.1, v3.2.1, v9⟩ : Xka))) →
   (∃ (q : Xa1) (j : Nat), x = some (q, (j : Int), true) ∧ z = some (q, ⟨strOfNums L, (j : Int), false⟩) ∧ q.Levels.length ≤ 64 ∧ j ≤ L.length ∧ Xrw q = true ∧ Xma q c = true) ∨ (x = some (⟨0, 0, 0, 0, []⟩, 0, false) ∧ ∃ (q : Xa1) (a : Int), z = some (q, ⟨strOfNums L, a, true⟩)) := by
  intro kd i1 hi1 hkd hkey x _ z hx hz
  subst hx; subst hz
  obtain h0 | h1 | h2 : kd = 0 ∨ kd = 1 ∨ kd = 2 := by omega
  ·
   subst h0
   exact .inl ⟨⟨0, 0, 0, 0, []⟩, i1, rfl, rfl, by simp, hi1, rfl, by
    unfold Xma
    cases hK : c.Key with
    | false => rfl
    | true => exact absurd (hkey hK) (by decide)⟩
  ·
   subst h1
   have hlet : ∀ q : Xa1, q.Kind = 1 → Xma q c = true := fun q hq => by
    unfold Xma
    cases hK : c.Key with
    | false => rfl
    | true => exact absurd (hkey hK) (by decide)
   rw [Xa9 (b := ((1 : Int) == 0)) (by rfl), Xbh (b := ((1 : Int) == 1)) (by rfl), Xbh (b := ((1 : Int) == 1)) (by rfl)]
   rcases Yfm hb hl i1 hi1 with ⟨dx, j, e1, e2, h1, h2, h3⟩ | ⟨e1, a, e2⟩
   ·
    rw [e1, Xad, e2, Xad]
    simp only
    rw [Bool.not_true, Xaw]
    rcases Yfm hb hl j h3 with ⟨dy, j2, f1, f2, g1, g2, g3⟩ | ⟨f1, a, f2⟩
    ·
     rw [f1, Xad, f2, Xad]
     simp only
     rw [Bool.not_true, Xaw]
     rcases Ye6 hb hl j2 g3 c with ⟨lv, j3, k1, k2, k3, k4⟩ | ⟨k1, lv, a, k2, k3⟩
     ·
      rw [k1, Xad, k2, Xad, Xad]
      simp only
      rw [Xax, Xaw, Xim, Xad, Xfy _ (by simp only; omega), Xad, Xad, Xad]
      cases hq : Xrw ⟨1, 0, dx, dy, lv⟩ with
      | true => exact .inl ⟨_, j3, rfl, rfl, by simp only; omega, k4, hq, hlet _ rfl⟩
      | false => exact .inr ⟨rfl, _, _, rfl⟩
     ·
      rw [k1, Xad, k2, Xad, Xad]
      exact .inr ⟨rfl, _, _, rfl⟩
    ·
     rw [f1, Xad, f2, Xad]
     obtain ⟨lv, k2, _⟩ := Xx8 (strOfNums L) a c
     simp only
     rw [k2, Xad, Xad]
     exact .inr ⟨rfl, _, _, rfl⟩
   ·
    rw [e1, Xad, e2, Xad]
    obtain ⟨lv, k2, _⟩ := Xx8 (strOfNums L) a c
    simp only
    rw [Yq7, Xad]
    simp only
    rw [k2, Xad, Xad]
    exact .inr ⟨rfl, _, _, rfl⟩
  ·
   subst h2
   have hlet : ∀ q : Xa1, q.Kind = 2 → Xma q c = true := fun q hq => by
    unfold Xma
    rw [hq]
    cases c.Key <;> rfl
   rw [Xa9 (b := ((2 : Int) == 0)) (by rfl), Xa9 (b := ((2 : Int) == 1)) (by rfl), Xa9 (b := ((2 : Int) == 1)) (by rfl), Xbh (b := ((2 : Int) == 2)) (by rfl)]
   rcases Xp5 hb hl i1 hi1 with ⟨m, j2, f1, f2, g1, g2, g3⟩ | ⟨f1, a, f2⟩
   ·
    rw [f1, Xad, f2, Xad]
    simp only
    rw [Bool.not_true, Xaw]
    rcases Ye6 hb hl j2 g3 c with ⟨lv, j3, k1, k2, k3, k4⟩ | ⟨k1, lv, a, k2, k3⟩
    ·
     rw [k1, Xad, k2, Xad, Xad]
     simp only
     rw [Xax, Xaw, Xim, Xad, Xfy _ (by simp only; omega), Xad, Xad, Xad]
     cases hq : Xrw ⟨2, (m : Int), 0, 0, lv⟩ with
     | true => exact .inl ⟨_, j3, rfl, rfl, by simp only; omega, k4, hq, hlet _ rfl⟩
     | false => exact .inr ⟨rfl, _, _, rfl⟩
    ·
     rw [k1, Xad, k2, Xad, Xad]
     exact .inr ⟨rfl, _, _, rfl⟩
   ·
    rw [f1, Xad, f2, Xad]
    obtain ⟨lv, k2, _⟩ := Xx8 (strOfNums L) a c
    simp only
    rw [k2, Xad, Xad]
    exact .inr ⟨rfl, _, _, rfl⟩
 unfold Xi9 Xcu
 simp only [Ynw]
 cases hK : c.Key with
 | true =>
  rw [Bool.not_true, Xaw, Xaw, Xad]
  simp only
  rw [Xaw]
  exact tail 2 i hi (by omega) (fun _ => rfl) _ none _ rfl rfl
 | false =>
  rw [Bool.not_false, Xax, Xax]
  rcases Xp5 hb hl i hi with ⟨v, j, e1, e2, h1, h2, h3⟩ | ⟨e1, a, e2⟩
  ·
   rw [e1, Xad, e2, Xad, Xad]
   simp only
   rw [Xax, Xad]
   by_cases hv : (v : Int) > 2
   ·
    rw [Xaj hv]
    rw [Xaw, Xa9 (b := (v : Int) == 1) (by rw [beq_eq_false_iff_ne]; omega), Xa9 (b := (v : Int) == 2) (by rw [beq_eq_false_iff_ne]; omega), Xad]
    simp only
    have hq : Xrw ⟨(v : Int), 0, 0, 0, []⟩ = false := by
     unfold Xrw
     rw [if_neg (by simp only; omega), if_neg (by simp only; omega), if_neg (by simp only; omega)]
    rw [Xaw, Xfy _ (by simp), Xad, hq]
    exact .inr ⟨trivial, _, _, rfl⟩
   ·
    rw [Xal hv, Xaw]
    exact tail v j h3 (by omega) (fun h => by rw [hK] at h; cases h) _ none _ rfl rfl
  ·
   rw [e1, Xad, e2, Xad, Xad]
   exact .inr ⟨rfl, _, _, rfl⟩
theorem Xo3 (s : ByteArray) : (∃ L : List Int, s = strOfNums L ∧ Xoe L ∧ L.length ≤ 400000 ∧ Xi1 s = some true ∧ Xhs s = some true) ∨ (Xi1 s = some false ∧ Xhs s = some false) := by
 have hf : Xhe s = Xc6 s := rfl
 unfold Xi1 Xhs
 by_cases hs : s.size ≤ 400000
 ·
  rw [Xal (by omega), Xaj (by omega), hf]
  unfold Xk0
  have hl := Ykp (fun x => x == 48 || x == 49) (Xav s) (Xc6 s) (by
   intro i hi
   rw [Xa2] at hi
   unfold Xc6
   rw [Xaj (by omega), Xai (by omega), Xai (by omega), Yfa s i hi, wk (by omega) (by omega)]
   generalize Xb7 s i = x
   cases h1 : (x == 48) <;> cases h2 : (x == 49) <;> simp only [bne, h1, h2, sel, bnd, Bool.not_true, Bool.not_false, Bool.or_false, Bool.or_true, Bool.true_or] <;> rfl) (by
   rw [Xa2]
   unfold Xc6
   rw [Xal (by omega)])
  rw [hl]
  by_cases hall : (Xav s).all (fun x => x == 48 || x == 49) = true
  ·
   rw [if_pos hall]
   refine .inl ⟨Xav s, (Xpf s).symm, fun x hx => ?_, by rw [Xa2]; exact hs, rfl, rfl⟩
   have := List.all_eq_true.1 hall x hx
   simpa using this
  ·
   rw [if_neg hall]
   exact .inr ⟨rfl, rfl⟩
 ·
  rw [Xaj (by omega), Xal (by omega)]
  exact .inr ⟨rfl, rfl⟩
theorem Yov {L : List Int} (hb : Xoe L) (hl : L.length ≤ 400000) (N : Nat) (hN : N ≤ 64) (c : Xj9) (hc : Xjb c = true) : ∀ n k : Nat, k + n = N → ∀ (i : Nat) (l : List Xa1), i ≤ L.length → l.length = k → (∀ q ∈ l, q.Levels.length ≤ 64) → Yuf l c = true →
  (∃ (l' : List Xa1) (j : Nat), loop (Xbx (strOfNums L) (N : Int) c) ((i : Int), (k : Int), l) = some (.out ((j : Int), l')) ∧ loop (Xbc (N : Int) c) ((k : Int), strOfNums L, (i : Int), false, l) = some (.out (strOfNums L, (j : Int), false, l')) ∧ l'.length = N ∧ (∀ q ∈ l', q.Levels.length ≤ 64) ∧ Yuf l' c = true) ∨
  (loop (Xbx (strOfNums L) (N : Int) c) ((i : Int), (k : Int), l) = some (.ret ([], false)) ∧ loop (Xbc (N : Int) c) ((k : Int), strOfNums L, (i : Int), false, l) = some (.ret ([], false)))
 | 0, k, hk, i, l, hi, hll, hq, hs => .inl ⟨l, i, Xb1 (by unfold Xbx; simp only; rw [Xal (by omega)]), Xb1 (by unfold Xbc; simp only; rw [Xal (by omega)]), by omega, hq, hs⟩
 | n + 1, k, hk, i, l, hi, hll, hq, hs => by
  have hm : maxLen = 9223372036854775807 := rfl
  rcases Yp1 hb hl i hi c with ⟨q, j, e1, e2, h1, h2, h3, h4⟩ | ⟨e1, q, a, e2⟩
  ·
   have gI : Xbc (N : Int) c ((k : Int), strOfNums L, (i : Int), false, l) = some (.go (((k + 1 : Nat) : Int), strOfNums L, (j : Int), false, l ++ [q])) := by
    unfold Xbc
    simp only
    rw [Xaj (by omega), e2, Xad]
    simp only
    rw [Xai (by simp only [List.length_singleton]; omega), Xaw, wk (by omega) (by omega)]
    rfl
   have gS : Xbx (strOfNums L) (N : Int) c ((i : Int), (k : Int), l) = some (.go ((j : Int), ((k + 1 : Nat) : Int), l ++ [q])) := by
    unfold Xbx
    simp only
    rw [Xaj (by omega), e1, Xad]
    simp only
    rw [Bool.not_true, Xaw, Xai (by simp only [List.length_singleton]; omega), wk (by omega) (by omega)]
    rfl
   have hq' : ∀ x ∈ l ++ [q], x.Levels.length ≤ 64 := fun x hx => by
    rcases List.mem_append.1 hx with h | h
    ·
     exact hq x h
    ·
     rw [List.mem_singleton.1 h]; exact h1
   have hs' : Yuf (l ++ [q]) c = true := by
    unfold Yuf at hs ⊢
    rw [List.all_append, hs, Bool.true_and, List.all_cons, h3, hc, h4]; rfl
   rcases Yov hb hl N hN c hc n (k + 1) (by omega) j (l ++ [q]) h2 (by rw [List.length_append, hll]; rfl) hq' hs' with ⟨l', j', r1, r2, r3⟩ | ⟨r1, r2⟩
   ·
    exact .inl ⟨l', j', lgo gS r1, lgo gI r2, r3⟩
   ·
    exact .inr ⟨lgo gS r1, lgo gI r2⟩
  ·
   refine .inr ⟨Xb1 ?_, Xb1 ?_⟩
   ·
    unfold Xbx
    simp only
    rw [Xaj (by omega), e1, Xad]
    rfl
   ·
    unfold Xbc
    simp only
    rw [Xaj (by omega), e2, Xad]
    simp only
    rw [Xai (by simp only [List.length_singleton]; omega), Xax]
def Yyf (n : Int) (c : Xj9) (l : List Xa1) : Prop := Xjb c = true ∧ (1 ≤ n ∧ n ≤ 64) ∧ (l.length : Int) = n ∧ Yuf l c = true
theorem Ykj (s : ByteArray) (a n : Int) (c : Xj9) : ∃ (l : List Xa1) (b : Bool), Xji s a n c = some (l, b) ∧ Xjy s a n c = some (l, b) ∧ l.length ≤ 64 ∧ (∀ q ∈ l, q.Levels.length ≤ 64) ∧ (b = true → Yyf n c l) := by
 have hm : maxLen = 9223372036854775807 := rfl
 have fin : ∀ {x y : Option (List Xa1 × Bool)}, x = some ([], false) → y = some ([], false) → ∃ (l : List Xa1) (b : Bool), x = some (l, b) ∧ y = some (l, b) ∧ l.length ≤ 64 ∧ (∀ q ∈ l, q.Levels.length ≤ 64) ∧ (b = true → Yyf n c l) := fun h1 h2 => ⟨[], false, h1, h2, by simp, fun q hq => by simp at hq, fun h => by cases h⟩
 unfold Xji Xjy Xex
 by_cases hn : 1 ≤ n ∧ n ≤ 64
 ·
  by_cases hc : Xjb c = true
  case neg =>
   have hc : Xjb c = false := by simpa using hc
   refine fin ?_ ?_
   ·
    rcases Xo3 s with ⟨L, _, _, _, r1, _⟩ | ⟨r1, _⟩
    ·
     rw [r1, Xad, Xax, Xan, Xad, Xad, Xad, Xan, Xad, decide_eq_true hn, Xax, Xdv, Xad, hc, Xad]; rfl
    ·
     rw [r1, Xad, Xaw, Xad, Xad, Xan, Xad, decide_eq_true hn, Xax, Xdv, Xad, hc, Xad]; rfl
   ·
    rcases Xo3 s with ⟨L, _, _, _, _, r1⟩ | ⟨_, r1⟩
    ·
     rw [r1, Xad, Xax, Xak, Xad, Xez, Xad, hc, Xaw]
     cases decide (0 ≤ a ∧ a ≤ (s.size : Int)) <;> rfl
    ·
     rw [r1, Xad, Xaw, Xad, Xax]
  case pos =>
   rcases Xo3 s with ⟨L, hL, hb, hl, r1, r2⟩ | ⟨r1, r2⟩
   ·
    rw [r1, r2, Xad, Xad, Xax, Xax, Xan, Xad, Xak, Xad, Xad, Xad, Xan, Xad, decide_eq_true hn, Xax, Xdv, Xad, hc, Xad, Xez, Xad, hc, Xax, Xak, Xad, decide_eq_true hn]
    by_cases ha : 0 ≤ a ∧ a ≤ (s.size : Int)
    ·
     rw [decide_eq_true ha]
     simp only [Bool.not_true, Xaw, Xax, Xad]
     subst hL
     rw [strOfNums_size] at ha ⊢
     obtain ⟨i, rfl⟩ : ∃ i : Nat, a = i := ⟨a.toNat, by omega⟩
     obtain ⟨N, rfl⟩ : ∃ N : Nat, n = N := ⟨n.toNat, by omega⟩
     rcases Yov hb hl N (by omega) c hc N 0 (by omega) i [] (by omega) rfl (fun q hq => by simp at hq) rfl with ⟨l', j, k1, k2, k3, k4, k5⟩ | ⟨k1, k2⟩
     ·
      have k1' : loop (Xbx (strOfNums L) (N : Int) c) ((i : Int), 0, []) = some (.out ((j : Int), l')) := k1
      have k2' : loop (Xbc (N : Int) c) (0, strOfNums L, (i : Int), false, []) = some (.out (strOfNums L, (j : Int), false, l')) := k2
      rw [k1', k2', Xad, Xad]
      simp only
      by_cases hj : (j : Int) = (L.length : Int)
      ·
       rw [Xa9 (by rw [bne_eq_false_iff_eq]; exact hj)]
       exact ⟨l', true, rfl, rfl, by omega, k4, fun _ => ⟨hc, hn, by omega, k5⟩⟩
      ·
       rw [Xbh (by rw [bne_iff_ne]; exact hj)]
       exact fin rfl rfl
     ·
      have k1' : loop (Xbx (strOfNums L) (N : Int) c) ((i : Int), 0, []) = some (.ret ([], false)) := k1
      have k2' : loop (Xbc (N : Int) c) (0, strOfNums L, (i : Int), false, []) = some (.ret ([], false)) := k2
      rw [k1', k2', Xad, Xad]
      exact fin rfl rfl
    ·
     rw [decide_eq_false ha]
     simp only [Bool.not_true, Bool.not_false, Xaw, Xax, Xad]
     obtain ⟨q, a', eq⟩ := Ykc s a c
     have hd : Xbc n c (0, s, a, true, []) = some (.done (.ret ([], false))) := by
      unfold Xbc
      simp only
      rw [Xaj (by omega), eq, Xad]
      simp only
      rw [Xai (by simp only [List.length_singleton, List.length_nil]; omega), Xax]
     rw [Xco hd, Xad]
     exact fin rfl rfl
   ·
    refine fin ?_ ?_
    ·
     rw [r1, Xad, Xaw, Xad, Xad, Xan, Xad, decide_eq_true hn, Xax, Xdv, Xad, hc, Xad, Bool.not_true, Xaw]
     simp only
     obtain ⟨q, a', eq⟩ := Ykc s a c
     have hd : Xbc n c (0, s, a, true, []) = some (.done (.ret ([], false))) := by
      unfold Xbc
      simp only
      rw [Xaj (by omega), eq, Xad]
      simp only
      rw [Xai (by simp only [List.length_singleton, List.length_nil]; omega), Xax]
     rw [Xco hd, Xad]
    ·
     rw [r2, Xad, Xaw, Xad, Xax]
 ·
  refine fin ?_ ?_
  ·
   rcases Xo3 s with ⟨L, _, _, _, r1, _⟩ | ⟨r1, _⟩
   ·
    rw [r1, Xad, Xax, Xan, Xad, Xad, Xad, Xan, Xad, decide_eq_false hn, Xaw, Xad, Xax]
   ·
    rw [r1, Xad, Xaw, Xad, Xad, Xan, Xad, decide_eq_false hn, Xaw, Xad, Xax]
  ·
   rcases Xo3 s with ⟨L, _, _, _, _, r1⟩ | ⟨_, r1⟩
   ·
    rw [r1, Xad, Xax, Xak, Xad, Xez, Xad, Xak, Xad, decide_eq_false hn]
    cases decide (0 ≤ a ∧ a ≤ (s.size : Int)) <;> cases Xjb c <;> rfl
   ·
    rw [r1, Xad, Xaw, Xad, Xax]
def Yzt (w h : Int) : Pic := ⟨w, h, strOfNums (List.replicate (w * h).toNat 128)⟩
def Yks (s : ByteArray) (i : Nat) : Int := 48 + (Xb7 s ((i / 8 : Nat) : Int) / 2 ^ (7 - i % 8)) % 2
def Xog (s : ByteArray) : List Int := (List.range (8 * s.size)).map (Yks s)
theorem Yvc : ∀ b : Fin 256, Yur 8 (b.val : Int) = (List.range 8).map fun k => 48 + ((b.val : Int) / 2 ^ (7 - k)) % 2 := by decide +kernel
theorem Zae (b : Int) (h : 0 ≤ b ∧ b ≤ 255) : Yur 8 b = (List.range 8).map fun k => 48 + (b / 2 ^ (7 - k)) % 2 := by
 have := Yvc ⟨b.toNat, by omega⟩
 simp only at this
 rwa [show ((b.toNat : Nat) : Int) = b by omega] at this
theorem Ysy (s : ByteArray) (i : Nat) : Yks s i = 48 ∨ Yks s i = 49 := by unfold Yks; omega
theorem Yrm (s : ByteArray) : Xoe (Xog s) := fun x hx => by
 obtain ⟨i, _, rfl⟩ := List.mem_map.1 hx
 exact Ysy s i
theorem Yrn (s : ByteArray) : (Xog s).length = 8 * s.size := by simp [Xog]
theorem Ysz (s : ByteArray) {i : Nat} (h : i < 8 * s.size) : (Xog s).getD i 0 = Yks s i := Xjc _ h
theorem Yps (f : Nat → Int) (n : Nat) : (List.range (8 * n)).map f ++ (List.range 8).map (fun k => f (8 * n + k)) = (List.range (8 * (n + 1))).map f := by
 rw [show 8 * (n + 1) = 8 * n + 8 by omega, List.range_add, List.map_append, List.map_map]
 rfl
theorem Xuu (s : ByteArray) (hs : s.size ≤ 50001) : loop (Xef s) (0, []) = some (Xog s) := by
 have hm : maxLen = 9223372036854775807 := rfl
 obtain ⟨o, e, ho⟩ := Xe5 (f := Xef s) s.size (fun i l => l = (List.range (8 * i)).map (Yks s)) (by
  intro i l hi g
  subst g
  have hb := Xpi s i
  unfold Xef
  simp only
  rw [Xaj (by omega), Xai (by omega), wk (e := Xb7 s i) (by omega) (by omega), show (8 : Int) = ((8 : Nat) : Int) from rfl, Yji _ 8 hb.1 (by omega) (by omega), Xad, Yvr _ (Xqz (Yqd _ _)), Xai (by simp only [Yqe, List.length_map, List.length_range]; omega), wk (e := (i : Int) + 1) (by omega) (by omega)]
  refine ⟨_, rfl, ?_⟩
  rw [← Yps, Zae _ hb]
  congr 1
  refine List.map_congr_left fun k hk => ?_
  have hk8 := List.mem_range.1 hk
  unfold Yks
  rw [show (8 * i + k) / 8 = i by omega, show (8 * i + k) % 8 = k by omega]) (by intro l; unfold Xef; rw [Xal (by simp)]) [] rfl
 rw [e, ho]; rfl
theorem Yrl : ∀ b : Fin 256, ∀ k : Fin 8, Xaa .u8 (48 + (IntKind.wrap .u8 (BitVec.ofInt (IntKind.bits .u8) ((b.val : Int) / 2 ^ min (k.val) (IntKind.bits .u8)) &&& BitVec.ofInt (IntKind.bits .u8) 1).toNat)) = 48 + ((b.val : Int) / 2 ^ k.val) % 2 := by decide +kernel
theorem Yyk (b : Int) (h : 0 ≤ b ∧ b ≤ 255) (k : Nat) (hk : k < 8) : Xaa .u8 (48 + (IntKind.wrap .u8 (BitVec.ofInt (IntKind.bits .u8) (b / 2 ^ min k (IntKind.bits .u8)) &&& BitVec.ofInt (IntKind.bits .u8) 1).toNat)) = 48 + (b / 2 ^ k) % 2 := by
 have := Yrl ⟨b.toNat, by omega⟩ ⟨k, hk⟩
 simp only at this
 rwa [show ((b.toNat : Nat) : Int) = b by omega] at this
theorem Xut (s : ByteArray) (hs : s.size ≤ 50001) : loop (Xed s) (0, []) = some (Xog s) := by
 have hm : maxLen = 9223372036854775807 := rfl
 have := Yu2 (f := Xed s) (8 * s.size) (Yks s) [] (by
  intro i hi
  have hb := Xpi s ((i / 8 : Nat) : Int)
  unfold Xed
  simp only
  rw [wk (e := 8 * (s.size : Int)) (by omega) (by omega), Xaj (by omega), Xai (by omega), Xbn (by omega), wk (e := (i : Int) / 8) (by omega) (by omega), Xai (by omega), Xai (by omega), Xch (by omega), wk (e := 7 - (i : Int) % 8) (by omega) (by omega), Xai (by omega), show (7 - (i : Int) % 8).toNat = 7 - i % 8 by omega, show (i : Int) / 8 = ((i / 8 : Nat) : Int) by omega, Yyk _ hb (7 - i % 8) (by omega), Xai (by simp only [List.length_append, List.length_nil, List.length_map, List.length_range, List.length_singleton]; omega), wk (e := (i : Int) + 1) (by omega) (by omega)]
  rfl) (by unfold Xed; rw [wk (e := 8 * (s.size : Int)) (by omega) (by omega), Xal (by simp)])
 rw [List.nil_append] at this
 exact this
theorem Yqj {V : List Int} (hV : Xoe V) : ∀ n : Nat, n ≤ V.length → (∃ j, j < n ∧ V.getD j 0 = 49) → ∃ k, k + 1 ≤ n ∧ V.getD k 0 = 49 ∧ ∀ j, k + 1 ≤ j → j < n → V.getD j 0 = 48
 | 0, _, ⟨j, h, _⟩ => by omega
 | n + 1, hn, ⟨j, hj, h⟩ => by
  rcases hV (V.getD n 0) (by rw [Xci V n (by omega)]; exact List.getElem_mem _) with e | e
  ·
   have hjn : j ≠ n := fun h2 => by rw [h2, e] at h; omega
   obtain ⟨k, h1, h2, h3⟩ := Yqj hV n (by omega) ⟨j, by omega, h⟩
   refine ⟨k, by omega, h2, fun i h4 h5 => ?_⟩
   by_cases hi : i = n
   ·
    rw [hi]; exact e
   ·
    exact h3 i h4 (by omega)
  ·
   exact ⟨n, by omega, e, fun i h1 h2 => by omega⟩
theorem Yu5 : ∀ b : Fin 256, b.val ≠ 0 → ∃ k : Fin 8, 48 + ((b.val : Int) / 2 ^ (7 - k.val)) % 2 = 49 := by decide +kernel
theorem Ykf (s : ByteArray) (hs : s.size ≤ 1048576) : (∃ L : List Int, Xoe L ∧ L.length ≤ 400000 ∧ Xhc s = some (strOfNums L, true) ∧ Xho s = some (strOfNums L, true)) ∨ (Xhc s = some (⟨#[]⟩, false) ∧ Xho s = some (⟨#[]⟩, false)) := by
 unfold Xhc Xho
 rw [wk (e := 8 * (s.size : Int)) (by omega) (by omega)]
 by_cases h0 : s.size = 0
 ·
  rw [h0]
  exact .inr ⟨rfl, rfl⟩
 rw [Xa9 (b := (8 * (s.size : Int)) == 0) (by rw [beq_eq_false_iff_ne]; omega), Xa9 (b := (s.size : Int) == 0) (by rw [beq_eq_false_iff_ne]; omega), wk (e := (s.size : Int) - 1) (by omega) (by omega), Xai (show 0 ≤ (s.size : Int) - 1 ∧ (s.size : Int) - 1 < s.size by omega)]
 by_cases hbig : s.size > 50001
 ·
  rw [Xaj (by omega), decide_eq_true (by omega), Xad, Xax]
  refine .inr ⟨?_, rfl⟩
  cases (Xb7 s ((s.size : Int) - 1) == 0) <;> rfl
 rw [Xal (by omega), Xai (show 0 ≤ (s.size : Int) - 1 ∧ (s.size : Int) - 1 < s.size by omega), decide_eq_false (by omega)]
 cases hz : (Xb7 s ((s.size : Int) - 1) == 0) with
 | true => exact .inr ⟨rfl, rfl⟩
 | false =>
  rw [Xaw, Xad, Xad, Xaw, Xaw, Xai (show 0 ≤ (0 : Int) ∧ (0 : Int) ≤ 8 * (s.size : Int) ∧ 8 * (s.size : Int) * 1 ≤ 281474976710656 by omega), show (List.replicate (0 : Int).toNat (0 : Int)) = [] from rfl, Xut s (by omega), Xuu s (by omega), Xad, Xad]
  have hl := Yrn s
  have hV := Yrm s
  obtain ⟨k, k1, k2, k3⟩ := Yqj hV (8 * s.size) (by omega) (by
   have hb := Xpi s ((s.size : Int) - 1)
   rw [beq_eq_false_iff_ne] at hz
   obtain ⟨k, hk⟩ := Yu5 ⟨(Xb7 s ((s.size : Int) - 1)).toNat, by omega⟩ (by simp only; omega)
   have hk8 := k.isLt
   simp only at hk
   rw [show (((Xb7 s ((s.size : Int) - 1)).toNat : Nat) : Int) = Xb7 s ((s.size : Int) - 1) by omega] at hk
   refine ⟨8 * (s.size - 1) + k.val, by omega, ?_⟩
   rw [Ysz s (by omega)]
   unfold Yks
   rw [show (8 * (s.size - 1) + k.val) / 8 = s.size - 1 by omega, show (8 * (s.size - 1) + k.val) % 8 = k.val by omega, show (((s.size - 1 : Nat)) : Int) = (s.size : Int) - 1 by omega]
   exact hk)
  have lI : loop (Xee (Xog s)) (8 * (s.size : Int)) = some ((k + 1 : Nat) : Int) := by
   have key : ∀ m : Nat, k + 1 + m ≤ 8 * s.size → loop (Xee (Xog s)) ((k + 1 + m : Nat) : Int) = some ((k + 1 : Nat) : Int) := by
    intro m
    induction m with
    | zero =>
     intro _
     refine Xb1 ?_
     unfold Xee
     rw [wk (by omega) (by omega), Xai (by omega), Xai (by omega), show (((k + 1 + 0 : Nat) : Int) - 1).toNat = k by omega, k2]
     rfl
    | succ m ih =>
     intro hm
     refine lgo ?_ (ih (by omega))
     unfold Xee
     rw [wk (by omega) (by omega), Xai (by omega), Xai (by omega), show (((k + 1 + (m + 1) : Nat) : Int) - 1).toNat = k + 1 + m by omega, k3 _ (by omega) (by omega), show ((k + 1 + (m + 1) : Nat) : Int) - 1 = ((k + 1 + m : Nat) : Int) by omega]
     rfl
   have := key (8 * s.size - (k + 1)) (by omega)
   rwa [show ((k + 1 + (8 * s.size - (k + 1)) : Nat) : Int) = 8 * (s.size : Int) by omega] at this
  have lS : loop (Xeg (Xog s)) ((Xog s).length : Int) = some ((k + 1 : Nat) : Int) := by
   have key : ∀ m : Nat, k + 1 + m ≤ 8 * s.size → loop (Xeg (Xog s)) ((k + 1 + m : Nat) : Int) = some ((k + 1 : Nat) : Int) := by
    intro m
    induction m with
    | zero =>
     intro _
     refine Xb1 ?_
     unfold Xeg
     rw [Xaj (by omega), wk (by omega) (by omega), Xai (by omega), Xai (by omega), show (((k + 1 + 0 : Nat) : Int) - 1).toNat = k by omega, k2]
     rfl
    | succ m ih =>
     intro hm
     refine lgo ?_ (ih (by omega))
     unfold Xeg
     rw [Xaj (by omega), wk (by omega) (by omega), Xai (by omega), Xai (by omega), show (((k + 1 + (m + 1) : Nat) : Int) - 1).toNat = k + 1 + m by omega, k3 _ (by omega) (by omega), show ((k + 1 + (m + 1) : Nat) : Int) - 1 = ((k + 1 + m : Nat) : Int) by omega]
     rfl
   have := key (8 * s.size - (k + 1)) (by omega)
   rwa [show ((k + 1 + (8 * s.size - (k + 1)) : Nat) : Int) = ((Xog s).length : Int) by omega] at this
  rw [lI, lS, Xad, wk (e := ((k + 1 : Nat) : Int) - 1) (by omega) (by omega), show ((k + 1 : Nat) : Int) - 1 = (k : Int) by omega]
  by_cases hk : (k : Int) > 400000
  ·
   rw [Xaj hk]
   exact .inr ⟨rfl, rfl⟩
  ·
   rw [Xal hk, Xai (by omega), Xai (by omega)]
   exact .inl ⟨(Xog s).take k, fun x hx => hV x (List.mem_of_mem_take hx), by rw [List.length_take]; omega, rfl, rfl⟩
theorem Yo6 (s : ByteArray) (hs : s.size ≤ 1048576) : (∃ (kd : Int) (L : List Int), Ye4 kd = true ∧ Xoe L ∧ L.length ≤ 400000 ∧ Xkh s = some (kd, strOfNums L, true) ∧ Xky s = some (kd, strOfNums L, true)) ∨ (Xkh s = some (0, ⟨#[]⟩, false) ∧ Xky s = some (0, ⟨#[]⟩, false)) := by
 unfold Xkh Xky
 by_cases h0 : s.size = 0
 ·
  have hd : s = ⟨#[]⟩ := by
   have := Xpf s
   have hn : Xav s = [] := List.length_eq_zero_iff.1 (by rw [Xa2]; exact h0)
   rw [hn] at this
   exact this.symm
  subst hd
  have e0 : ((⟨#[]⟩ : ByteArray).toList == (⟨#[]⟩ : ByteArray).toList) = true := beq_self_eq_true _
  have e1 : ((⟨#[]⟩ : ByteArray).size : Int) < 1 := by decide
  rw [e0, Xax, Xaj e1]
  exact .inr ⟨rfl, rfl⟩
 have hne : (s.toList == (⟨#[]⟩ : ByteArray).toList) = false := by
  rw [beq_eq_false_iff_ne]
  intro h
  exact h0 (by rw [Xy5.1 h]; rfl)
 have hb := Xpi s 0
 have r0 : ∀ {β : Type} (k : Option β), req (0 ≤ (0 : Int) ∧ (0 : Int) < (s.size : Int)) k = k := fun k => Xai (by omega)
 have r1 : ∀ {β : Type} (k : Option β), req (0 ≤ (1 : Int) ∧ (1 : Int) ≤ (s.size : Int) ∧ (s.size : Int) ≤ (s.size : Int)) k = k := fun k => Xai (by omega)
 rw [hne, Xaw, Xal (by omega)]
 simp only [r0, r1, wk (e := Xb7 s 0) (by omega) (by omega), Yic, Ygv, Xad]
 cases hk : Ye4 (Xb7 s 0) with
 | false => exact .inr ⟨rfl, rfl⟩
 | true =>
  rw [Bool.not_true, Xaw, Xaw]
  rcases Ykf (s.extract (1 : Int).toNat (s.size : Int).toNat) (by rw [ByteArray.size_extract]; omega) with ⟨L, l1, l2, e1, e2⟩ | ⟨e1, e2⟩
  ·
   rw [e1, e2, Xad]
   exact .inl ⟨_, L, hk, l1, l2, rfl, rfl⟩
  ·
   rw [e1, e2, Xad]
   exact .inr ⟨rfl, rfl⟩
theorem Xpk {L : List Int} (hb : Xoe L) (hl : L.length ≤ 400000) (i : Nat) (hi : i ≤ L.length) (w : Nat) (hw : w ≤ 41) :
  (∃ v : Int, i + w ≤ L.length ∧ v = Xof ((L.drop i).take w) ∧ (0 ≤ v ∧ v < 2 ^ w) ∧ Xb3 (strOfNums L) (i : Int) (w : Int) = some (v, ((i + w : Nat) : Int), true) ∧ Xa4 ⟨strOfNums L, (i : Int), false⟩ (w : Int) = some (v, ⟨strOfNums L, ((i + w : Nat) : Int), false⟩)) ∨
  (L.length < i + w ∧ Xb3 (strOfNums L) (i : Int) (w : Int) = some (0, 0, false) ∧ Xa4 ⟨strOfNums L, (i : Int), false⟩ (w : Int) = some (0, ⟨strOfNums L, (i : Int), true⟩)) := by
 have es := Xug hb hl hi hw
 by_cases h : i + w ≤ L.length
 ·
  rw [if_pos h] at es
  have hr := Xpg (l := (L.drop i).take w) (fun x hx => hb x (List.mem_of_mem_drop (List.mem_of_mem_take hx)))
  have hlen : ((L.drop i).take w).length = w := by rw [List.length_take, List.length_drop]; omega
  rw [hlen] at hr
  exact .inl ⟨_, h, rfl, hr, es, Yem hb hl h hw⟩
 ·
  rw [if_neg h] at es
  refine .inr ⟨by omega, es, ?_⟩
  unfold Xa4
  simp only
  rw [Xaw, strOfNums_size, wk (by omega) (by omega), Xad, Xaj (by omega)]
theorem Ydf (s : ByteArray) (a w : Int) : Xa4 ⟨s, a, true⟩ w = some (0, ⟨s, a, true⟩) := rfl
theorem Xvz (s : ByteArray) (a : Int) : Xc3 ⟨s, a, true⟩ = some ([], ⟨s, a, true⟩) := by
 unfold Xc3
 rw [Yrf, Xad]
 have h : Xa6 (0, ⟨s, a, true⟩) (0, s, a, true, []) = some (.done ([], s, a, true)) := rfl
 simp only
 rw [Xal (by omega), Xad, Xco h, Xad]
theorem Ynz {L : List Int} (hb : Xoe L) (hl : L.length ≤ 400000) (q1 : Int × Int × Bool) (q2 : Int × Xka) (N : Nat) (hN : N ≤ 4) (h1 : q1.1 = (N : Int)) (h2 : q2.1 = (N : Int)) : ∀ n k : Nat, k + n = N → ∀ (i : Nat) (l : List Int), i ≤ L.length → l.length = k →
  (∃ (l' : List Int) (j : Nat), loop (Xbk (strOfNums L) q1) ((i : Int), (k : Int), l) = some (.out ((j : Int), l')) ∧ loop (Xa6 q2) ((k : Int), strOfNums L, (i : Int), false, l) = some (l', strOfNums L, (j : Int), false) ∧ l'.length ≤ 4 ∧ j ≤ L.length) ∨
  (loop (Xbk (strOfNums L) q1) ((i : Int), (k : Int), l) = some (.ret ([], 0, false)) ∧ ∃ (l' : List Int) (a : Int), loop (Xa6 q2) ((k : Int), strOfNums L, (i : Int), false, l) = some (l', strOfNums L, a, true) ∧ l'.length ≤ 4)
 | 0, k, hk, i, l, hi, hll => .inl ⟨l, i, Xb1 (by unfold Xbk; simp only; rw [Xal (by omega)]), Xb1 (by unfold Xa6; simp only; rw [Xal (by omega), Xad, Xaw]), by omega, hi⟩
 | n + 1, k, hk, i, l, hi, hll => by
  have hm : maxLen = 9223372036854775807 := rfl
  rcases Xp5 hb hl i hi with ⟨v, j, e1, e2, v1, v2, v3⟩ | ⟨e1, a, e2⟩
  ·
   have gI : Xa6 q2 ((k : Int), strOfNums L, (i : Int), false, l) = some (.go (((k + 1 : Nat) : Int), strOfNums L, (j : Int), false, l ++ [(v : Int)])) := by
    unfold Xa6
    simp only
    rw [Xaj (by omega), Bool.not_false, Xad, Xax, e2, Xad]
    simp only
    rw [Xai (by simp only [List.length_singleton]; omega), wk (by omega) (by omega)]
    rfl
   have gS : Xbk (strOfNums L) q1 ((i : Int), (k : Int), l) = some (.go ((j : Int), ((k + 1 : Nat) : Int), l ++ [(v : Int)])) := by
    unfold Xbk
    simp only
    rw [Xaj (by omega), e1, Xad]
    simp only
    rw [Bool.not_true, Xaw, Xai (by simp only [List.length_singleton]; omega), wk (by omega) (by omega)]
    rfl
   rcases Ynz hb hl q1 q2 N hN h1 h2 n (k + 1) (by omega) j (l ++ [(v : Int)]) v3 (by rw [List.length_append, List.length_singleton]; omega) with ⟨l', j', r1, r2, r3, r4⟩ | ⟨r1, l', a, r2, r3⟩
   ·
    exact .inl ⟨l', j', lgo gS r1, lgo gI r2, r3, r4⟩
   ·
    exact .inr ⟨lgo gS r1, l', a, lgo gI r2, r3⟩
  ·
   have gI : Xa6 q2 ((k : Int), strOfNums L, (i : Int), false, l) = some (.go (((k + 1 : Nat) : Int), strOfNums L, a, true, l ++ [0])) := by
    unfold Xa6
    simp only
    rw [Xaj (by omega), Bool.not_false, Xad, Xax, e2, Xad]
    simp only
    rw [Xai (by simp only [List.length_singleton]; omega), wk (by omega) (by omega)]
    rfl
   have dI : Xa6 q2 (((k + 1 : Nat) : Int), strOfNums L, a, true, l ++ [0]) = some (.done (l ++ [0], strOfNums L, a, true)) := by
    unfold Xa6
    simp only
    cases decide (((k + 1 : Nat) : Int) < q2.1) <;> rfl
   refine .inr ⟨Xb1 ?_, l ++ [0], a, lgo gI (Xb1 dI), by rw [List.length_append, List.length_singleton]; omega⟩
   unfold Xbk
   simp only
   rw [Xaj (by omega), e1, Xad]
   rfl
theorem Yny {L : List Int} (hb : Xoe L) (hl : L.length ≤ 400000) (i : Nat) (hi : i ≤ L.length) :
  (∃ (l : List Int) (j : Nat), Xdm (strOfNums L) (i : Int) = some (l, (j : Int), true) ∧ Xc3 ⟨strOfNums L, (i : Int), false⟩ = some (l, ⟨strOfNums L, (j : Int), false⟩) ∧ l.length ≤ 4 ∧ j ≤ L.length) ∨
  (Xdm (strOfNums L) (i : Int) = some ([], 0, false) ∧ ∃ (l : List Int) (a : Int), Xc3 ⟨strOfNums L, (i : Int), false⟩ = some (l, ⟨strOfNums L, a, true⟩) ∧ l.length ≤ 4) := by
 unfold Xdm Xc3
 rcases Xp5 hb hl i hi with ⟨v, j, e1, e2, v1, v2, v3⟩ | ⟨e1, a, e2⟩
 ·
  rw [e1, Xad, e2, Xad]
  simp only
  rw [Xax, Xad]
  by_cases hv : (v : Int) > 4
  ·
   rw [Xaj hv, Xaj hv, Xad]
   have h : Xa6 ((v : Int), ⟨strOfNums L, (j : Int), false⟩) (0, strOfNums L, (j : Int), true, []) = some (.done ([], strOfNums L, (j : Int), true)) := by
    unfold Xa6
    simp only
    rw [Xaj (by omega)]
    rfl
   rw [Xco h, Xad]
   exact .inr ⟨rfl, [], j, rfl, by simp⟩
  ·
   rw [Xal hv, Xal hv, Xad]
   rcases Ynz hb hl ((v : Int), (j : Int), true) ((v : Int), ⟨strOfNums L, (j : Int), false⟩) v (by omega) rfl rfl v 0 (by omega) j [] v3 rfl with ⟨l', j', r1, r2, r3, r4⟩ | ⟨r1, l', a, r2, r3⟩
   ·
    have r1' : loop (Xbk (strOfNums L) ((v : Int), (j : Int), true)) ((j : Int), 0, []) = _ := r1
    have r2' : loop (Xa6 ((v : Int), ⟨strOfNums L, (j : Int), false⟩)) (0, strOfNums L, (j : Int), false, []) = _ := r2
    rw [r1', r2', Xad, Xad]
    exact .inl ⟨l', j', rfl, rfl, r3, r4⟩
   ·
    have r1' : loop (Xbk (strOfNums L) ((v : Int), (j : Int), true)) ((j : Int), 0, []) = _ := r1
    have r2' : loop (Xa6 ((v : Int), ⟨strOfNums L, (j : Int), false⟩)) (0, strOfNums L, (j : Int), false, []) = _ := r2
    rw [r1', r2', Xad, Xad]
    exact .inr ⟨rfl, l', a, rfl, r3⟩
 ·
  rw [e1, Xad, e2, Xad]
  simp only
  rw [Xaw, Xad, Xax, Xal (by omega), Xad]
  have h : Xa6 (0, ⟨strOfNums L, a, true⟩) (0, strOfNums L, a, true, []) = some (.done ([], strOfNums L, a, true)) := rfl
  rw [Xco h, Xad]
  exact .inr ⟨rfl, [], a, rfl, by simp⟩
theorem Yfc {L : List Int} (hb : Xoe L) (hl : L.length ≤ 400000) (i : Nat) (hi : i ≤ L.length) : Xex (strOfNums L) (i : Int) = some ⟨strOfNums L, (i : Int), false⟩ := by
 unfold Xex
 rw [Yk8 L hb hl, Xad, Xax, Xan, Xad, strOfNums_size, decide_eq_true (by omega), Xad]
 rfl
theorem Ymv {L : List Int} (hb : Xoe L) (hl : L.length ≤ 400000) (i : Nat) (hi : i ≤ L.length) :
  (∃ (q : Seq) (j : Nat), Xfh (strOfNums L) (i : Int) = some (q, (j : Int), true) ∧ Xi0 (strOfNums L) (i : Int) = some (q, (j : Int), true) ∧ Xmm q = true ∧ q.Cols.length ≤ 4 ∧ q.Rows.length ≤ 4 ∧ j ≤ L.length) ∨
  (Xfh (strOfNums L) (i : Int) = some (⟨0, 0, [], []⟩, 0, false) ∧ Xi0 (strOfNums L) (i : Int) = some (⟨0, 0, [], []⟩, 0, false)) := by
 have hm : maxLen = 9223372036854775807 := rfl
 unfold Xfh Xi0
 rw [Yfc hb hl i hi, Xad]
 rcases Xp5 hb hl i hi with ⟨v, j, e1, e2, v1, v2, v3⟩ | ⟨e1, a, e2⟩
 ·
  rw [e1, Xad, e2, Xad]
  simp only
  rw [Bool.not_true, Xaw]
  rcases Xpk hb hl j v3 4 (by omega) with ⟨w, w1, _, w2, f1, f2⟩ | ⟨_, f1, f2⟩
  ·
   have f1' : Xb3 (strOfNums L) (j : Int) 4 = some (w, ((j + 4 : Nat) : Int), true) := f1
   have f2' : Xa4 ⟨strOfNums L, (j : Int), false⟩ 4 = some (w, ⟨strOfNums L, ((j + 4 : Nat) : Int), false⟩) := f2
   rw [f1', Xad, f2', Xad]
   simp only
   rw [Bool.not_true, Xaw]
   rcases Yny hb hl (j + 4) w1 with ⟨l, j2, g1, g2, g3, g4⟩ | ⟨g1, l, a, g2, g3⟩
   ·
    rw [g1, Xad, g2, Xad]
    simp only
    rw [Bool.not_true, Xaw]
    rcases Yny hb hl j2 g4 with ⟨m, j3, k1, k2, k3, k4⟩ | ⟨k1, m, a, k2, k3⟩
    ·
     rw [k1, Xad, k2, Xad]
     simp only
     rw [Xax, Xaw, Xj1, Xad, Xhg _ (by simp only; omega) (by simp only; omega), Xad, Xad, Xad]
     cases hq : Xmm ⟨(v : Int), w, l, m⟩ with
     | true => exact .inl ⟨_, j3, rfl, rfl, hq, g3, k3, k4⟩
     | false => exact .inr ⟨rfl, rfl⟩
    ·
     rw [k1, Xad, k2, Xad]
     exact .inr ⟨rfl, rfl⟩
   ·
    rw [g1, Xad, g2, Xad]
    simp only
    rw [Xvz, Xad]
    exact .inr ⟨rfl, rfl⟩
  ·
   have f1' : Xb3 (strOfNums L) (j : Int) 4 = some (0, 0, false) := f1
   have f2' : Xa4 ⟨strOfNums L, (j : Int), false⟩ 4 = some (0, ⟨strOfNums L, (j : Int), true⟩) := f2
   rw [f1', Xad, f2', Xad]
   simp only
   rw [Xvz, Xad]
   simp only
   rw [Xvz, Xad]
   exact .inr ⟨rfl, rfl⟩
 ·
  rw [e1, Xad, e2, Xad]
  simp only
  rw [Ydf, Xad]
  simp only
  rw [Xvz, Xad]
  simp only
  rw [Xvz, Xad]
  exact .inr ⟨rfl, rfl⟩
theorem Yxp {L : List Int} (hb : Xoe L) {j : Nat} (h : j + 1 ≤ L.length) : Xof ((L.drop j).take 1) = L.getD j 0 - 48 := by
 have : Xof ((L.drop j).take 1) = 2 * Xof ((L.drop j).take 0) + L.getD j 0 - 48 := Xp6 (L := L) (i := j) (k := 0) (by omega)
 rw [this, show Xof ((L.drop j).take 0) = 0 from rfl]; omega
theorem Ymu {L : List Int} (hb : Xoe L) (hl : L.length ≤ 400000) (i : Nat) (hi : i ≤ L.length) :
  (∃ (p : Par) (j : Nat), Xfg (strOfNums L) (i : Int) = some (p, (j : Int), true) ∧ Xiz (strOfNums L) (i : Int) = some (p, (j : Int), true) ∧ Xt7 p = true ∧ j ≤ L.length) ∨
  (Xfg (strOfNums L) (i : Int) = some (⟨0, false, false, false⟩, 0, false) ∧ Xiz (strOfNums L) (i : Int) = some (⟨0, false, false, false⟩, 0, false)) := by
 unfold Xfg Xiz
 rw [Yfc hb hl i hi, Xad]
 rcases Xpk hb hl i hi 6 (by omega) with ⟨w, w1, _, w2, f1, f2⟩ | ⟨_, f1, f2⟩
 ·
  have f1' : Xb3 (strOfNums L) (i : Int) 6 = some (w, ((i + 6 : Nat) : Int), true) := f1
  have f2' : Xa4 ⟨strOfNums L, (i : Int), false⟩ 6 = some (w, ⟨strOfNums L, ((i + 6 : Nat) : Int), false⟩) := f2
  rw [f1', Xad, f2', Xad]
  simp only
  rw [Xax, strOfNums_size, wk (e := (L.length : Int) - ((i + 6 : Nat) : Int)) (by omega) (by omega)]
  by_cases h3 : i + 9 ≤ L.length
  ·
   have bit : ∀ j : Nat, j + 1 ≤ L.length → Xa4 ⟨strOfNums L, (j : Int), false⟩ 1 = some (L.getD j 0 - 48, ⟨strOfNums L, ((j + 1 : Nat) : Int), false⟩) ∧ ((L.getD j 0 - 48 == 1) = (Xb7 (strOfNums L) (j : Int) == 49)) := fun j hj => by
    rcases Xpk hb hl j (by omega) 1 (by omega) with ⟨u, _, u1, _, _, g2⟩ | ⟨u1, _⟩
    ·
     rw [Yxp hb hj] at u1
     rw [u1] at g2
     refine ⟨g2, ?_⟩
     obtain ⟨b1, b2⟩ := Xzb hb (i := j) (by omega)
     rw [b1]
     rcases b2 with b2 | b2 <;> rw [b2] <;> rfl
    ·
     omega
   obtain ⟨a1, a2⟩ := bit (i + 6) (by omega)
   obtain ⟨b1, b2⟩ := bit (i + 6 + 1) (by omega)
   obtain ⟨c1, c2⟩ := bit (i + 6 + 1 + 1) (by omega)
   rw [decide_eq_false (by omega), Xad, Xaw, Xai (by omega), wk (e := ((i + 6 : Nat) : Int) + 1) (by omega) (by omega), Xai (by omega), wk (e := ((i + 6 : Nat) : Int) + 2) (by omega) (by omega), Xai (by omega), wk (e := ((i + 6 : Nat) : Int) + 3) (by omega) (by omega), a1, Xad]
   simp only
   rw [b1, Xad]
   simp only
   rw [c1, Xad]
   simp only
   rw [Xaw, a2, b2, c2, show ((i + 6 : Nat) : Int) + 1 = ((i + 6 + 1 : Nat) : Int) by omega, show ((i + 6 : Nat) : Int) + 2 = ((i + 6 + 1 + 1 : Nat) : Int) by omega, Xmp, Xmj, Xad, Xad, Xad]
   cases hp : Xt7 ⟨w, Xb7 (strOfNums L) ((i + 6 : Nat) : Int) == 49, Xb7 (strOfNums L) ((i + 6 + 1 : Nat) : Int) == 49, Xb7 (strOfNums L) ((i + 6 + 1 + 1 : Nat) : Int) == 49⟩ with
   | true => exact .inl ⟨_, i + 9, (by rw [Bool.not_true, Xaw]; try rfl), (by rw [Bool.not_true, Xaw]; try rfl), hp, h3⟩
   | false => exact .inr ⟨rfl, rfl⟩
  ·
   rw [decide_eq_true (by omega), Xad, Xax]
   refine .inr ⟨rfl, ?_⟩
   have three : ∀ j : Nat, j ≤ L.length → L.length < j + 3 → ∃ (a b c : Int) (e f g : Xka), Xa4 ⟨strOfNums L, (j : Int), false⟩ 1 = some (a, e) ∧ Xa4 e 1 = some (b, f) ∧ Xa4 f 1 = some (c, g) ∧ g.bad_ = true := fun j h1 h2 => by
    rcases Xpk hb hl j h1 1 (by omega) with ⟨u, k1, _, _, _, g2⟩ | ⟨_, _, g2⟩
    ·
     rcases Xpk hb hl (j + 1) k1 1 (by omega) with ⟨u', k2, _, _, _, g3⟩ | ⟨_, _, g3⟩
     ·
      rcases Xpk hb hl (j + 1 + 1) k2 1 (by omega) with ⟨u'', k3, _, _, _, g4⟩ | ⟨_, _, g4⟩
      ·
       omega
      ·
       exact ⟨_, _, _, _, _, _, g2, g3, g4, rfl⟩
     ·
      exact ⟨_, _, _, _, _, _, g2, g3, Ydf _ _ _, rfl⟩
    ·
     exact ⟨_, _, _, _, _, _, g2, Ydf _ _ _, Ydf _ _ _, rfl⟩
   obtain ⟨a, b, c, e, f, g, r1, r2, r3, r4⟩ := three (i + 6) w1 (by omega)
   rw [r1, Xad]
   simp only
   rw [r2, Xad]
   simp only
   rw [r3, Xad]
   simp only
   rw [r4, Xax, Xad, Xax]
 ·
  have f1' : Xb3 (strOfNums L) (i : Int) 6 = some (0, 0, false) := f1
  have f2' : Xa4 ⟨strOfNums L, (i : Int), false⟩ 6 = some (0, ⟨strOfNums L, (i : Int), true⟩) := f2
  rw [f1', Xad, f2', Xad]
  exact .inr ⟨rfl, rfl⟩
theorem Xoh (b : Int) (h : 3 ≤ b ∧ b ≤ 8) : 0 ≤ Xaa .u64 b ∧ Xaa .i64 (1 * 2 ^ min (Xaa .u64 b).toNat (IntKind.bits .i64)) = 2 ^ b.toNat ∧ Xaa .i64 (1 * 2 ^ min b.toNat (IntKind.bits .i64)) = 2 ^ b.toNat ∧ (2 : Int) ^ b.toNat ≤ 256 ∧ 8 ≤ (2 : Int) ^ b.toNat := by
 obtain h | h | h | h | h | h : b = 3 ∨ b = 4 ∨ b = 5 ∨ b = 6 ∨ b = 7 ∨ b = 8 := by omega
 all_goals (subst h; decide +kernel)
def Ydj (q : Seq) (p : Par) (h : Yhf) : Bool := Xmm q && (Xt7 p && (decide (0 ≤ h.Tile ∧ h.Tile < Xdo q) && (decide (0 ≤ h.Frame ∧ h.Frame < 2 ^ q.Bits.toNat) && decide (0 ≤ h.Qp ∧ h.Qp ≤ 40))))
theorem Xmq {q : Seq} (h : Xmm q = true) : 0 ≤ Xdo q ∧ Xdo q ≤ 1000000 := by
 obtain ⟨h1, h2, _⟩ := Xd9 h
 unfold Xdo
 rw [if_pos h]
 have a := Xkt h1
 have b := Xkt h2
 have : (q.Cols.length : Int) * q.Rows.length ≤ 4 * 4 := Int.mul_le_mul (by omega) (by omega) (by omega) (by omega)
 exact ⟨Int.mul_nonneg (by omega) (by omega), by omega⟩
theorem Yhu (q : Seq) (p : Par) (h : Yhf) (h1 : q.Cols.length ≤ maxLen) (h2 : q.Rows.length ≤ maxLen) : Xm0 q p h = some (Ydj q p h) := by
 unfold Xm0 Ydj
 rw [Xhg q h1 h2, Xad]
 cases hs : Xmm q with
 | false => rfl
 | true =>
  rw [Xax, Xmj, Xad, Bool.true_and]
  cases hp : Xt7 p with
  | false => rfl
  | true =>
   obtain ⟨_, _, b1, b2⟩ := Xd9 hs
   obtain ⟨s1, s2, s3, s4, s5⟩ := Xoh q.Bits ⟨b1, b2⟩
   have ht := Xmq hs
   rw [Xax, Xjn q h1 h2, Xad, Xan, Xad, wk (e := Xdo q - 1) (by omega) (by omega), Bool.true_and, Xai (by omega), s3, wk (e := (2 : Int) ^ q.Bits.toNat - 1) (by omega) (by omega), Xan, Xad, Xan, Xad]
   have e1 : decide (0 ≤ h.Tile ∧ h.Tile ≤ Xdo q - 1) = decide (0 ≤ h.Tile ∧ h.Tile < Xdo q) := by rw [decide_eq_decide]; omega
   have e2 : decide (0 ≤ h.Frame ∧ h.Frame ≤ 2 ^ q.Bits.toNat - 1) = decide (0 ≤ h.Frame ∧ h.Frame < 2 ^ q.Bits.toNat) := by rw [decide_eq_decide]; omega
   rw [e1, e2, Xcj, Xcj, Xad]
theorem Yiy (q : Seq) (p : Par) (h : Yhf) : Xnb q p h = some (Ydj q p h) := by
 unfold Xnb Ydj
 rw [Xmp, Xad]
 cases hp : Xt7 p with
 | false => rw [Xaw, Xad, Bool.false_and, Bool.and_false]
 | true =>
  rw [Xax, Xj4, Xad, Bool.true_and]
  cases hs : Xmm q with
  | false =>
   have : Xdo q = 0 := by unfold Xdo; rw [hs]; rfl
   rw [this, Bool.false_and]
   by_cases h0 : h.Tile ≥ 0
   ·
    rw [Xaj h0, Xal (by omega), Xad]
   ·
    rw [Xal h0, Xad]
  | true =>
   obtain ⟨_, _, b1, b2⟩ := Xd9 hs
   obtain ⟨s1, s2, s3, s4, s5⟩ := Xoh q.Bits ⟨b1, b2⟩
   rw [Bool.true_and, Xai s1, s2, Xak, Xad, Yl4, Yl4, Yl4, Yl4]
   by_cases t1 : h.Tile ≥ 0
   ·
    rw [if_pos t1]
    by_cases t2 : h.Tile < Xdo q
    ·
     rw [if_pos t2, decide_eq_true (show 0 ≤ h.Tile ∧ h.Tile < Xdo q from ⟨t1, t2⟩), Bool.true_and]
     by_cases f1 : h.Frame ≥ 0
     ·
      rw [if_pos f1]
      by_cases f2 : h.Frame < 2 ^ q.Bits.toNat
      ·
       rw [if_pos f2, decide_eq_true (show 0 ≤ h.Frame ∧ h.Frame < 2 ^ q.Bits.toNat from ⟨f1, f2⟩), Bool.true_and, Xad]
      ·
       rw [if_neg f2, decide_eq_false (show ¬ (0 ≤ h.Frame ∧ h.Frame < 2 ^ q.Bits.toNat) from fun h => f2 h.2), Bool.false_and, Xad]
     ·
      rw [if_neg f1, decide_eq_false (show ¬ (0 ≤ h.Frame ∧ h.Frame < 2 ^ q.Bits.toNat) from fun h => f1 h.1), Bool.false_and, Xad]
    ·
     rw [if_neg t2, decide_eq_false (show ¬ (0 ≤ h.Tile ∧ h.Tile < Xdo q) from fun h => t2 h.2), Bool.false_and, Xad]
   ·
    rw [if_neg t1, decide_eq_false (show ¬ (0 ≤ h.Tile ∧ h.Tile < Xdo q) from fun h => t1 h.1), Bool.false_and, Xad]
theorem Yki {L : List Int} (hb : Xoe L) (hl : L.length ≤ 400000) (q : Seq) (p : Par) (h1 : q.Cols.length ≤ maxLen) (h2 : q.Rows.length ≤ maxLen) :
  (∃ (h : Yhf) (j : Nat), Xhr q p (strOfNums L) = some (h, (j : Int), true) ∧ Xhd q p (strOfNums L) = some (h, (j : Int), true) ∧ Ydj q p h = true ∧ j ≤ L.length) ∨
  (Xhr q p (strOfNums L) = some (⟨0, 0, 0⟩, 0, false) ∧ Xhd q p (strOfNums L) = some (⟨0, 0, 0⟩, 0, false)) := by
 unfold Xhr Xhd
 have ho : Xex (strOfNums L) 0 = some ⟨strOfNums L, ((0 : Nat) : Int), false⟩ := Yfc hb hl 0 (by omega)
 rw [ho, Xad, Ymh L hb hl, Xad, Xax, Xj1, Xad, Xmp, Xad, Xhg q h1 h2, Xad, Xmj, Xad]
 cases hs : Xmm q with
 | false => exact .inr ⟨rfl, rfl⟩
 | true =>
  cases hp : Xt7 p with
  | false => exact .inr ⟨rfl, rfl⟩
  | true =>
   rw [Xax, Bool.not_true, Xad, Xaw, Xad, Xaw]
   have hpq : 0 ≤ p.Qp ∧ p.Qp ≤ 40 := Yvt hp
   obtain ⟨_, _, b1, b2⟩ := Xd9 hs
   rcases Xp5 hb hl 0 (by omega) with ⟨v, j, e1, e2, v1, v2, v3⟩ | ⟨e1, a, e2⟩
   ·
    have e1' : Xbb (strOfNums L) 0 = some ((v : Int), (j : Int), true) := e1
    rw [e1', Xad, e2, Xad]
    simp only
    rw [Bool.not_true, Xaw]
    rcases Xpk hb hl j v3 q.Bits.toNat (by omega) with ⟨w, w1, _, w2, f1, f2⟩ | ⟨_, f1, f2⟩
    ·
     rw [show ((q.Bits.toNat : Nat) : Int) = q.Bits by omega] at f1 f2
     rw [f1, Xad, f2, Xad]
     simp only
     rw [Bool.not_true, Xaw]
     rcases Yfm hb hl (j + q.Bits.toNat) w1 with ⟨n, j2, g1, g2, g3, g4, g5⟩ | ⟨g1, a, g2⟩
     ·
      rw [g1, Xad, g2, Xad]
      simp only
      rw [Xax, Xaw, wk (e := p.Qp + n) (by omega) (by omega), wk (e := n + p.Qp) (by omega) (by omega), Int.add_comm n p.Qp, Yiy, Yhu _ _ _ h1 h2, Xad, Xad]
      cases hh : Ydj q p ⟨(v : Int), w, p.Qp + n⟩ with
      | true => exact .inl ⟨_, j2, rfl, rfl, hh, g5⟩
      | false => exact .inr ⟨rfl, rfl⟩
     ·
      rw [g1, Xad, g2, Xad]
      exact .inr ⟨rfl, rfl⟩
    ·
     rw [show ((q.Bits.toNat : Nat) : Int) = q.Bits by omega] at f1 f2
     rw [f1, Xad, f2, Xad]
     simp only
     rw [Yq7, Xad]
     exact .inr ⟨rfl, rfl⟩
   ·
    have e1' : Xbb (strOfNums L) 0 = some (0, 0, false) := e1
    rw [e1', Xad, e2, Xad]
    simp only
    rw [Ydf, Xad]
    simp only
    rw [Yq7, Xad]
    exact .inr ⟨rfl, rfl⟩
theorem Ynu : ∀ (a : List Int) (x : Int), Xnr (a ++ [x]) = Xnr a + x
 | [], x => by simp [Xnr]
 | y :: a, x => by rw [List.cons_append, Xnr, Xnr, Ynu a x, Int.add_assoc]
theorem Ynv {l : List Int} : ∀ k : Nat, k < l.length → Xnr (l.take (k + 1)) = Xnr (l.take k) + l.getD k 0 := by
 intro k hk
 rw [List.take_add_one, List.getElem?_eq_getElem hk, Xci l k hk]
 exact Ynu _ _
theorem Xrz {l : List Int} (h : l.all Xi4 = true) {i : Nat} (hi : i < l.length) : 1 ≤ l.getD i 0 ∧ l.getD i 0 ≤ 8 := by
 have := List.all_eq_true.1 h (l.getD i 0) (by rw [Xci l i hi]; exact List.getElem_mem _)
 unfold Xi4 at this
 rwa [decide_eq_true_eq] at this
theorem Xns {l : List Int} (h : l.all Xi4 = true) (hl : l.length ≤ 4) (i : Nat) : 0 ≤ Xnr (l.take i) ∧ Xnr (l.take i) ≤ 32 := by
 have := Xpv (l := l.take i) (List.all_eq_true.2 fun x hx => List.all_eq_true.1 h x (List.mem_of_mem_take hx))
 rw [List.length_take] at this
 omega
theorem Ym2 {l : List Int} (h : l.all Xi4 = true) (hl : l.length ≤ 4) (k : Nat) (hk : k ≤ l.length) : Xii l (k : Int) = some (Xnr (l.take k)) := by
 have key : ∀ i : Nat, i ≤ k → loop (Xfi l (k : Int)) (Xnr (l.take i), (i : Int)) = some (Xnr (l.take k)) := by
  refine Xdk _ (Xb1 (by unfold Xfi; rw [Xal (by simp)])) ?_
  intro i hi ih
  refine lgo ?_ ih
  have a := Xrz h (i := i) (by omega)
  have b := Xns h hl i
  unfold Xfi
  simp only [Int.toNat_natCast]
  rw [Xaj (by omega), Xai (by omega), wk (e := Xnr (l.take i) + l.getD i 0) (by omega) (by omega), wk (e := (i : Int) + 1) (by omega) (by omega), Ynv i (by omega)]
  rfl
 exact Xeu (key 0 (by omega))
theorem Yrd {l : List Int} (h : l.all Xi4 = true) (hl : l.length ≤ 4) : Xcb l = some (Xnr l) := by
 have key : ∀ i : Nat, i ≤ l.length → loop (Xds l) (Xnr (l.take i), (i : Int)) = some (Xnr l) := by
  refine Xdk _ (Xb1 (by unfold Xds; rw [Xal (by simp), List.take_length])) ?_
  intro i hi ih
  refine lgo ?_ ih
  have a := Xrz h (i := i) (by omega)
  have b := Xns h hl i
  unfold Xds
  simp only [Int.toNat_natCast]
  rw [Xaj (by omega), Xai (by omega), wk (e := Xnr (l.take i) + l.getD i 0) (by omega) (by omega), wk (e := (i : Int) + 1) (by omega) (by omega), Ynv i (by omega)]
  rfl
 exact Xeu (key 0 (by omega))
theorem Yo5 {q : Seq} (hs : Xmm q = true) (h1 : q.Cols.length ≤ maxLen) (h2 : q.Rows.length ≤ maxLen) (t : Int) (ht : 0 ≤ t ∧ t < Xdo q) : ∃ r : Xph, Xhh q t = some (r, true) ∧ Xhu q t = some (r, true) ∧ Xp1 r.Wide = true ∧ Xp1 r.High = true := by
 have hr := Xmq hs
 have hto : Xdo q = (q.Cols.length : Int) * q.Rows.length := by unfold Xdo; rw [if_pos hs]
 obtain ⟨s1, s2, _⟩ := Xd9 hs
 have c1 := Xkt s1
 have c2 := Xkt s2
 unfold Xh0 at s1 s2
 rw [Bool.and_eq_true] at s1 s2
 have m0 := Int.emod_nonneg t (show (q.Cols.length : Int) ≠ 0 by omega)
 have m1 := Int.emod_lt_of_pos t (show 0 < (q.Cols.length : Int) by omega)
 have d0 : 0 ≤ t / (q.Cols.length : Int) := Int.ediv_nonneg ht.1 (by omega)
 have d1 : t / (q.Cols.length : Int) < q.Rows.length := Int.ediv_lt_of_lt_mul (by omega) (by rw [Int.mul_comm, ← hto]; exact ht.2)
 have ex : ∃ x y : Nat, (x : Int) = t % (q.Cols.length : Int) ∧ (y : Int) = t / (q.Cols.length : Int) := ⟨(t % (q.Cols.length : Int)).toNat, (t / (q.Cols.length : Int)).toNat, by omega, by omega⟩
 obtain ⟨x, y, hx, hy⟩ := ex
 have tm : t.tmod (q.Cols.length : Int) = (x : Int) := by rw [Xch ht.1]; exact hx.symm
 have td : Xaa .i64 (t.tdiv (q.Cols.length : Int)) = (y : Int) := by rw [Xbn ht.1, ← hy, wk (by omega) (by omega)]
 have bx := Xns s1.2 c1.2 x
 have by_ := Xns s2.2 c2.2 y
 have gx := Xrz s1.2 (i := x) (by omega)
 have gy := Xrz s2.2 (i := y) (by omega)
 have side8 : ∀ v : Int, 1 ≤ v ∧ v ≤ 8 → Xp1 (8 * v) = true := fun v hv => by
  unfold Xp1
  rw [Bool.and_eq_true, decide_eq_true_eq, decide_eq_true_eq, Xch (by omega)]
  omega
 refine ⟨⟨8 * Xnr (q.Cols.take x), 8 * Xnr (q.Rows.take y), 8 * q.Cols.getD x 0, 8 * q.Rows.getD y 0⟩, ?_, ?_, side8 _ gx, side8 _ gy⟩
 ·
  unfold Xhh
  rw [Xjn q h1 h2, Xad, wk (e := Xdo q - 1) (by omega) (by omega), Xan, Xad, decide_eq_true (by omega), Bool.not_true, Xaw, Xai (by omega), tm, td, Xai (by omega), Xai (by omega)]
  simp only [Int.toNat_natCast]
  rw [show (0 : Int).toNat = 0 from rfl, List.drop_zero, List.drop_zero, Nat.sub_zero, Nat.sub_zero, Yrd (List.all_eq_true.2 fun z hz => List.all_eq_true.1 s1.2 z (List.mem_of_mem_take hz)) (by rw [List.length_take]; omega), Xad, Xai (by omega), Yrd (List.all_eq_true.2 fun z hz => List.all_eq_true.1 s2.2 z (List.mem_of_mem_take hz)) (by rw [List.length_take]; omega), Xad, Xai (by omega), Xai (by omega), wk (e := 8 * Xnr (q.Cols.take x)) (by omega) (by omega), wk (e := 8 * Xnr (q.Rows.take y)) (by omega) (by omega), wk (e := 8 * q.Cols.getD x 0) (by omega) (by omega), wk (e := 8 * q.Rows.getD y 0) (by omega) (by omega)]
 ·
  unfold Xhu
  rw [Xal (by omega), Xj4, Xad, decide_eq_false (by omega), Xad, Xaw, Xai (by omega), tm, td, Xai (by omega), Ym2 s1.2 c1.2 x (by omega), Xad, Ym2 s2.2 c2.2 y (by omega), Xad, Xai (by omega), Xai (by omega)]
  simp only [Int.toNat_natCast]
  rw [wk (e := 8 * Xnr (q.Cols.take x)) (by omega) (by omega), wk (e := 8 * Xnr (q.Rows.take y)) (by omega) (by omega), wk (e := 8 * q.Cols.getD x 0) (by omega) (by omega), wk (e := 8 * q.Rows.getD y 0) (by omega) (by omega)]
theorem Ytw {l m : List Int} {b x : Nat} (h : b + m.length ≤ l.length) (hx : x < m.length) : (over l b (m.take x)).set (b + x) (m.getD x 0) = over l b (m.take (x + 1)) := by
 have h1 : b + (m.take x).length ≤ l.length := by rw [List.length_take]; omega
 have h2 : b + (m.take (x + 1)).length ≤ l.length := by rw [List.length_take]; omega
 apply List.ext_getElem?
 intro j
 rw [List.getElem?_set, Xpy h1, Ycw h1, Ycw h2]
 simp only [List.length_take]
 by_cases hj : b + x = j
 ·
  subst hj
  rw [if_pos rfl, if_pos (by omega), if_pos (by omega), Xci m x hx, List.getElem?_take, if_pos (by omega), show b + x - b = x by omega, List.getElem?_eq_getElem hx]
 ·
  rw [if_neg hj]
  by_cases hin : b ≤ j ∧ j < b + x
  ·
   rw [if_pos (by omega), if_pos (by omega), List.getElem?_take, List.getElem?_take, if_pos (by omega), if_pos (by omega)]
  ·
   rw [if_neg (by omega), if_neg (by omega)]
theorem Yvs (l : List Int) (b : Nat) : over l b [] = l := by
 unfold over
 rw [List.append_nil, List.length_nil, Nat.add_zero, List.take_append_drop]
theorem Yo2 (p0 p1 : Pic) (x y : Int) : ∃ (o : Pic) (b : Bool), Xm2 p0 p1 x y = some (o, b) ∧ Xnd p0 p1 x y = some (o, b) ∧ o.Wide = p0.Wide ∧ o.High = p0.High ∧ o.Dots.size = p0.Dots.size ∧ (b = false → o = p0) := by
 unfold Xm2 Xnd
 have hw := Xk1 p0 ⟨x, y, p1.Wide, p1.High⟩
 simp only at hw
 rw [Xck, Xad, Xfv, Xad, hw]
 cases ok1 : Xcc p1 with
 | false =>
  rw [Xaw, Xad, Xax]
  refine ⟨p0, false, ?_, rfl, rfl, rfl, rfl, fun _ => rfl⟩
  cases Xcc p0 with
  | false => rfl
  | true => rw [Xax, Xck, Xad, ok1]; rfl
 | true =>
  rw [Xax, Xad, Xad, Xck, Xad, ok1]
  cases ok0 : Xcc p0 with
  | false => exact ⟨p0, false, rfl, rfl, rfl, rfl, rfl, fun _ => rfl⟩
  | true =>
   rw [Xax, Xax, Xpq ok0, Xad]
   cases ho : Xlf p0 ⟨x, y, p1.Wide, p1.High⟩ with
   | false => exact ⟨p0, false, rfl, rfl, rfl, rfl, rfl, fun _ => rfl⟩
   | true =>
    have hm : maxLen = 9223372036854775807 := rfl
    obtain ⟨k1, k2, k3⟩ := Xbo ok0
    obtain ⟨g1, g2, g3⟩ := Xbo ok1
    obtain ⟨a1, a2, a3, a4⟩ := Xiv ho
    simp only at a1 a2 a3 a4
    have ar := Xdz k1 k2
    have ar1 := Xdz g1 g2
    have hdl := Yqa ok0
    unfold Xos
    simp only [Bool.and_self, Bool.not_true, Xad, Xaw]
    rw [Xai (by omega), Xai (by omega), Xad]
    -- places of a row
    have row : ∀ r : Nat, (r : Int) < p1.High → ∃ B S : Nat, (B : Int) = (y + (r : Int)) * p0.Wide + x ∧ B + p1.Wide.toNat ≤ p0.Dots.size ∧ (S : Int) = (r : Int) * p1.Wide ∧ S + p1.Wide.toNat ≤ p1.Dots.size ∧ ((r : Int) + 1) * p1.Wide = (S : Int) + p1.Wide ∧ 0 ≤ (y + (r : Int)) * p0.Wide := fun r hr => by
     have e1 : 0 ≤ (y + (r : Int)) * p0.Wide := Int.mul_nonneg (by omega) (by omega)
     have e2 : (y + (r : Int)) * p0.Wide ≤ (p0.High - 1) * p0.Wide := Int.mul_le_mul_of_nonneg_right (by omega) (by omega)
     have e3 : (p0.High - 1) * p0.Wide = p0.Wide * p0.High - p0.Wide := by rw [Int.sub_mul, Int.one_mul, Int.mul_comm]
     have f1 : 0 ≤ (r : Int) * p1.Wide := Int.mul_nonneg (by omega) (by omega)
     have f2 : (r : Int) * p1.Wide ≤ (p1.High - 1) * p1.Wide := Int.mul_le_mul_of_nonneg_right (by omega) (by omega)
     have f3 : (p1.High - 1) * p1.Wide = p1.Wide * p1.High - p1.Wide := by rw [Int.sub_mul, Int.one_mul, Int.mul_comm]
     have f4 : ((r : Int) + 1) * p1.Wide = (r : Int) * p1.Wide + p1.Wide := by rw [Int.add_mul, Int.one_mul]
     refine ⟨((y + (r : Int)) * p0.Wide + x).toNat, ((r : Int) * p1.Wide).toNat, by omega, by omega, by omega, by omega, by omega, e1⟩
    have hl : loop (Xk7 p0 p1 x y) (0, Xav p0.Dots) = loop (Xde p0 p1 x y) (0, Xav p0.Dots) := by
     refine Yqu p1.High.toNat (fun _ s => s.length = p0.Dots.size) ?_ ?_ (Xa2 _)
     ·
      intro r s hr hs
      unfold Xk7 Xde
      simp only
      by_cases hlt : (r : Int) < p1.High
      ·
       obtain ⟨B, S, b1, b2, b3, b4, b5, b6⟩ := row r hlt
       have hml : (Xav (p1.Dots.extract S (S + p1.Wide.toNat))).length = p1.Wide.toNat := by rw [Xa2, ByteArray.size_extract]; omega
       have hin : loop (Xbr p0 p1 x y ((r : Int), s)) (0, s) = some (over s B (Xav (p1.Dots.extract S (S + p1.Wide.toNat)))) := by
        obtain ⟨o, e, ho⟩ := Xhy (f := Xbr p0 p1 x y ((r : Int), s)) p1.Wide.toNat (fun k t => t = over s B ((Xav (p1.Dots.extract S (S + p1.Wide.toNat))).take k)) (by
         intro k t hk ht
         subst ht
         have hol : (over s B ((Xav (p1.Dots.extract S (S + p1.Wide.toNat))).take k)).length = s.length := Xpy (by rw [List.length_take]; omega)
         have hbt : Xb7 p1.Dots ((S : Int) + k) = (Xav (p1.Dots.extract S (S + p1.Wide.toNat))).getD k 0 := by
          rw [Yfa _ k (by rw [ByteArray.size_extract]; omega)]
          unfold Xb7
          rw [dif_pos (show ((S : Int) + k).toNat < p1.Dots.size by omega), dif_pos (by rw [ByteArray.size_extract]; omega), ByteArray.getElem_extract]
          congr 2
         unfold Xbr
         simp only
         rw [Xaj (by omega), wk (e := (r : Int) * p1.Wide) (by omega) (by omega), wk (e := y + (r : Int)) (by omega) (by omega), wk (e := (y + (r : Int)) * p0.Wide) (by omega) (by omega), wk (e := (y + (r : Int)) * p0.Wide + x) (by omega) (by omega), ← b1, ← b3, wk (e := (S : Int) + (k : Int)) (by omega) (by omega), wk (e := (B : Int) + (k : Int)) (by omega) (by omega), Xai (by omega), Xai (by omega), Xai (by omega), wk (e := (k : Int) + 1) (by omega) (by omega), hbt, show ((B : Int) + (k : Int)).toNat = B + k by omega]
         exact ⟨_, rfl, Ytw (by omega) (by omega)⟩) (fun t _ => by unfold Xbr; rw [Xal (by simp only; omega)]) s (by rw [List.take_zero, Yvs])
        rw [e, ho, List.take_of_length_le (by omega)]
       rw [Xaj hlt, Xaj hlt, hin, Xad, wk (e := y + (r : Int)) (by omega) (by omega), wk (e := (y + (r : Int)) * p0.Wide) (by omega) (by omega), wk (e := (y + (r : Int)) * p0.Wide + x) (by omega) (by omega), wk (e := (r : Int) + 1) (by omega) (by omega), wk (e := (r : Int) * p1.Wide) (by omega) (by omega), wk (e := ((r : Int) + 1) * p1.Wide) (by omega) (by omega), b5, ← b1, ← b3, show (S : Int).toNat = S by omega, show (B : Int).toNat = B by omega, show ((S : Int) + p1.Wide).toNat = S + p1.Wide.toNat by omega, Xai (by omega), Xai (by omega), Xai (by rw [hml]; omega)]
      ·
       rw [Xal hlt, Xal hlt]
     ·
      intro r s v' hr hs he
      unfold Xde at he
      simp only at he
      by_cases hlt : (r : Int) < p1.High
      ·
       obtain ⟨B, S, b1, b2, b3, b4, b5, b6⟩ := row r hlt
       rw [Xaj hlt] at he
       obtain ⟨o, e, ho⟩ := Xhy (f := Xbr p0 p1 x y ((r : Int), s)) p1.Wide.toNat (fun k t => t.length = p0.Dots.size) (by
        intro k t hk ht
        unfold Xbr
        simp only
        rw [Xaj (by omega), wk (e := (r : Int) * p1.Wide) (by omega) (by omega), wk (e := y + (r : Int)) (by omega) (by omega), wk (e := (y + (r : Int)) * p0.Wide) (by omega) (by omega), wk (e := (y + (r : Int)) * p0.Wide + x) (by omega) (by omega), ← b1, ← b3, wk (e := (S : Int) + (k : Int)) (by omega) (by omega), wk (e := (B : Int) + (k : Int)) (by omega) (by omega), Xai (by omega), Xai (by omega), Xai (by omega), wk (e := (k : Int) + 1) (by omega) (by omega)]
        exact ⟨_, rfl, by rw [List.length_set]; exact ht⟩) (fun t _ => by unfold Xbr; rw [Xal (by simp only; omega)]) s hs
       rw [e, Xad] at he
       injection he with he
       injection he with he
       subst he
       exact ⟨by simp only; rw [wk (by omega) (by omega)]; rfl, by omega, ho⟩
      ·
       rw [Xal hlt] at he
       cases he
    obtain ⟨o, e, ho2⟩ := Xhy (f := Xde p0 p1 x y) p1.High.toNat (fun _ s => s.length = p0.Dots.size) (by
     intro r s hr hs
     obtain ⟨B, S, b1, b2, b3, b4, b5, b6⟩ := row r (by omega)
     obtain ⟨o, e, ho⟩ := Xhy (f := Xbr p0 p1 x y ((r : Int), s)) p1.Wide.toNat (fun k t => t.length = p0.Dots.size) (by
      intro k t hk ht
      unfold Xbr
      simp only
      rw [Xaj (by omega), wk (e := (r : Int) * p1.Wide) (by omega) (by omega), wk (e := y + (r : Int)) (by omega) (by omega), wk (e := (y + (r : Int)) * p0.Wide) (by omega) (by omega), wk (e := (y + (r : Int)) * p0.Wide + x) (by omega) (by omega), ← b1, ← b3, wk (e := (S : Int) + (k : Int)) (by omega) (by omega), wk (e := (B : Int) + (k : Int)) (by omega) (by omega), Xai (by omega), Xai (by omega), Xai (by omega), wk (e := (k : Int) + 1) (by omega) (by omega)]
      exact ⟨_, rfl, by rw [List.length_set]; exact ht⟩) (fun t _ => by unfold Xbr; rw [Xal (by simp only; omega)]) s hs
     unfold Xde
     simp only
     rw [Xaj (by omega), e, Xad, wk (by omega) (by omega)]
     exact ⟨_, rfl, ho⟩) (fun t _ => by unfold Xde; rw [Xal (by simp only; omega)]) (Xav p0.Dots) (Xa2 _)
    rw [hl, e, Xad]
    exact ⟨_, true, rfl, rfl, rfl, rfl, by rw [strOfNums_size]; exact ho2, fun h => by cases h⟩
def Xkq (p : Pic) : Bool := (p.Wide == 0) && ((p.High == 0) && ((p.Dots.size : Int) == 0))
theorem Yru (s : ByteArray) : (s.toList == (⟨#[]⟩ : ByteArray).toList) = ((s.size : Int) == 0) := by
 rw [Bool.eq_iff_iff, beq_iff_eq, beq_iff_eq, Xy5]
 constructor
 ·
  intro h; rw [h]; rfl
 ·
  intro h
  have := Xpf s
  have hn : Xav s = [] := List.length_eq_zero_iff.1 (by rw [Xa2]; omega)
  rw [hn] at this
  exact this.symm
theorem Yg8 (p : Pic) : Xet p = some (Xkq p) := by
 unfold Xet Xkq
 cases (p.Wide == 0) with
 | false => rfl
 | true => cases (p.High == 0) <;> rfl
theorem Yco (p : Pic) (s : Seq) : Xhx p s = some (Xn1 p s) := by
 unfold Xhx Xn1
 rw [Xti, Xad, Xfv, Xad]
 cases Xcc p with
 | false => rfl
 | true => cases (p.Wide == (Xp2 s).1) <;> rfl
def Yn7 (s : Seq) : Bool := (s.Level == 0) && ((s.Bits == 0) && (((s.Cols.length : Int) == 0) && ((s.Rows.length : Int) == 0)))
theorem Yeq (s : Seq) : Xln s = some (Yn7 s) := by
 unfold Xln Yn7
 cases (s.Level == 0) with
 | false => rfl
 | true =>
  cases (s.Bits == 0) with
  | false => rfl
  | true => cases ((s.Cols.length : Int) == 0) <;> rfl
def Xzm (p : Par) : Bool := (p.Qp == 0) && ((p.Large == false) && ((p.Exact == false) && (p.Confined == false)))
def Yhn (d : Xa0) : Bool :=
 if d.HasSeq = true then
  Xmm d.Seq && ((if d.HasPar = true then Xt7 d.Par else Xzm d.Par && (decide (d.Got = 0) && !d.HasRef)) && (decide (-1 ≤ d.Frame ∧ d.Frame < 2 ^ d.Seq.Bits.toNat) && (decide (0 ≤ d.Got ∧ d.Got < Xdo d.Seq) && ((if d.Got > 0 then !(d.Frame == -1) && Xn1 d.Now d.Seq else Xkq d.Now) && (if d.HasRef = true then Xn1 d.Ref d.Seq else Xkq d.Ref)))))
 else
  !d.HasPar && (!d.HasRef && (Yn7 d.Seq && (Xzm d.Par && ((d.Frame == -1) && ((d.Got == 0) && (Xkq d.Now && Xkq d.Ref))))))
theorem Yme (d : Xa0) : Xo6 d = some (Yhn d) := by
 unfold Xo6 Yhn
 have hP : ((d.Par.Qp == 0) && ((d.Par.Large == false) && ((d.Par.Exact == false) && (d.Par.Confined == false)))) = Xzm d.Par := rfl
 rw [hP]
 simp only [Yg8, Yco, Xj1, Xmp, Xj4, Xad]
 cases hS : d.HasSeq with
 | false =>
  rw [Bool.not_false, Xax, if_neg (by decide)]
  cases d.HasPar with
  | true => rfl
  | false =>
   cases d.HasRef with
   | true => rfl
   | false =>
    unfold Yn7
    cases (d.Seq.Level == 0) with
    | false => rfl
    | true =>
     cases (d.Seq.Bits == 0) with
     | false => rfl
     | true =>
      cases ((d.Seq.Cols.length : Int) == 0) with
      | false => rfl
      | true =>
       cases ((d.Seq.Rows.length : Int) == 0) with
       | false => rfl
       | true =>
        cases Xzm d.Par with
        | false => rfl
        | true =>
         cases (d.Frame == -1) with
         | false => rfl
         | true =>
          cases (d.Got == 0) with
          | false => rfl
          | true => cases Xkq d.Now <;> rfl
 | true =>
  rw [Bool.not_true, Xaw, if_pos rfl]
  cases hs : Xmm d.Seq with
  | false => rfl
  | true =>
   obtain ⟨_, _, b1, b2⟩ := Xd9 hs
   obtain ⟨s1, s2, s3, s4, s5⟩ := Xoh d.Seq.Bits ⟨b1, b2⟩
   have ht := Xmq hs
   rw [Xax, s2, Bool.true_and]
   generalize (2 : Int) ^ d.Seq.Bits.toNat = N at *
   generalize Xdo d.Seq = T at *
   have tailE : ∀ v : Bool, (bnd (sel (decide (d.Frame < (-1))) (some true) (req (0 ≤ (Xaa .u64 (d.Seq.Bits))) <| sel (decide (d.Frame ≥ N)) (some true) (sel (decide (d.Got < 0)) (some true) (sel (decide (d.Got ≥ T)) (some true) (some v))))) fun v7 => sel v7 (some false) (bnd (sel (decide (d.Got > 0)) (sel (d.Frame == (-1)) (some true) (sel (Xn1 d.Now d.Seq) (sel (d.Got == 0) (some (!Xkq d.Now)) (some false)) (some true))) (sel (d.Got == 0) (some (!Xkq d.Now)) (some false))) fun v9 => sel v9 (some false) (bnd (sel d.HasRef (sel (Xn1 d.Ref d.Seq) (some true) (some false)) (some (Xkq d.Ref))) fun v13 => some v13))) = some (!v && (decide (-1 ≤ d.Frame ∧ d.Frame < N) && (decide (0 ≤ d.Got ∧ d.Got < T) && ((if d.Got > 0 then !(d.Frame == -1) && Xn1 d.Now d.Seq else Xkq d.Now) && (if d.HasRef = true then Xn1 d.Ref d.Seq else Xkq d.Ref))))) := by
    intro v
    rw [Xai s1]
    by_cases f1 : d.Frame < -1
    ·
     rw [Xaj f1, Xad, Xax, decide_eq_false (show ¬ (-1 ≤ d.Frame ∧ d.Frame < N) from fun h => by omega), Bool.false_and, Bool.and_false]
    rw [Xal f1]
    by_cases f2 : d.Frame ≥ N
    ·
     rw [Xaj f2, Xad, Xax, decide_eq_false (show ¬ (-1 ≤ d.Frame ∧ d.Frame < N) from fun h => by omega), Bool.false_and, Bool.and_false]
    rw [Xal f2, decide_eq_true (show -1 ≤ d.Frame ∧ d.Frame < N by omega), Bool.true_and]
    by_cases g1 : d.Got < 0
    ·
     rw [Xaj g1, Xad, Xax, decide_eq_false (show ¬ (0 ≤ d.Got ∧ d.Got < T) from fun h => by omega), Bool.false_and, Bool.and_false]
    rw [Xal g1]
    by_cases g2 : d.Got ≥ T
    ·
     rw [Xaj g2, Xad, Xax, decide_eq_false (show ¬ (0 ≤ d.Got ∧ d.Got < T) from fun h => by omega), Bool.false_and, Bool.and_false]
    rw [Xal g2, decide_eq_true (show 0 ≤ d.Got ∧ d.Got < T by omega), Bool.true_and, Xad]
    cases v with
    | true => rfl
    | false =>
     rw [Xaw, Bool.not_false, Bool.true_and]
     by_cases g3 : d.Got > 0
     ·
      rw [Xaj g3, if_pos g3, Xa9 (b := d.Got == 0) (by rw [beq_eq_false_iff_ne]; omega)]
      cases (d.Frame == -1) with
      | true => rfl
      | false =>
       cases Xn1 d.Now d.Seq with
       | false => rfl
       | true =>
        cases d.HasRef with
        | false => cases Xkq d.Ref <;> rfl
        | true => cases Xn1 d.Ref d.Seq <;> rfl
     ·
      rw [Xal g3, if_neg g3, Xbh (b := d.Got == 0) (by rw [beq_iff_eq]; omega)]
      cases Xkq d.Now with
      | false => rfl
      | true =>
       cases d.HasRef with
       | false => cases Xkq d.Ref <;> rfl
       | true => cases Xn1 d.Ref d.Seq <;> rfl
   cases hp : d.HasPar with
   | true =>
    rw [Xax, if_pos rfl]
    cases Xt7 d.Par with
    | false => rfl
    | true =>
     rw [Xax, Xad, Xaw, Bool.true_and]
     exact (tailE false).trans (by rw [Bool.not_false, Bool.true_and])
   | false =>
    rw [Xaw, if_neg (by decide)]
    cases Xzm d.Par with
    | false => rfl
    | true =>
     rw [show ((true : Bool) == false) = false from rfl, Xad, Xaw, Bool.true_and]
     have h2 : (sel (decide (d.Got > 0)) (some true) (some d.HasRef)) = some (decide (d.Got > 0) || d.HasRef) := by
      cases decide (d.Got > 0) <;> rfl
     simp only [Xaw]
     rw [h2]
     refine (tailE _).trans ?_
     by_cases g0 : d.Got = 0
     ·
      rw [decide_eq_true g0, decide_eq_false (show ¬ d.Got > 0 by omega), Bool.false_or, Bool.true_and]
     ·
      rw [decide_eq_false g0, Bool.false_and, Bool.false_and]
      by_cases g1 : d.Got > 0
      ·
       rw [decide_eq_true g1, Bool.true_or, Bool.not_true, Bool.false_and]
      ·
       rw [decide_eq_false (show ¬ (0 ≤ d.Got ∧ d.Got < T) from fun h => by omega), Bool.false_and, Bool.and_false, Bool.and_false]
theorem Yk4 (d : Xa0) (h1 : d.Seq.Cols.length ≤ maxLen) (h2 : d.Seq.Rows.length ≤ maxLen) : Xoj d = some (Yhn d) := by
 unfold Xoj Yhn
 have hP : ((d.Par.Qp == 0) && ((d.Par.Large == false) && ((d.Par.Exact == false) && (d.Par.Confined == false)))) = Xzm d.Par := rfl
 have hN : ((d.Now.Wide == 0) && ((d.Now.High == 0) && ((d.Now.Dots.size : Int) == 0))) = Xkq d.Now := rfl
 have hR : ((d.Ref.Wide == 0) && ((d.Ref.High == 0) && ((d.Ref.Dots.size : Int) == 0))) = Xkq d.Ref := rfl
 rw [hP]
 simp only [Yru, hN, hR, Yeq, Ynn _ _ h1 h2, Xhg _ h1 h2, Xmj, Xjn _ h1 h2, Xan, Xad]
 cases hS : d.HasSeq with
 | false =>
  rw [Bool.not_false, Xax, if_neg (by decide)]
  cases d.HasPar with
  | true => rfl
  | false =>
   cases d.HasRef with
   | true => rfl
   | false =>
    cases Yn7 d.Seq with
    | false => rfl
    | true =>
     cases Xzm d.Par with
     | false => rfl
     | true =>
      cases (d.Frame == -1) with
      | false => rfl
      | true =>
       cases (d.Got == 0) with
       | false => rfl
       | true => cases Xkq d.Now <;> cases Xkq d.Ref <;> rfl
 | true =>
  rw [Bool.not_true, Xaw, if_pos rfl]
  cases hs : Xmm d.Seq with
  | false => rfl
  | true =>
   obtain ⟨_, _, b1, b2⟩ := Xd9 hs
   obtain ⟨s1, s2, s3, s4, s5⟩ := Xoh d.Seq.Bits ⟨b1, b2⟩
   have ht := Xmq hs
   rw [Xax, s3, Bool.true_and]
   generalize (2 : Int) ^ d.Seq.Bits.toNat = N at *
   generalize Xdo d.Seq = T at *
   rw [wk (e := N - 1) (by omega) (by omega), wk (e := T - 1) (by omega) (by omega)]
   have e1 : decide (-1 ≤ d.Frame ∧ d.Frame ≤ N - 1) = decide (-1 ≤ d.Frame ∧ d.Frame < N) := by rw [decide_eq_decide]; omega
   have e2 : decide (0 ≤ d.Got ∧ d.Got ≤ T - 1) = decide (0 ≤ d.Got ∧ d.Got < T) := by rw [decide_eq_decide]; omega
   rw [e1, e2, Xai (by omega)]
   have tailE : (bnd (sel (decide (-1 ≤ d.Frame ∧ d.Frame < N)) (some (!decide (0 ≤ d.Got ∧ d.Got < T))) (some true)) fun v6 => sel v6 (some false) (bnd (sel (decide (d.Got > 0)) (sel (d.Frame == (-1)) (some true) (sel (Xn1 d.Now d.Seq) (sel (d.Got == 0) (some (Xkq d.Now == false)) (some false)) (some true))) (sel (d.Got == 0) (some (Xkq d.Now == false)) (some false))) fun v10 => sel v10 (some false) (sel d.HasRef (some (Xn1 d.Ref d.Seq)) (some (Xkq d.Ref == true))))) = some (decide (-1 ≤ d.Frame ∧ d.Frame < N) && (decide (0 ≤ d.Got ∧ d.Got < T) && ((if d.Got > 0 then !(d.Frame == -1) && Xn1 d.Now d.Seq else Xkq d.Now) && (if d.HasRef = true then Xn1 d.Ref d.Seq else Xkq d.Ref)))) := by
    by_cases f1 : -1 ≤ d.Frame ∧ d.Frame < N
    ·
     rw [decide_eq_true f1, Bool.true_and, Xax, Xad]
     by_cases g1 : 0 ≤ d.Got ∧ d.Got < T
     ·
      rw [decide_eq_true g1, Bool.true_and, Bool.not_true, Xaw]
      by_cases g3 : d.Got > 0
      ·
       rw [Xaj g3, if_pos g3, Xa9 (b := d.Got == 0) (by rw [beq_eq_false_iff_ne]; omega)]
       cases (d.Frame == -1) with
       | true => rfl
       | false =>
        cases Xn1 d.Now d.Seq with
        | false => rfl
        | true =>
         cases d.HasRef with
         | false => cases Xkq d.Ref <;> rfl
         | true => cases Xn1 d.Ref d.Seq <;> rfl
      ·
       rw [Xal g3, if_neg g3, Xbh (b := d.Got == 0) (by rw [beq_iff_eq]; omega)]
       cases Xkq d.Now with
       | false => rfl
       | true =>
        cases d.HasRef with
        | false => cases Xkq d.Ref <;> rfl
        | true => cases Xn1 d.Ref d.Seq <;> rfl
     ·
      rw [decide_eq_false g1, Bool.false_and]; rfl
    ·
     rw [decide_eq_false f1, Bool.false_and]; rfl
   cases hp : d.HasPar with
   | true =>
    rw [Xax, if_pos rfl]
    cases Xt7 d.Par with
    | false => rfl
    | true =>
     rw [Xax, Xad, Xaw, Bool.true_and]
     exact tailE
   | false =>
    rw [Xaw, if_neg (by decide)]
    cases Xzm d.Par with
    | false => rfl
    | true =>
     rw [show ((true : Bool) == false) = false from rfl, Xaw]
     by_cases g0 : d.Got = 0
     ·
      rw [Xa9 (b := d.Got != 0) (by rw [bne_eq_false_iff_eq]; exact g0), decide_eq_true g0]
      cases hr : d.HasRef with
      | true => rfl
      | false =>
       rw [hr] at tailE
       rw [Xad, Xaw]
       exact tailE
     ·
      rw [Xbh (b := d.Got != 0) (by rw [bne_iff_ne]; exact g0), decide_eq_false g0]
      rfl
theorem Ykx (s : Seq) (h1 : s.Cols.length ≤ 1048576) (h2 : s.Rows.length ≤ 1048576) : Xg3 s = some s ∧ Xlm s = some s := by
 have hm : maxLen = 9223372036854775807 := rfl
 constructor
 ·
  unfold Xg3
  rw [Xai (by simp only [List.length_nil]; omega), Xai (by simp only [List.length_nil]; omega)]
  rfl
 ·
  unfold Xlm Xem
  rw [Xai (by simp only [List.length_nil]; omega), Xai (by simp only [List.length_nil]; omega), Xad, Xad]
  rfl
theorem Ym8 {d : Xa0} (h : Yhn d = true) (hp : d.HasPar = true) : d.HasSeq = true := by
 unfold Yhn at h
 cases hs : d.HasSeq with
 | true => rfl
 | false =>
  rw [hs, if_neg (by decide), hp] at h
  simp at h
theorem Ys5 {d : Xa0} (h : Yhn d = true) (hs : d.HasSeq = true) (g : d.Got ≠ 0) : Xcc d.Now = true := by
 unfold Yhn at h
 rw [if_pos hs] at h
 simp only [Bool.and_eq_true, decide_eq_true_eq] at h
 obtain ⟨_, _, _, ⟨g1, _⟩, hn, _⟩ := h
 rw [if_pos (by omega)] at hn
 unfold Xn1 at hn
 simp only [Bool.and_eq_true] at hn
 exact hn.2.1
theorem Yri {L : List Int} (hb : Xoe L) (hl : L.length ≤ 400000) (d : Xa0) (hd : Yhn d = true) (h1 : d.Seq.Cols.length ≤ maxLen) (h2 : d.Seq.Rows.length ≤ maxLen) (k : Int) (hk : k = 1 ∨ k = 5) : ∃ (D : Xa0) (co : Int) (P : Pic), Xj8 d k (strOfNums L) = some (D, co, P) ∧ Xda d (k == 5) (strOfNums L) = some (D, co, P, d) ∧ D.Seq = d.Seq ∧ (P = ⟨0, 0, ⟨#[]⟩⟩ ∨ Xcc P = true) := by
 have hm : maxLen = 9223372036854775807 := rfl
 have fin : ∀ {x : Option (Xa0 × Int × Pic)} {z : Option (Xa0 × Int × Pic × Xa0)} {co : Int}, x = some (d, co, ⟨0, 0, ⟨#[]⟩⟩) → z = some (d, co, ⟨0, 0, ⟨#[]⟩⟩, d) → ∃ (D : Xa0) (co : Int) (P : Pic), x = some (D, co, P) ∧ z = some (D, co, P, d) ∧ D.Seq = d.Seq ∧ (P = ⟨0, 0, ⟨#[]⟩⟩ ∨ Xcc P = true) := fun e1 e2 => ⟨d, _, _, e1, e2, rfl, .inl rfl⟩
 unfold Xj8 Xda
 cases hp : d.HasPar with
 | false =>
  refine fin (co := 4) rfl ?_
  cases d.HasSeq <;> rfl
 | true =>
  rw [Ym8 hd hp, Xax, Bool.not_true, Xaw, Xad, Xaw]
  rcases Yki hb hl d.Seq d.Par h1 h2 with ⟨h, j, e1, e2, hh, hj⟩ | ⟨e1, e2⟩
  ·
   rw [e1, Xad, e2, Xad]
   simp only
   rw [Bool.not_true, Xaw, Xaw]
   cases ht : (h.Tile != d.Got) with
   | true => exact fin (co := 6) rfl rfl
   | false =>
    rw [Xaw, Xaw]
    have ex : ∃ b : Bool, (sel (d.Frame != (-1)) (some (d.Frame != h.Frame)) (some false)) = some b := by cases (d.Frame != (-1)) <;> exact ⟨_, rfl⟩
    obtain ⟨b, eb⟩ := ex
    rw [eb, Xad, Xad]
    cases b with
    | true => exact fin (co := 7) rfl rfl
    | false =>
     rw [Xaw, Xaw]
     have e8 : (sel (k == 1) (some (!d.HasRef)) (some false)) = some (!(k == 5) && !d.HasRef) ∧ (sel (k == 5) (some false) (some (!d.HasRef))) = some (!(k == 5) && !d.HasRef) := by
      rcases hk with rfl | rfl <;> exact ⟨rfl, rfl⟩
     rw [e8.1, e8.2, Xad, Xad]
     cases (!(k == 5) && !d.HasRef) with
     | true => exact fin (co := 8) rfl rfl
     | false =>
      rw [Xaw, Xaw]
      unfold Ydj at hh
      simp only [Bool.and_eq_true, decide_eq_true_eq] at hh
      obtain ⟨hs, hpar, hti, hfr, hqp⟩ := hh
      obtain ⟨s1, s2, b1, b2⟩ := Xd9 hs
      have i1 := Xx1 s1
      have i2 := Xx1 s2
      obtain ⟨r, t1, t2, rw_, rh⟩ := Yo5 hs h1 h2 h.Tile hti
      have sw := Xkw rw_
      have sh := Xkw rh
      have mb : r.Wide / 8 * (r.High / 8) ≤ 8 * 8 := Int.mul_le_mul (by omega) (by omega) (by omega) (by omega)
      have m0 : 1 * 1 ≤ r.Wide / 8 * (r.High / 8) := Int.mul_le_mul (by omega) (by omega) (by omega) (by omega)
      have q1 : Xf6 d.Seq h.Tile = some (r.Wide / 8 * (r.High / 8)) := by
       unfold Xf6
       rw [t2, Xad, Xai (by omega), Xai (by omega), Xbn (a := r.Wide) (by omega), Xbn (a := r.High) (by omega), wk (e := r.Wide / 8) (by omega) (by omega), wk (e := r.High / 8) (by omega) (by omega), wk (by omega) (by omega)]
      have q2 : Xfz d.Seq h.Tile = some (r.Wide / 8 * (r.High / 8)) := by
       unfold Xfz
       rw [t1, Xad, Xai (by omega), Xai (by omega), Xbn (a := r.Wide) (by omega), Xbn (a := r.High) (by omega), wk (e := r.Wide / 8) (by omega) (by omega), wk (e := r.High / 8) (by omega) (by omega), wk (by omega) (by omega)]
      rw [q1, Xad, q2, Xad]
      obtain ⟨l, ok, r1, r2, l1, l2, l3⟩ := Ykj (strOfNums L) (j : Int) (r.Wide / 8 * (r.High / 8)) ⟨k == 5, h.Qp, d.Par.Large, d.Par.Exact⟩
      rw [r1, Xad, r2, Xad]
      cases ok with
      | false => exact fin (co := 9) rfl rfl
      | true =>
       obtain ⟨x, x1, x2, _⟩ := Ykm d.Ref r ⟨k == 5, h.Qp, d.Par.Large, d.Par.Exact⟩ d.Par.Confined l (by omega) (fun q hq => by have := l2 q hq; omega)
       simp only
       rw [Bool.not_true, Xaw, Xaw, t1, Xad, t2, Xad]
       simp only
       rw [x1, Xad, x2, Xad]
       have ev : ∃ n : Pic, (sel (d.Got == 0) (bnd (Xis d.Seq) fun q9 => bnd (Xna q9.1 q9.2) fun q10 => some (q10.Wide, q10.High, q10.Dots)) (some (d.Now.Wide, d.Now.High, d.Now.Dots))) = some (n.Wide, n.High, n.Dots) ∧ (sel (d.Got == 0) (bnd (Xir d.Seq) fun q9 => bnd (Xmz q9.1 q9.2) fun q10 => some (q10.Wide, q10.High, q10.Dots)) (some (d.Now.Wide, d.Now.High, d.Now.Dots))) = some (n.Wide, n.High, n.Dots) ∧ Xcc n = true := by
        cases hg : (d.Got == 0) with
        | false => exact ⟨d.Now, rfl, rfl, Ys5 hd (Ym8 hd hp) (by rw [beq_eq_false_iff_ne] at hg; exact hg)⟩
        | true =>
         have hsz : Xp2 d.Seq = (8 * Xnr d.Seq.Cols, 8 * Xnr d.Seq.Rows) := by unfold Xp2; rw [if_pos hs]
         refine ⟨Yzt (8 * Xnr d.Seq.Cols) (8 * Xnr d.Seq.Rows), ?_, ?_, Yxj (by omega) (by omega)⟩
         ·
          rw [Xax, Xti, Xad, hsz, Xzp _ _ (by simp only; omega) (by simp only; omega), Xad]
          rfl
         ·
          rw [Xax, Xs0 _ h1 h2, Xad, hsz, Xze _ _ (by simp only; omega) (by simp only; omega), Xad]
          rfl
       obtain ⟨n, n1, n2, nok⟩ := ev
       rw [n1, Xad, n2, Xad]
       simp only
       obtain ⟨o, bo, p1, p2, ow, oh, p3, _⟩ := Yo2 n x.1 r.Left r.Top
       have ho : Xcc o = true := by
        obtain ⟨k1, k2, k3⟩ := Xbo nok
        exact Xv0 (by rw [ow]; exact k1) (by rw [oh]; exact k2) (by rw [p3, ow, oh]; exact k3)
       rw [show (⟨n.Wide, n.High, n.Dots⟩ : Pic) = n from rfl, p1, Xad, p2, Xad, Xj4, Xad, Xjn _ h1 h2, Xad]
       simp only
       cases decide ((Xaa .i64 (d.Got + 1)) < Xdo d.Seq) with
       | true => exact ⟨_, _, _, rfl, rfl, rfl, .inl rfl⟩
       | false =>
        obtain ⟨z1, z2, z3, z4, z5⟩ := Xoh d.Seq.Bits ⟨b1, b2⟩
        have nz : (2 : Int) ^ d.Seq.Bits.toNat ≠ 0 := by
         generalize (2 : Int) ^ d.Seq.Bits.toNat = N at z4 z5 ⊢
         omega
        have nb : 0 ≤ d.Seq.Bits := by omega
        rw [Xaw, Xaw, z2, Xai z1, Xai nz]
        unfold Xr2
        rw [z3, Xai nb, Xai nz, Xad]
        exact ⟨_, _, _, rfl, rfl, rfl, .inr ho⟩
  ·
   rw [e1, Xad, e2, Xad]
   simp only
   rw [Bool.not_false, Xax, Xax]
   exact fin (co := 5) rfl rfl
theorem Yms (d : Xa0) (u : ByteArray) (h1 : d.Seq.Cols.length ≤ 1048576) (h2 : d.Seq.Rows.length ≤ 1048576) (hu : u.size ≤ 1048576) : ∃ (D : Xa0) (co : Int) (P : Pic), Xiw d u = some (D, co, P) ∧ Xi5 d u = some (D, co, P) ∧ D.Seq.Cols.length ≤ 1048576 ∧ D.Seq.Rows.length ≤ 1048576 ∧ (P = ⟨0, 0, ⟨#[]⟩⟩ ∨ Xcc P = true) := by
 have hm : maxLen = 9223372036854775807 := rfl
 obtain ⟨_, cp⟩ := Ykx d.Seq h1 h2
 have cd : Xct d = some d := by unfold Xct; rw [cp, Xad]
 have key : ∀ {z x : Option (Xa0 × Int × Pic)} {D : Xa0} {co : Int} {P : Pic}, z = some (D, co, P) → x = some (D, co, P) → D.Seq.Cols.length ≤ 1048576 → D.Seq.Rows.length ≤ 1048576 → (P = ⟨0, 0, ⟨#[]⟩⟩ ∨ Xcc P = true) → ∃ (D : Xa0) (co : Int) (P : Pic), z = some (D, co, P) ∧ (bnd x fun q1 => bnd (Xg3 q1.1.Seq) fun q2 => some ((⟨q1.1.HasSeq, q1.1.HasPar, q1.1.HasRef, q2, q1.1.Par, q1.1.Frame, q1.1.Got, q1.1.Now, q1.1.Ref⟩ : Xa0), q1.2.1, q1.2.2)) = some (D, co, P) ∧ D.Seq.Cols.length ≤ 1048576 ∧ D.Seq.Rows.length ≤ 1048576 ∧ (P = ⟨0, 0, ⟨#[]⟩⟩ ∨ Xcc P = true) := fun {z x D co P} e1 e2 l1 l2 hP => by
  refine ⟨D, co, P, e1, ?_, l1, l2, hP⟩
  rw [e2, Xad]
  simp only
  rw [(Ykx D.Seq l1 l2).1, Xad]
 unfold Xiw Xi5 Xnx
 rw [cd, Xad, Yk4 d (by omega) (by omega), Xad, Yme, Xad]
 cases hd : Yhn d with
 | false => exact key (D := d) (co := 1) rfl rfl h1 h2 (.inl rfl)
 | true =>
  rw [Bool.not_true, Xaw, Xaw]
  rcases Yo6 u hu with ⟨k, L, hk, hb, hl, e1, e2⟩ | ⟨e1, e2⟩
  ·
   rw [e1, Xad, e2, Xad]
   simp only
   rw [Bool.not_true, Xaw, Xaw]
   unfold Ye4 at hk
   simp only [Bool.or_eq_true, beq_iff_eq] at hk
   have hz : ((0 : Nat) : Int) = 0 := rfl
   by_cases k7 : k = 7
   ·
    subst k7
    rw [Xbh (b := (7 : Int) == 7) (by rfl), Xbh (b := (7 : Int) == 7) (by rfl)]
    rcases Ymv hb hl 0 (by omega) with ⟨q, j, r1, r2, hs, l1, l2, _⟩ | ⟨r1, r2⟩
    ·
     rw [hz] at r1 r2
     rw [r1, Xad, r2, Xad]
     simp only
     simp only [Xax, Xad]
     cases ((j : Int) != ((strOfNums L).size : Int)) with
     | true => exact key (D := d) (co := 3) rfl rfl h1 h2 (.inl rfl)
     | false => exact key (D := ⟨true, false, false, q, ⟨0, false, false, false⟩, -1, 0, ⟨0, 0, ⟨#[]⟩⟩, ⟨0, 0, ⟨#[]⟩⟩⟩) (co := 0) rfl rfl (by simp only; omega) (by simp only; omega) (.inl rfl)
    ·
     rw [hz] at r1 r2
     rw [r1, Xad, r2, Xad]
     simp only
     simp only [Xaw, Xax, Xad]
     exact key (D := d) (co := 3) rfl rfl h1 h2 (.inl rfl)
   ·
    rw [Xa9 (b := k == 7) (by rw [beq_eq_false_iff_ne]; exact k7), Xa9 (b := k == 7) (by rw [beq_eq_false_iff_ne]; exact k7)]
    by_cases k8 : k = 8
    ·
     subst k8
     rw [Xbh (b := (8 : Int) == 8) (by rfl), Xbh (b := (8 : Int) == 8) (by rfl)]
     rcases Ymu hb hl 0 (by omega) with ⟨q, j, r1, r2, hs, _⟩ | ⟨r1, r2⟩
     ·
      rw [hz] at r1 r2
      rw [r1, Xad, r2, Xad]
      simp only
      simp only [Xax, Xad]
      cases ((j : Int) != ((strOfNums L).size : Int)) with
      | true => exact key (D := d) (co := 3) rfl rfl h1 h2 (.inl rfl)
      | false =>
       simp only [Xaw]
       cases hS : d.HasSeq with
       | false => exact key (D := d) (co := 4) rfl rfl h1 h2 (.inl rfl)
       | true =>
        simp only [Xax, Xad]
        cases decide (d.Got > 0) with
        | true => exact key (D := d) (co := 4) rfl rfl h1 h2 (.inl rfl)
        | false => exact key (D := ⟨true, true, d.HasRef, d.Seq, q, d.Frame, d.Got, d.Now, d.Ref⟩) (co := 0) rfl rfl h1 h2 (.inl rfl)
     ·
      rw [hz] at r1 r2
      rw [r1, Xad, r2, Xad]
      simp only
      simp only [Xaw, Xax, Xad]
      exact key (D := d) (co := 3) rfl rfl h1 h2 (.inl rfl)
    ·
     rw [Xa9 (b := k == 8) (by rw [beq_eq_false_iff_ne]; exact k8), Xa9 (b := k == 8) (by rw [beq_eq_false_iff_ne]; exact k8)]
     obtain ⟨D, co, P, s1, s2, s3, s4⟩ := Yri hb hl d hd (by omega) (by omega) k (by omega)
     rw [s1, Xad, s2, Xad]
     refine key (D := D) (co := co) (P := P) ?_ rfl (by rw [s3]; exact h1) (by rw [s3]; exact h2) s4
     simp only
     rw [← s3]
  ·
   rw [e1, Xad, e2, Xad]
   exact key (D := d) (co := 2) rfl rfl h1 h2 (.inl rfl)
abbrev Zad := Int × Bool × Bool × Bool × Int × Int × Int × Bool × Bool × Bool × Int × Int × Int × Int × ByteArray × Int × Int × ByteArray × (List Pic) × (List Int) × (List Int) × (List Int)
def Ysk (k : Int) (d : Xa0) (ps : List Pic) (cs : List Int) : Zad := (k, d.HasSeq, d.HasPar, d.HasRef, d.Seq.Level, d.Seq.Bits, d.Par.Qp, d.Par.Large, d.Par.Exact, d.Par.Confined, d.Frame, d.Got, d.Now.Wide, d.Now.High, d.Now.Dots, d.Ref.Wide, d.Ref.High, d.Ref.Dots, ps, cs, d.Seq.Cols, d.Seq.Rows)
theorem Ys4 (us : List ByteArray) (h400 : us.length ≤ 400) (hu : ∀ u ∈ us, u.size ≤ 1048576) : ∀ n k : Nat, k + n = us.length → ∀ (d : Xa0) (ps : List Pic) (cs : List Int), d.Seq.Cols.length ≤ 1048576 → d.Seq.Rows.length ≤ 1048576 → ps.length ≤ k → cs.length = k →
  ∃ (D : Xa0) (ps' : List Pic) (cs' : List Int), loop (Xf8 us) (Ysk (k : Int) d ps cs) = some (Ysk 0 D ps' cs').2 ∧ loop (Xgc us) (Ysk (k : Int) d ps cs) = some (Ysk 0 D ps' cs').2 ∧ D.Seq.Cols.length ≤ 1048576 ∧ D.Seq.Rows.length ≤ 1048576 ∧ ps'.length ≤ 400 ∧ cs'.length ≤ 400
 | 0, k, hk, d, ps, cs, h1, h2, hp, hc => by
  refine ⟨d, ps, cs, Xb1 ?_, Xb1 ?_, h1, h2, by omega, by omega⟩
  ·
   unfold Xf8 Ysk
   simp only
   rw [Xal (by omega)]
  ·
   unfold Xgc Ysk
   simp only
   rw [Xal (by omega)]
 | n + 1, k, hk, d, ps, cs, h1, h2, hp, hc => by
  have hm : maxLen = 9223372036854775807 := rfl
  have hz := hu (us.getD k Xkc) (by rw [Xci us k (by omega)]; exact List.getElem_mem _)
  obtain ⟨D, co, P, ei, es, d1, d2, hP⟩ := Yms d (us.getD k Xkc) h1 h2 hz
  have ei' : Xiw (⟨d.HasSeq, d.HasPar, d.HasRef, ⟨d.Seq.Level, d.Seq.Bits, d.Seq.Cols, d.Seq.Rows⟩, ⟨d.Par.Qp, d.Par.Large, d.Par.Exact, d.Par.Confined⟩, d.Frame, d.Got, ⟨d.Now.Wide, d.Now.High, d.Now.Dots⟩, ⟨d.Ref.Wide, d.Ref.High, d.Ref.Dots⟩⟩ : Xa0) (us.getD k Xkc) = some (D, co, P) := ei
  have es' : Xi5 (⟨d.HasSeq, d.HasPar, d.HasRef, ⟨d.Seq.Level, d.Seq.Bits, d.Seq.Cols, d.Seq.Rows⟩, ⟨d.Par.Qp, d.Par.Large, d.Par.Exact, d.Par.Confined⟩, d.Frame, d.Got, ⟨d.Now.Wide, d.Now.High, d.Now.Dots⟩, ⟨d.Ref.Wide, d.Ref.High, d.Ref.Dots⟩⟩ : Xa0) (us.getD k Xkc) = some (D, co, P) := es
  have hw : decide (P.Wide > 0) = Xcc P := by
   rcases hP with h | h
   ·
    rw [h]; rfl
   ·
    obtain ⟨k1, _, _⟩ := Xbo h
    rw [h]; exact decide_eq_true (by omega)
  have gI : Xf8 us (Ysk (k : Int) d ps cs) = some (.go (Ysk ((k + 1 : Nat) : Int) D (if Xcc P = true then ps ++ [P] else ps) (cs ++ [co]))) := by
   unfold Xf8 Ysk
   simp only [Int.toNat_natCast]
   rw [Xaj (by omega), Xai (by omega), ei', Xad]
   simp only
   rw [Xai (by simp only [List.length_singleton]; omega), Xck, Xad]
   cases Xcc P with
   | true => rw [Xax, Xai (by simp only [List.length_singleton]; omega), Xad, wk (by omega) (by omega)]; rfl
   | false => rw [Xaw, Xad, wk (by omega) (by omega)]; rfl
  have gS : Xgc us (Ysk (k : Int) d ps cs) = some (.go (Ysk ((k + 1 : Nat) : Int) D (if Xcc P = true then ps ++ [P] else ps) (cs ++ [co]))) := by
   unfold Xgc Ysk
   simp only [Int.toNat_natCast]
   rw [Xaj (by omega), Xai (by omega), es', Xad]
   simp only
   rw [Xai (by simp only [List.length_singleton]; omega), hw]
   cases Xcc P with
   | true => rw [Xax, Xai (by simp only [List.length_singleton]; omega), Xad, wk (by omega) (by omega)]; rfl
   | false => rw [Xaw, Xad, wk (by omega) (by omega)]; rfl
  have hl : (if Xcc P = true then ps ++ [P] else ps).length ≤ k + 1 := by
   split
   ·
    rw [List.length_append, List.length_singleton]; omega
   ·
    omega
  obtain ⟨D', ps', cs', r1, r2, r3⟩ := Ys4 us h400 hu n (k + 1) (by omega) D _ (cs ++ [co]) d1 d2 hl (by rw [List.length_append, List.length_singleton]; omega)
  exact ⟨D', ps', cs', lgo gI r1, lgo gS r2, r3⟩
theorem Yo0 (d : Xa0) (us : List ByteArray) (h1 : d.Seq.Cols.length ≤ 1048576) (h2 : d.Seq.Rows.length ≤ 1048576) (hu : ∀ u ∈ us, u.size ≤ 1048576) : ∃ (D : Xa0) (ps : List Pic) (cs : List Int), Xmx d us = some (D, ps, cs) ∧ Xm9 d us = some (D, ps, cs) ∧ D.Seq.Cols.length ≤ 1048576 ∧ D.Seq.Rows.length ≤ 1048576 ∧ ps.length ≤ 400 ∧ cs.length ≤ 400 := by
 obtain ⟨c1, c2⟩ := Ykx d.Seq h1 h2
 have cd : Xct d = some d := by unfold Xct; rw [c2, Xad]
 unfold Xmx Xm9
 rw [cd, Xad, c1, Xad]
 by_cases h4 : (us.length : Int) > 400
 ·
  rw [Xaj h4, Xaj h4]
  exact ⟨d, [], [], rfl, rfl, h1, h2, by simp, by simp⟩
 ·
  rw [Xal h4, Xal h4]
  obtain ⟨D, ps, cs, r1, r2, r3⟩ := Ys4 us (by omega) hu us.length 0 (by omega) d [] [] h1 h2 (by simp) rfl
  refine ⟨D, ps, cs, (Xeu r1).trans rfl, (Xeu r2).trans rfl, r3⟩
theorem Yax (l : List Pic) (hl : l.length ≤ 1048600) : Xkp l l = some true := by
 unfold Xkp
 rw [Xa9 (by simp), Xo5 l.length (f := Xib l l) (by
  intro i hi
  unfold Xib
  rw [Xaj (by omega), Xai (by omega), Xai (by omega), Ye5, Xad, Bool.not_true, Xaw, wk (by omega) (by omega)]
  rfl) (by unfold Xib; rw [Xal (by omega)])]
 rfl
noncomputable def Ya7 (k : Int) : List Pic → List Pic
 | [] => []
 | _ :: r => ⟨k, k + 1, mT (k + 2)⟩ :: Ya7 (k + 3) r
theorem Yn6 : ∀ (l : List Pic) (k : Int), (Ya7 k l).length = l.length
 | [], _ => rfl
 | _ :: r, k => by rw [Ya7, List.length_cons, List.length_cons, Yn6 r]
theorem Ya3 (l : List Pic) (k : Int) (h0 : 0 < k) (h1 : k ≤ 100000000) (hl : l.length ≤ 1048600) : Xju l k = some (k + 3 * l.length, Ya7 k l) := by
 unfold Xju
 have key : ∀ (r a : List Pic) (j : Int), 0 < j → j + 3 * r.length ≤ 200000000 → a.length + r.length ≤ 1048600 → loop Xf4 (j, (a.length : Int), a ++ r) = some (j + 3 * r.length, a ++ Ya7 j r) := by
  intro r
  induction r with
  | nil =>
   intro a j hj1 hj2 hl
   refine Xb1 ?_
   unfold Xf4
   simp only [List.append_nil]
   rw [Xal (by omega)]
   simp [Ya7]
  | cons p r ih =>
   intro a j hj1 hj2 hl
   simp only [List.length_cons] at hj2 hl ⊢
   have hcl : ∀ x : Pic, (a ++ x :: r).length = a.length + (r.length + 1) := fun x => by simp
   refine lgo (y := (j + 3, ((a ++ [(⟨j, j + 1, mT (j + 2)⟩ : Pic)]).length : Int), (a ++ [(⟨j, j + 1, mT (j + 2)⟩ : Pic)]) ++ r)) ?_ ?_
   ·
    unfold Xf4
    simp only [Int.toNat_natCast, Xad, Yl7, Xnp, hcl]
    rw [Xaj (by omega), Xai (by omega), Xai (by omega), Xai (by omega), Xai (by omega), wk (e := j + 1) (by omega) (by omega), wk (e := j + 1 + 1) (by omega) (by omega), Xqf _ (by omega) (by omega), Xad, Xai (by omega), Xai (by omega), wk (e := j + 1 + 1 + 1) (by omega) (by omega), wk (e := (a.length : Int) + 1) (by omega) (by omega)]
    rw [show j + 1 + 1 + 1 = j + 3 by omega, show j + 1 + 1 = j + 2 by omega]
    simp
   ·
    rw [ih _ (j + 3) (by omega) (by omega) (by simp; omega)]
    simp only [Ya7, List.append_assoc, List.singleton_append]
    congr 2
    omega
 have := key l [] k h0 (by omega) (by simp; omega)
 simp only [List.length_nil, List.nil_append] at this
 rw [show ((k, 0, l) : Int × Int × List Pic) = (k, ((0 : Nat) : Int), l) from rfl, this]
 rfl
theorem Yaz (l : List Pic) (k : Int) (h0 : 0 < k) (h1 : k ≤ 100000000) (hl : l.length ≤ 1048600) : Xhl (Ya7 k l) k = some (k + 3 * l.length) := by
 unfold Xhl
 have key : ∀ (r a : List Pic) (j : Int), 0 < j → j + 3 * r.length ≤ 200000000 → a.length + r.length ≤ 1048600 → loop (Xf2 (a ++ Ya7 j r)) (j, (a.length : Int)) = some (.out (j + 3 * r.length)) := by
  intro r
  induction r with
  | nil =>
   intro a j hj1 hj2 hl
   refine Xb1 ?_
   unfold Xf2
   simp only [Ya7, List.append_nil]
   rw [Xal (by omega)]
   simp
  | cons p r ih =>
   intro a j hj1 hj2 hl
   simp only [List.length_cons] at hj2 hl ⊢
   have hcl : ∀ (x : Pic) (r : List Pic), (a ++ x :: r).length = a.length + (r.length + 1) := fun x r => by simp
   refine lgo (y := (j + 3, ((a ++ [(⟨j, j + 1, mT (j + 2)⟩ : Pic)]).length : Int))) ?_ ?_
   ·
    unfold Xf2
    simp only [Ya7, Int.toNat_natCast, Xnp, hcl, Yn6]
    rw [Xaj (by omega), Xai (by omega), Xa9 (by simp), Xai (by omega), wk (e := j + 1) (by omega) (by omega), Xa9 (by simp), Xai (by omega), wk (e := j + 1 + 1) (by omega) (by omega), Xqf _ (by omega) (by omega), Xad, Xa9 (by rw [show j + 1 + 1 = j + 2 by omega]; simp), wk (e := j + 1 + 1 + 1) (by omega) (by omega), wk (e := (a.length : Int) + 1) (by omega) (by omega)]
    simp; omega
   ·
    have := ih (a ++ [(⟨j, j + 1, mT (j + 2)⟩ : Pic)]) (j + 3) (by omega) (by omega) (by simp; omega)
    simp only [Ya7]
    rw [List.append_assoc, List.singleton_append] at this
    rw [this]
    congr 2
    omega
 have := key l [] k h0 (by omega) (by simp; omega)
 simp only [List.length_nil, List.nil_append] at this
 rw [show ((k, 0) : Int × Int) = (k, ((0 : Nat) : Int)) from rfl, this]
 rfl
theorem Yyt (s : ByteArray) (q1 : List Int) (idx : Nat) (x x' : List ByteArray) (i a : Int) (h : idx < (q1 ++ [(s.size : Int)]).length) (ha : (q1 ++ [(s.size : Int)]).getD idx 0 = a) (a0 : 0 ≤ a ∧ a ≤ 100000) : Xij s q1 ((idx : Int), x) = Xb9 s (a + 3, i, x') := by
 funext v
 unfold Xij Xb9
 have e1 : (q1 ++ [(s.size : Int)]).getD (((idx : Int), x) : Int × List ByteArray).1.toNat 0 = a := by
  rw [← ha]; rfl
 rw [Xai (by simp only; omega), Xai (by simp only [Int.toNat_natCast]; exact h), e1, wk (e := a + 3) (by omega) (by omega)]
theorem Yrr (s : ByteArray) (hs : s.size ≤ 60000) (b : Int) (i : Nat) (x : List ByteArray) (hi : i ≤ s.size) (hx : x.length = 400) : Xuv s (b, (i : Int), x) = some x := by
 by_cases hb : 0 ≤ b ∧ b ≤ (i : Int)
 ·
  obtain ⟨e, he, h1, h2⟩ := Ypk s b i x hb.1 i hb.2 (by omega) (by omega)
  rw [Ydc s hs b i e x (by omega) hb.1 hb.2 he h1 (by omega), if_neg (fun h => by omega)]
 ·
  exact Xuw s b i x hb
theorem Ysi (s : ByteArray) (hs : s.size ≤ 60000) (x : List ByteArray) (hx : x.length = 400) : ∀ i : Nat, i ≤ s.size + 1 → ∀ b : Int, loop (Xb8 s) (b, (i : Int), x) = some x := by
 refine Xdk _ (fun b => Xb1 (Xy6 s b x)) ?_
 intro i hi ih b
 have st := Xse s hs b i x (by omega)
 by_cases hh : Yhh ((Xav s).drop i) ∨ i = s.size
 ·
  rw [if_pos hh, Yrr s hs b i x (by omega) hx, Xad] at st
  exact lgo st (ih _)
 ·
  rw [if_neg hh] at st
  exact lgo st (ih b)
def Xt8 (s : ByteArray) (i : Nat) : List Int := if i ≤ s.size then Xnm (i : Int) ((Xav s).drop i) ++ [(s.size : Int)] else []
theorem Yfd (s : ByteArray) (i : Nat) (h : Yhh ((Xav s).drop i)) : i + 2 < s.size ∧ Xt8 s i = (i : Int) :: Xt8 s (i + 1) := by
 have hl := Xa2 s
 have hlt : i + 2 < s.size := by
  obtain ⟨r, e⟩ := Xu2 _ h
  have := congrArg List.length e
  rw [List.length_drop] at this
  simp at this
  omega
 refine ⟨hlt, ?_⟩
 unfold Xt8
 rw [if_pos (by omega), if_pos (by omega)]
 have hd : (Xav s).drop i = (Xav s)[i]'(by omega) :: (Xav s).drop (i + 1) := List.drop_eq_getElem_cons (by omega)
 rw [hd] at h ⊢
 rw [Xnm, if_pos h, show ((i + 1 : Nat) : Int) = (i : Int) + 1 by omega]
 rfl
theorem Yq0 (s : ByteArray) (i : Nat) (hi : i < s.size) (h : ¬ Yhh ((Xav s).drop i)) : Xt8 s i = Xt8 s (i + 1) := by
 have hl := Xa2 s
 unfold Xt8
 rw [if_pos (by omega), if_pos (by omega)]
 have hd : (Xav s).drop i = (Xav s)[i]'(by omega) :: (Xav s).drop (i + 1) := List.drop_eq_getElem_cons (by omega)
 rw [hd] at h ⊢
 rw [Xnm, if_neg h, show ((i + 1 : Nat) : Int) = (i : Int) + 1 by omega]
theorem Xv3 (s : ByteArray) : Xt8 s s.size = [(s.size : Int)] ∧ Xt8 s (s.size + 1) = [] := by
 have hl := Xa2 s
 unfold Xt8
 rw [if_pos (by omega), if_neg (by omega), List.drop_eq_nil_of_le (by omega)]
 exact ⟨rfl, rfl⟩
theorem Yp2 (s : ByteArray) (hs : s.size ≤ 60000) (q1 : List Int) (idx : Nat) (hidx : idx ≤ 100000) (x : List ByteArray) (hx : x.length < 400) (a b : Int) (t : List Int) (hd : (q1 ++ [(s.size : Int)]).drop idx = a :: b :: t) (a0 : 0 ≤ a) (ab : a + 3 ≤ b) (bs : b ≤ s.size) : Xcs s q1 ((idx : Int), x) = bnd (Xuv s (a + 3, b, x)) fun y => some (.go (((idx + 1 : Nat) : Int), y)) := by
 have hm : maxLen = 9223372036854775807 := rfl
 have hlen : idx + 1 < (q1 ++ [(s.size : Int)]).length := by
  have := congrArg List.length hd
  rw [List.length_drop] at this
  simp only [List.length_cons] at this
  omega
 have ga : (q1 ++ [(s.size : Int)]).getD idx 0 = a := by
  rw [List.getD_eq_getElem?_getD, show idx = idx + 0 from rfl, ← List.getElem?_drop, hd]; rfl
 have gb : (q1 ++ [(s.size : Int)]).getD (idx + 1) 0 = b := by
  rw [List.getD_eq_getElem?_getD, ← List.getElem?_drop, hd]; rfl
 clear hd
 subst ga
 subst gb
 generalize hA : (q1 ++ [(s.size : Int)]).getD idx 0 = a at *
 generalize hB : (q1 ++ [(s.size : Int)]).getD (idx + 1) 0 = b at *
 obtain ⟨e, he, h1, h2⟩ := Ypk s (a + 3) b x (by omega) b ab bs (by omega)
 have hc := Ydc s hs (a + 3) b e x (by omega) (by omega) ab he h1 (by omega)
 have el := Yyt s q1 idx x x b a (by omega) hA (by omega)
 rw [hc, Xad]
 unfold Xcs
 simp only [Int.toNat_natCast]
 rw [wk (e := (idx : Int) + 1) (by omega) (by omega), show (idx : Int) + 1 = ((idx + 1 : Nat) : Int) by omega, Xaj (by omega), decide_eq_true (by omega), Xad, Xax, Xai (by omega), Xai (by omega), Int.toNat_natCast, hB, el, he, Xad, Xai (by omega), Xai (by omega)]
 have hw : Xaa .i64 ((q1 ++ [(s.size : Int)]).getD idx 0 + 3) = a + 3 := by rw [hA, wk (by omega) (by omega)]
 simp only [hw]
 rw [Xai (by omega), Xxt _ (by rw [ByteArray.size_extract]; omega), Xad]
 cases hu : (unV (s.extract (a + 3).toNat e.toNat)).2 with
 | true => rw [Xax, Xai (by simp only [List.length_singleton]; omega), Xad, if_pos ⟨rfl, hx⟩]
 | false => rw [Xaw, Xad, if_neg (fun h => by simp at h)]
theorem Xun (s : ByteArray) (q1 : List Int) (idx : Nat) (hidx : idx ≤ 100000) (x : List ByteArray) (hx : x.length = 400 ∨ (q1 ++ [(s.size : Int)]).length ≤ idx + 1) : Xcs s q1 ((idx : Int), x) = some (.done x) := by
 unfold Xcs
 simp only
 rw [wk (e := (idx : Int) + 1) (by omega) (by omega)]
 by_cases h : (idx : Int) + 1 < ((q1 ++ [(s.size : Int)]).length : Int)
 ·
  rw [Xaj h, decide_eq_false (by omega), Xad, Xaw]
 ·
  rw [Xal h, Xad, Xaw]
theorem Ysj (s : ByteArray) (hs : s.size ≤ 60000) (q1 : List Int) (hq : q1.length ≤ 60000) : ∀ i : Nat, i ≤ s.size + 1 → ∀ (idx : Nat) (p : Int) (x : List ByteArray), (q1 ++ [(s.size : Int)]).drop idx = p :: Xt8 s i → 0 ≤ p → (∀ j : Nat, i ≤ j → j ≤ s.size → (Yhh ((Xav s).drop j) ∨ j = s.size) → p + 3 ≤ j) → x.length ≤ 400 → (∀ u ∈ x, u.size ≤ 60000) →
  ∃ r, loop (Xb8 s) (p + 3, (i : Int), x) = some r ∧ loop (Xcs s q1) ((idx : Int), x) = some r ∧ r.length ≤ 400 ∧ ∀ u ∈ r, u.size ≤ 60000 := by
 refine Xdk _ ?_ ?_
 ·
  intro idx p x hd hp hC hx hxs
  have hl := congrArg List.length hd
  rw [(Xv3 s).2, List.length_drop, List.length_append, List.length_singleton] at hl
  simp only [List.length_cons, List.length_nil] at hl
  exact ⟨x, Xb1 (Xy6 s _ x), Xb1 (Xun s q1 idx (by omega) x (.inr (by rw [List.length_append, List.length_singleton]; omega))), hx, hxs⟩
 ·
  intro i hi ih idx p x hd hp hC hx hxs
  have hl := congrArg List.length hd
  rw [List.length_drop, List.length_append, List.length_singleton] at hl
  simp only [List.length_cons] at hl
  by_cases h4 : x.length = 400
  ·
   exact ⟨x, Ysi s hs x h4 i (by omega) _, Xb1 (Xun s q1 idx (by omega) x (.inl h4)), hx, hxs⟩
  have st := Xse s hs (p + 3) i x (by omega)
  by_cases hh : Yhh ((Xav s).drop i) ∨ i = s.size
  ·
   have hb := hC i (Nat.le_refl _) (by omega) hh
   have hT : Xt8 s i = (i : Int) :: Xt8 s (i + 1) := by
    rcases hh with h | h
    ·
     exact (Yfd s i h).2
    ·
     rw [h, (Xv3 s).1, (Xv3 s).2]
   rw [hT] at hd
   obtain ⟨y, y1, y2, y3⟩ := Yrq s hs (p + 3) i x (by omega) hx hxs
   have sI := Yp2 s hs q1 idx (by omega) x (by omega) p i _ hd hp hb (by omega)
   rw [y1, Xad] at sI
   rw [if_pos hh, y1, Xad] at st
   have hd2 : (q1 ++ [(s.size : Int)]).drop (idx + 1) = (i : Int) :: Xt8 s (i + 1) := by
    rw [← List.drop_drop, hd]; rfl
   obtain ⟨r, r1, r2, r3⟩ := ih (idx + 1) i y hd2 (by omega) (fun j h1 h2 h3 => by
    rcases hh with h | h
    ·
     have h5 := (Yfd s i h).1
     rcases Nat.lt_or_ge j (i + 3) with hj | hj
     ·
      rcases h3 with h3 | h3
      ·
       obtain ⟨r, e⟩ := Xu2 _ h
       obtain ⟨z, ez⟩ := Xu2 _ h3
       have : j = i + 1 ∨ j = i + 2 := by omega
       rcases this with rfl | rfl
       ·
        rw [← List.drop_drop, e] at ez; simp at ez
       ·
        rw [← List.drop_drop, e] at ez; simp at ez
      ·
       omega
     ·
      omega
    ·
     omega) y2 y3
   exact ⟨r, lgo st r1, lgo sI r2, r3⟩
  ·
   rw [if_neg hh] at st
   have hne : i < s.size := by
    rcases Nat.lt_or_ge i s.size with h | h
    ·
     exact h
    ·
     exact absurd (Or.inr (by omega)) hh
   rw [Yq0 s i hne (fun h => hh (.inl h))] at hd
   obtain ⟨r, r1, r2, r3⟩ := ih idx p x hd hp (fun j h1 h2 h3 => hC j (by omega) h2 h3) hx hxs
   exact ⟨r, lgo st r1, r2, r3⟩
theorem Yom : ∀ (L : List Int) (p : Int), (Xnm p L).length ≤ L.length
 | [], p => by simp [Xnm]
 | c :: r, p => by
  rw [Xnm]
  have := Yom r (p + 1)
  split
  ·
   simp only [List.length_cons]; omega
  ·
   simp only [List.length_cons]; omega
theorem Ymy (s : ByteArray) : ∃ r : List ByteArray, Xll s = some r ∧ Xlv s = some r ∧ r.length ≤ 400 ∧ ∀ u ∈ r, u.size ≤ 60000 := by
 have hm : maxLen = 9223372036854775807 := rfl
 unfold Xll Xlv
 by_cases h6 : (s.size : Int) > 60000
 ·
  rw [Xaj h6, Xaj h6]
  exact ⟨[], rfl, rfl, by simp, fun u hu => by simp at hu⟩
 have hs : s.size ≤ 60000 := by omega
 have hq : (Xnm 0 (Xav s)).length ≤ 60000 := by
  have := Yom (Xav s) 0
  rw [Xa2] at this
  omega
 rw [Xal h6, Xal h6, Yie s hs, Xad, Xai (by simp only [List.length_singleton]; omega)]
 have key : ∀ i : Nat, i ≤ s.size → (Xnm 0 (Xav s) ++ [(s.size : Int)]) = Xt8 s i → ∃ r, loop (Xb8 s) (-1, (i : Int), []) = some r ∧ loop (Xcs s (Xnm 0 (Xav s))) (((0 : Nat) : Int), []) = some r ∧ r.length ≤ 400 ∧ ∀ u ∈ r, u.size ≤ 60000 := by
  refine Xdk _ ?_ ?_
  ·
   intro hT
   have st := Xse s hs (-1) s.size [] (Nat.le_refl _)
   rw [if_pos (.inr rfl), Xuw s (-1) s.size [] (by omega), Xad] at st
   rw [(Xv3 s).1] at hT
   refine ⟨[], lgo st (Xb1 (Xy6 s _ [])), Xb1 (Xun s _ 0 (by omega) [] (.inr (by rw [hT]; simp))), by simp, fun u hu => by simp at hu⟩
  ·
   intro i hi ih hT
   have st := Xse s hs (-1) i [] (by omega)
   by_cases hh : Yhh ((Xav s).drop i)
   ·
    obtain ⟨h5, hr⟩ := Yfd s i hh
    rw [if_pos (.inl hh), Xuw s (-1) i [] (by omega), Xad] at st
    obtain ⟨r, r1, r2, r3⟩ := Ysj s hs (Xnm 0 (Xav s)) hq (i + 1) (by omega) 0 i [] (by rw [List.drop_zero, hT, hr]) (by omega) (fun j h1 h2 h3 => by
     rcases Nat.lt_or_ge j (i + 3) with hj | hj
     ·
      rcases h3 with h3 | h3
      ·
       obtain ⟨r, e⟩ := Xu2 _ hh
       obtain ⟨z, ez⟩ := Xu2 _ h3
       have : j = i + 1 ∨ j = i + 2 := by omega
       rcases this with rfl | rfl
       ·
        rw [← List.drop_drop, e] at ez; simp at ez
       ·
        rw [← List.drop_drop, e] at ez; simp at ez
      ·
       omega
     ·
      omega) (by simp) (fun u hu => by simp at hu)
    exact ⟨r, lgo st r1, r2, r3⟩
   ·
    rw [if_neg (fun h => by rcases h with h | h; exact hh h; omega)] at st
    rw [Yq0 s i hi hh] at hT
    obtain ⟨r, r1, r2, r3⟩ := ih hT
    exact ⟨r, lgo st r1, r2, r3⟩
 obtain ⟨r, r1, r2, r3, r4⟩ := key 0 (by omega) (by unfold Xt8; rw [if_pos (by omega), List.drop_zero]; rfl)
 exact ⟨r, (Xeu r2).trans rfl, (Xeu r1).trans rfl, r3, r4⟩
theorem FnExactDecStream {p0 : ByteArray} (h0 : p0.size ≤ maxLen) : Xeo p0 = some true := by
 unfold Xeo
 by_cases hz : (p0.size : Int) > 1048576
 ·
  rw [Xaj hz]
 rw [Xal hz]
 obtain ⟨us, u1, u2, u3, u4⟩ := Ymy p0
 obtain ⟨D, ps, cs, ei, es, d1, d2, hp, hc⟩ := Yo0 ⟨false, false, false, ⟨0, 0, [], []⟩, ⟨0, false, false, false⟩, -1, 0, ⟨0, 0, ⟨#[]⟩⟩, ⟨0, 0, ⟨#[]⟩⟩⟩ us (by simp) (by simp) (fun u hu => by have := u4 u hu; omega)
 have e1 : Xf9 p0 = some (ps, cs) := by
  unfold Xf9 Xmy
  rw [Xad, u1, Xad, ei, Xad]
 have e2 : Xid p0 = some (ps, cs) := by
  unfold Xid Xp3
  rw [Xad, u2, Xad, es, Xad]
 simp only [e1, e2, Xad, Yax ps (by omega), Yaw cs (by omega), Xax, Bool.not_true, Xaw, Ya3 ps 1 (by omega) (by omega) (by omega), Ya1 cs (1 + 3 * (ps.length : Int)) (by omega) (by omega) (by omega), Yaz ps 1 (by omega) (by omega) (by omega), Yay cs (1 + 3 * (ps.length : Int)) (by omega) (by omega) (by omega), bne_self_eq_false]
 rw [Xal (by omega), Xal (by omega), Xal (by omega), Xal (by omega)]
end Go.Proofs.YtjgbfopmjpkkhaaGreat.A.Pure
