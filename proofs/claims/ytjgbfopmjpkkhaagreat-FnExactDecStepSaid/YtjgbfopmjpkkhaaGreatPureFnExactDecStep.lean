/- The pure statement of the law FnExactDecStep, part 2: over numbers, texts and lists alone, what the law computes is true. Conditions: the sizes of what a machine holds. -/
import Derived.Test.YtjgbfopmjpkkhaaGreatPureFnExactDecStepx0
namespace Go.Proofs.YtjgbfopmjpkkhaaGreat.A.Pure
open Go Go.Proofs Go.Proofs.YtjgbfopmjpkkhaaGreatAL Go.RowKit
set_option linter.unusedVariables false
set_option linter.unusedSimpArgs false
set_option maxHeartbeats 1000000
theorem Ybf {now ref : Pic} {l t x y : Int} {c : Xju} {q : Xay} (h : Yuo now ref l t x y c q) (hq : Xq9 q = true) (hL : Xlr q c = true) (hr : c.Key = false → Xcp ref = true) : ∃ d, Xc2 now ref l t c x y q = some (d, true) ∧ Xch now ref l t c x y q = some (d, true) ∧ Xmd d = true := by
 obtain ⟨ok, hx, hy, h0, hl, ht, hc, hs⟩ := h
 obtain ⟨k1, k2, k3⟩ := Xbr ok
 have h0' := h0
 unfold Xky at h0'
 rw [decide_eq_true_eq] at h0'
 have dxy := Ytt hq
 unfold Xch Xc2
 rw [Xlq ok hx hy h0, Xad, Xaw, Xak, Xad, decide_eq_true hl, Xaw, Xak, Xad, decide_eq_true ht, Xaw, Xh7, Xad, hq, Xaw, Xeo, Xad, hc, Bool.not_true, Xad, Xav]
 rw [Xct, Xad, ok, Xaw, Xqn ok hx hy h0, Xad, Xaw, Xan, Xad, decide_eq_true hl, Xaw, Xan, Xad, decide_eq_true ht, Xaw, Xfo q (by omega), Xad, hq, Xaw, Xdk, Xad, hc, Xaw, Ycx, Xad, hL, Xaw]
 by_cases h2 : q.Kind = 2
 ·
  obtain ⟨hm, hlv⟩ := Ytu hq h2
  obtain ⟨e, ee, he⟩ := Yd5 ok hx hy h0
  obtain ⟨b, eb, b1, b2⟩ := Xnb q.Levels c hc hlv
  obtain ⟨g, eg, hg⟩ := Yd8 q.Mode hm he
  obtain ⟨j, ej, hj⟩ := Xst g b hg b1 b2
  refine ⟨j, ?_, ?_, hj⟩
  ·
   rw [Xbg (b := q.Kind != 2) (by simpa using h2), Xad, Xav, Xbg (by rw [h2]; rfl), Xpi q.Levels c hc hlv, eb, Xad, Xbg (by rw [h2]; rfl), Yis ok hx hy h0, ee, Xad, Yit q.Mode hm he, eg, Xad, Xx3 g b hg b1 b2, ej, Xad]
  ·
   rw [Xb1 (by simpa using h2), ee, Xad, eb, Xad, eg, Xad, ej, Xad]
 ·
  have hK : c.Key = false := by
   unfold Xlr at hL
   cases hk : c.Key with
   | false => rfl
   | true => rw [hk] at hL; simp at hL; exact absurd hL h2
  have rok := hr hK
  rw [Xb1 (b := q.Kind != 2) (by simpa using h2), Xct, Xad, rok, Bool.not_true, Xad, Xav]
  rw [Xbg (b := q.Kind == 2) (by simpa using h2), hK, Xav, Xfl, Xad, rok, Bool.not_true, Xad, Xav]
  rw [wk (e := l + x) (by omega) (by omega), wk (e := l + x + q.Dx) (by omega) (by omega), wk (e := t + y) (by omega) (by omega), wk (e := t + y + q.Dy) (by omega) (by omega), Yd0 rok _ _ (by omega) (by omega), Xad, Xuw rok _ _ (by omega) (by omega), Xad, Xuw rok _ _ (by omega) (by omega)]
  by_cases h3 : q.Kind = 0
  ·
   obtain ⟨z1, z2⟩ := Ym4 hq h3
   rw [Xb1 (b := q.Kind == 0) (by simpa using h3), Xb1 (b := q.Kind == 0) (by simpa using h3), z1, z2, Int.add_zero, Int.add_zero]
   exact ⟨_, rfl, rfl, Ybl _ _ _⟩
  ·
   have h1 : q.Kind = 1 := by have := Ym3 hq; omega
   obtain ⟨_, _, hlv⟩ := Ypg hq h1
   obtain ⟨b, eb, b1, b2⟩ := Xnb q.Levels c hc hlv
   obtain ⟨j, ej, hj⟩ := Xst _ b (Ybl ref (l + x + q.Dx) (t + y + q.Dy)) b1 b2
   rw [Xbg (b := q.Kind == 0) (by simpa using h3), Xbg (b := q.Kind == 0) (by simpa using h3), Xpi q.Levels c hc hlv, eb, Xad, Xad, Xb1 (b := q.Kind == 1) (by simpa using h1), Xad, Xx3 _ b (Ybl _ _ _) b1 b2, ej, Xad]
   exact ⟨_, rfl, rfl, hj⟩
theorem Ytn {β : Type} {a b c : Prop} [Decidable a] [Decidable b] [Decidable c] (hb : b) (hc : c) (k : Option β) : req a (req b (req c k)) = req b (req c (req a k)) := by
 rw [Xai hb, Xai hc, Xai hb, Xai hc]
theorem Yoj {p : Pic} (ok : Xcp p = true) : p.Dots.size ≤ 65536 := by
 obtain ⟨k1, k2, k3⟩ := Xbr ok
 have := Xdq k1 k2
 omega
theorem Yrv {p : Pic} {x y : Int} {d : List Int} (hd : Xmd d = true) (hp : p.Dots.size ≤ maxLen) : Xrg p x y d = Xgs p x y d := by
 obtain ⟨d1, d2⟩ := Xqd hd
 unfold Xrg Xgs Xn1
 rw [Xai hp, Xad, Xai hp]
 have : Xo1 p x y d = Xet p x y d := by
  funext v
  unfold Xo1 Xet
  simp only [show ((d.length : Nat) : Int) = 64 by omega]
  exact Yn4 (fun _ => Ytn (by omega) (by omega) _) fun _ => rfl
 rw [this]
theorem Yro (n : Nat) (x : Int) : ((List.range n).map fun _ => x) = List.replicate n x := by
 apply List.ext_getElem
 ·
  simp
 ·
  intro i h1 h2; simp
theorem Xx9 (w h : Int) (hw : 1 ≤ w ∧ w ≤ 256) (hh : 1 ≤ h ∧ h ≤ 256) : Xme w h = some ⟨w, h, strOfNums (List.replicate (w * h).toNat 128)⟩ := by
 have ar := Xdq hw hh
 unfold Xme
 rw [Xan, Xad, decide_eq_true hw, Xaw, Xan, Xad, decide_eq_true hh, Bool.not_true, Xad, Xav, wk (e := w * h) (by omega) (by omega), Xai (by omega)]
 rw [Yp9 (f := Xk2 w h) (w * h).toNat (fun _ => 128) (List.replicate (w * h).toNat 0) (by simp) ?_ ?_, Xad, Yro]
 ·
  intro i s hi hs _
  unfold Xk2
  simp only [List.length_replicate, Int.toNat_natCast]
  rw [wk (e := w * h) (by omega) (by omega), Xaj (by omega), Xai (by omega), Xai (by omega), wk (by omega) (by omega)]
  rfl
 ·
  intro s hs
  unfold Xk2
  simp only [List.length_replicate]
  rw [wk (e := w * h) (by omega) (by omega), Xap (by omega)]
theorem Xyj (w h : Int) (hw : 1 ≤ w ∧ w ≤ 256) (hh : 1 ≤ h ∧ h ≤ 256) : Xmr w h = some ⟨w, h, strOfNums (List.replicate (w * h).toNat 128)⟩ := by
 have ar := Xdq hw hh
 unfold Xmr
 rw [Xak, Xad, decide_eq_true hw, Xaw, Xak, Xad, decide_eq_true hh, Bool.not_true, Xad, Xav, wk (e := w * h) (by omega) (by omega), show w * h = (((w * h).toNat : Nat) : Int) by omega, Yeu _ _ (by omega), Xad, Int.toNat_natCast]
def Xkz (p : Pic) (r : Xoq) : Bool := decide (1 ≤ r.Wide ∧ r.Wide ≤ p.Wide) && (decide (1 ≤ r.High ∧ r.High ≤ p.High) && (decide (0 ≤ r.Left ∧ r.Left ≤ p.Wide - r.Wide) && decide (0 ≤ r.Top ∧ r.Top ≤ p.High - r.High)))
theorem Xo0 {p : Pic} (ok : Xcp p = true) (r : Xoq) : Xdl p r = some (Xkz p r) := by
 obtain ⟨k1, k2, k3⟩ := Xbr ok
 unfold Xdl Xkz
 rw [Xan, Xan, Xad, Xad]
 by_cases h1 : 1 ≤ r.Wide ∧ r.Wide ≤ p.Wide
 ·
  rw [decide_eq_true h1, Xaw, Bool.true_and]
  by_cases h2 : 1 ≤ r.High ∧ r.High ≤ p.High
  ·
   rw [decide_eq_true h2, Xaw, Bool.true_and, wk (e := p.Wide - r.Wide) (by omega) (by omega), wk (e := p.High - r.High) (by omega) (by omega), Xan, Xan, Xad, Xad, Xdx, Xad]
  ·
   rw [decide_eq_false h2, Xav, Bool.false_and]; rfl
 ·
  rw [decide_eq_false h1, Xav, Bool.false_and]; rfl
theorem Xkl (p : Pic) (r : Xoq) : Xb3 p r.Left r.Top r.Wide r.High = some (Xcp p && Xkz p r) := by
 unfold Xb3 Xkz
 rw [Xfl, Xad]
 cases ok : Xcp p with
 | false => rfl
 | true =>
  obtain ⟨k1, k2, k3⟩ := Xbr ok
  rw [Xaw, Xak, Xak, Xad, Xad]
  by_cases h1 : 1 ≤ r.Wide ∧ r.Wide ≤ p.Wide
  ·
   rw [decide_eq_true h1, Xaw, Bool.true_and, Bool.true_and]
   by_cases h2 : 1 ≤ r.High ∧ r.High ≤ p.High
   ·
    rw [decide_eq_true h2, Xaw, Bool.true_and, wk (e := p.Wide - r.Wide) (by omega) (by omega), wk (e := p.High - r.High) (by omega) (by omega), Xak, Xak, Xad, Xad, Xdx, Xad]
   ·
    rw [decide_eq_false h2, Xav, Bool.false_and]; rfl
  ·
   rw [decide_eq_false h1, Xav, Bool.false_and]; rfl
theorem Xig {p : Pic} {r : Xoq} (h : Xkz p r = true) : (1 ≤ r.Wide ∧ r.Wide ≤ p.Wide) ∧ (1 ≤ r.High ∧ r.High ≤ p.High) ∧ (0 ≤ r.Left ∧ r.Left ≤ p.Wide - r.Wide) ∧ (0 ≤ r.Top ∧ r.Top ≤ p.High - r.High) := by
 unfold Xkz at h
 simp only [Bool.and_eq_true, decide_eq_true_eq] at h
 exact h
def Xne (p : Pic) (r : Xoq) : Nat → List Int
 | 0 => []
 | n + 1 => Xne p r n ++ Xbo (p.Dots.extract ((r.Top + n) * p.Wide + r.Left).toNat ((r.Top + n) * p.Wide + r.Left + r.Wide).toNat)
theorem Yq4 {p : Pic} {r : Xoq} (ok : Xcp p = true) (h : Xkz p r = true) (n : Nat) (hn : (n : Int) < r.High) : 0 ≤ (r.Top + n) * p.Wide ∧ (r.Top + n) * p.Wide + r.Left + r.Wide ≤ p.Dots.size ∧ (r.Top + n) * p.Wide ≤ 65536 ∧ (Xbo (p.Dots.extract ((r.Top + n) * p.Wide + r.Left).toNat ((r.Top + n) * p.Wide + r.Left + r.Wide).toNat)).length = r.Wide.toNat := by
 obtain ⟨k1, k2, k3⟩ := Xbr ok
 obtain ⟨a1, a2, a3, a4⟩ := Xig h
 have ar := Xdq k1 k2
 have b1 : 0 ≤ (r.Top + n) * p.Wide := Int.mul_nonneg (by omega) (by omega)
 have b2 : (r.Top + n) * p.Wide ≤ (p.High - 1) * p.Wide := Int.mul_le_mul_of_nonneg_right (by omega) (by omega)
 have b3 : (p.High - 1) * p.Wide = p.Wide * p.High - p.Wide := by rw [Int.sub_mul, Int.one_mul, Int.mul_comm]
 refine ⟨b1, by omega, by omega, ?_⟩
 rw [Xbi, ByteArray.size_extract]
 omega
theorem Xs6 {p : Pic} {r : Xoq} (ok : Xcp p = true) (h : Xkz p r = true) : ∀ n : Nat, (n : Int) ≤ r.High → ((Xne p r n).length : Int) = n * r.Wide
 | 0, _ => by simp [Xne]
 | n + 1, hn => by
  have a := Xig h
  have b := Yq4 ok h n (by omega)
  rw [Xne, List.length_append, Int.natCast_add, Xs6 ok h n (by omega), b.2.2.2, Int.natCast_add, Int.add_mul]
  simp only [Int.natCast_one, Int.one_mul]
  omega
theorem Yoi {p : Pic} {r : Xoq} {f : Int × List Int → Option (Lp (Int × List Int) (List Int))} (ok : Xcp p = true) (h : Xkz p r = true) (hf : f = Xhb p r) : loop f (r.Top, []) = some (Xne p r r.High.toNat) := by
 have hm : maxLen = 9223372036854775807 := rfl
 obtain ⟨k1, k2, k3⟩ := Xbr ok
 obtain ⟨a1, a2, a3, a4⟩ := Xig h
 subst hf
 have key : ∀ n : Nat, n ≤ r.High.toNat → loop (Xhb p r) (r.Top + n, Xne p r n) = some (Xne p r r.High.toNat) := by
  refine Xf5 _ ?_ ?_
  ·
   refine Xda ?_
   unfold Xhb
   rw [wk (e := r.Top + r.High) (by omega) (by omega), Xap (by simp only; omega)]
  ·
   intro n hn ih
   refine lgo (y := (r.Top + ((n + 1 : Nat) : Int), Xne p r (n + 1))) ?_ ih
   obtain ⟨b1, b2, b3, b4⟩ := Yq4 ok h n (by omega)
   have cl := Xs6 ok h n (by omega)
   have cw : (n : Int) * r.Wide ≤ 256 * r.Wide := Int.mul_le_mul_of_nonneg_right (by omega) (by omega)
   unfold Xhb
   simp only
   rw [wk (e := r.Top + r.High) (by omega) (by omega), Xaj (by omega), wk (e := (r.Top + n) * p.Wide) (by omega) (by omega), wk (e := (r.Top + n) * p.Wide + r.Left) (by omega) (by omega), wk (e := (r.Top + n) * p.Wide + r.Left + r.Wide) (by omega) (by omega), Xai (by omega), Xai (by rw [b4]; omega), wk (e := r.Top + n + 1) (by omega) (by omega), show r.Top + ((n + 1 : Nat) : Int) = r.Top + n + 1 by omega]
   rfl
 have := key 0 (by omega)
 simpa [Xne] using this
def Yvz (p : Pic) (r : Xoq) : Pic := ⟨r.Wide, r.High, strOfNums (Xne p r r.High.toNat)⟩
theorem Yu0 {p : Pic} {r : Xoq} (ok : Xcp p = true) (h : Xkz p r = true) : Xcp (Yvz p r) = true := by
 obtain ⟨k1, k2, k3⟩ := Xbr ok
 obtain ⟨a1, a2, a3, a4⟩ := Xig h
 refine Xvg (by show 1 ≤ r.Wide ∧ r.Wide ≤ 256; omega) (by show 1 ≤ r.High ∧ r.High ≤ 256; omega) ?_
 show ((strOfNums _).size : Int) = r.Wide * r.High
 rw [strOfNums_size, Xs6 ok h _ (by omega), Int.mul_comm]
 congr 1; omega
theorem Ykr {p : Pic} {r : Xoq} (ok : Xcp p = true) (h : Xkz p r = true) : Xmb p r = some (Yvz p r, true) := by
 unfold Xmb
 rw [Xkl, ok, h, Xad]
 simp only [Bool.true_and, Bool.not_true, Xav]
 rw [Yoi ok h rfl, Xad]
 rfl
theorem Yjd {p : Pic} {r : Xoq} (ok : Xcp p = true) (h : Xkz p r = true) : Xl8 p r = some (Yvz p r, true) := by
 obtain ⟨k1, k2, k3⟩ := Xbr ok
 obtain ⟨a1, a2, a3, a4⟩ := Xig h
 have ar := Xdq (w := r.Wide) (h := r.High) (by omega) (by omega)
 unfold Xl8
 rw [Xct, Xad, ok, Xaw, Xo0 ok, Xad, h, Bool.not_true, Xad, Xav, wk (e := r.Wide * r.High) (by omega) (by omega), Xai (by omega)]
 have := Yoi (f := Xoy p r) ok h rfl
 rw [show List.replicate (0 : Int).toNat (0 : Int) = [] from rfl, this, Xad]
 rfl
def Xnd (l : List Xay) (c : Xju) : Bool := l.all fun q => Xq9 q && Xlr q c
theorem Xsi (n : Int) : Xj5 n = some (Xpd n) := by
 unfold Xj5 Xpd
 rw [Xai (by omega), Xan, Xad, Xdx, Xad, Yi5]
theorem Yky (l : List Xay) (c : Xju) (hl : l.length ≤ 1048576) : Xoo l c = some (Xix c && (decide (1 ≤ l.length ∧ l.length ≤ 64) && Xnd l c)) := by
 unfold Xoo
 rw [Xeo, Xad]
 cases hc : Xix c with
 | false => rfl
 | true =>
  rw [Xaw, Xak, Xad, Xad]
  by_cases h64 : 1 ≤ l.length ∧ l.length ≤ 64
  ·
   rw [decide_eq_true (show 1 ≤ (l.length : Int) ∧ (l.length : Int) ≤ 64 by omega), decide_eq_true h64, Bool.not_true, Xav, Bool.true_and, Bool.true_and]
   have key : ∀ (r a : List Xay), l = a ++ r → loop (Xfm l c) (a.length : Int) = some (if Xnd r c = true then .out () else .ret false) := by
    intro r
    induction r with
    | nil =>
     intro a ha
     rw [List.append_nil] at ha
     exact Xda (by unfold Xfm; rw [Xap (by rw [ha]; omega)]; rfl)
    | cons s r ih =>
     intro a ha
     have hlen : a.length < l.length := by rw [ha]; simp
     have hx : l.getD a.length Xbq = s := by rw [ha]; exact Xov a s _ r
     have hn := ih (a ++ [s]) (by rw [ha]; simp)
     rw [List.length_append, List.length_singleton] at hn
     have hstep : Xfm l c (a.length : Int) = sel (!(Xq9 s && Xlr s c)) (some (.done (.ret false))) (some (.go ((a.length + 1 : Nat) : Int))) := by
      unfold Xfm
      simp only [Int.toNat_natCast, hx]
      rw [Xaj (by omega), Xai (by omega), show (⟨s.Kind, s.Mode, s.Dx, s.Dy, s.Levels⟩ : Xay) = s from rfl, Xh7, Xad, Xai (by omega), wk (by omega) (by omega)]
      unfold Xlr
      cases Xq9 s with
      | false => rfl
      | true =>
       cases c.Key with
       | false => rfl
       | true => rw [Xaw, Xaw, Xad, Bool.true_and, Bool.not_true, Bool.false_or]; rfl
     unfold Xnd at hn ⊢
     rw [List.all_cons]
     cases hq : (Xq9 s && Xlr s c) with
     | true =>
      rw [hq] at hstep
      rw [Xnl (hstep.trans (by rw [Bool.not_true, Xav])), hn, Bool.true_and]
     | false =>
      rw [hq] at hstep
      rw [Xcf (hstep.trans (by rw [Bool.not_false, Xaw]))]
      simp
   have k0 : loop (Xfm l c) 0 = some (if Xnd l c = true then .out () else .ret false) := key l [] rfl
   rw [k0, Xad]
   cases Xnd l c <;> rfl
  ·
   rw [decide_eq_false (show ¬ (1 ≤ (l.length : Int) ∧ (l.length : Int) ≤ 64) by omega), decide_eq_false h64]; rfl
theorem Yip {w h : Int} (hw : Xpd w = true) (hh : Xpd h = true) (i : Nat) (hi : (i : Int) < w / 8 * (h / 8)) : (8 ≤ w ∧ w ≤ 64) ∧ (8 ≤ h ∧ h ≤ 64) ∧ 1 ≤ w / 8 ∧ w / 8 ≤ 8 ∧ 1 ≤ h / 8 ∧ h / 8 ≤ 8 ∧ 0 ≤ (i : Int) % (w / 8) * 8 ∧ (i : Int) % (w / 8) * 8 ≤ w - 8 ∧ 0 ≤ (i : Int) / (w / 8) * 8 ∧ (i : Int) / (w / 8) * 8 ≤ h - 8 := by
 unfold Xpd at hw hh
 rw [Bool.and_eq_true, decide_eq_true_eq, decide_eq_true_eq] at hw hh
 rw [Xca (by omega)] at hw hh
 have h1 : 1 ≤ w / 8 ∧ w / 8 ≤ 8 := by omega
 have h2 : 1 ≤ h / 8 ∧ h / 8 ≤ 8 := by omega
 have m0 : 0 ≤ (i : Int) % (w / 8) := Int.emod_nonneg _ (by omega)
 have m1 : (i : Int) % (w / 8) < w / 8 := Int.emod_lt_of_pos _ (by omega)
 have d0 : 0 ≤ (i : Int) / (w / 8) := Int.ediv_nonneg (by omega) (by omega)
 have d1 : (i : Int) / (w / 8) < h / 8 := Int.ediv_lt_of_lt_mul (by omega) (by rw [Int.mul_comm]; exact hi)
 exact ⟨hw.2, hh.2, h1.1, h1.2, h2.1, h2.2, by omega, by omega, by omega, by omega⟩
theorem Xkg {w : Int} (hw : Xpd w = true) : w % 8 = 0 ∧ 8 ≤ w ∧ w ≤ 64 := by
 unfold Xpd at hw
 rw [Bool.and_eq_true, decide_eq_true_eq, decide_eq_true_eq] at hw
 rw [Xca (by omega)] at hw
 exact ⟨hw.1, hw.2⟩
structure Yst (ref : Pic) (le tp : Int) (r : Xoq) (c : Xju) (l : List Xay) : Prop where
 hw : Xpd r.Wide = true
 hh : Xpd r.High = true
 hl : 0 ≤ le ∧ le ≤ 256
 ht : 0 ≤ tp ∧ tp ≤ 256
 hc : Xix c = true
 hn : (l.length : Int) = r.Wide / 8 * (r.High / 8)
 hs : ∀ q ∈ l, q.Levels.length ≤ 1048576
 hr : c.Key = false → Xcp ref = true
def tbI (r : Xoq) (v : Int × Int × ByteArray) : Prop := Xcp ⟨v.1, v.2.1, v.2.2⟩ = true ∧ v.1 = r.Wide ∧ v.2.1 = r.High
theorem Ysf {ref : Pic} {le tp : Int} {r : Xoq} {c : Xju} {l : List Xay} (H : Yst ref le tp r c l) (i : Nat) (hi : i < l.length) (s : Int × Int × ByteArray) (hs : tbI r s) :
  ((Xq9 (l.getD i Xbq) && Xlr (l.getD i Xbq) c) = false → Xbj r c l (le, tp, ref.Wide, ref.High, ref.Dots) ((i : Int), s) = some (.done (.ret (⟨0, 0, ⟨#[]⟩⟩, false)))) ∧
  ((Xq9 (l.getD i Xbq) && Xlr (l.getD i Xbq) c) = true → ∃ s', Xbj r c l (le, tp, ref.Wide, ref.High, ref.Dots) ((i : Int), s) = some (.go (((i + 1 : Nat) : Int), s')) ∧ Xa9 r c l (le, tp, ref.Wide, ref.High, ref.Dots) ((i : Int), s) = some (.go (((i + 1 : Nat) : Int), s')) ∧ tbI r s') := by
 obtain ⟨hw, hh, hl, ht, hc, hn, hls, hr⟩ := H
 obtain ⟨w, h, dt⟩ := s
 obtain ⟨ok, e1, e2⟩ := hs
 simp only at ok e1 e2
 subst e1; subst e2
 obtain ⟨p1, p2, p3, p4, p5, p6, p7, p8, p9, p10⟩ := Yip hw hh i (by omega)
 have hmem : l.getD i Xbq ∈ l := by rw [Xcb l i hi]; exact List.getElem_mem _
 have held : Xky (⟨r.Wide, r.High, dt⟩ : Pic) ((i : Int) % (r.Wide / 8) * 8) ((i : Int) / (r.Wide / 8) * 8) = true := by
  unfold Xky; rw [decide_eq_true_eq]; exact ⟨p7, p8, p9, p10⟩
 have SD : Yuo (⟨r.Wide, r.High, dt⟩ : Pic) ref le tp ((i : Int) % (r.Wide / 8) * 8) ((i : Int) / (r.Wide / 8) * 8) c (l.getD i Xbq) :=
  ⟨ok, by rw [Xca p7]; omega, by rw [Xca p9]; omega, held, hl, ht, hc, hls _ hmem⟩
 have l64 : l.length ≤ 64 := by
  have : r.Wide / 8 * (r.High / 8) ≤ 8 * 8 := Int.mul_le_mul (by omega) (by omega) (by omega) (by omega)
  omega
 have eI : Xbj r c l (le, tp, ref.Wide, ref.High, ref.Dots) ((i : Int), r.Wide, r.High, dt) = bnd (Xc2 (⟨r.Wide, r.High, dt⟩ : Pic) ref le tp c ((i : Int) % (r.Wide / 8) * 8) ((i : Int) / (r.Wide / 8) * 8) (l.getD i Xbq)) fun q21 => sel (!q21.2) (some (.done (.ret (⟨0, 0, ⟨#[]⟩⟩, false)))) (bnd (Xrg (⟨r.Wide, r.High, dt⟩ : Pic) ((i : Int) % (r.Wide / 8) * 8) ((i : Int) / (r.Wide / 8) * 8) q21.1) fun q22 => some (.go (((i + 1 : Nat) : Int), q22.Wide, q22.High, q22.Dots))) := by
  unfold Xbj
  simp only [Int.toNat_natCast]
  rw [Xaj (by omega), Xai (by omega), Xai (by omega), Xbn (a := r.Wide) (by omega), wk (e := r.Wide / 8) (by omega) (by omega), Xai (by omega), Xai (by omega), Xai (by omega), Xca (a := (i : Int)) (by omega), Xbn (a := (i : Int)) (by omega), wk (e := (i : Int) % (r.Wide / 8) * 8) (by omega) (by omega), wk (e := (i : Int) / (r.Wide / 8)) (by omega) (by omega), wk (e := (i : Int) / (r.Wide / 8) * 8) (by omega) (by omega), wk (e := (i : Int) + 1) (by omega) (by omega)]
  rfl
 have eS : Xa9 r c l (le, tp, ref.Wide, ref.High, ref.Dots) ((i : Int), r.Wide, r.High, dt) = bnd (Xch (⟨r.Wide, r.High, dt⟩ : Pic) ref le tp c ((i : Int) % (r.Wide / 8) * 8) ((i : Int) / (r.Wide / 8) * 8) (l.getD i Xbq)) fun q21 => bnd (Xgs (⟨r.Wide, r.High, dt⟩ : Pic) ((i : Int) % (r.Wide / 8) * 8) ((i : Int) / (r.Wide / 8) * 8) q21.1) fun q22 => some (.go (((i + 1 : Nat) : Int), q22.Wide, q22.High, q22.Dots)) := by
  unfold Xa9
  simp only [Int.toNat_natCast]
  rw [Xaj (by omega), Xai (by omega), Xbn (a := r.Wide) (by omega), wk (e := r.Wide / 8) (by omega) (by omega), Xai (by omega), Xai (by omega), Xai (by omega), Xai (by omega), Xca (a := (i : Int)) (by omega), Xbn (a := (i : Int)) (by omega), Int.mul_comm 8 ((i : Int) % (r.Wide / 8)), wk (e := (i : Int) / (r.Wide / 8)) (by omega) (by omega), Int.mul_comm 8 ((i : Int) / (r.Wide / 8)), wk (e := (i : Int) % (r.Wide / 8) * 8) (by omega) (by omega), wk (e := (i : Int) / (r.Wide / 8) * 8) (by omega) (by omega), wk (e := (i : Int) + 1) (by omega) (by omega)]
  rfl
 refine ⟨fun hq => ?_, fun hq => ?_⟩
 ·
  rw [eI, Yix SD hq, Xad]; rfl
 ·
  rw [Bool.and_eq_true] at hq
  obtain ⟨d, d1, d2, d3⟩ := Ybf SD hq.1 hq.2 hr
  obtain ⟨p', ep, g1, g2, g3⟩ := Yh3 ok held d3
  refine ⟨(p'.Wide, p'.High, p'.Dots), ?_, ?_, g1, g2, g3⟩
  ·
   rw [eI, d1, Xad, Bool.not_true, Xav, Yrv d3 (by have := Yoj ok; have hm : maxLen = 9223372036854775807 := rfl; simp only at this ⊢; omega), ep, Xad]
  ·
   rw [eS, d2, Xad, ep, Xad]
theorem Yu3 {r : Xoq} (hw : Xpd r.Wide = true) (hh : Xpd r.High = true) : tbI r (r.Wide, r.High, strOfNums (List.replicate (r.Wide * r.High).toNat 128)) := by
 have a := Xkg hw
 have b := Xkg hh
 have ar := Xdq (w := r.Wide) (h := r.High) (by omega) (by omega)
 refine ⟨Xvg (by simp only; omega) (by simp only; omega) ?_, rfl, rfl⟩
 simp only
 rw [strOfNums_size, List.length_replicate]; omega
theorem Yty {ref : Pic} {le tp : Int} {r : Xoq} {c : Xju} {l : List Xay} (H : Yst ref le tp r c l) (s0 : Int × Int × ByteArray) (h0 : tbI r s0) :
  (Xnd l c = false → loop (Xbj r c l (le, tp, ref.Wide, ref.High, ref.Dots)) (0, s0) = some (.ret (⟨0, 0, ⟨#[]⟩⟩, false))) ∧
  (Xnd l c = true → ∃ s, loop (Xbj r c l (le, tp, ref.Wide, ref.High, ref.Dots)) (0, s0) = some (.out s) ∧ loop (Xa9 r c l (le, tp, ref.Wide, ref.High, ref.Dots)) (0, s0) = some s ∧ tbI r s) := by
 have key : ∀ i : Nat, i ≤ l.length → ∀ s, tbI r s →
  ((∃ j, i ≤ j ∧ j < l.length ∧ (Xq9 (l.getD j Xbq) && Xlr (l.getD j Xbq) c) = false) → loop (Xbj r c l (le, tp, ref.Wide, ref.High, ref.Dots)) ((i : Int), s) = some (.ret (⟨0, 0, ⟨#[]⟩⟩, false))) ∧
  ((∀ j, i ≤ j → j < l.length → (Xq9 (l.getD j Xbq) && Xlr (l.getD j Xbq) c) = true) → ∃ s', loop (Xbj r c l (le, tp, ref.Wide, ref.High, ref.Dots)) ((i : Int), s) = some (.out s') ∧ loop (Xa9 r c l (le, tp, ref.Wide, ref.High, ref.Dots)) ((i : Int), s) = some s' ∧ tbI r s') := by
  refine Xf5 _ ?_ ?_
  ·
   intro s hs
   refine ⟨fun ⟨j, h1, h2, _⟩ => by omega, fun _ => ⟨s, Xda ?_, Xda ?_, hs⟩⟩
   ·
    unfold Xbj; rw [Xap (by simp)]
   ·
    unfold Xa9; rw [Xap (by simp)]
  ·
   intro i hi ih s hs
   obtain ⟨hno, hyes⟩ := Ysf H i hi s hs
   cases hq : (Xq9 (l.getD i Xbq) && Xlr (l.getD i Xbq) c) with
   | false =>
    refine ⟨fun _ => Xda (hno hq), fun hall => ?_⟩
    have := hall i (Nat.le_refl _) hi
    rw [hq] at this; cases this
   | true =>
    obtain ⟨s', e1, e2, hs'⟩ := hyes hq
    obtain ⟨i1, i2⟩ := ih s' hs'
    refine ⟨fun ⟨j, h1, h2, h3⟩ => lgo e1 (i1 ⟨j, ?_, h2, h3⟩), fun hall => ?_⟩
    ·
     rcases Nat.lt_or_ge i j with h | h
     ·
      exact h
     ·
      have : j = i := by omega
      subst this
      rw [hq] at h3; cases h3
    ·
     obtain ⟨s2, k1, k2, k3⟩ := i2 fun j hj => hall j (by omega)
     exact ⟨s2, lgo e1 k1, lgo e2 k2, k3⟩
 obtain ⟨k1, k2⟩ := key 0 (by omega) s0 h0
 refine ⟨fun hf => k1 ?_, fun ht => k2 fun j _ hj => ?_⟩
 ·
  unfold Xnd at hf
  rw [List.all_eq_false] at hf
  obtain ⟨x, hx, hxf⟩ := hf
  obtain ⟨j, hj, rfl⟩ := List.getElem_of_mem hx
  exact ⟨j, by omega, hj, by rw [Xcb l j hj]; simpa using hxf⟩
 ·
  unfold Xnd at ht
  rw [List.all_eq_true] at ht
  exact ht _ (by rw [Xcb l j hj]; exact List.getElem_mem _)
theorem Ytd {now ref ref' : Pic} {l l' t t' x y : Int} {c : Xju} {q : Xay} (h : Yuo now ref l t x y c q) (h' : Yuo now ref' l' t' x y c q) (hq : Xq9 q = true) (hL : Xlr q c = true) (hK : c.Key = true) : Xch now ref l t c x y q = Xch now ref' l' t' c x y q := by
 have h2 : (q.Kind == 2) = true := by unfold Xlr at hL; rw [hK] at hL; simpa using hL
 unfold Xch
 rw [Xak, Xak, Xak, Xak, decide_eq_true h.hl, decide_eq_true h.ht, decide_eq_true h'.hl, decide_eq_true h'.ht, h2]
 simp only [Xaw]
theorem Yte {ref ref' : Pic} {le tp le' tp' : Int} {r : Xoq} {c : Xju} {l : List Xay} (H : Yst ref le tp r c l) (H' : Yst ref' le' tp' r c l) (hK : c.Key = true) (ha : Xnd l c = true) (s0 : Int × Int × ByteArray) (h0 : tbI r s0) :
  loop (Xa9 r c l (le, tp, ref.Wide, ref.High, ref.Dots)) (0, s0) = loop (Xa9 r c l (le', tp', ref'.Wide, ref'.High, ref'.Dots)) (0, s0) := by
 have hall : ∀ i, i < l.length → (Xq9 (l.getD i Xbq) && Xlr (l.getD i Xbq) c) = true := fun i hi => by
  unfold Xnd at ha
  rw [List.all_eq_true] at ha
  exact ha _ (by rw [Xcb l i hi]; exact List.getElem_mem _)
 refine Yo3 l.length (fun _ s => tbI r s) ?_ ?_ h0
 ·
  intro i s hi hs
  rcases Nat.lt_or_ge i l.length with hlt | hge
  ·
   have hq := hall i hlt
   rw [Bool.and_eq_true] at hq
   obtain ⟨w, h, dt⟩ := s
   obtain ⟨ok, e1, e2⟩ := hs
   simp only at ok e1 e2
   subst e1; subst e2
   have hn := H.hn
   obtain ⟨p1, p2, p3, p4, p5, p6, p7, p8, p9, p10⟩ := Yip H.hw H.hh i (by omega)
   have hmem : l.getD i Xbq ∈ l := by rw [Xcb l i hlt]; exact List.getElem_mem _
   have held : Xky (⟨r.Wide, r.High, dt⟩ : Pic) ((i : Int) % (r.Wide / 8) * 8) ((i : Int) / (r.Wide / 8) * 8) = true := by
    unfold Xky; rw [decide_eq_true_eq]; exact ⟨p7, p8, p9, p10⟩
   have SD : Yuo (⟨r.Wide, r.High, dt⟩ : Pic) ref le tp ((i : Int) % (r.Wide / 8) * 8) ((i : Int) / (r.Wide / 8) * 8) c (l.getD i Xbq) :=
    ⟨ok, by rw [Xca p7]; omega, by rw [Xca p9]; omega, held, H.hl, H.ht, H.hc, H.hs _ hmem⟩
   have SD' : Yuo (⟨r.Wide, r.High, dt⟩ : Pic) ref' le' tp' ((i : Int) % (r.Wide / 8) * 8) ((i : Int) / (r.Wide / 8) * 8) c (l.getD i Xbq) :=
    ⟨ok, by rw [Xca p7]; omega, by rw [Xca p9]; omega, held, H'.hl, H'.ht, H'.hc, H'.hs _ hmem⟩
   have l64 : l.length ≤ 64 := by
    have : r.Wide / 8 * (r.High / 8) ≤ 8 * 8 := Int.mul_le_mul (by omega) (by omega) (by omega) (by omega)
    omega
   unfold Xa9
   simp only [Int.toNat_natCast]
   refine Yn4 (fun _ => Ykd fun _ => ?_) fun _ => rfl
   rw [Xbn (a := r.Wide) (by omega), wk (e := r.Wide / 8) (by omega) (by omega), Xca (a := (i : Int)) (by omega), Xbn (a := (i : Int)) (by omega), Int.mul_comm 8 ((i : Int) % (r.Wide / 8)), wk (e := (i : Int) / (r.Wide / 8)) (by omega) (by omega), Int.mul_comm 8 ((i : Int) / (r.Wide / 8)), wk (e := (i : Int) % (r.Wide / 8) * 8) (by omega) (by omega), wk (e := (i : Int) / (r.Wide / 8) * 8) (by omega) (by omega)]
   refine Ykd fun _ => Ykd fun _ => Ykd fun _ => Ykd fun _ => Yuw ?_ fun _ _ => rfl
   exact Ytd SD SD' hq.1 hq.2 hK
  ·
   unfold Xa9
   rw [Xap (by simp only; omega), Xap (by simp only; omega)]
 ·
  intro i s v' hi hs he
  rcases Nat.lt_or_ge i l.length with hlt | hge
  ·
   obtain ⟨s', _, e2, hs'⟩ := (Ysf H' i hlt s hs).2 (hall i hlt)
   rw [e2] at he
   injection he with he
   injection he with he
   subst he
   exact ⟨rfl, by omega, hs'⟩
  ·
   unfold Xa9 at he
   rw [Xap (by simp only; omega)] at he
   cases he
theorem Yiy (ref : Pic) (r : Xoq) (c : Xju) (cf : Bool) (l : List Xay) (hll : l.length ≤ 1048576) (hs : ∀ q ∈ l, q.Levels.length ≤ 1048576) : ∃ x, Xi7 ref r c cf l = some x ∧ Xjn ref r c cf l = some x ∧ (x.2 = true → tbI r (x.1.Wide, x.1.High, x.1.Dots)) := by
 unfold Xi7 Xjn
 rw [Xsi, Xad, Xq8, Xad]
 cases hw : Xpd r.Wide with
 | false => exact ⟨_, rfl, rfl, fun h => by cases h⟩
 | true =>
  rw [Xaw, Xaw, Xsi, Xad, Xq8, Xad]
  cases hh : Xpd r.High with
  | false => exact ⟨_, rfl, rfl, fun h => by cases h⟩
  | true =>
   rw [Xaw, Xaw, Xan, Xad, Xak, Xad]
   by_cases hL : 0 ≤ r.Left ∧ r.Left ≤ 256
   ·
    rw [decide_eq_true hL, Xaw, Xaw, Xan, Xad, Xak, Xad]
    by_cases hT : 0 ≤ r.Top ∧ r.Top ≤ 256
    ·
     rw [decide_eq_true hT, Xaw, Xaw, Xdk, Xad, Yky l c hll, Xad]
     cases hc : Xix c with
     | false => exact ⟨_, rfl, rfl, fun h => by cases h⟩
     | true =>
      have sw := Xkg hw
      have sh := Xkg hh
      have mb : r.Wide / 8 * (r.High / 8) ≤ 8 * 8 := Int.mul_le_mul (by omega) (by omega) (by omega) (by omega)
      have m0 : 1 * 1 ≤ r.Wide / 8 * (r.High / 8) := Int.mul_le_mul (by omega) (by omega) (by omega) (by omega)
      rw [Xaw, Xai (by omega), Xai (by omega), Bool.true_and, Xbn (a := r.Wide) (by omega), Xbn (a := r.High) (by omega), wk (e := r.Wide / 8) (by omega) (by omega), wk (e := r.High / 8) (by omega) (by omega), wk (e := r.Wide / 8 * (r.High / 8)) (by omega) (by omega)]
      by_cases hn : (l.length : Int) = r.Wide / 8 * (r.High / 8)
      ·
       have hne : ((l.length : Int) != r.Wide / 8 * (r.High / 8)) = false := by simpa using hn
       rw [decide_eq_true (show 1 ≤ l.length ∧ l.length ≤ 64 by omega), Bool.true_and, hne]
       -- the picture before
       have ha : (sel c.Key (some false) (bnd (Xdr ref) fun q8 => sel q8 (bnd (Xdl ref r) fun q9 => some (!q9)) (some true))) = some (!c.Key && !(Xcp ref && Xkz ref r)) := by
        cases c.Key with
        | true => rfl
        | false =>
         rw [Xav, Xct, Xad]
         cases hp : Xcp ref with
         | false => rfl
         | true => rw [Xaw, Xo0 hp, Xad]; rfl
       have hb : (sel c.Key (some false) (bnd (Xb3 ref r.Left r.Top r.Wide r.High) fun q8 => some (!q8))) = some (!c.Key && !(Xcp ref && Xkz ref r)) := by
        cases c.Key with
        | true => rfl
        | false => rw [Xav, Xkl, Xad]; rfl
       have G := Yu3 hw hh
       have gI := Xx9 r.Wide r.High (by omega) (by omega)
       have gS := Xyj r.Wide r.High (by omega) (by omega)
       rw [ha, hb, gI, gS]
       simp only [Xad, Xav]
       cases hbad : (!c.Key && !(Xcp ref && Xkz ref r)) with
       | true => cases Xnd l c <;> exact ⟨_, rfl, rfl, fun h => by cases h⟩
       | false =>
        have hr : c.Key = false → Xcp ref = true ∧ Xkz ref r = true := by
         intro hk
         rw [hk] at hbad
         simp only [Bool.not_false, Bool.true_and, Bool.not_eq_false'] at hbad
         rwa [Bool.and_eq_true] at hbad
        have vI : ∃ (rI : Pic) (lI tI : Int), (sel cf (sel (!c.Key) (bnd (Xl8 ref r) fun q11 => some ((0 : Int), (0 : Int), q11.1.Wide, q11.1.High, q11.1.Dots)) (some (0, 0, ref.Wide, ref.High, ref.Dots))) (some (r.Left, r.Top, ref.Wide, ref.High, ref.Dots))) = some (lI, tI, rI.Wide, rI.High, rI.Dots) ∧ Yst rI lI tI r c l ∧
          ∃ (rS : Pic) (lS tS : Int), (bnd (sel c.Key (some false) (some cf)) fun v10 => sel v10 (bnd (Xmb ref r) fun q11 => some ((0 : Int), (0 : Int), q11.1.Wide, q11.1.High, q11.1.Dots)) (some (r.Left, r.Top, ref.Wide, ref.High, ref.Dots))) = some (lS, tS, rS.Wide, rS.High, rS.Dots) ∧ Yst rS lS tS r c l ∧ (c.Key = false → rI = rS ∧ lI = lS ∧ tI = tS) := by
         cases hK : c.Key with
         | true =>
          have TT : ∀ le tp : Int, (0 ≤ le ∧ le ≤ 256) → (0 ≤ tp ∧ tp ≤ 256) → Yst ref le tp r c l := fun le tp h1 h2 => ⟨hw, hh, h1, h2, hc, hn, hs, fun h => by rw [hK] at h; cases h⟩
          cases cf with
          | true => exact ⟨ref, 0, 0, rfl, TT 0 0 (by omega) (by omega), ref, r.Left, r.Top, rfl, TT _ _ hL hT, fun h => by cases h⟩
          | false => exact ⟨ref, r.Left, r.Top, rfl, TT _ _ hL hT, ref, r.Left, r.Top, rfl, TT _ _ hL hT, fun h => by cases h⟩
         | false =>
          obtain ⟨hp, ho⟩ := hr hK
          cases cf with
          | true =>
           rw [Xaw, Bool.not_false, Xaw, Yjd hp ho, Xad, Xav, Xad, Xaw, Ykr hp ho, Xad]
           have TT : Yst (Yvz ref r) 0 0 r c l := ⟨hw, hh, by omega, by omega, hc, hn, hs, fun _ => Yu0 hp ho⟩
           exact ⟨Yvz ref r, 0, 0, rfl, TT, Yvz ref r, 0, 0, rfl, TT, fun _ => ⟨rfl, rfl, rfl⟩⟩
          | false =>
           have TT : Yst ref r.Left r.Top r c l := ⟨hw, hh, hL, hT, hc, hn, hs, fun _ => hp⟩
           exact ⟨ref, r.Left, r.Top, rfl, TT, ref, r.Left, r.Top, rfl, TT, fun _ => ⟨rfl, rfl, rfl⟩⟩
        obtain ⟨rI, lI, tI, eI, HI, rS, lS, tS, eS, HS, hk⟩ := vI
        rw [Xav, eI, eS]
        simp only [Xad, Xav]
        obtain ⟨n1, n2⟩ := Yty HI _ G
        cases hall : Xnd l c with
        | false =>
         rw [n1 hall, Xad]
         exact ⟨_, rfl, rfl, fun h => by cases h⟩
        | true =>
         obtain ⟨s, e1, e2, e3⟩ := n2 hall
         have e4 : loop (Xa9 r c l (lS, tS, rS.Wide, rS.High, rS.Dots)) (0, r.Wide, r.High, strOfNums (List.replicate (r.Wide * r.High).toNat 128)) = some s := by
          cases hK : c.Key with
          | true => rw [Yte HS HI hK hall _ G]; exact e2
          | false =>
           obtain ⟨q1, q2, q3⟩ := hk hK
           subst q1; subst q2; subst q3
           exact e2
         rw [e1, Xad, Xaw, Xad, Xav, e4, Xad]
         exact ⟨_, rfl, rfl, fun _ => e3⟩
      ·
       have hne : ((l.length : Int) != r.Wide / 8 * (r.High / 8)) = true := by simpa using hn
       rw [hne, Xad, Xaw]
       refine ⟨_, rfl, ?_, fun h => by cases h⟩
       cases (decide (1 ≤ l.length ∧ l.length ≤ 64) && Xnd l c) <;> rfl
    ·
     rw [decide_eq_false hT]; exact ⟨_, rfl, rfl, fun h => by cases h⟩
   ·
    rw [decide_eq_false hL]; exact ⟨_, rfl, rfl, fun h => by cases h⟩
theorem Ydl (s : ByteArray) (k : Nat) (hk : k < s.size) : (Xbo s).getD k 0 = Xjx s k := by
 have := Yli (Xbo s) (by intro x hx; obtain ⟨b, _, rfl⟩ := List.mem_map.1 hx; have := b.toNat_lt; omega) k (by rw [Xbi]; exact hk)
 rw [Xrp] at this
 exact this.symm
theorem Yu4 {w h : Int} (hw : 1 ≤ w ∧ w ≤ 256) (hh : 1 ≤ h ∧ h ≤ 256) : Xcp ⟨w, h, strOfNums (List.replicate (w * h).toNat 128)⟩ = true := by
 have ar := Xdq hw hh
 refine Xvg hw hh ?_
 simp only
 rw [strOfNums_size, List.length_replicate]; omega
theorem Ywb (a b : List Int) (i : Nat) : (a ++ b).getD (a.length + i) 0 = b.getD i 0 := by
 rw [List.getD_eq_getElem?_getD, List.getD_eq_getElem?_getD, List.getElem?_append_right (by omega)]
 congr 2; omega
theorem Ywa (a b : List Int) (i : Nat) (hi : i < a.length) : (a ++ b).getD i 0 = a.getD i 0 := by
 rw [List.getD_eq_getElem?_getD, List.getD_eq_getElem?_getD, List.getElem?_append_left hi]
theorem Ywi (v x : Int) (h0 : 0 ≤ v) (h1 : v ≤ 1000000000000000000) (hx : x = 0 ∨ x = 1) : IntKind.wrap .i64 (BitVec.ofInt (IntKind.bits .i64) (v * 2) ||| BitVec.ofInt (IntKind.bits .i64) x).toNat = v * 2 + x := by
 obtain ⟨a, rfl⟩ : ∃ a : Nat, v = a := ⟨v.toNat, by omega⟩
 obtain ⟨b, rfl⟩ : ∃ b : Nat, x = b := ⟨x.toNat, by omega⟩
 have h : (BitVec.ofInt 64 ((a : Int) * 2) ||| BitVec.ofInt 64 (b : Int)).toNat = a * 2 + b := by
  rw [BitVec.toNat_or, BitVec.toNat_ofInt, BitVec.toNat_ofInt]
  have e1 : (((a : Int) * 2) % ((2 ^ 64 : Nat) : Int)).toNat = a * 2 := by omega
  have e2 : ((b : Int) % ((2 ^ 64 : Nat) : Int)).toNat = b := by omega
  rw [e1, e2]
  have := Nat.two_pow_add_eq_or_of_lt (i := 1) (b := b) (by omega) a
  rw [show 2 ^ 1 * a = a * 2 by omega] at this
  exact this.symm
 show IntKind.wrap .i64 ((BitVec.ofInt 64 ((a : Int) * 2) ||| BitVec.ofInt 64 (b : Int)).toNat : Int) = _
 rw [h, ← Xwb, wk (by omega) (by omega)]
 omega
theorem Xvh {i : Nat} (h : i ≤ 40) : (2 : Int) ^ i ≤ 1099511627776 := by
 have h2 : (2 : Nat) ^ i ≤ 1099511627776 := Nat.pow_le_pow_right (n := 2) (by omega) h
 have := Int.ofNat_le.2 h2
 rw [Int.natCast_pow] at this
 exact this
theorem Yn3 {L a f b : List Int} (hL : L = a ++ (f ++ b)) (hb : Xnp L) (hl : L.length ≤ 400000) (hf : f.length ≤ 41) : Xa1 ⟨strOfNums L, (a.length : Int), false⟩ (f.length : Int) = some (Xnq f, ⟨strOfNums L, ((a.length + f.length : Nat) : Int), false⟩) := by
 have hLl : L.length = a.length + (f.length + b.length) := by rw [hL]; simp only [List.length_append]
 have hfb : Xnp f := fun x hx => hb x (by rw [hL]; simp [hx])
 unfold Xa1
 simp only
 rw [Xav, strOfNums_size, wk (by omega) (by omega), Xad, Xap (by omega)]
 have key : ∀ i : Nat, i ≤ f.length → loop (Xfr ⟨strOfNums L, (a.length : Int), false⟩ (f.length : Int)) (Xnq (f.take i), (i : Int)) = some (Xnq f) := by
  refine Xf5 _ ?_ ?_
  ·
   refine Xda ?_
   unfold Xfr
   simp only
   rw [Xap (by omega), List.take_length]
  ·
   intro i hi ih
   refine lgo ?_ ih
   have hx : L.getD (a.length + i) 0 = f.getD i 0 := by rw [hL, Ywb, Ywa _ _ _ hi]
   have hbt : Xjx (strOfNums L) ((a.length : Int) + i) = f.getD i 0 := by
    rw [show (a.length : Int) + i = ((a.length + i : Nat) : Int) by omega, Yli L (Xqc hb) _ (by omega), hx]
   have h2 : f.getD i 0 = 48 ∨ f.getD i 0 = 49 := hfb _ (by rw [Xcb f i hi]; exact List.getElem_mem hi)
   have ht : Xnp (f.take i) := fun x hx => hfb x (List.mem_of_mem_take hx)
   have hr := Xop ht
   have hp : (2 : Int) ^ (f.take i).length ≤ 1099511627776 := Xvh (by rw [List.length_take]; omega)
   have hv : Xnq (f.take (i + 1)) = Xnq (f.take i) * 2 + (f.getD i 0 - 48) := by
    rw [List.take_add_one, Yob, Xcb f i hi, List.getElem?_eq_getElem hi]
    simp [Xnq]
   unfold Xfr
   simp only
   rw [Xaj (by omega), Xai (by omega), wk (e := (a.length : Int) + i) (by omega) (by omega), Xai (by rw [strOfNums_size]; omega), hbt, w8 (by omega) (by omega), wk (e := f.getD i 0 - 48) (by omega) (by omega), show (2 : Int) ^ min (1 : Int).toNat (IntKind.bits .i64) = 2 from rfl, wk (e := Xnq (f.take i) * 2) (by omega) (by omega), Ywi _ _ (by omega) (by omega) (by omega), wk (by omega) (by omega), hv]
   rfl
 have := key 0 (by omega)
 rw [List.take_zero] at this
 refine (Xgu this).trans ?_
 rw [wk (by omega) (by omega)]
 rfl
def Yxn (t : Nat → Int) : Nat → Int
 | 0 => 0
 | k + 1 => Yxn t k + t k
def eT (f : Nat → Int) (u : Nat) : Int := Yxn (fun k => Xh0 (u : Int) (k : Int) * f k) 8
def eS (X : Nat → Nat → Int) (u v : Nat) : Int := eT (fun i => eT (X i) v) u
theorem Yql {L : List Int} {i w : Nat} (h : i + w ≤ L.length) : L = L.take i ++ ((L.drop i).take w ++ L.drop (i + w)) ∧ (L.take i).length = i ∧ ((L.drop i).take w).length = w := by
 refine ⟨?_, by rw [List.length_take]; omega, by rw [List.length_take, List.length_drop]; omega⟩
 rw [← List.drop_drop, List.take_append_drop, List.take_append_drop]
theorem Ycq {L : List Int} (hb : Xnp L) (hl : L.length ≤ 400000) {i w : Nat} (h : i + w ≤ L.length) (hw : w ≤ 41) : Xa1 ⟨strOfNums L, (i : Int), false⟩ (w : Int) = some (Xnq ((L.drop i).take w), ⟨strOfNums L, ((i + w : Nat) : Int), false⟩) := by
 obtain ⟨h1, h2, h3⟩ := Yql h
 have := Yn3 h1 hb hl (by omega)
 rw [h2, h3] at this
 exact this
theorem Xx6 {L : List Int} (hb : Xnp L) {i : Nat} (h : i < L.length) : Xjx (strOfNums L) (i : Int) = L.getD i 0 ∧ (L.getD i 0 = 48 ∨ L.getD i 0 = 49) := ⟨Yli L (Xqc hb) i h, hb _ (by rw [Xcb L i h]; exact List.getElem_mem h)⟩
theorem Xph {L : List Int} {i k : Nat} (h : i + k < L.length) : Xnq ((L.drop i).take (k + 1)) = 2 * Xnq ((L.drop i).take k) + L.getD (i + k) 0 - 48 := by
 rw [List.take_add_one, Yob, List.getElem?_eq_getElem (by rw [List.length_drop]; omega), List.getElem_drop, Xcb L _ h]
 simp [Xnq]
 omega
theorem Xtx {L : List Int} (hb : Xnp L) (hl : L.length ≤ 400000) {i w : Nat} (hi : i ≤ L.length) (hw : w ≤ 41) : Xby (strOfNums L) (i : Int) (w : Int) = some (if i + w ≤ L.length then (Xnq ((L.drop i).take w), ((i + w : Nat) : Int), true) else (0, 0, false)) := by
 unfold Xby
 rw [strOfNums_size, wk (e := (L.length : Int) - i) (by omega) (by omega)]
 by_cases h : i + w ≤ L.length
 ·
  rw [Xap (by omega), if_pos h]
  have key : ∀ k : Nat, k ≤ w → loop (Xgm (strOfNums L) (i : Int) (w : Int)) (Xnq ((L.drop i).take k), ((i + k : Nat) : Int)) = some (Xnq ((L.drop i).take w)) := by
   refine Xf5 _ ?_ ?_
   ·
    refine Xda ?_
    unfold Xgm
    simp only
    rw [Xap (by rw [wk (by omega) (by omega)]; omega)]
   ·
    intro k hk ih
    refine lgo ?_ ih
    obtain ⟨b1, b2⟩ := Xx6 hb (i := i + k) (by omega)
    have hr := Xop (l := (L.drop i).take k) (fun x hx => hb x (List.mem_of_mem_drop (List.mem_of_mem_take hx)))
    have hp : (2 : Int) ^ ((L.drop i).take k).length ≤ 1099511627776 := Xvh (by rw [List.length_take]; omega)
    have hv := Xph (L := L) (i := i) (k := k) (by omega)
    unfold Xgm
    simp only
    rw [Xaj (by rw [wk (by omega) (by omega)]; omega), Xai (by rw [strOfNums_size]; omega), b1, wk (e := 2 * Xnq ((L.drop i).take k)) (by omega) (by omega), wk (e := L.getD (i + k) 0) (by omega) (by omega), wk (e := 2 * Xnq ((L.drop i).take k) + L.getD (i + k) 0) (by omega) (by omega), wk (e := 2 * Xnq ((L.drop i).take k) + L.getD (i + k) 0 - 48) (by omega) (by omega), wk (e := ((i + k : Nat) : Int) + 1) (by omega) (by omega), ← hv]
    rfl
  have := key 0 (by omega)
  refine (Xgu this).trans ?_
  rw [wk (by omega) (by omega)]
  rfl
 ·
  rw [Xaj (by omega), if_neg h]
theorem Ypp {L : List Int} (hb : Xnp L) : ∀ n i : Nat, i + n = L.length → ∃ z : Nat, i + z ≤ L.length ∧ (∀ k, k < z → L.getD (i + k) 0 = 48) ∧ (i + z < L.length → L.getD (i + z) 0 = 49)
 | 0, i, h => ⟨0, by omega, fun k hk => by omega, fun h2 => by omega⟩
 | n + 1, i, h => by
  rcases (Xx6 hb (i := i) (by omega)).2 with e | e
  ·
   obtain ⟨z, h1, h2, h3⟩ := Ypp hb n (i + 1) (by omega)
   refine ⟨z + 1, by omega, fun k hk => ?_, fun hz => ?_⟩
   ·
    cases k with
    | zero => exact e
    | succ k => have := h2 k (by omega); rwa [show i + 1 + k = i + (k + 1) by omega] at this
   ·
    have := h3 (by omega)
    rwa [show i + 1 + z = i + (z + 1) by omega] at this
  ·
   exact ⟨0, by omega, fun k hk => by omega, fun _ => e⟩
theorem Yna {L : List Int} {i : Nat} : ∀ z : Nat, i + z ≤ L.length → (∀ k, k < z → L.getD (i + k) 0 = 48) → Xnq ((L.drop i).take z) = 0
 | 0, _, _ => rfl
 | z + 1, h, hz => by rw [Xph (by omega), Yna z (by omega) (fun k hk => hz k (by omega)), hz z (by omega)]; rfl
theorem Ym9 {L : List Int} {i z w : Nat} (h : i + z + w ≤ L.length) (hz : ∀ k, k < z → L.getD (i + k) 0 = 48) : Xnq ((L.drop i).take (z + w)) = Xnq ((L.drop (i + z)).take w) := by
 induction w with
 | zero => rw [Nat.add_zero, Yna z (by omega) hz]; rfl
 | succ w ih =>
  rw [← Nat.add_assoc, Xph (by omega), Xph (by omega), ih (by omega)]
  rw [Nat.add_assoc]
theorem Ysi {L : List Int} (hb : Xnp L) {i w : Nat} (h : i + (w + 1) ≤ L.length) (h1 : L.getD i 0 = 49) : (2 : Int) ^ w ≤ Xnq ((L.drop i).take (w + 1)) := by
 induction w with
 | zero => rw [Xph (by omega)]; simp only [Nat.add_zero]; rw [h1, show Xnq ((L.drop i).take 0) = 0 from rfl]; decide
 | succ w ih =>
  have := ih (by omega)
  have := (Xx6 hb (i := i + (w + 1)) (by omega)).2
  rw [Xph (by omega), Int.pow_succ]
  omega
theorem Ymr (z : Nat) (h : z ≤ 21) : 0 ≤ Xaa .u64 (z : Int) ∧ Xaa .i64 (1 * 2 ^ min (Xaa .u64 (z : Int)).toNat (IntKind.bits .i64)) = (2 : Int) ^ z := by
 have all : ∀ q : Fin 22, (0 ≤ Xaa .u64 (q.val : Int) ∧ Xaa .i64 (1 * 2 ^ min (Xaa .u64 (q.val : Int)).toNat (IntKind.bits .i64)) = (2 : Int) ^ q.val) := by decide +kernel
 exact all ⟨z, by omega⟩
theorem Ypn (s : ByteArray) (a : Int) : Xbh ⟨s, a, true⟩ = some (0, ⟨s, a, true⟩) := by
 have h : Xdw ⟨s, a, true⟩ 0 = some (.done 0) := rfl
 unfold Xbh
 rw [Xcf h, Xad]
 rfl
theorem Xpg {L : List Int} (hb : Xnp L) (hl : L.length ≤ 400000) (i : Nat) (hi : i ≤ L.length) :
  (∃ v j : Nat, Xa6 (strOfNums L) (i : Int) = some ((v : Int), (j : Int), true) ∧ Xbh ⟨strOfNums L, (i : Int), false⟩ = some ((v : Int), ⟨strOfNums L, (j : Int), false⟩) ∧ v ≤ 1000000 ∧ i < j ∧ j ≤ L.length) ∨ (Xa6 (strOfNums L) (i : Int) = some (0, 0, false) ∧ ∃ a : Int, Xbh ⟨strOfNums L, (i : Int), false⟩ = some (0, ⟨strOfNums L, a, true⟩)) := by
 obtain ⟨z, h1, h2, h3⟩ := Ypp hb (L.length - i) i (by omega)
 have lI : loop (Xdw ⟨strOfNums L, (i : Int), false⟩) 0 = some (z : Int) := by
  have key : ∀ k : Nat, k ≤ z → loop (Xdw ⟨strOfNums L, (i : Int), false⟩) (k : Int) = some (z : Int) := by
   refine Xf5 _ ?_ ?_
   ·
    refine Xda ?_
    unfold Xdw
    simp only
    rw [Xav, wk (e := (i : Int) + (z : Int)) (by omega) (by omega), strOfNums_size]
    by_cases hlt : i + z < L.length
    ·
     rw [Xaj (by omega), Xai (by omega), show (i : Int) + (z : Int) = ((i + z : Nat) : Int) by omega, (Xx6 hb hlt).1, h3 hlt, Xad]; rfl
    ·
     rw [Xap (by omega), Xad, Xav]
   ·
    intro k hk ih
    refine lgo ?_ ih
    unfold Xdw
    simp only
    rw [Xav, wk (e := (i : Int) + (k : Int)) (by omega) (by omega), strOfNums_size, Xaj (by omega), Xai (by omega), show (i : Int) + (k : Int) = ((i + k : Nat) : Int) by omega, (Xx6 hb (by omega)).1, h2 k hk, Xad, wk (by omega) (by omega)]
    rfl
  exact key 0 (by omega)
 have lS : ∀ m : Nat, m = min z 21 → loop (Xdt (strOfNums L) (i : Int)) 0 = some (m : Int) := by
  intro m hm
  have key : ∀ k : Nat, k ≤ m → loop (Xdt (strOfNums L) (i : Int)) (k : Int) = some (m : Int) := by
   refine Xf5 _ ?_ ?_
   ·
    refine Xda ?_
    unfold Xdt
    rw [wk (e := (i : Int) + (m : Int)) (by omega) (by omega), strOfNums_size]
    by_cases hlt : i + m < L.length
    ·
     rw [Xaj (by omega), Xai (by omega), show (i : Int) + (m : Int) = ((i + m : Nat) : Int) by omega, (Xx6 hb hlt).1]
     by_cases hz : z ≤ 21
     ·
      have : m = z := by omega
      subst this
      rw [h3 hlt, Xbg (by rfl), Xad, Xav]
     ·
      have : m = 21 := by omega
      subst this
      rw [h2 21 (by omega), Xb1 (by rfl), decide_eq_false (by omega), Xad, Xav]
    ·
     rw [Xap (by omega), Xad, Xav]
   ·
    intro k hk ih
    refine lgo ?_ ih
    unfold Xdt
    rw [wk (e := (i : Int) + (k : Int)) (by omega) (by omega), strOfNums_size, Xaj (by omega), Xai (by omega), show (i : Int) + (k : Int) = ((i + k : Nat) : Int) by omega, (Xx6 hb (by omega)).1, h2 k (by omega), Xb1 (by rfl), decide_eq_true (by omega), Xad, Xaw, wk (by omega) (by omega)]
    rfl
  exact key 0 (by omega)
 unfold Xa6 Xbh
 rw [lI, Xad, lS _ rfl, Xad]
 simp only
 by_cases hz : z ≤ 20
 ·
  rw [show min z 21 = z by omega, Xap (by omega), Xad, wk (e := 2 * (z : Int)) (by omega) (by omega), wk (e := 2 * (z : Int) + 1) (by omega) (by omega), wk (e := (i : Int) + (z : Int)) (by omega) (by omega), wk (e := (z : Int) + 1) (by omega) (by omega), show (i : Int) + (z : Int) = ((i + z : Nat) : Int) by omega, show (z : Int) + 1 = ((z + 1 : Nat) : Int) by omega, show 2 * (z : Int) + 1 = ((z + (z + 1) : Nat) : Int) by omega, Xtx hb hl h1 (by omega), Xad]
  obtain ⟨p1, p2⟩ := Ymr z (by omega)
  by_cases hfit : i + z + (z + 1) ≤ L.length
  ·
   rw [if_pos hfit, Ycq hb hl (by omega) (by omega), Xad, Ym9 (by omega) h2]
   simp only
   have hge := Ysi hb (i := i + z) (w := z) (by omega) (h3 (by omega))
   have hpp : (1 : Int) ≤ 2 ^ z := Int.pow_pos (by omega)
   have hr := Xop (l := (L.drop (i + z)).take (z + 1)) (fun x hx => hb x (List.mem_of_mem_drop (List.mem_of_mem_take hx)))
   have hp : (2 : Int) ^ ((L.drop (i + z)).take (z + 1)).length ≤ 1099511627776 := Xvh (by rw [List.length_take]; omega)
   generalize hq : Xnq ((L.drop (i + z)).take (z + 1)) = q at *
   rw [Xaw, Xai p1, p2, Xap (by omega), wk (e := q - 1) (by omega) (by omega), Xad, Xav, Xad]
   by_cases hbig : q - 1 > 1000000
   ·
    rw [Xaj hbig, Xaj hbig]
    exact .inr ⟨rfl, _, rfl⟩
   ·
    rw [Xap hbig, Xap hbig]
    exact .inl ⟨(q - 1).toNat, i + z + (z + 1), by rw [show (((q - 1).toNat : Nat) : Int) = q - 1 by omega], by rw [show (((q - 1).toNat : Nat) : Int) = q - 1 by omega, show i + (z + (z + 1)) = i + z + (z + 1) by omega], by omega, by omega, by omega⟩
  ·
   rw [if_neg hfit]
   simp only
   rw [Xav, Xad, Xaw]
   refine .inr ⟨rfl, (i : Int), ?_⟩
   have : Xa1 ⟨strOfNums L, (i : Int), false⟩ ((z + (z + 1) : Nat) : Int) = some (0, ⟨strOfNums L, (i : Int), true⟩) := by
    unfold Xa1
    simp only
    rw [Xav, strOfNums_size, wk (by omega) (by omega), Xad, Xaj (by omega)]
   rw [this, Xad]
   rfl
 ·
  have hm : min z 21 = 21 := by omega
  rw [hm, Xaj (by omega), Xad]
  refine .inr ⟨?_, (i : Int), ?_⟩
  ·
   rw [wk (e := (i : Int) + ((21 : Nat) : Int)) (by omega) (by omega), wk (e := ((21 : Nat) : Int) + 1) (by omega) (by omega), show (i : Int) + ((21 : Nat) : Int) = ((i + 21 : Nat) : Int) by omega, show ((21 : Nat) : Int) + 1 = ((22 : Nat) : Int) by omega, Xtx hb hl (by omega) (by omega), Xad]
   obtain ⟨p1, p2⟩ := Ymr 21 (by omega)
   by_cases hfit : i + 21 + 22 ≤ L.length
   ·
    rw [if_pos hfit]
    simp only
    rw [Xaw, Xai p1, p2]
    by_cases h21 : z = 21
    ·
     subst h21
     have hge : (2 : Int) ^ 21 ≤ Xnq ((L.drop (i + 21)).take 22) := Ysi hb (i := i + 21) (w := 21) (by omega) (h3 (by omega))
     have hr := Xop (l := (L.drop (i + 21)).take 22) (fun x hx => hb x (List.mem_of_mem_drop (List.mem_of_mem_take hx)))
     have hp : (2 : Int) ^ ((L.drop (i + 21)).take 22).length ≤ 1099511627776 := Xvh (by rw [List.length_take]; omega)
     have e21 : (2 : Int) ^ 21 = 2097152 := by decide
     rw [e21] at hge ⊢
     rw [Xap (by omega), wk (by omega) (by omega), decide_eq_true (by omega), Xad, Xaw]
    ·
     have hlt : Xnq ((L.drop (i + 21)).take 22) < 2 ^ 21 := by
      have a := Ym9 (L := L) (i := i + 21) (z := 1) (w := 21) (by omega) (fun k hk => by
       have : k = 0 := by omega
       subst this
       exact h2 21 (by omega))
      rw [show (1 + 21 : Nat) = 22 from rfl] at a
      have hr := Xop (l := (L.drop (i + 21 + 1)).take 21) (fun x hx => hb x (List.mem_of_mem_drop (List.mem_of_mem_take hx)))
      rw [a]
      have : ((L.drop (i + 21 + 1)).take 21).length = 21 := by rw [List.length_take, List.length_drop]; omega
      rw [this] at hr
      exact hr.2
     rw [Xaj hlt, Xad, Xaw]
   ·
    rw [if_neg hfit]
    simp only
    rw [Xav, Xad, Xaw]
  ·
   have : ∀ w : Int, Xa1 ⟨strOfNums L, (i : Int), true⟩ w = some (0, ⟨strOfNums L, (i : Int), true⟩) := fun w => rfl
   rw [this, Xad]
   rfl
theorem Yrt (v : Nat) (hv : v ≤ 1000000) : ∃ n : Int, Xmg (v : Int) = some (n, true) ∧ Xmt (v : Int) = some (n, true) ∧ -500000 ≤ n ∧ n ≤ 500000 := by
 unfold Xmg Xmt
 rw [Xan, Xad, Xak, Xad, decide_eq_true (by omega), Bool.not_true, Xav, Xav, Xai (by omega), Xai (by omega), Xca (by omega)]
 by_cases h : (v : Int) % 2 = 1
 ·
  rw [Xb1 (by rw [beq_iff_eq]; exact h), Xb1 (by rw [beq_iff_eq]; exact h), Xai (by omega), wk (e := (v : Int) + 1) (by omega) (by omega), Xbn (by omega), wk (by omega) (by omega)]
  exact ⟨_, rfl, rfl, by omega, by omega⟩
 ·
  rw [Xbg (by rw [beq_eq_false_iff_ne]; exact h), Xbg (by rw [beq_eq_false_iff_ne]; exact h), Xai (by omega), Xai (by omega), wk (e := 0 - (v : Int)) (by omega) (by omega)]
  have e1 : (0 - (v : Int)).tdiv 2 = -((v : Int) / 2) := by
   rw [show (0 - (v : Int)) = (-((v : Int) / 2)) * 2 by omega]
   exact Int.mul_tdiv_cancel _ (by omega)
  rw [e1, Xbn (a := (v : Int)) (by omega), wk (e := (v : Int) / 2) (by omega) (by omega), wk (e := 0 - (v : Int) / 2) (by omega) (by omega), wk (e := -((v : Int) / 2)) (by omega) (by omega), show 0 - (v : Int) / 2 = -((v : Int) / 2) by omega]
  exact ⟨_, rfl, rfl, by omega, by omega⟩
theorem Ypf (s : ByteArray) (a : Int) : Xbx ⟨s, a, true⟩ = some (0, ⟨s, a, true⟩) := by
 unfold Xbx
 rw [Ypn, Xad]
 rfl
theorem Ydw {L : List Int} (hb : Xnp L) (hl : L.length ≤ 400000) (i : Nat) (hi : i ≤ L.length) :
  (∃ (n : Int) (j : Nat), Xbu (strOfNums L) (i : Int) = some (n, (j : Int), true) ∧ Xbx ⟨strOfNums L, (i : Int), false⟩ = some (n, ⟨strOfNums L, (j : Int), false⟩) ∧ (-500000 ≤ n ∧ n ≤ 500000) ∧ i < j ∧ j ≤ L.length) ∨ (Xbu (strOfNums L) (i : Int) = some (0, 0, false) ∧ ∃ a : Int, Xbx ⟨strOfNums L, (i : Int), false⟩ = some (0, ⟨strOfNums L, a, true⟩)) := by
 unfold Xbu Xbx
 rcases Xpg hb hl i hi with ⟨v, j, e1, e2, h1, h2, h3⟩ | ⟨e1, a, e2⟩
 ·
  obtain ⟨n, o1, o2, o3, o4⟩ := Yrt v h1
  refine .inl ⟨n, j, ?_, ?_, ⟨o3, o4⟩, h2, h3⟩
  ·
   rw [e1, Xad]
   simp only
   rw [Bool.not_true, Xav, o2, Xad]
  ·
   rw [e2, Xad]
   simp only
   rw [o1, Xad]
   rfl
 ·
  refine .inr ⟨?_, a, ?_⟩
  ·
   rw [e1, Xad]; rfl
  ·
   rw [e2, Xad]; rfl
def Yqp (L : List Int) (N n pos : Nat) : Prop := pos ≤ N → N ≤ pos + n → ∀ (i : Nat) (l : List Int) (rem : Nat), i ≤ L.length → l.length = N → rem ≤ 1000000 →
  (∃ (j : Nat) (l' : List Int), (∀ (k : Nat) (q1 : Int × Int × Bool), q1.1 = ((k + rem : Nat) : Int) → k + rem ≤ 1000000 → loop (Xb2 (strOfNums L) (N : Int) q1) ((i : Int), (pos : Int), (k : Int), l) = some (.out ((j : Int), l'))) ∧ loop (Xbc (N : Int)) ((pos : Int), (rem : Int), strOfNums L, (i : Int), false, l) = some (l', strOfNums L, (j : Int), false) ∧ l'.length = N ∧ j ≤ L.length ∧ rem ≤ N - pos) ∨
  ((∀ (k : Nat) (q1 : Int × Int × Bool), q1.1 = ((k + rem : Nat) : Int) → k + rem ≤ 1000000 → loop (Xb2 (strOfNums L) (N : Int) q1) ((i : Int), (pos : Int), (k : Int), l) = some (.ret ([], 0, false))) ∧ ∃ (l' : List Int) (a : Int), loop (Xbc (N : Int)) ((pos : Int), (rem : Int), strOfNums L, (i : Int), false, l) = some (l', strOfNums L, a, true) ∧ l'.length = N)
theorem Ymx {L : List Int} (hb : Xnp L) (hl : L.length ≤ 400000) (N : Nat) (hN : N ≤ 64) (n : Nat) (ih : ∀ n', n' + 1 = n → ∀ pos, Yqp L N n' pos) (pos : Nat) : Yqp L N n pos := by
 intro hp hn i l rem hi hll hrem
 cases rem with
 | zero =>
  refine .inl ⟨i, l, fun k q1 hq hk => Xda ?_, Xda ?_, hll, hi, by omega⟩
  ·
   unfold Xb2
   simp only
   rw [Xap (by omega)]
  ·
   unfold Xbc
   simp only
   rw [Xap (by omega), Xad, Xav]
 | succ r =>
  have sI : Xbc (N : Int) ((pos : Int), ((r + 1 : Nat) : Int), strOfNums L, (i : Int), false, l) = bnd (Xbh ⟨strOfNums L, (i : Int), false⟩) fun q17 => bnd (Xbx q17.2) fun q18 => bnd (sel (decide ((Xaa .i64 ((pos : Int) + q17.1)) ≥ (N : Int))) (some true) (sel (q18.1 == 0) (some true) (bnd (Xar q18.1 (-5000) 5000) fun q20 => some (!q20)))) fun v19 => sel v19 (some (.done (l, q18.2.row_, q18.2.at_, true))) (req (0 ≤ (Xaa .i64 ((pos : Int) + q17.1)) ∧ (Xaa .i64 ((pos : Int) + q17.1)) < l.length) <| req ((Xaa .i64 ((pos : Int) + q17.1)).toNat < l.length) <| some (.go (Xaa .i64 ((Xaa .i64 ((pos : Int) + q17.1)) + 1), Xaa .i64 (((r + 1 : Nat) : Int) - 1), q18.2.row_, q18.2.at_, q18.2.bad_, (l.set ((Xaa .i64 ((pos : Int) + q17.1)).toNat) q18.1)))) := by
   unfold Xbc
   simp only
   rw [Xaj (by omega), Bool.not_false, Xad, Xaw]
  have sS : ∀ (k : Nat) (q1 : Int × Int × Bool), q1.1 = ((k + (r + 1) : Nat) : Int) → Xb2 (strOfNums L) (N : Int) q1 ((i : Int), (pos : Int), (k : Int), l) = bnd (Xa6 (strOfNums L) (i : Int)) fun q17 => bnd (sel q17.2.2 (some (decide (q17.1 > (Xaa .i64 ((Xaa .i64 ((N : Int) - 1)) - (pos : Int)))))) (some true)) fun v18 => sel v18 (some (.done (.ret (([] : List Int), 0, false)))) (bnd (Xbu (strOfNums L) q17.2.1) fun q19 => bnd (sel q19.2.2 (sel (q19.1 == 0) (some true) (bnd (Xax q19.1 (-5000) 5000) fun q21 => some (!q21))) (some true)) fun v20 => sel v20 (some (.done (.ret (([] : List Int), 0, false)))) (req (0 ≤ (Xaa .i64 ((pos : Int) + q17.1)) ∧ (Xaa .i64 ((pos : Int) + q17.1)) < l.length) <| req ((Xaa .i64 ((pos : Int) + q17.1)).toNat < l.length) <| some (.go (q19.2.1, Xaa .i64 ((Xaa .i64 ((pos : Int) + q17.1)) + 1), Xaa .i64 ((k : Int) + 1), (l.set ((Xaa .i64 ((pos : Int) + q17.1)).toNat) q19.1))))) := fun k q1 hq => by
   unfold Xb2
   simp only
   rw [Xaj (by omega)]
  rcases Xpg hb hl i hi with ⟨v, j, e1, e2, h1, h2, h3⟩ | ⟨e1, a, e2⟩
  ·
   rw [e2, Xad] at sI
   simp only at sI
   have sS' := fun k q1 hq => (sS k q1 hq).trans (by rw [e1, Xad])
   simp only at sS'
   by_cases hge : pos + v ≥ N
   ·
    refine .inr ⟨fun k q1 hq hk => Xda ((sS' k q1 hq).trans ?_), ?_⟩
    ·
     rw [Xaw, wk (e := (N : Int) - 1) (by omega) (by omega), wk (e := (N : Int) - 1 - pos) (by omega) (by omega), decide_eq_true (by omega), Xad, Xaw]
    ·
     rcases Ydw hb hl j h3 with ⟨m, j2, _, f2, _⟩ | ⟨_, a, f2⟩
     ·
      refine ⟨l, (j2 : Int), Xda (sI.trans ?_), hll⟩
      rw [f2, Xad, wk (e := (pos : Int) + v) (by omega) (by omega), Xaj (by omega), Xad, Xaw]
     ·
      refine ⟨l, a, Xda (sI.trans ?_), hll⟩
      rw [f2, Xad, wk (e := (pos : Int) + v) (by omega) (by omega), Xaj (by omega), Xad, Xaw]
   ·
    have sS2 := fun k q1 hq => (sS' k q1 hq).trans (by rw [Xaw, wk (e := (N : Int) - 1) (by omega) (by omega), wk (e := (N : Int) - 1 - pos) (by omega) (by omega), decide_eq_false (by omega), Xad, Xav])
    rw [wk (e := (pos : Int) + v) (by omega) (by omega)] at sI
    rcases Ydw hb hl j h3 with ⟨m, j2, f1, f2, f3, f4, f5⟩ | ⟨f1, a, f2⟩
    ·
     rw [f2, Xad, Xap (by omega)] at sI
     have sS3 := fun k q1 hq => (sS2 k q1 hq).trans (by rw [f1, Xad])
     simp only at sS3 sI
     by_cases hm : m = 0 ∨ ¬ (-5000 ≤ m ∧ m ≤ 5000)
     ·
      have hv : (sel (m == 0) (some true) (bnd (Xar m (-5000) 5000) fun q20 => some (!q20))) = some true ∧ (sel true (sel (m == 0) (some true) (bnd (Xax m (-5000) 5000) fun q20 => some (!q20))) (some true)) = some true := by
       rw [Xaw, Xan, Xak, Xad]
       rcases hm with h0 | h0
       ·
        rw [Xb1 (by rw [beq_iff_eq]; exact h0)]; exact ⟨rfl, rfl⟩
       ·
        rw [decide_eq_false h0]
        cases (m == 0) <;> exact ⟨rfl, rfl⟩
      refine .inr ⟨fun k q1 hq hk => Xda ((sS3 k q1 hq).trans ?_), l, (j2 : Int), Xda (sI.trans ?_), hll⟩
      ·
       rw [hv.2, Xad, Xaw]
      ·
       rw [hv.1, Xad, Xaw]
     ·
      have hm0 : m ≠ 0 := fun h => hm (.inl h)
      have hm1 : -5000 ≤ m ∧ m ≤ 5000 := Classical.byContradiction fun h => hm (.inr h)
      have hv : (sel (m == 0) (some true) (bnd (Xar m (-5000) 5000) fun q20 => some (!q20))) = some false ∧ (sel true (sel (m == 0) (some true) (bnd (Xax m (-5000) 5000) fun q20 => some (!q20))) (some true)) = some false := by
       rw [Xaw, Xan, Xak, Xad, Xbg (by rw [beq_eq_false_iff_ne]; exact hm0), decide_eq_true hm1]
       exact ⟨rfl, rfl⟩
      have gI : Xbc (N : Int) ((pos : Int), ((r + 1 : Nat) : Int), strOfNums L, (i : Int), false, l) = some (.go (((pos + v + 1 : Nat) : Int), (r : Int), strOfNums L, (j2 : Int), false, l.set (pos + v) m)) := by
       rw [sI, hv.1, Xad, Xav, Xai (by omega), Xai (by omega), wk (by omega) (by omega), wk (by omega) (by omega), show ((r + 1 : Nat) : Int) - 1 = (r : Int) by omega, show ((pos : Int) + (v : Int)).toNat = pos + v by omega]
       rfl
      have gS : ∀ (k : Nat) (q1 : Int × Int × Bool), q1.1 = ((k + (r + 1) : Nat) : Int) → k + (r + 1) ≤ 1000000 → Xb2 (strOfNums L) (N : Int) q1 ((i : Int), (pos : Int), (k : Int), l) = some (.go ((j2 : Int), ((pos + v + 1 : Nat) : Int), ((k + 1 : Nat) : Int), l.set (pos + v) m)) := fun k q1 hq hk => by
       refine (sS3 k q1 hq).trans ?_
       rw [hv.2, Xad, Xav, wk (e := (pos : Int) + v) (by omega) (by omega), Xai (by omega), Xai (by omega), wk (by omega) (by omega), wk (by omega) (by omega), show ((pos : Int) + (v : Int)).toNat = pos + v by omega]
       rfl
      have hR := ih (n - 1) (by omega) (pos + v + 1) (by omega) (by omega) j2 (l.set (pos + v) m) r f5 (by rw [List.length_set]; exact hll) (by omega)
      rcases hR with ⟨j3, l', r1, r2, r3, r4, r5⟩ | ⟨r1, l', a, r2, r3⟩
      ·
       exact .inl ⟨j3, l', fun k q1 hq hk => lgo (gS k q1 hq hk) (r1 (k + 1) q1 (by rw [hq]; omega) (by omega)), lgo gI r2, r3, r4, by omega⟩
      ·
       exact .inr ⟨fun k q1 hq hk => lgo (gS k q1 hq hk) (r1 (k + 1) q1 (by rw [hq]; omega) (by omega)), l', a, lgo gI r2, r3⟩
    ·
     refine .inr ⟨fun k q1 hq hk => Xda ((sS2 k q1 hq).trans ?_), l, a, Xda (sI.trans ?_), hll⟩
     ·
      rw [f1, Xad]; rfl
     ·
      rw [f2, Xad, Xap (by omega)]; rfl
  ·
   refine .inr ⟨fun k q1 hq hk => Xda ((sS k q1 hq).trans ?_), l, a, Xda (sI.trans ?_), hll⟩
   ·
    rw [e1, Xad]; rfl
   ·
    rw [e2, Xad]
    simp only
    rw [Ypf, Xad]
    simp only
    cases decide ((Xaa .i64 ((pos : Int) + 0)) ≥ (N : Int)) <;> rfl
theorem Yvh {L : List Int} (hb : Xnp L) (hl : L.length ≤ 400000) (N : Nat) (hN : N ≤ 64) : ∀ n pos : Nat, Yqp L N n pos := by
 intro n
 induction n with
 | zero => exact fun pos => Ymx hb hl N hN 0 (fun n' h => by omega) pos
 | succ n ih => exact fun pos => Ymx hb hl N hN (n + 1) (fun n' h pos => by
   have : n' = n := by omega
   subst this
   exact ih pos) pos
theorem Ype (s : ByteArray) (a : Int) (N : Nat) (hN : N ≤ 64) : Xcv ⟨s, a, true⟩ (N : Int) = some (List.replicate N 0, ⟨s, a, true⟩) := by
 unfold Xcv
 rw [Xai (by omega), Ypn, Xad]
 have h : ∀ l, Xbc (N : Int) (0, 0, s, a, true, l) = some (.done (l, s, a, true)) := fun l => rfl
 simp only
 rw [Xcf (h _), Xad, Int.toNat_natCast]
theorem Ymu {L : List Int} (hb : Xnp L) (hl : L.length ≤ 400000) (N : Nat) (hN : N ≤ 64) (i : Nat) (hi : i ≤ L.length) :
  (∃ (l : List Int) (j : Nat), Xgp (strOfNums L) (i : Int) (N : Int) = some (l, (j : Int), true) ∧ Xcv ⟨strOfNums L, (i : Int), false⟩ (N : Int) = some (l, ⟨strOfNums L, (j : Int), false⟩) ∧ l.length = N ∧ j ≤ L.length) ∨ (Xgp (strOfNums L) (i : Int) (N : Int) = some ([], 0, false) ∧ ∃ (l : List Int) (a : Int), Xcv ⟨strOfNums L, (i : Int), false⟩ (N : Int) = some (l, ⟨strOfNums L, a, true⟩) ∧ l.length = N) := by
 unfold Xgp Xcv
 rw [Xai (by omega), Xai (by omega)]
 rcases Xpg hb hl i hi with ⟨v, j, e1, e2, h1, h2, h3⟩ | ⟨e1, a, e2⟩
 ·
  rw [e1, Xad, e2, Xad]
  simp only
  rw [Xaw, Xad, Int.toNat_natCast]
  rcases Yvh hb hl N hN N 0 (by omega) (by omega) j (List.replicate N 0) v h3 (by simp) h1 with ⟨j3, l', r1, r2, r3, r4, r5⟩ | ⟨r1, l', a, r2, r3⟩
  ·
   have r1' := r1 0 ((v : Int), (j : Int), true) (by simp) (by omega)
   have r2' : loop (Xbc (N : Int)) (0, (v : Int), strOfNums L, (j : Int), false, List.replicate N 0) = some (l', strOfNums L, (j3 : Int), false) := r2
   have r3' : loop (Xb2 (strOfNums L) (N : Int) ((v : Int), (j : Int), true)) ((j : Int), 0, 0, List.replicate N 0) = some (.out ((j3 : Int), l')) := r1'
   rw [Xap (by omega), r2', r3', Xad, Xad]
   exact .inl ⟨l', j3, rfl, rfl, r3, r4⟩
  ·
   have r2' : loop (Xbc (N : Int)) (0, (v : Int), strOfNums L, (j : Int), false, List.replicate N 0) = some (l', strOfNums L, a, true) := r2
   refine .inr ⟨?_, l', a, ?_, r3⟩
   ·
    by_cases hbig : (v : Int) > N
    ·
     rw [Xaj hbig]
    ·
     have r3' : loop (Xb2 (strOfNums L) (N : Int) ((v : Int), (j : Int), true)) ((j : Int), 0, 0, List.replicate N 0) = some (.ret ([], 0, false)) := r1 0 ((v : Int), (j : Int), true) (by simp) (by omega)
     rw [Xap hbig, r3', Xad]
   ·
    rw [r2', Xad]
 ·
  refine .inr ⟨?_, List.replicate N 0, a, ?_, by simp⟩
  ·
   rw [e1, Xad]; rfl
  ·
   rw [e2, Xad]
   have h : ∀ l, Xbc (N : Int) (0, 0, strOfNums L, a, true, l) = some (.done (l, strOfNums L, a, true)) := fun l => rfl
   simp only
   rw [Xcf (h _), Xad, Int.toNat_natCast]
theorem Ynu (s : ByteArray) (a : Int) : ∀ n k : Nat, k + n = 4 → ∀ l : List Int, l.length = 16 * k → ∃ l' : List Int, loop Xba ((k : Int), s, a, true, l) = some (l', s, a, true) ∧ l'.length = 64
 | 0, k, hk, l, hl => ⟨l, Xda (by unfold Xba; simp only; rw [Xap (by omega)]), by omega⟩
 | n + 1, k, hk, l, hl => by
  have hm : maxLen = 9223372036854775807 := rfl
  obtain ⟨l', e, h⟩ := Ynu s a n (k + 1) (by omega) (l ++ List.replicate 16 0) (by rw [List.length_append, List.length_replicate]; omega)
  refine ⟨l', lgo ?_ e, h⟩
  have := Ype s a 16 (by omega)
  unfold Xba
  simp only
  rw [Xaj (by omega)]
  refine (Xgu this).trans ?_
  simp only
  rw [Xai (by simp only [List.length_replicate]; omega), wk (by omega) (by omega)]
  rfl
theorem Xw9 (s : ByteArray) (a : Int) (c : Xju) : ∃ l : List Int, Xbk ⟨s, a, true⟩ c = some (l, ⟨s, a, true⟩) ∧ l.length = 64 := by
 unfold Xbk
 rw [Yil, Xad]
 by_cases h : (c.Large || c.Exact) = true
 ·
  rw [Xb1 h]
  have := Ype s a 64 (by omega)
  exact ⟨_, (Xgu this).trans rfl, by simp⟩
 ·
  rw [Xbg (by simpa using h)]
  obtain ⟨l', e, hl⟩ := Ynu s a 4 0 rfl [] rfl
  exact ⟨l', (Xgu e).trans rfl, hl⟩
theorem Yoz {L : List Int} (hb : Xnp L) (hl : L.length ≤ 400000) : ∀ n k : Nat, k + n = 4 → ∀ (i : Nat) (l : List Int), i ≤ L.length → l.length = 16 * k →
  (∃ (l' : List Int) (j : Nat), loop (Xc8 (strOfNums L)) ((i : Int), (k : Int), l) = some (.out ((j : Int), l')) ∧ loop Xba ((k : Int), strOfNums L, (i : Int), false, l) = some (l', strOfNums L, (j : Int), false) ∧ l'.length = 64 ∧ j ≤ L.length) ∨
  (loop (Xc8 (strOfNums L)) ((i : Int), (k : Int), l) = some (.ret ([], 0, false)) ∧ ∃ (l' : List Int) (a : Int), loop Xba ((k : Int), strOfNums L, (i : Int), false, l) = some (l', strOfNums L, a, true) ∧ l'.length = 64)
 | 0, k, hk, i, l, hi, hll => .inl ⟨l, i, Xda (by unfold Xc8; simp only; rw [Xap (by omega)]), Xda (by unfold Xba; simp only; rw [Xap (by omega)]), by omega, hi⟩
 | n + 1, k, hk, i, l, hi, hll => by
  have hm : maxLen = 9223372036854775807 := rfl
  rcases Ymu hb hl 16 (by omega) i hi with ⟨q, j, e1, e2, h1, h2⟩ | ⟨e1, q, a, e2, h1⟩
  ·
   have gI : Xba ((k : Int), strOfNums L, (i : Int), false, l) = some (.go (((k + 1 : Nat) : Int), strOfNums L, (j : Int), false, l ++ q)) := by
    unfold Xba
    simp only
    rw [Xaj (by omega)]
    refine (Xgu e2).trans ?_
    simp only
    rw [Xai (by omega), wk (by omega) (by omega)]
    rfl
   have gS : Xc8 (strOfNums L) ((i : Int), (k : Int), l) = some (.go ((j : Int), ((k + 1 : Nat) : Int), l ++ q)) := by
    unfold Xc8
    simp only
    rw [Xaj (by omega)]
    refine (Xgu e1).trans ?_
    simp only
    rw [Bool.not_true, Xav, Xai (by omega), wk (by omega) (by omega)]
    rfl
   rcases Yoz hb hl n (k + 1) (by omega) j (l ++ q) h2 (by rw [List.length_append]; omega) with ⟨l', j', r1, r2, r3, r4⟩ | ⟨r1, l', a, r2, r3⟩
   ·
    exact .inl ⟨l', j', lgo gS r1, lgo gI r2, r3, r4⟩
   ·
    exact .inr ⟨lgo gS r1, l', a, lgo gI r2, r3⟩
  ·
   obtain ⟨l', r1, r2⟩ := Ynu (strOfNums L) a n (k + 1) (by omega) (l ++ q) (by rw [List.length_append]; omega)
   refine .inr ⟨Xda ?_, l', a, lgo ?_ r1, r2⟩
   ·
    unfold Xc8
    simp only
    rw [Xaj (by omega)]
    refine (Xgu e1).trans ?_
    rfl
   ·
    unfold Xba
    simp only
    rw [Xaj (by omega)]
    refine (Xgu e2).trans ?_
    simp only
    rw [Xai (by omega), wk (by omega) (by omega)]
    rfl
theorem Ydh {L : List Int} (hb : Xnp L) (hl : L.length ≤ 400000) (i : Nat) (hi : i ≤ L.length) (c : Xju) :
  (∃ (l : List Int) (j : Nat), Xff (strOfNums L) (i : Int) c = some (l, (j : Int), true) ∧ Xbk ⟨strOfNums L, (i : Int), false⟩ c = some (l, ⟨strOfNums L, (j : Int), false⟩) ∧ l.length = 64 ∧ j ≤ L.length) ∨
  (Xff (strOfNums L) (i : Int) c = some ([], 0, false) ∧ ∃ (l : List Int) (a : Int), Xbk ⟨strOfNums L, (i : Int), false⟩ c = some (l, ⟨strOfNums L, a, true⟩) ∧ l.length = 64) := by
 unfold Xff Xbk
 rw [Yil, Xad, Xad]
 by_cases h : (c.Large || c.Exact) = true
 ·
  rw [Xb1 h, Xb1 h]
  rcases Ymu hb hl 64 (by omega) i hi with ⟨q, j, e1, e2, h1, h2⟩ | ⟨e1, q, a, e2, h1⟩
  ·
   exact .inl ⟨q, j, (Xgu e1).trans rfl, (Xgu e2).trans rfl, h1, h2⟩
  ·
   exact .inr ⟨(Xgu e1).trans rfl, q, a, (Xgu e2).trans rfl, h1⟩
 ·
  rw [Xbg (by simpa using h), Xbg (by simpa using h)]
  rcases Yoz hb hl 4 0 rfl i [] hi rfl with ⟨l', j', r1, r2, r3, r4⟩ | ⟨r1, l', a, r2, r3⟩
  ·
   exact .inl ⟨l', j', (Xgu r1).trans rfl, (Xgu r2).trans rfl, r3, r4⟩
  ·
   exact .inr ⟨(Xgu r1).trans rfl, l', a, (Xgu r2).trans rfl, r3⟩
theorem Yin (s : ByteArray) (a : Int) (c : Xju) : ∃ (q : Xay) (a' : Int), Xci ⟨s, a, true⟩ c = some (q, ⟨s, a', true⟩) := by
 unfold Xci
 cases hK : c.Key with
 | true => exact ⟨_, _, rfl⟩
 | false =>
  simp only
  rw [Bool.not_false, Xaw, Ypn, Xad, Xad]
  exact ⟨_, _, rfl⟩
theorem Yoa {L : List Int} (hb : Xnp L) (hl : L.length ≤ 400000) (i : Nat) (hi : i ≤ L.length) (c : Xju) :
  (∃ (q : Xay) (j : Nat), Xiv (strOfNums L) (i : Int) c = some (q, (j : Int), true) ∧ Xci ⟨strOfNums L, (i : Int), false⟩ c = some (q, ⟨strOfNums L, (j : Int), false⟩) ∧ q.Levels.length ≤ 64 ∧ j ≤ L.length ∧ Xq9 q = true ∧ Xlr q c = true) ∨
  (Xiv (strOfNums L) (i : Int) c = some (⟨0, 0, 0, 0, []⟩, 0, false) ∧ ∃ (q : Xay) (a : Int), Xci ⟨strOfNums L, (i : Int), false⟩ c = some (q, ⟨strOfNums L, a, true⟩)) := by
 -- the kind
 have tail : ∀ (kd : Int) (i1 : Nat), i1 ≤ L.length → (0 ≤ kd ∧ kd ≤ 2) → (c.Key = true → kd = 2) → ∀ (x y : Option (Xay × Int × Bool)) (z : Option (Xay × Xjv)),
   x = (sel (kd == 0) (some ((⟨kd, 0, 0, 0, []⟩ : Xay), (i1 : Int), true)) (sel (kd == 1) (bnd (Xbu (strOfNums L) i1) fun q5 => sel (!q5.2.2) (some ((⟨0, 0, 0, 0, []⟩ : Xay), 0, false)) (bnd (Xbu (strOfNums L) q5.2.1) fun q6 => (sel (!q6.2.2) (some ((⟨0, 0, 0, 0, []⟩ : Xay), 0, false)) (bnd (Xff (strOfNums L) q6.2.1 c) fun q8 => bnd (sel q8.2.2 (bnd (Xdj (⟨kd, 0, q5.1, q6.1, q8.1⟩ : Xay)) fun q10 => some (!q10)) (some true)) fun v9 => sel v9 (some ((⟨0, 0, 0, 0, []⟩ : Xay), 0, false)) (some ((⟨kd, 0, q5.1, q6.1, q8.1⟩ : Xay), q8.2.1, true)))))) (bnd (Xa6 (strOfNums L) i1) fun q7 => (sel (!q7.2.2) (some ((⟨0, 0, 0, 0, []⟩ : Xay), 0, false)) (bnd (Xff (strOfNums L) q7.2.1 c) fun q8 => bnd (sel q8.2.2 (bnd (Xdj (⟨kd, q7.1, 0, 0, q8.1⟩ : Xay)) fun q10 => some (!q10)) (some true)) fun v9 => sel v9 (some ((⟨0, 0, 0, 0, []⟩ : Xay), 0, false)) (some ((⟨kd, q7.1, 0, 0, q8.1⟩ : Xay), q8.2.1, true))))))) →
   z = (bnd (sel (kd == 1) (bnd (Xbx (⟨strOfNums L, (i1 : Int), false⟩ : Xjv)) fun q4 => bnd (Xbx q4.2) fun q5 => bnd (Xbk q5.2 c) fun q6 => some (q6.2.row_, q6.2.at_, q6.2.bad_, (0 : Int), q4.1, q5.1, q6.1)) (sel (kd == 2) (bnd (Xbh (⟨strOfNums L, (i1 : Int), false⟩ : Xjv)) fun q7 => bnd (Xbk q7.2 c) fun q8 => some (q8.2.row_, q8.2.at_, q8.2.bad_, q7.1, 0, 0, q8.1)) (some (strOfNums L, (i1 : Int), false, 0, 0, 0, [])))) fun v3 => bnd (sel v3.2.2.1 (some true) (bnd (Xfi (⟨kd, v3.2.2.2.1, v3.2.2.2.2.1, v3.2.2.2.2.2.1, v3.2.2.2.2.2.2⟩ : Xay)) fun q10 => some (!q10))) fun v9 => some ((⟨kd, v3.2.2.2.1, v3.2.2.2.2.1, v3.2.2.2.2.2.1, v3.2.2.2.2.2.2⟩ : Xay), (⟨v3.1, v3.2.1, v9⟩ : Xjv))) →
   (∃ (q : Xay) (j : Nat), x = some (q, (j : Int), true) ∧ z = some (q, ⟨strOfNums L, (j : Int), false⟩) ∧ q.Levels.length ≤ 64 ∧ j ≤ L.length ∧ Xq9 q = true ∧ Xlr q c = true) ∨ (x = some (⟨0, 0, 0, 0, []⟩, 0, false) ∧ ∃ (q : Xay) (a : Int), z = some (q, ⟨strOfNums L, a, true⟩)) := by
  intro kd i1 hi1 hkd hkey x _ z hx hz
  subst hx; subst hz
  obtain h0 | h1 | h2 : kd = 0 ∨ kd = 1 ∨ kd = 2 := by omega
  ·
   subst h0
   exact .inl ⟨⟨0, 0, 0, 0, []⟩, i1, rfl, rfl, by simp, hi1, rfl, by
    unfold Xlr
    cases hK : c.Key with
    | false => rfl
    | true => exact absurd (hkey hK) (by decide)⟩
  ·
   subst h1
   have hlet : ∀ q : Xay, q.Kind = 1 → Xlr q c = true := fun q hq => by
    unfold Xlr
    cases hK : c.Key with
    | false => rfl
    | true => exact absurd (hkey hK) (by decide)
   rw [Xbg (b := ((1 : Int) == 0)) (by rfl), Xb1 (b := ((1 : Int) == 1)) (by rfl), Xb1 (b := ((1 : Int) == 1)) (by rfl)]
   rcases Ydw hb hl i1 hi1 with ⟨dx, j, e1, e2, h1, h2, h3⟩ | ⟨e1, a, e2⟩
   ·
    rw [e1, Xad, e2, Xad]
    simp only
    rw [Bool.not_true, Xav]
    rcases Ydw hb hl j h3 with ⟨dy, j2, f1, f2, g1, g2, g3⟩ | ⟨f1, a, f2⟩
    ·
     rw [f1, Xad, f2, Xad]
     simp only
     rw [Bool.not_true, Xav]
     rcases Ydh hb hl j2 g3 c with ⟨lv, j3, k1, k2, k3, k4⟩ | ⟨k1, lv, a, k2, k3⟩
     ·
      rw [k1, Xad, k2, Xad, Xad]
      simp only
      rw [Xaw, Xav, Xh7, Xad, Xfo _ (by simp only; omega), Xad, Xad, Xad]
      cases hq : Xq9 ⟨1, 0, dx, dy, lv⟩ with
      | true => exact .inl ⟨_, j3, rfl, rfl, by simp only; omega, k4, hq, hlet _ rfl⟩
      | false => exact .inr ⟨rfl, _, _, rfl⟩
     ·
      rw [k1, Xad, k2, Xad, Xad]
      exact .inr ⟨rfl, _, _, rfl⟩
    ·
     rw [f1, Xad, f2, Xad]
     obtain ⟨lv, k2, _⟩ := Xw9 (strOfNums L) a c
     simp only
     rw [k2, Xad, Xad]
     exact .inr ⟨rfl, _, _, rfl⟩
   ·
    rw [e1, Xad, e2, Xad]
    obtain ⟨lv, k2, _⟩ := Xw9 (strOfNums L) a c
    simp only
    rw [Ypf, Xad]
    simp only
    rw [k2, Xad, Xad]
    exact .inr ⟨rfl, _, _, rfl⟩
  ·
   subst h2
   have hlet : ∀ q : Xay, q.Kind = 2 → Xlr q c = true := fun q hq => by
    unfold Xlr
    rw [hq]
    cases c.Key <;> rfl
   rw [Xbg (b := ((2 : Int) == 0)) (by rfl), Xbg (b := ((2 : Int) == 1)) (by rfl), Xbg (b := ((2 : Int) == 1)) (by rfl), Xb1 (b := ((2 : Int) == 2)) (by rfl)]
   rcases Xpg hb hl i1 hi1 with ⟨m, j2, f1, f2, g1, g2, g3⟩ | ⟨f1, a, f2⟩
   ·
    rw [f1, Xad, f2, Xad]
    simp only
    rw [Bool.not_true, Xav]
    rcases Ydh hb hl j2 g3 c with ⟨lv, j3, k1, k2, k3, k4⟩ | ⟨k1, lv, a, k2, k3⟩
    ·
     rw [k1, Xad, k2, Xad, Xad]
     simp only
     rw [Xaw, Xav, Xh7, Xad, Xfo _ (by simp only; omega), Xad, Xad, Xad]
     cases hq : Xq9 ⟨2, (m : Int), 0, 0, lv⟩ with
     | true => exact .inl ⟨_, j3, rfl, rfl, by simp only; omega, k4, hq, hlet _ rfl⟩
     | false => exact .inr ⟨rfl, _, _, rfl⟩
    ·
     rw [k1, Xad, k2, Xad, Xad]
     exact .inr ⟨rfl, _, _, rfl⟩
   ·
    rw [f1, Xad, f2, Xad]
    obtain ⟨lv, k2, _⟩ := Xw9 (strOfNums L) a c
    simp only
    rw [k2, Xad, Xad]
    exact .inr ⟨rfl, _, _, rfl⟩
 unfold Xiv Xci
 simp only [Yre]
 cases hK : c.Key with
 | true =>
  rw [Bool.not_true, Xav, Xav, Xad]
  simp only
  rw [Xav]
  exact tail 2 i hi (by omega) (fun _ => rfl) _ none _ rfl rfl
 | false =>
  rw [Bool.not_false, Xaw, Xaw]
  rcases Xpg hb hl i hi with ⟨v, j, e1, e2, h1, h2, h3⟩ | ⟨e1, a, e2⟩
  ·
   rw [e1, Xad, e2, Xad, Xad]
   simp only
   rw [Xaw, Xad]
   by_cases hv : (v : Int) > 2
   ·
    rw [Xaj hv]
    rw [Xav, Xbg (b := (v : Int) == 1) (by rw [beq_eq_false_iff_ne]; omega), Xbg (b := (v : Int) == 2) (by rw [beq_eq_false_iff_ne]; omega), Xad]
    simp only
    have hq : Xq9 ⟨(v : Int), 0, 0, 0, []⟩ = false := by
     unfold Xq9
     rw [if_neg (by simp only; omega), if_neg (by simp only; omega), if_neg (by simp only; omega)]
    rw [Xav, Xfo _ (by simp), Xad, hq]
    exact .inr ⟨trivial, _, _, rfl⟩
   ·
    rw [Xap hv, Xav]
    exact tail v j h3 (by omega) (fun h => by rw [hK] at h; cases h) _ none _ rfl rfl
  ·
   rw [e1, Xad, e2, Xad, Xad]
   exact .inr ⟨rfl, _, _, rfl⟩
theorem Xoe (s : ByteArray) : (∃ L : List Int, s = strOfNums L ∧ Xnp L ∧ L.length ≤ 400000 ∧ Xim s = some true ∧ Xhe s = some true) ∨ (Xim s = some false ∧ Xhe s = some false) := by
 have hf : Xgx s = Xcx s := rfl
 unfold Xim Xhe
 by_cases hs : s.size ≤ 400000
 ·
  rw [Xap (by omega), Xaj (by omega), hf]
  unfold Xkk
  have hl := Yi1 (fun x => x == 48 || x == 49) (Xbo s) (Xcx s) (by
   intro i hi
   rw [Xbi] at hi
   unfold Xcx
   rw [Xaj (by omega), Xai (by omega), Xai (by omega), Ydl s i hi, wk (by omega) (by omega)]
   generalize Xjx s i = x
   cases h1 : (x == 48) <;> cases h2 : (x == 49) <;> simp only [bne, h1, h2, sel, bnd, Bool.not_true, Bool.not_false, Bool.or_false, Bool.or_true, Bool.true_or] <;> rfl) (by
   rw [Xbi]
   unfold Xcx
   rw [Xap (by omega)])
  rw [hl]
  by_cases hall : (Xbo s).all (fun x => x == 48 || x == 49) = true
  ·
   rw [if_pos hall]
   refine .inl ⟨Xbo s, (Xrp s).symm, fun x hx => ?_, by rw [Xbi]; exact hs, rfl, rfl⟩
   have := List.all_eq_true.1 hall x hx
   simpa using this
  ·
   rw [if_neg hall]
   exact .inr ⟨rfl, rfl⟩
 ·
  rw [Xaj (by omega), Xap (by omega)]
  exact .inr ⟨rfl, rfl⟩
theorem Ym8 {L : List Int} (hb : Xnp L) (hl : L.length ≤ 400000) (N : Nat) (hN : N ≤ 64) (c : Xju) (hc : Xix c = true) : ∀ n k : Nat, k + n = N → ∀ (i : Nat) (l : List Xay), i ≤ L.length → l.length = k → (∀ q ∈ l, q.Levels.length ≤ 64) → Ysa l c = true →
  (∃ (l' : List Xay) (j : Nat), loop (Xbt (strOfNums L) (N : Int) c) ((i : Int), (k : Int), l) = some (.out ((j : Int), l')) ∧ loop (Xa8 (N : Int) c) ((k : Int), strOfNums L, (i : Int), false, l) = some (.out (strOfNums L, (j : Int), false, l')) ∧ l'.length = N ∧ (∀ q ∈ l', q.Levels.length ≤ 64) ∧ Ysa l' c = true) ∨
  (loop (Xbt (strOfNums L) (N : Int) c) ((i : Int), (k : Int), l) = some (.ret ([], false)) ∧ loop (Xa8 (N : Int) c) ((k : Int), strOfNums L, (i : Int), false, l) = some (.ret ([], false)))
 | 0, k, hk, i, l, hi, hll, hq, hs => .inl ⟨l, i, Xda (by unfold Xbt; simp only; rw [Xap (by omega)]), Xda (by unfold Xa8; simp only; rw [Xap (by omega)]), by omega, hq, hs⟩
 | n + 1, k, hk, i, l, hi, hll, hq, hs => by
  have hm : maxLen = 9223372036854775807 := rfl
  rcases Yoa hb hl i hi c with ⟨q, j, e1, e2, h1, h2, h3, h4⟩ | ⟨e1, q, a, e2⟩
  ·
   have gI : Xa8 (N : Int) c ((k : Int), strOfNums L, (i : Int), false, l) = some (.go (((k + 1 : Nat) : Int), strOfNums L, (j : Int), false, l ++ [q])) := by
    unfold Xa8
    simp only
    rw [Xaj (by omega), e2, Xad]
    simp only
    rw [Xai (by simp only [List.length_singleton]; omega), Xav, wk (by omega) (by omega)]
    rfl
   have gS : Xbt (strOfNums L) (N : Int) c ((i : Int), (k : Int), l) = some (.go ((j : Int), ((k + 1 : Nat) : Int), l ++ [q])) := by
    unfold Xbt
    simp only
    rw [Xaj (by omega), e1, Xad]
    simp only
    rw [Bool.not_true, Xav, Xai (by simp only [List.length_singleton]; omega), wk (by omega) (by omega)]
    rfl
   have hq' : ∀ x ∈ l ++ [q], x.Levels.length ≤ 64 := fun x hx => by
    rcases List.mem_append.1 hx with h | h
    ·
     exact hq x h
    ·
     rw [List.mem_singleton.1 h]; exact h1
   have hs' : Ysa (l ++ [q]) c = true := by
    unfold Ysa at hs ⊢
    rw [List.all_append, hs, Bool.true_and, List.all_cons, h3, hc, h4]; rfl
   rcases Ym8 hb hl N hN c hc n (k + 1) (by omega) j (l ++ [q]) h2 (by rw [List.length_append, hll]; rfl) hq' hs' with ⟨l', j', r1, r2, r3⟩ | ⟨r1, r2⟩
   ·
    exact .inl ⟨l', j', lgo gS r1, lgo gI r2, r3⟩
   ·
    exact .inr ⟨lgo gS r1, lgo gI r2⟩
  ·
   refine .inr ⟨Xda ?_, Xda ?_⟩
   ·
    unfold Xbt
    simp only
    rw [Xaj (by omega), e1, Xad]
    rfl
   ·
    unfold Xa8
    simp only
    rw [Xaj (by omega), e2, Xad]
    simp only
    rw [Xai (by simp only [List.length_singleton]; omega), Xaw]
def Yv2 (n : Int) (c : Xju) (l : List Xay) : Prop := Xix c = true ∧ (1 ≤ n ∧ n ≤ 64) ∧ (l.length : Int) = n ∧ Ysa l c = true
theorem Yiv (s : ByteArray) (a n : Int) (c : Xju) : ∃ (l : List Xay) (b : Bool), Xi4 s a n c = some (l, b) ∧ Xjj s a n c = some (l, b) ∧ l.length ≤ 64 ∧ (∀ q ∈ l, q.Levels.length ≤ 64) ∧ (b = true → Yv2 n c l) := by
 have hm : maxLen = 9223372036854775807 := rfl
 have fin : ∀ {x y : Option (List Xay × Bool)}, x = some ([], false) → y = some ([], false) → ∃ (l : List Xay) (b : Bool), x = some (l, b) ∧ y = some (l, b) ∧ l.length ≤ 64 ∧ (∀ q ∈ l, q.Levels.length ≤ 64) ∧ (b = true → Yv2 n c l) := fun h1 h2 => ⟨[], false, h1, h2, by simp, fun q hq => by simp at hq, fun h => by cases h⟩
 unfold Xi4 Xjj Xem
 by_cases hn : 1 ≤ n ∧ n ≤ 64
 ·
  by_cases hc : Xix c = true
  case neg =>
   have hc : Xix c = false := by simpa using hc
   refine fin ?_ ?_
   ·
    rcases Xoe s with ⟨L, _, _, _, r1, _⟩ | ⟨r1, _⟩
    ·
     rw [r1, Xad, Xaw, Xan, Xad, Xad, Xad, Xan, Xad, decide_eq_true hn, Xaw, Xdk, Xad, hc, Xad]; rfl
    ·
     rw [r1, Xad, Xav, Xad, Xad, Xan, Xad, decide_eq_true hn, Xaw, Xdk, Xad, hc, Xad]; rfl
   ·
    rcases Xoe s with ⟨L, _, _, _, _, r1⟩ | ⟨_, r1⟩
    ·
     rw [r1, Xad, Xaw, Xak, Xad, Xeo, Xad, hc, Xav]
     cases decide (0 ≤ a ∧ a ≤ (s.size : Int)) <;> rfl
    ·
     rw [r1, Xad, Xav, Xad, Xaw]
  case pos =>
   rcases Xoe s with ⟨L, hL, hb, hl, r1, r2⟩ | ⟨r1, r2⟩
   ·
    rw [r1, r2, Xad, Xad, Xaw, Xaw, Xan, Xad, Xak, Xad, Xad, Xad, Xan, Xad, decide_eq_true hn, Xaw, Xdk, Xad, hc, Xad, Xeo, Xad, hc, Xaw, Xak, Xad, decide_eq_true hn]
    by_cases ha : 0 ≤ a ∧ a ≤ (s.size : Int)
    ·
     rw [decide_eq_true ha]
     simp only [Bool.not_true, Xav, Xaw, Xad]
     subst hL
     rw [strOfNums_size] at ha ⊢
     obtain ⟨i, rfl⟩ : ∃ i : Nat, a = i := ⟨a.toNat, by omega⟩
     obtain ⟨N, rfl⟩ : ∃ N : Nat, n = N := ⟨n.toNat, by omega⟩
     rcases Ym8 hb hl N (by omega) c hc N 0 (by omega) i [] (by omega) rfl (fun q hq => by simp at hq) rfl with ⟨l', j, k1, k2, k3, k4, k5⟩ | ⟨k1, k2⟩
     ·
      have k1' : loop (Xbt (strOfNums L) (N : Int) c) ((i : Int), 0, []) = some (.out ((j : Int), l')) := k1
      have k2' : loop (Xa8 (N : Int) c) (0, strOfNums L, (i : Int), false, []) = some (.out (strOfNums L, (j : Int), false, l')) := k2
      rw [k1', k2', Xad, Xad]
      simp only
      by_cases hj : (j : Int) = (L.length : Int)
      ·
       rw [Xbg (by rw [bne_eq_false_iff_eq]; exact hj)]
       exact ⟨l', true, rfl, rfl, by omega, k4, fun _ => ⟨hc, hn, by omega, k5⟩⟩
      ·
       rw [Xb1 (by rw [bne_iff_ne]; exact hj)]
       exact fin rfl rfl
     ·
      have k1' : loop (Xbt (strOfNums L) (N : Int) c) ((i : Int), 0, []) = some (.ret ([], false)) := k1
      have k2' : loop (Xa8 (N : Int) c) (0, strOfNums L, (i : Int), false, []) = some (.ret ([], false)) := k2
      rw [k1', k2', Xad, Xad]
      exact fin rfl rfl
    ·
     rw [decide_eq_false ha]
     simp only [Bool.not_true, Bool.not_false, Xav, Xaw, Xad]
     obtain ⟨q, a', eq⟩ := Yin s a c
     have hd : Xa8 n c (0, s, a, true, []) = some (.done (.ret ([], false))) := by
      unfold Xa8
      simp only
      rw [Xaj (by omega), eq, Xad]
      simp only
      rw [Xai (by simp only [List.length_singleton, List.length_nil]; omega), Xaw]
     rw [Xcf hd, Xad]
     exact fin rfl rfl
   ·
    refine fin ?_ ?_
    ·
     rw [r1, Xad, Xav, Xad, Xad, Xan, Xad, decide_eq_true hn, Xaw, Xdk, Xad, hc, Xad, Bool.not_true, Xav]
     simp only
     obtain ⟨q, a', eq⟩ := Yin s a c
     have hd : Xa8 n c (0, s, a, true, []) = some (.done (.ret ([], false))) := by
      unfold Xa8
      simp only
      rw [Xaj (by omega), eq, Xad]
      simp only
      rw [Xai (by simp only [List.length_singleton, List.length_nil]; omega), Xaw]
     rw [Xcf hd, Xad]
    ·
     rw [r2, Xad, Xav, Xad, Xaw]
 ·
  refine fin ?_ ?_
  ·
   rcases Xoe s with ⟨L, _, _, _, r1, _⟩ | ⟨r1, _⟩
   ·
    rw [r1, Xad, Xaw, Xan, Xad, Xad, Xad, Xan, Xad, decide_eq_false hn, Xav, Xad, Xaw]
   ·
    rw [r1, Xad, Xav, Xad, Xad, Xan, Xad, decide_eq_false hn, Xav, Xad, Xaw]
  ·
   rcases Xoe s with ⟨L, _, _, _, _, r1⟩ | ⟨_, r1⟩
   ·
    rw [r1, Xad, Xaw, Xak, Xad, Xeo, Xad, Xak, Xad, decide_eq_false hn]
    cases decide (0 ≤ a ∧ a ≤ (s.size : Int)) <;> cases Xix c <;> rfl
   ·
    rw [r1, Xad, Xav, Xad, Xaw]
def Yxe (w h : Int) : Pic := ⟨w, h, strOfNums (List.replicate (w * h).toNat 128)⟩
def Yi6 (s : ByteArray) (i : Nat) : Int := 48 + (Xjx s ((i / 8 : Nat) : Int) / 2 ^ (7 - i % 8)) % 2
def Xnr (s : ByteArray) : List Int := (List.range (8 * s.size)).map (Yi6 s)
theorem Ys4 : ∀ b : Fin 256, Ysl 8 (b.val : Int) = (List.range 8).map fun k => 48 + ((b.val : Int) / 2 ^ (7 - k)) % 2 := by decide +kernel
theorem Yxz (b : Int) (h : 0 ≤ b ∧ b ≤ 255) : Ysl 8 b = (List.range 8).map fun k => 48 + (b / 2 ^ (7 - k)) % 2 := by
 have := Ys4 ⟨b.toNat, by omega⟩
 simp only at this
 rwa [show ((b.toNat : Nat) : Int) = b by omega] at this
theorem Yqz (s : ByteArray) (i : Nat) : Yi6 s i = 48 ∨ Yi6 s i = 49 := by unfold Yi6; omega
theorem Ypu (s : ByteArray) : Xnp (Xnr s) := fun x hx => by
 obtain ⟨i, _, rfl⟩ := List.mem_map.1 hx
 exact Yqz s i
theorem Ypv (s : ByteArray) : (Xnr s).length = 8 * s.size := by simp [Xnr]
theorem Yq0 (s : ByteArray) {i : Nat} (h : i < 8 * s.size) : (Xnr s).getD i 0 = Yi6 s i := Xiy _ h
theorem Yn1 (f : Nat → Int) (n : Nat) : (List.range (8 * n)).map f ++ (List.range 8).map (fun k => f (8 * n + k)) = (List.range (8 * (n + 1))).map f := by
 rw [show 8 * (n + 1) = 8 * n + 8 by omega, List.range_add, List.map_append, List.map_map]
 rfl
theorem Xt8 (s : ByteArray) (hs : s.size ≤ 50001) : loop (Xd6 s) (0, []) = some (Xnr s) := by
 have hm : maxLen = 9223372036854775807 := rfl
 obtain ⟨o, e, ho⟩ := Xeu (f := Xd6 s) s.size (fun i l => l = (List.range (8 * i)).map (Yi6 s)) (by
  intro i l hi g
  subst g
  have hb := Xor s i
  unfold Xd6
  simp only
  rw [Xaj (by omega), Xai (by omega), wk (e := Xjx s i) (by omega) (by omega), show (8 : Int) = ((8 : Nat) : Int) from rfl, Yhu _ 8 hb.1 (by omega) (by omega), Xad, Ytj _ (Xqc (Yom _ _)), Xai (by simp only [Yon, List.length_map, List.length_range]; omega), wk (e := (i : Int) + 1) (by omega) (by omega)]
  refine ⟨_, rfl, ?_⟩
  rw [← Yn1, Yxz _ hb]
  congr 1
  refine List.map_congr_left fun k hk => ?_
  have hk8 := List.mem_range.1 hk
  unfold Yi6
  rw [show (8 * i + k) / 8 = i by omega, show (8 * i + k) % 8 = k by omega]) (by intro l; unfold Xd6; rw [Xap (by simp)]) [] rfl
 rw [e, ho]; rfl
theorem Ypt : ∀ b : Fin 256, ∀ k : Fin 8, Xaa .u8 (48 + (IntKind.wrap .u8 (BitVec.ofInt (IntKind.bits .u8) ((b.val : Int) / 2 ^ min (k.val) (IntKind.bits .u8)) &&& BitVec.ofInt (IntKind.bits .u8) 1).toNat)) = 48 + ((b.val : Int) / 2 ^ k.val) % 2 := by decide +kernel
theorem Yv7 (b : Int) (h : 0 ≤ b ∧ b ≤ 255) (k : Nat) (hk : k < 8) : Xaa .u8 (48 + (IntKind.wrap .u8 (BitVec.ofInt (IntKind.bits .u8) (b / 2 ^ min k (IntKind.bits .u8)) &&& BitVec.ofInt (IntKind.bits .u8) 1).toNat)) = 48 + (b / 2 ^ k) % 2 := by
 have := Ypt ⟨b.toNat, by omega⟩ ⟨k, hk⟩
 simp only at this
 rwa [show ((b.toNat : Nat) : Int) = b by omega] at this
theorem Xt7 (s : ByteArray) (hs : s.size ≤ 50001) : loop (Xd2 s) (0, []) = some (Xnr s) := by
 have hm : maxLen = 9223372036854775807 := rfl
 have := Ysx (f := Xd2 s) (8 * s.size) (Yi6 s) [] (by
  intro i hi
  have hb := Xor s ((i / 8 : Nat) : Int)
  unfold Xd2
  simp only
  rw [wk (e := 8 * (s.size : Int)) (by omega) (by omega), Xaj (by omega), Xai (by omega), Xbn (by omega), wk (e := (i : Int) / 8) (by omega) (by omega), Xai (by omega), Xai (by omega), Xca (by omega), wk (e := 7 - (i : Int) % 8) (by omega) (by omega), Xai (by omega), show (7 - (i : Int) % 8).toNat = 7 - i % 8 by omega, show (i : Int) / 8 = ((i / 8 : Nat) : Int) by omega, Yv7 _ hb (7 - i % 8) (by omega), Xai (by simp only [List.length_append, List.length_nil, List.length_map, List.length_range, List.length_singleton]; omega), wk (e := (i : Int) + 1) (by omega) (by omega)]
  rfl) (by unfold Xd2; rw [wk (e := 8 * (s.size : Int)) (by omega) (by omega), Xap (by simp)])
 rw [List.nil_append] at this
 exact this
theorem Yot {V : List Int} (hV : Xnp V) : ∀ n : Nat, n ≤ V.length → (∃ j, j < n ∧ V.getD j 0 = 49) → ∃ k, k + 1 ≤ n ∧ V.getD k 0 = 49 ∧ ∀ j, k + 1 ≤ j → j < n → V.getD j 0 = 48
 | 0, _, ⟨j, h, _⟩ => by omega
 | n + 1, hn, ⟨j, hj, h⟩ => by
  rcases hV (V.getD n 0) (by rw [Xcb V n (by omega)]; exact List.getElem_mem _) with e | e
  ·
   have hjn : j ≠ n := fun h2 => by rw [h2, e] at h; omega
   obtain ⟨k, h1, h2, h3⟩ := Yot hV n (by omega) ⟨j, by omega, h⟩
   refine ⟨k, by omega, h2, fun i h4 h5 => ?_⟩
   by_cases hi : i = n
   ·
    rw [hi]; exact e
   ·
    exact h3 i h4 (by omega)
  ·
   exact ⟨n, by omega, e, fun i h1 h2 => by omega⟩
theorem Ys0 : ∀ b : Fin 256, b.val ≠ 0 → ∃ k : Fin 8, 48 + ((b.val : Int) / 2 ^ (7 - k.val)) % 2 = 49 := by decide +kernel
theorem Yir (s : ByteArray) (hs : s.size ≤ 1048576) : (∃ L : List Int, Xnp L ∧ L.length ≤ 400000 ∧ Xgv s = some (strOfNums L, true) ∧ Xha s = some (strOfNums L, true)) ∨ (Xgv s = some (⟨#[]⟩, false) ∧ Xha s = some (⟨#[]⟩, false)) := by
 unfold Xgv Xha
 rw [wk (e := 8 * (s.size : Int)) (by omega) (by omega)]
 by_cases h0 : s.size = 0
 ·
  rw [h0]
  exact .inr ⟨rfl, rfl⟩
 rw [Xbg (b := (8 * (s.size : Int)) == 0) (by rw [beq_eq_false_iff_ne]; omega), Xbg (b := (s.size : Int) == 0) (by rw [beq_eq_false_iff_ne]; omega), wk (e := (s.size : Int) - 1) (by omega) (by omega), Xai (show 0 ≤ (s.size : Int) - 1 ∧ (s.size : Int) - 1 < s.size by omega)]
 by_cases hbig : s.size > 50001
 ·
  rw [Xaj (by omega), decide_eq_true (by omega), Xad, Xaw]
  refine .inr ⟨?_, rfl⟩
  cases (Xjx s ((s.size : Int) - 1) == 0) <;> rfl
 rw [Xap (by omega), Xai (show 0 ≤ (s.size : Int) - 1 ∧ (s.size : Int) - 1 < s.size by omega), decide_eq_false (by omega)]
 cases hz : (Xjx s ((s.size : Int) - 1) == 0) with
 | true => exact .inr ⟨rfl, rfl⟩
 | false =>
  rw [Xav, Xad, Xad, Xav, Xav, Xai (show 0 ≤ (0 : Int) ∧ (0 : Int) ≤ 8 * (s.size : Int) ∧ 8 * (s.size : Int) * 1 ≤ 281474976710656 by omega), show (List.replicate (0 : Int).toNat (0 : Int)) = [] from rfl, Xt7 s (by omega), Xt8 s (by omega), Xad, Xad]
  have hl := Ypv s
  have hV := Ypu s
  obtain ⟨k, k1, k2, k3⟩ := Yot hV (8 * s.size) (by omega) (by
   have hb := Xor s ((s.size : Int) - 1)
   rw [beq_eq_false_iff_ne] at hz
   obtain ⟨k, hk⟩ := Ys0 ⟨(Xjx s ((s.size : Int) - 1)).toNat, by omega⟩ (by simp only; omega)
   have hk8 := k.isLt
   simp only at hk
   rw [show (((Xjx s ((s.size : Int) - 1)).toNat : Nat) : Int) = Xjx s ((s.size : Int) - 1) by omega] at hk
   refine ⟨8 * (s.size - 1) + k.val, by omega, ?_⟩
   rw [Yq0 s (by omega)]
   unfold Yi6
   rw [show (8 * (s.size - 1) + k.val) / 8 = s.size - 1 by omega, show (8 * (s.size - 1) + k.val) % 8 = k.val by omega, show (((s.size - 1 : Nat)) : Int) = (s.size : Int) - 1 by omega]
   exact hk)
  have lI : loop (Xd3 (Xnr s)) (8 * (s.size : Int)) = some ((k + 1 : Nat) : Int) := by
   have key : ∀ m : Nat, k + 1 + m ≤ 8 * s.size → loop (Xd3 (Xnr s)) ((k + 1 + m : Nat) : Int) = some ((k + 1 : Nat) : Int) := by
    intro m
    induction m with
    | zero =>
     intro _
     refine Xda ?_
     unfold Xd3
     rw [wk (by omega) (by omega), Xai (by omega), Xai (by omega), show (((k + 1 + 0 : Nat) : Int) - 1).toNat = k by omega, k2]
     rfl
    | succ m ih =>
     intro hm
     refine lgo ?_ (ih (by omega))
     unfold Xd3
     rw [wk (by omega) (by omega), Xai (by omega), Xai (by omega), show (((k + 1 + (m + 1) : Nat) : Int) - 1).toNat = k + 1 + m by omega, k3 _ (by omega) (by omega), show ((k + 1 + (m + 1) : Nat) : Int) - 1 = ((k + 1 + m : Nat) : Int) by omega]
     rfl
   have := key (8 * s.size - (k + 1)) (by omega)
   rwa [show ((k + 1 + (8 * s.size - (k + 1)) : Nat) : Int) = 8 * (s.size : Int) by omega] at this
  have lS : loop (Xd7 (Xnr s)) ((Xnr s).length : Int) = some ((k + 1 : Nat) : Int) := by
   have key : ∀ m : Nat, k + 1 + m ≤ 8 * s.size → loop (Xd7 (Xnr s)) ((k + 1 + m : Nat) : Int) = some ((k + 1 : Nat) : Int) := by
    intro m
    induction m with
    | zero =>
     intro _
     refine Xda ?_
     unfold Xd7
     rw [Xaj (by omega), wk (by omega) (by omega), Xai (by omega), Xai (by omega), show (((k + 1 + 0 : Nat) : Int) - 1).toNat = k by omega, k2]
     rfl
    | succ m ih =>
     intro hm
     refine lgo ?_ (ih (by omega))
     unfold Xd7
     rw [Xaj (by omega), wk (by omega) (by omega), Xai (by omega), Xai (by omega), show (((k + 1 + (m + 1) : Nat) : Int) - 1).toNat = k + 1 + m by omega, k3 _ (by omega) (by omega), show ((k + 1 + (m + 1) : Nat) : Int) - 1 = ((k + 1 + m : Nat) : Int) by omega]
     rfl
   have := key (8 * s.size - (k + 1)) (by omega)
   rwa [show ((k + 1 + (8 * s.size - (k + 1)) : Nat) : Int) = ((Xnr s).length : Int) by omega] at this
  rw [lI, lS, Xad, wk (e := ((k + 1 : Nat) : Int) - 1) (by omega) (by omega), show ((k + 1 : Nat) : Int) - 1 = (k : Int) by omega]
  by_cases hk : (k : Int) > 400000
  ·
   rw [Xaj hk]
   exact .inr ⟨rfl, rfl⟩
  ·
   rw [Xap hk, Xai (by omega), Xai (by omega)]
   exact .inl ⟨(Xnr s).take k, fun x hx => hV x (List.mem_of_mem_take hx), by rw [List.length_take]; omega, rfl, rfl⟩
theorem Yng (s : ByteArray) (hs : s.size ≤ 1048576) : (∃ (kd : Int) (L : List Int), Yc6 kd = true ∧ Xnp L ∧ L.length ≤ 400000 ∧ Xj2 s = some (kd, strOfNums L, true) ∧ Xki s = some (kd, strOfNums L, true)) ∨ (Xj2 s = some (0, ⟨#[]⟩, false) ∧ Xki s = some (0, ⟨#[]⟩, false)) := by
 unfold Xj2 Xki
 by_cases h0 : s.size = 0
 ·
  have hd : s = ⟨#[]⟩ := by
   have := Xrp s
   have hn : Xbo s = [] := List.length_eq_zero_iff.1 (by rw [Xbi]; exact h0)
   rw [hn] at this
   exact this.symm
  subst hd
  have e0 : ((⟨#[]⟩ : ByteArray).toList == (⟨#[]⟩ : ByteArray).toList) = true := beq_self_eq_true _
  have e1 : ((⟨#[]⟩ : ByteArray).size : Int) < 1 := by decide
  rw [e0, Xaw, Xaj e1]
  exact .inr ⟨rfl, rfl⟩
 have hne : (s.toList == (⟨#[]⟩ : ByteArray).toList) = false := by
  rw [beq_eq_false_iff_ne]
  intro h
  exact h0 (by rw [Yiq.1 h]; rfl)
 have hb := Xor s 0
 have r0 : ∀ {β : Type} (k : Option β), req (0 ≤ (0 : Int) ∧ (0 : Int) < (s.size : Int)) k = k := fun k => Xai (by omega)
 have r1 : ∀ {β : Type} (k : Option β), req (0 ≤ (1 : Int) ∧ (1 : Int) ≤ (s.size : Int) ∧ (s.size : Int) ≤ (s.size : Int)) k = k := fun k => Xai (by omega)
 rw [hne, Xav, Xap (by omega)]
 simp only [r0, r1, wk (e := Xjx s 0) (by omega) (by omega), Yge, Yez, Xad]
 cases hk : Yc6 (Xjx s 0) with
 | false => exact .inr ⟨rfl, rfl⟩
 | true =>
  rw [Bool.not_true, Xav, Xav]
  rcases Yir (s.extract (1 : Int).toNat (s.size : Int).toNat) (by rw [ByteArray.size_extract]; omega) with ⟨L, l1, l2, e1, e2⟩ | ⟨e1, e2⟩
  ·
   rw [e1, e2, Xad]
   exact .inl ⟨_, L, hk, l1, l2, rfl, rfl⟩
  ·
   rw [e1, e2, Xad]
   exact .inr ⟨rfl, rfl⟩
theorem Xot {L : List Int} (hb : Xnp L) (hl : L.length ≤ 400000) (i : Nat) (hi : i ≤ L.length) (w : Nat) (hw : w ≤ 41) :
  (∃ v : Int, i + w ≤ L.length ∧ v = Xnq ((L.drop i).take w) ∧ (0 ≤ v ∧ v < 2 ^ w) ∧ Xby (strOfNums L) (i : Int) (w : Int) = some (v, ((i + w : Nat) : Int), true) ∧ Xa1 ⟨strOfNums L, (i : Int), false⟩ (w : Int) = some (v, ⟨strOfNums L, ((i + w : Nat) : Int), false⟩)) ∨
  (L.length < i + w ∧ Xby (strOfNums L) (i : Int) (w : Int) = some (0, 0, false) ∧ Xa1 ⟨strOfNums L, (i : Int), false⟩ (w : Int) = some (0, ⟨strOfNums L, (i : Int), true⟩)) := by
 have es := Xtx hb hl hi hw
 by_cases h : i + w ≤ L.length
 ·
  rw [if_pos h] at es
  have hr := Xop (l := (L.drop i).take w) (fun x hx => hb x (List.mem_of_mem_drop (List.mem_of_mem_take hx)))
  have hlen : ((L.drop i).take w).length = w := by rw [List.length_take, List.length_drop]; omega
  rw [hlen] at hr
  exact .inl ⟨_, h, rfl, hr, es, Ycq hb hl h hw⟩
 ·
  rw [if_neg h] at es
  refine .inr ⟨by omega, es, ?_⟩
  unfold Xa1
  simp only
  rw [Xav, strOfNums_size, wk (by omega) (by omega), Xad, Xaj (by omega)]
theorem Ybp (s : ByteArray) (a w : Int) : Xa1 ⟨s, a, true⟩ w = some (0, ⟨s, a, true⟩) := rfl
theorem Xvf (s : ByteArray) (a : Int) : Xcu ⟨s, a, true⟩ = some ([], ⟨s, a, true⟩) := by
 unfold Xcu
 rw [Ypn, Xad]
 have h : Xa2 (0, ⟨s, a, true⟩) (0, s, a, true, []) = some (.done ([], s, a, true)) := rfl
 simp only
 rw [Xap (by omega), Xad, Xcf h, Xad]
theorem Ymc {L : List Int} (hb : Xnp L) (hl : L.length ≤ 400000) (q1 : Int × Int × Bool) (q2 : Int × Xjv) (N : Nat) (hN : N ≤ 4) (h1 : q1.1 = (N : Int)) (h2 : q2.1 = (N : Int)) : ∀ n k : Nat, k + n = N → ∀ (i : Nat) (l : List Int), i ≤ L.length → l.length = k →
  (∃ (l' : List Int) (j : Nat), loop (Xbf (strOfNums L) q1) ((i : Int), (k : Int), l) = some (.out ((j : Int), l')) ∧ loop (Xa2 q2) ((k : Int), strOfNums L, (i : Int), false, l) = some (l', strOfNums L, (j : Int), false) ∧ l'.length ≤ 4 ∧ j ≤ L.length) ∨
  (loop (Xbf (strOfNums L) q1) ((i : Int), (k : Int), l) = some (.ret ([], 0, false)) ∧ ∃ (l' : List Int) (a : Int), loop (Xa2 q2) ((k : Int), strOfNums L, (i : Int), false, l) = some (l', strOfNums L, a, true) ∧ l'.length ≤ 4)
 | 0, k, hk, i, l, hi, hll => .inl ⟨l, i, Xda (by unfold Xbf; simp only; rw [Xap (by omega)]), Xda (by unfold Xa2; simp only; rw [Xap (by omega), Xad, Xav]), by omega, hi⟩
 | n + 1, k, hk, i, l, hi, hll => by
  have hm : maxLen = 9223372036854775807 := rfl
  rcases Xpg hb hl i hi with ⟨v, j, e1, e2, v1, v2, v3⟩ | ⟨e1, a, e2⟩
  ·
   have gI : Xa2 q2 ((k : Int), strOfNums L, (i : Int), false, l) = some (.go (((k + 1 : Nat) : Int), strOfNums L, (j : Int), false, l ++ [(v : Int)])) := by
    unfold Xa2
    simp only
    rw [Xaj (by omega), Bool.not_false, Xad, Xaw, e2, Xad]
    simp only
    rw [Xai (by simp only [List.length_singleton]; omega), wk (by omega) (by omega)]
    rfl
   have gS : Xbf (strOfNums L) q1 ((i : Int), (k : Int), l) = some (.go ((j : Int), ((k + 1 : Nat) : Int), l ++ [(v : Int)])) := by
    unfold Xbf
    simp only
    rw [Xaj (by omega), e1, Xad]
    simp only
    rw [Bool.not_true, Xav, Xai (by simp only [List.length_singleton]; omega), wk (by omega) (by omega)]
    rfl
   rcases Ymc hb hl q1 q2 N hN h1 h2 n (k + 1) (by omega) j (l ++ [(v : Int)]) v3 (by rw [List.length_append, List.length_singleton]; omega) with ⟨l', j', r1, r2, r3, r4⟩ | ⟨r1, l', a, r2, r3⟩
   ·
    exact .inl ⟨l', j', lgo gS r1, lgo gI r2, r3, r4⟩
   ·
    exact .inr ⟨lgo gS r1, l', a, lgo gI r2, r3⟩
  ·
   have gI : Xa2 q2 ((k : Int), strOfNums L, (i : Int), false, l) = some (.go (((k + 1 : Nat) : Int), strOfNums L, a, true, l ++ [0])) := by
    unfold Xa2
    simp only
    rw [Xaj (by omega), Bool.not_false, Xad, Xaw, e2, Xad]
    simp only
    rw [Xai (by simp only [List.length_singleton]; omega), wk (by omega) (by omega)]
    rfl
   have dI : Xa2 q2 (((k + 1 : Nat) : Int), strOfNums L, a, true, l ++ [0]) = some (.done (l ++ [0], strOfNums L, a, true)) := by
    unfold Xa2
    simp only
    cases decide (((k + 1 : Nat) : Int) < q2.1) <;> rfl
   refine .inr ⟨Xda ?_, l ++ [0], a, lgo gI (Xda dI), by rw [List.length_append, List.length_singleton]; omega⟩
   unfold Xbf
   simp only
   rw [Xaj (by omega), e1, Xad]
   rfl
theorem Ymb {L : List Int} (hb : Xnp L) (hl : L.length ≤ 400000) (i : Nat) (hi : i ≤ L.length) :
  (∃ (l : List Int) (j : Nat), Xde (strOfNums L) (i : Int) = some (l, (j : Int), true) ∧ Xcu ⟨strOfNums L, (i : Int), false⟩ = some (l, ⟨strOfNums L, (j : Int), false⟩) ∧ l.length ≤ 4 ∧ j ≤ L.length) ∨
  (Xde (strOfNums L) (i : Int) = some ([], 0, false) ∧ ∃ (l : List Int) (a : Int), Xcu ⟨strOfNums L, (i : Int), false⟩ = some (l, ⟨strOfNums L, a, true⟩) ∧ l.length ≤ 4) := by
 unfold Xde Xcu
 rcases Xpg hb hl i hi with ⟨v, j, e1, e2, v1, v2, v3⟩ | ⟨e1, a, e2⟩
 ·
  rw [e1, Xad, e2, Xad]
  simp only
  rw [Xaw, Xad]
  by_cases hv : (v : Int) > 4
  ·
   rw [Xaj hv, Xaj hv, Xad]
   have h : Xa2 ((v : Int), ⟨strOfNums L, (j : Int), false⟩) (0, strOfNums L, (j : Int), true, []) = some (.done ([], strOfNums L, (j : Int), true)) := by
    unfold Xa2
    simp only
    rw [Xaj (by omega)]
    rfl
   rw [Xcf h, Xad]
   exact .inr ⟨rfl, [], j, rfl, by simp⟩
  ·
   rw [Xap hv, Xap hv, Xad]
   rcases Ymc hb hl ((v : Int), (j : Int), true) ((v : Int), ⟨strOfNums L, (j : Int), false⟩) v (by omega) rfl rfl v 0 (by omega) j [] v3 rfl with ⟨l', j', r1, r2, r3, r4⟩ | ⟨r1, l', a, r2, r3⟩
   ·
    have r1' : loop (Xbf (strOfNums L) ((v : Int), (j : Int), true)) ((j : Int), 0, []) = _ := r1
    have r2' : loop (Xa2 ((v : Int), ⟨strOfNums L, (j : Int), false⟩)) (0, strOfNums L, (j : Int), false, []) = _ := r2
    rw [r1', r2', Xad, Xad]
    exact .inl ⟨l', j', rfl, rfl, r3, r4⟩
   ·
    have r1' : loop (Xbf (strOfNums L) ((v : Int), (j : Int), true)) ((j : Int), 0, []) = _ := r1
    have r2' : loop (Xa2 ((v : Int), ⟨strOfNums L, (j : Int), false⟩)) (0, strOfNums L, (j : Int), false, []) = _ := r2
    rw [r1', r2', Xad, Xad]
    exact .inr ⟨rfl, l', a, rfl, r3⟩
 ·
  rw [e1, Xad, e2, Xad]
  simp only
  rw [Xav, Xad, Xaw, Xap (by omega), Xad]
  have h : Xa2 (0, ⟨strOfNums L, a, true⟩) (0, strOfNums L, a, true, []) = some (.done ([], strOfNums L, a, true)) := rfl
  rw [Xcf h, Xad]
  exact .inr ⟨rfl, [], a, rfl, by simp⟩
theorem Ydn {L : List Int} (hb : Xnp L) (hl : L.length ≤ 400000) (i : Nat) (hi : i ≤ L.length) : Xem (strOfNums L) (i : Int) = some ⟨strOfNums L, (i : Int), false⟩ := by
 unfold Xem
 rw [Yjj L hb hl, Xad, Xaw, Xan, Xad, strOfNums_size, decide_eq_true (by omega), Xad]
 rfl
theorem Yla {L : List Int} (hb : Xnp L) (hl : L.length ≤ 400000) (i : Nat) (hi : i ≤ L.length) :
  (∃ (q : Seq) (j : Nat), Xe5 (strOfNums L) (i : Int) = some (q, (j : Int), true) ∧ Xil (strOfNums L) (i : Int) = some (q, (j : Int), true) ∧ Xl1 q = true ∧ q.Cols.length ≤ 4 ∧ q.Rows.length ≤ 4 ∧ j ≤ L.length) ∨
  (Xe5 (strOfNums L) (i : Int) = some (⟨0, 0, [], []⟩, 0, false) ∧ Xil (strOfNums L) (i : Int) = some (⟨0, 0, [], []⟩, 0, false)) := by
 have hm : maxLen = 9223372036854775807 := rfl
 unfold Xe5 Xil
 rw [Ydn hb hl i hi, Xad]
 rcases Xpg hb hl i hi with ⟨v, j, e1, e2, v1, v2, v3⟩ | ⟨e1, a, e2⟩
 ·
  rw [e1, Xad, e2, Xad]
  simp only
  rw [Bool.not_true, Xav]
  rcases Xot hb hl j v3 4 (by omega) with ⟨w, w1, _, w2, f1, f2⟩ | ⟨_, f1, f2⟩
  ·
   have f1' : Xby (strOfNums L) (j : Int) 4 = some (w, ((j + 4 : Nat) : Int), true) := f1
   have f2' : Xa1 ⟨strOfNums L, (j : Int), false⟩ 4 = some (w, ⟨strOfNums L, ((j + 4 : Nat) : Int), false⟩) := f2
   rw [f1', Xad, f2', Xad]
   simp only
   rw [Bool.not_true, Xav]
   rcases Ymb hb hl (j + 4) w1 with ⟨l, j2, g1, g2, g3, g4⟩ | ⟨g1, l, a, g2, g3⟩
   ·
    rw [g1, Xad, g2, Xad]
    simp only
    rw [Bool.not_true, Xav]
    rcases Ymb hb hl j2 g4 with ⟨m, j3, k1, k2, k3, k4⟩ | ⟨k1, m, a, k2, k3⟩
    ·
     rw [k1, Xad, k2, Xad]
     simp only
     rw [Xaw, Xav, Xjm, Xad, Xgz _ (by simp only; omega) (by simp only; omega), Xad, Xad, Xad]
     cases hq : Xl1 ⟨(v : Int), w, l, m⟩ with
     | true => exact .inl ⟨_, j3, rfl, rfl, hq, g3, k3, k4⟩
     | false => exact .inr ⟨rfl, rfl⟩
    ·
     rw [k1, Xad, k2, Xad]
     exact .inr ⟨rfl, rfl⟩
   ·
    rw [g1, Xad, g2, Xad]
    simp only
    rw [Xvf, Xad]
    exact .inr ⟨rfl, rfl⟩
  ·
   have f1' : Xby (strOfNums L) (j : Int) 4 = some (0, 0, false) := f1
   have f2' : Xa1 ⟨strOfNums L, (j : Int), false⟩ 4 = some (0, ⟨strOfNums L, (j : Int), true⟩) := f2
   rw [f1', Xad, f2', Xad]
   simp only
   rw [Xvf, Xad]
   simp only
   rw [Xvf, Xad]
   exact .inr ⟨rfl, rfl⟩
 ·
  rw [e1, Xad, e2, Xad]
  simp only
  rw [Ybp, Xad]
  simp only
  rw [Xvf, Xad]
  simp only
  rw [Xvf, Xad]
  exact .inr ⟨rfl, rfl⟩
theorem Yvb {L : List Int} (hb : Xnp L) {j : Nat} (h : j + 1 ≤ L.length) : Xnq ((L.drop j).take 1) = L.getD j 0 - 48 := by
 have : Xnq ((L.drop j).take 1) = 2 * Xnq ((L.drop j).take 0) + L.getD j 0 - 48 := Xph (L := L) (i := j) (k := 0) (by omega)
 rw [this, show Xnq ((L.drop j).take 0) = 0 from rfl]; omega
theorem Yk9 {L : List Int} (hb : Xnp L) (hl : L.length ≤ 400000) (i : Nat) (hi : i ≤ L.length) :
  (∃ (p : Par) (j : Nat), Xe4 (strOfNums L) (i : Int) = some (p, (j : Int), true) ∧ Xik (strOfNums L) (i : Int) = some (p, (j : Int), true) ∧ Xtp p = true ∧ j ≤ L.length) ∨
  (Xe4 (strOfNums L) (i : Int) = some (⟨0, false, false, false⟩, 0, false) ∧ Xik (strOfNums L) (i : Int) = some (⟨0, false, false, false⟩, 0, false)) := by
 unfold Xe4 Xik
 rw [Ydn hb hl i hi, Xad]
 rcases Xot hb hl i hi 6 (by omega) with ⟨w, w1, _, w2, f1, f2⟩ | ⟨_, f1, f2⟩
 ·
  have f1' : Xby (strOfNums L) (i : Int) 6 = some (w, ((i + 6 : Nat) : Int), true) := f1
  have f2' : Xa1 ⟨strOfNums L, (i : Int), false⟩ 6 = some (w, ⟨strOfNums L, ((i + 6 : Nat) : Int), false⟩) := f2
  rw [f1', Xad, f2', Xad]
  simp only
  rw [Xaw, strOfNums_size, wk (e := (L.length : Int) - ((i + 6 : Nat) : Int)) (by omega) (by omega)]
  by_cases h3 : i + 9 ≤ L.length
  ·
   have bit : ∀ j : Nat, j + 1 ≤ L.length → Xa1 ⟨strOfNums L, (j : Int), false⟩ 1 = some (L.getD j 0 - 48, ⟨strOfNums L, ((j + 1 : Nat) : Int), false⟩) ∧ ((L.getD j 0 - 48 == 1) = (Xjx (strOfNums L) (j : Int) == 49)) := fun j hj => by
    rcases Xot hb hl j (by omega) 1 (by omega) with ⟨u, _, u1, _, _, g2⟩ | ⟨u1, _⟩
    ·
     rw [Yvb hb hj] at u1
     rw [u1] at g2
     refine ⟨g2, ?_⟩
     obtain ⟨b1, b2⟩ := Xx6 hb (i := j) (by omega)
     rw [b1]
     rcases b2 with b2 | b2 <;> rw [b2] <;> rfl
    ·
     omega
   obtain ⟨a1, a2⟩ := bit (i + 6) (by omega)
   obtain ⟨b1, b2⟩ := bit (i + 6 + 1) (by omega)
   obtain ⟨c1, c2⟩ := bit (i + 6 + 1 + 1) (by omega)
   rw [decide_eq_false (by omega), Xad, Xav, Xai (by omega), wk (e := ((i + 6 : Nat) : Int) + 1) (by omega) (by omega), Xai (by omega), wk (e := ((i + 6 : Nat) : Int) + 2) (by omega) (by omega), Xai (by omega), wk (e := ((i + 6 : Nat) : Int) + 3) (by omega) (by omega), a1, Xad]
   simp only
   rw [b1, Xad]
   simp only
   rw [c1, Xad]
   simp only
   rw [Xav, a2, b2, c2, show ((i + 6 : Nat) : Int) + 1 = ((i + 6 + 1 : Nat) : Int) by omega, show ((i + 6 : Nat) : Int) + 2 = ((i + 6 + 1 + 1 : Nat) : Int) by omega, Xl4, Xly, Xad, Xad, Xad]
   cases hp : Xtp ⟨w, Xjx (strOfNums L) ((i + 6 : Nat) : Int) == 49, Xjx (strOfNums L) ((i + 6 + 1 : Nat) : Int) == 49, Xjx (strOfNums L) ((i + 6 + 1 + 1 : Nat) : Int) == 49⟩ with
   | true => exact .inl ⟨_, i + 9, (by rw [Bool.not_true, Xav]; try rfl), (by rw [Bool.not_true, Xav]; try rfl), hp, h3⟩
   | false => exact .inr ⟨rfl, rfl⟩
  ·
   rw [decide_eq_true (by omega), Xad, Xaw]
   refine .inr ⟨rfl, ?_⟩
   have three : ∀ j : Nat, j ≤ L.length → L.length < j + 3 → ∃ (a b c : Int) (e f g : Xjv), Xa1 ⟨strOfNums L, (j : Int), false⟩ 1 = some (a, e) ∧ Xa1 e 1 = some (b, f) ∧ Xa1 f 1 = some (c, g) ∧ g.bad_ = true := fun j h1 h2 => by
    rcases Xot hb hl j h1 1 (by omega) with ⟨u, k1, _, _, _, g2⟩ | ⟨_, _, g2⟩
    ·
     rcases Xot hb hl (j + 1) k1 1 (by omega) with ⟨u', k2, _, _, _, g3⟩ | ⟨_, _, g3⟩
     ·
      rcases Xot hb hl (j + 1 + 1) k2 1 (by omega) with ⟨u'', k3, _, _, _, g4⟩ | ⟨_, _, g4⟩
      ·
       omega
      ·
       exact ⟨_, _, _, _, _, _, g2, g3, g4, rfl⟩
     ·
      exact ⟨_, _, _, _, _, _, g2, g3, Ybp _ _ _, rfl⟩
    ·
     exact ⟨_, _, _, _, _, _, g2, Ybp _ _ _, Ybp _ _ _, rfl⟩
   obtain ⟨a, b, c, e, f, g, r1, r2, r3, r4⟩ := three (i + 6) w1 (by omega)
   rw [r1, Xad]
   simp only
   rw [r2, Xad]
   simp only
   rw [r3, Xad]
   simp only
   rw [r4, Xaw, Xad, Xaw]
 ·
  have f1' : Xby (strOfNums L) (i : Int) 6 = some (0, 0, false) := f1
  have f2' : Xa1 ⟨strOfNums L, (i : Int), false⟩ 6 = some (0, ⟨strOfNums L, (i : Int), true⟩) := f2
  rw [f1', Xad, f2', Xad]
  exact .inr ⟨rfl, rfl⟩
theorem Xns (b : Int) (h : 3 ≤ b ∧ b ≤ 8) : 0 ≤ Xaa .u64 b ∧ Xaa .i64 (1 * 2 ^ min (Xaa .u64 b).toNat (IntKind.bits .i64)) = 2 ^ b.toNat ∧ Xaa .i64 (1 * 2 ^ min b.toNat (IntKind.bits .i64)) = 2 ^ b.toNat ∧ (2 : Int) ^ b.toNat ≤ 256 ∧ 8 ≤ (2 : Int) ^ b.toNat := by
 obtain h | h | h | h | h | h : b = 3 ∨ b = 4 ∨ b = 5 ∨ b = 6 ∨ b = 7 ∨ b = 8 := by omega
 all_goals (subst h; decide +kernel)
def Ybt (q : Seq) (p : Par) (h : Yfi) : Bool := Xl1 q && (Xtp p && (decide (0 ≤ h.Tile ∧ h.Tile < Xdg q) && (decide (0 ≤ h.Frame ∧ h.Frame < 2 ^ q.Bits.toNat) && decide (0 ≤ h.Qp ∧ h.Qp ≤ 40))))
theorem Xl5 {q : Seq} (h : Xl1 q = true) : 0 ≤ Xdg q ∧ Xdg q ≤ 1000000 := by
 obtain ⟨h1, h2, _⟩ := Xdy h
 unfold Xdg
 rw [if_pos h]
 have a := Xke h1
 have b := Xke h2
 have : (q.Cols.length : Int) * q.Rows.length ≤ 4 * 4 := Int.mul_le_mul (by omega) (by omega) (by omega) (by omega)
 exact ⟨Int.mul_nonneg (by omega) (by omega), by omega⟩
theorem Yfw (q : Seq) (p : Par) (h : Yfi) (h1 : q.Cols.length ≤ maxLen) (h2 : q.Rows.length ≤ maxLen) : Xmf q p h = some (Ybt q p h) := by
 unfold Xmf Ybt
 rw [Xgz q h1 h2, Xad]
 cases hs : Xl1 q with
 | false => rfl
 | true =>
  rw [Xaw, Xly, Xad, Bool.true_and]
  cases hp : Xtp p with
  | false => rfl
  | true =>
   obtain ⟨_, _, b1, b2⟩ := Xdy hs
   obtain ⟨s1, s2, s3, s4, s5⟩ := Xns q.Bits ⟨b1, b2⟩
   have ht := Xl5 hs
   rw [Xaw, Xi9 q h1 h2, Xad, Xan, Xad, wk (e := Xdg q - 1) (by omega) (by omega), Bool.true_and, Xai (by omega), s3, wk (e := (2 : Int) ^ q.Bits.toNat - 1) (by omega) (by omega), Xan, Xad, Xan, Xad]
   have e1 : decide (0 ≤ h.Tile ∧ h.Tile ≤ Xdg q - 1) = decide (0 ≤ h.Tile ∧ h.Tile < Xdg q) := by rw [decide_eq_decide]; omega
   have e2 : decide (0 ≤ h.Frame ∧ h.Frame ≤ 2 ^ q.Bits.toNat - 1) = decide (0 ≤ h.Frame ∧ h.Frame < 2 ^ q.Bits.toNat) := by rw [decide_eq_decide]; omega
   rw [e1, e2, Xdx, Xdx, Xad]
theorem Yha (q : Seq) (p : Par) (h : Yfi) : Xms q p h = some (Ybt q p h) := by
 unfold Xms Ybt
 rw [Xl4, Xad]
 cases hp : Xtp p with
 | false => rw [Xav, Xad, Bool.false_and, Bool.and_false]
 | true =>
  rw [Xaw, Xjp, Xad, Bool.true_and]
  cases hs : Xl1 q with
  | false =>
   have : Xdg q = 0 := by unfold Xdg; rw [hs]; rfl
   rw [this, Bool.false_and]
   by_cases h0 : h.Tile ≥ 0
   ·
    rw [Xaj h0, Xap (by omega), Xad]
   ·
    rw [Xap h0, Xad]
  | true =>
   obtain ⟨_, _, b1, b2⟩ := Xdy hs
   obtain ⟨s1, s2, s3, s4, s5⟩ := Xns q.Bits ⟨b1, b2⟩
   rw [Bool.true_and, Xai s1, s2, Xak, Xad, Yg0, Yg0, Yg0, Yg0]
   by_cases t1 : h.Tile ≥ 0
   ·
    rw [if_pos t1]
    by_cases t2 : h.Tile < Xdg q
    ·
     rw [if_pos t2, decide_eq_true (show 0 ≤ h.Tile ∧ h.Tile < Xdg q from ⟨t1, t2⟩), Bool.true_and]
     by_cases f1 : h.Frame ≥ 0
     ·
      rw [if_pos f1]
      by_cases f2 : h.Frame < 2 ^ q.Bits.toNat
      ·
       rw [if_pos f2, decide_eq_true (show 0 ≤ h.Frame ∧ h.Frame < 2 ^ q.Bits.toNat from ⟨f1, f2⟩), Bool.true_and, Xad]
      ·
       rw [if_neg f2, decide_eq_false (show ¬ (0 ≤ h.Frame ∧ h.Frame < 2 ^ q.Bits.toNat) from fun h => f2 h.2), Bool.false_and, Xad]
     ·
      rw [if_neg f1, decide_eq_false (show ¬ (0 ≤ h.Frame ∧ h.Frame < 2 ^ q.Bits.toNat) from fun h => f1 h.1), Bool.false_and, Xad]
    ·
     rw [if_neg t2, decide_eq_false (show ¬ (0 ≤ h.Tile ∧ h.Tile < Xdg q) from fun h => t2 h.2), Bool.false_and, Xad]
   ·
    rw [if_neg t1, decide_eq_false (show ¬ (0 ≤ h.Tile ∧ h.Tile < Xdg q) from fun h => t1 h.1), Bool.false_and, Xad]
theorem Yiu {L : List Int} (hb : Xnp L) (hl : L.length ≤ 400000) (q : Seq) (p : Par) (h1 : q.Cols.length ≤ maxLen) (h2 : q.Rows.length ≤ maxLen) :
  (∃ (h : Yfi) (j : Nat), Xhd q p (strOfNums L) = some (h, (j : Int), true) ∧ Xgw q p (strOfNums L) = some (h, (j : Int), true) ∧ Ybt q p h = true ∧ j ≤ L.length) ∨
  (Xhd q p (strOfNums L) = some (⟨0, 0, 0⟩, 0, false) ∧ Xgw q p (strOfNums L) = some (⟨0, 0, 0⟩, 0, false)) := by
 unfold Xhd Xgw
 have ho : Xem (strOfNums L) 0 = some ⟨strOfNums L, ((0 : Nat) : Int), false⟩ := Ydn hb hl 0 (by omega)
 rw [ho, Xad, Ykw L hb hl, Xad, Xaw, Xjm, Xad, Xl4, Xad, Xgz q h1 h2, Xad, Xly, Xad]
 cases hs : Xl1 q with
 | false => exact .inr ⟨rfl, rfl⟩
 | true =>
  cases hp : Xtp p with
  | false => exact .inr ⟨rfl, rfl⟩
  | true =>
   rw [Xaw, Bool.not_true, Xad, Xav, Xad, Xav]
   have hpq : 0 ≤ p.Qp ∧ p.Qp ≤ 40 := Ytl hp
   obtain ⟨_, _, b1, b2⟩ := Xdy hs
   rcases Xpg hb hl 0 (by omega) with ⟨v, j, e1, e2, v1, v2, v3⟩ | ⟨e1, a, e2⟩
   ·
    have e1' : Xa6 (strOfNums L) 0 = some ((v : Int), (j : Int), true) := e1
    rw [e1', Xad, e2, Xad]
    simp only
    rw [Bool.not_true, Xav]
    rcases Xot hb hl j v3 q.Bits.toNat (by omega) with ⟨w, w1, _, w2, f1, f2⟩ | ⟨_, f1, f2⟩
    ·
     rw [show ((q.Bits.toNat : Nat) : Int) = q.Bits by omega] at f1 f2
     rw [f1, Xad, f2, Xad]
     simp only
     rw [Bool.not_true, Xav]
     rcases Ydw hb hl (j + q.Bits.toNat) w1 with ⟨n, j2, g1, g2, g3, g4, g5⟩ | ⟨g1, a, g2⟩
     ·
      rw [g1, Xad, g2, Xad]
      simp only
      rw [Xaw, Xav, wk (e := p.Qp + n) (by omega) (by omega), wk (e := n + p.Qp) (by omega) (by omega), Int.add_comm n p.Qp, Yha, Yfw _ _ _ h1 h2, Xad, Xad]
      cases hh : Ybt q p ⟨(v : Int), w, p.Qp + n⟩ with
      | true => exact .inl ⟨_, j2, rfl, rfl, hh, g5⟩
      | false => exact .inr ⟨rfl, rfl⟩
     ·
      rw [g1, Xad, g2, Xad]
      exact .inr ⟨rfl, rfl⟩
    ·
     rw [show ((q.Bits.toNat : Nat) : Int) = q.Bits by omega] at f1 f2
     rw [f1, Xad, f2, Xad]
     simp only
     rw [Ypf, Xad]
     exact .inr ⟨rfl, rfl⟩
   ·
    have e1' : Xa6 (strOfNums L) 0 = some (0, 0, false) := e1
    rw [e1', Xad, e2, Xad]
    simp only
    rw [Ybp, Xad]
    simp only
    rw [Ypf, Xad]
    exact .inr ⟨rfl, rfl⟩
theorem Yl8 : ∀ (a : List Int) (x : Int), Xm6 (a ++ [x]) = Xm6 a + x
 | [], x => by simp [Xm6]
 | y :: a, x => by rw [List.cons_append, Xm6, Xm6, Yl8 a x, Int.add_assoc]
theorem Yl9 {l : List Int} : ∀ k : Nat, k < l.length → Xm6 (l.take (k + 1)) = Xm6 (l.take k) + l.getD k 0 := by
 intro k hk
 rw [List.take_add_one, List.getElem?_eq_getElem hk, Xcb l k hk]
 exact Yl8 _ _
theorem Xrc {l : List Int} (h : l.all Xiq = true) {i : Nat} (hi : i < l.length) : 1 ≤ l.getD i 0 ∧ l.getD i 0 ≤ 8 := by
 have := List.all_eq_true.1 h (l.getD i 0) (by rw [Xcb l i hi]; exact List.getElem_mem _)
 unfold Xiq at this
 rwa [decide_eq_true_eq] at this
theorem Xm7 {l : List Int} (h : l.all Xiq = true) (hl : l.length ≤ 4) (i : Nat) : 0 ≤ Xm6 (l.take i) ∧ Xm6 (l.take i) ≤ 32 := by
 have := Xo5 (l := l.take i) (List.all_eq_true.2 fun x hx => List.all_eq_true.1 h x (List.mem_of_mem_take hx))
 rw [List.length_take] at this
 omega
theorem Ylg {l : List Int} (h : l.all Xiq = true) (hl : l.length ≤ 4) (k : Nat) (hk : k ≤ l.length) : Xh5 l (k : Int) = some (Xm6 (l.take k)) := by
 have key : ∀ i : Nat, i ≤ k → loop (Xe6 l (k : Int)) (Xm6 (l.take i), (i : Int)) = some (Xm6 (l.take k)) := by
  refine Xf5 _ (Xda (by unfold Xe6; rw [Xap (by simp)])) ?_
  intro i hi ih
  refine lgo ?_ ih
  have a := Xrc h (i := i) (by omega)
  have b := Xm7 h hl i
  unfold Xe6
  simp only [Int.toNat_natCast]
  rw [Xaj (by omega), Xai (by omega), wk (e := Xm6 (l.take i) + l.getD i 0) (by omega) (by omega), wk (e := (i : Int) + 1) (by omega) (by omega), Yl9 i (by omega)]
  rfl
 exact Xgu (key 0 (by omega))
theorem Ypl {l : List Int} (h : l.all Xiq = true) (hl : l.length ≤ 4) : Xb5 l = some (Xm6 l) := by
 have key : ∀ i : Nat, i ≤ l.length → loop (Xdi l) (Xm6 (l.take i), (i : Int)) = some (Xm6 l) := by
  refine Xf5 _ (Xda (by unfold Xdi; rw [Xap (by simp), List.take_length])) ?_
  intro i hi ih
  refine lgo ?_ ih
  have a := Xrc h (i := i) (by omega)
  have b := Xm7 h hl i
  unfold Xdi
  simp only [Int.toNat_natCast]
  rw [Xaj (by omega), Xai (by omega), wk (e := Xm6 (l.take i) + l.getD i 0) (by omega) (by omega), wk (e := (i : Int) + 1) (by omega) (by omega), Yl9 i (by omega)]
  rfl
 exact Xgu (key 0 (by omega))
theorem Ynf {q : Seq} (hs : Xl1 q = true) (h1 : q.Cols.length ≤ maxLen) (h2 : q.Rows.length ≤ maxLen) (t : Int) (ht : 0 ≤ t ∧ t < Xdg q) : ∃ r : Xoq, Xg0 q t = some (r, true) ∧ Xhg q t = some (r, true) ∧ Xpd r.Wide = true ∧ Xpd r.High = true := by
 have hr := Xl5 hs
 have hto : Xdg q = (q.Cols.length : Int) * q.Rows.length := by unfold Xdg; rw [if_pos hs]
 obtain ⟨s1, s2, _⟩ := Xdy hs
 have c1 := Xke s1
 have c2 := Xke s2
 unfold Xho at s1 s2
 rw [Bool.and_eq_true] at s1 s2
 have m0 := Int.emod_nonneg t (show (q.Cols.length : Int) ≠ 0 by omega)
 have m1 := Int.emod_lt_of_pos t (show 0 < (q.Cols.length : Int) by omega)
 have d0 : 0 ≤ t / (q.Cols.length : Int) := Int.ediv_nonneg ht.1 (by omega)
 have d1 : t / (q.Cols.length : Int) < q.Rows.length := Int.ediv_lt_of_lt_mul (by omega) (by rw [Int.mul_comm, ← hto]; exact ht.2)
 have ex : ∃ x y : Nat, (x : Int) = t % (q.Cols.length : Int) ∧ (y : Int) = t / (q.Cols.length : Int) := ⟨(t % (q.Cols.length : Int)).toNat, (t / (q.Cols.length : Int)).toNat, by omega, by omega⟩
 obtain ⟨x, y, hx, hy⟩ := ex
 have tm : t.tmod (q.Cols.length : Int) = (x : Int) := by rw [Xca ht.1]; exact hx.symm
 have td : Xaa .i64 (t.tdiv (q.Cols.length : Int)) = (y : Int) := by rw [Xbn ht.1, ← hy, wk (by omega) (by omega)]
 have bx := Xm7 s1.2 c1.2 x
 have by_ := Xm7 s2.2 c2.2 y
 have gx := Xrc s1.2 (i := x) (by omega)
 have gy := Xrc s2.2 (i := y) (by omega)
 have side8 : ∀ v : Int, 1 ≤ v ∧ v ≤ 8 → Xpd (8 * v) = true := fun v hv => by
  unfold Xpd
  rw [Bool.and_eq_true, decide_eq_true_eq, decide_eq_true_eq, Xca (by omega)]
  omega
 refine ⟨⟨8 * Xm6 (q.Cols.take x), 8 * Xm6 (q.Rows.take y), 8 * q.Cols.getD x 0, 8 * q.Rows.getD y 0⟩, ?_, ?_, side8 _ gx, side8 _ gy⟩
 ·
  unfold Xg0
  rw [Xi9 q h1 h2, Xad, wk (e := Xdg q - 1) (by omega) (by omega), Xan, Xad, decide_eq_true (by omega), Bool.not_true, Xav, Xai (by omega), tm, td, Xai (by omega), Xai (by omega)]
  simp only [Int.toNat_natCast]
  rw [show (0 : Int).toNat = 0 from rfl, List.drop_zero, List.drop_zero, Nat.sub_zero, Nat.sub_zero, Ypl (List.all_eq_true.2 fun z hz => List.all_eq_true.1 s1.2 z (List.mem_of_mem_take hz)) (by rw [List.length_take]; omega), Xad, Xai (by omega), Ypl (List.all_eq_true.2 fun z hz => List.all_eq_true.1 s2.2 z (List.mem_of_mem_take hz)) (by rw [List.length_take]; omega), Xad, Xai (by omega), Xai (by omega), wk (e := 8 * Xm6 (q.Cols.take x)) (by omega) (by omega), wk (e := 8 * Xm6 (q.Rows.take y)) (by omega) (by omega), wk (e := 8 * q.Cols.getD x 0) (by omega) (by omega), wk (e := 8 * q.Rows.getD y 0) (by omega) (by omega)]
 ·
  unfold Xhg
  rw [Xap (by omega), Xjp, Xad, decide_eq_false (by omega), Xad, Xav, Xai (by omega), tm, td, Xai (by omega), Ylg s1.2 c1.2 x (by omega), Xad, Ylg s2.2 c2.2 y (by omega), Xad, Xai (by omega), Xai (by omega)]
  simp only [Int.toNat_natCast]
  rw [wk (e := 8 * Xm6 (q.Cols.take x)) (by omega) (by omega), wk (e := 8 * Xm6 (q.Rows.take y)) (by omega) (by omega), wk (e := 8 * q.Cols.getD x 0) (by omega) (by omega), wk (e := 8 * q.Rows.getD y 0) (by omega) (by omega)]
theorem Yru {l m : List Int} {b x : Nat} (h : b + m.length ≤ l.length) (hx : x < m.length) : (over l b (m.take x)).set (b + x) (m.getD x 0) = over l b (m.take (x + 1)) := by
 have h1 : b + (m.take x).length ≤ l.length := by rw [List.length_take]; omega
 have h2 : b + (m.take (x + 1)).length ≤ l.length := by rw [List.length_take]; omega
 apply List.ext_getElem?
 intro j
 rw [List.getElem?_set, Xpa h1, Ya8 h1, Ya8 h2]
 simp only [List.length_take]
 by_cases hj : b + x = j
 ·
  subst hj
  rw [if_pos rfl, if_pos (by omega), if_pos (by omega), Xcb m x hx, List.getElem?_take, if_pos (by omega), show b + x - b = x by omega, List.getElem?_eq_getElem hx]
 ·
  rw [if_neg hj]
  by_cases hin : b ≤ j ∧ j < b + x
  ·
   rw [if_pos (by omega), if_pos (by omega), List.getElem?_take, List.getElem?_take, if_pos (by omega), if_pos (by omega)]
  ·
   rw [if_neg (by omega), if_neg (by omega)]
theorem Ytk (l : List Int) (b : Nat) : over l b [] = l := by
 unfold over
 rw [List.append_nil, List.length_nil, Nat.add_zero, List.take_append_drop]
theorem Ync (p0 p1 : Pic) (x y : Int) : ∃ (o : Pic) (b : Bool), Xmh p0 p1 x y = some (o, b) ∧ Xmu p0 p1 x y = some (o, b) ∧ o.Wide = p0.Wide ∧ o.High = p0.High ∧ o.Dots.size = p0.Dots.size ∧ (b = false → o = p0) := by
 unfold Xmh Xmu
 have hw := Xkl p0 ⟨x, y, p1.Wide, p1.High⟩
 simp only at hw
 rw [Xct, Xad, Xfl, Xad, hw]
 cases ok1 : Xcp p1 with
 | false =>
  rw [Xav, Xad, Xaw]
  refine ⟨p0, false, ?_, rfl, rfl, rfl, rfl, fun _ => rfl⟩
  cases Xcp p0 with
  | false => rfl
  | true => rw [Xaw, Xct, Xad, ok1]; rfl
 | true =>
  rw [Xaw, Xad, Xad, Xct, Xad, ok1]
  cases ok0 : Xcp p0 with
  | false => exact ⟨p0, false, rfl, rfl, rfl, rfl, rfl, fun _ => rfl⟩
  | true =>
   rw [Xaw, Xaw, Xo0 ok0, Xad]
   cases ho : Xkz p0 ⟨x, y, p1.Wide, p1.High⟩ with
   | false => exact ⟨p0, false, rfl, rfl, rfl, rfl, rfl, fun _ => rfl⟩
   | true =>
    have hm : maxLen = 9223372036854775807 := rfl
    obtain ⟨k1, k2, k3⟩ := Xbr ok0
    obtain ⟨g1, g2, g3⟩ := Xbr ok1
    obtain ⟨a1, a2, a3, a4⟩ := Xig ho
    simp only at a1 a2 a3 a4
    have ar := Xdq k1 k2
    have ar1 := Xdq g1 g2
    have hdl := Yoj ok0
    unfold Xn1
    simp only [Bool.and_self, Bool.not_true, Xad, Xav]
    rw [Xai (by omega), Xai (by omega), Xad]
    -- places of a row
    have row : ∀ r : Nat, (r : Int) < p1.High → ∃ B S : Nat, (B : Int) = (y + (r : Int)) * p0.Wide + x ∧ B + p1.Wide.toNat ≤ p0.Dots.size ∧ (S : Int) = (r : Int) * p1.Wide ∧ S + p1.Wide.toNat ≤ p1.Dots.size ∧ ((r : Int) + 1) * p1.Wide = (S : Int) + p1.Wide ∧ 0 ≤ (y + (r : Int)) * p0.Wide := fun r hr => by
     have e1 : 0 ≤ (y + (r : Int)) * p0.Wide := Int.mul_nonneg (by omega) (by omega)
     have e2 : (y + (r : Int)) * p0.Wide ≤ (p0.High - 1) * p0.Wide := Int.mul_le_mul_of_nonneg_right (by omega) (by omega)
     have e3 : (p0.High - 1) * p0.Wide = p0.Wide * p0.High - p0.Wide := by rw [Int.sub_mul, Int.one_mul, Int.mul_comm]
     have f1 : 0 ≤ (r : Int) * p1.Wide := Int.mul_nonneg (by omega) (by omega)
     have f2 : (r : Int) * p1.Wide ≤ (p1.High - 1) * p1.Wide := Int.mul_le_mul_of_nonneg_right (by omega) (by omega)
     have f3 : (p1.High - 1) * p1.Wide = p1.Wide * p1.High - p1.Wide := by rw [Int.sub_mul, Int.one_mul, Int.mul_comm]
     have f4 : ((r : Int) + 1) * p1.Wide = (r : Int) * p1.Wide + p1.Wide := by rw [Int.add_mul, Int.one_mul]
     refine ⟨((y + (r : Int)) * p0.Wide + x).toNat, ((r : Int) * p1.Wide).toNat, by omega, by omega, by omega, by omega, by omega, e1⟩
    have hl : loop (Xkr p0 p1 x y) (0, Xbo p0.Dots) = loop (Xc6 p0 p1 x y) (0, Xbo p0.Dots) := by
     refine Yo3 p1.High.toNat (fun _ s => s.length = p0.Dots.size) ?_ ?_ (Xbi _)
     ·
      intro r s hr hs
      unfold Xkr Xc6
      simp only
      by_cases hlt : (r : Int) < p1.High
      ·
       obtain ⟨B, S, b1, b2, b3, b4, b5, b6⟩ := row r hlt
       have hml : (Xbo (p1.Dots.extract S (S + p1.Wide.toNat))).length = p1.Wide.toNat := by rw [Xbi, ByteArray.size_extract]; omega
       have hin : loop (Xbl p0 p1 x y ((r : Int), s)) (0, s) = some (over s B (Xbo (p1.Dots.extract S (S + p1.Wide.toNat)))) := by
        obtain ⟨o, e, ho⟩ := Xhk (f := Xbl p0 p1 x y ((r : Int), s)) p1.Wide.toNat (fun k t => t = over s B ((Xbo (p1.Dots.extract S (S + p1.Wide.toNat))).take k)) (by
         intro k t hk ht
         subst ht
         have hol : (over s B ((Xbo (p1.Dots.extract S (S + p1.Wide.toNat))).take k)).length = s.length := Xpa (by rw [List.length_take]; omega)
         have hbt : Xjx p1.Dots ((S : Int) + k) = (Xbo (p1.Dots.extract S (S + p1.Wide.toNat))).getD k 0 := by
          rw [Ydl _ k (by rw [ByteArray.size_extract]; omega)]
          unfold Xjx
          rw [dif_pos (show ((S : Int) + k).toNat < p1.Dots.size by omega), dif_pos (by rw [ByteArray.size_extract]; omega), ByteArray.getElem_extract]
          congr 2
         unfold Xbl
         simp only
         rw [Xaj (by omega), wk (e := (r : Int) * p1.Wide) (by omega) (by omega), wk (e := y + (r : Int)) (by omega) (by omega), wk (e := (y + (r : Int)) * p0.Wide) (by omega) (by omega), wk (e := (y + (r : Int)) * p0.Wide + x) (by omega) (by omega), ← b1, ← b3, wk (e := (S : Int) + (k : Int)) (by omega) (by omega), wk (e := (B : Int) + (k : Int)) (by omega) (by omega), Xai (by omega), Xai (by omega), Xai (by omega), wk (e := (k : Int) + 1) (by omega) (by omega), hbt, show ((B : Int) + (k : Int)).toNat = B + k by omega]
         exact ⟨_, rfl, Yru (by omega) (by omega)⟩) (fun t _ => by unfold Xbl; rw [Xap (by simp only; omega)]) s (by rw [List.take_zero, Ytk])
        rw [e, ho, List.take_of_length_le (by omega)]
       rw [Xaj hlt, Xaj hlt, hin, Xad, wk (e := y + (r : Int)) (by omega) (by omega), wk (e := (y + (r : Int)) * p0.Wide) (by omega) (by omega), wk (e := (y + (r : Int)) * p0.Wide + x) (by omega) (by omega), wk (e := (r : Int) + 1) (by omega) (by omega), wk (e := (r : Int) * p1.Wide) (by omega) (by omega), wk (e := ((r : Int) + 1) * p1.Wide) (by omega) (by omega), b5, ← b1, ← b3, show (S : Int).toNat = S by omega, show (B : Int).toNat = B by omega, show ((S : Int) + p1.Wide).toNat = S + p1.Wide.toNat by omega, Xai (by omega), Xai (by omega), Xai (by rw [hml]; omega)]
      ·
       rw [Xap hlt, Xap hlt]
     ·
      intro r s v' hr hs he
      unfold Xc6 at he
      simp only at he
      by_cases hlt : (r : Int) < p1.High
      ·
       obtain ⟨B, S, b1, b2, b3, b4, b5, b6⟩ := row r hlt
       rw [Xaj hlt] at he
       obtain ⟨o, e, ho⟩ := Xhk (f := Xbl p0 p1 x y ((r : Int), s)) p1.Wide.toNat (fun k t => t.length = p0.Dots.size) (by
        intro k t hk ht
        unfold Xbl
        simp only
        rw [Xaj (by omega), wk (e := (r : Int) * p1.Wide) (by omega) (by omega), wk (e := y + (r : Int)) (by omega) (by omega), wk (e := (y + (r : Int)) * p0.Wide) (by omega) (by omega), wk (e := (y + (r : Int)) * p0.Wide + x) (by omega) (by omega), ← b1, ← b3, wk (e := (S : Int) + (k : Int)) (by omega) (by omega), wk (e := (B : Int) + (k : Int)) (by omega) (by omega), Xai (by omega), Xai (by omega), Xai (by omega), wk (e := (k : Int) + 1) (by omega) (by omega)]
        exact ⟨_, rfl, by rw [List.length_set]; exact ht⟩) (fun t _ => by unfold Xbl; rw [Xap (by simp only; omega)]) s hs
       rw [e, Xad] at he
       injection he with he
       injection he with he
       subst he
       exact ⟨by simp only; rw [wk (by omega) (by omega)]; rfl, by omega, ho⟩
      ·
       rw [Xap hlt] at he
       cases he
    obtain ⟨o, e, ho2⟩ := Xhk (f := Xc6 p0 p1 x y) p1.High.toNat (fun _ s => s.length = p0.Dots.size) (by
     intro r s hr hs
     obtain ⟨B, S, b1, b2, b3, b4, b5, b6⟩ := row r (by omega)
     obtain ⟨o, e, ho⟩ := Xhk (f := Xbl p0 p1 x y ((r : Int), s)) p1.Wide.toNat (fun k t => t.length = p0.Dots.size) (by
      intro k t hk ht
      unfold Xbl
      simp only
      rw [Xaj (by omega), wk (e := (r : Int) * p1.Wide) (by omega) (by omega), wk (e := y + (r : Int)) (by omega) (by omega), wk (e := (y + (r : Int)) * p0.Wide) (by omega) (by omega), wk (e := (y + (r : Int)) * p0.Wide + x) (by omega) (by omega), ← b1, ← b3, wk (e := (S : Int) + (k : Int)) (by omega) (by omega), wk (e := (B : Int) + (k : Int)) (by omega) (by omega), Xai (by omega), Xai (by omega), Xai (by omega), wk (e := (k : Int) + 1) (by omega) (by omega)]
      exact ⟨_, rfl, by rw [List.length_set]; exact ht⟩) (fun t _ => by unfold Xbl; rw [Xap (by simp only; omega)]) s hs
     unfold Xc6
     simp only
     rw [Xaj (by omega), e, Xad, wk (by omega) (by omega)]
     exact ⟨_, rfl, ho⟩) (fun t _ => by unfold Xc6; rw [Xap (by simp only; omega)]) (Xbo p0.Dots) (Xbi _)
    rw [hl, e, Xad]
    exact ⟨_, true, rfl, rfl, rfl, rfl, by rw [strOfNums_size]; exact ho2, fun h => by cases h⟩
def Xkc (p : Pic) : Bool := (p.Wide == 0) && ((p.High == 0) && ((p.Dots.size : Int) == 0))
theorem Yp0 (s : ByteArray) : (s.toList == (⟨#[]⟩ : ByteArray).toList) = ((s.size : Int) == 0) := by
 rw [Bool.eq_iff_iff, beq_iff_eq, beq_iff_eq, Yiq]
 constructor
 ·
  intro h; rw [h]; rfl
 ·
  intro h
  have := Xrp s
  have hn : Xbo s = [] := List.length_eq_zero_iff.1 (by rw [Xbi]; omega)
  rw [hn] at this
  exact this.symm
theorem Yfc (p : Pic) : Xej p = some (Xkc p) := by
 unfold Xej Xkc
 cases (p.Wide == 0) with
 | false => rfl
 | true => cases (p.High == 0) <;> rfl
theorem Ya1 (p : Pic) (s : Seq) : Xhj p s = some (Xnf p s) := by
 unfold Xhj Xnf
 rw [Xsz, Xad, Xfl, Xad]
 cases Xcp p with
 | false => rfl
 | true => cases (p.Wide == (Xpe s).1) <;> rfl
def Ymj (s : Seq) : Bool := (s.Level == 0) && ((s.Bits == 0) && (((s.Cols.length : Int) == 0) && ((s.Rows.length : Int) == 0)))
theorem Ycu (s : Seq) : Xk5 s = some (Ymj s) := by
 unfold Xk5 Ymj
 cases (s.Level == 0) with
 | false => rfl
 | true =>
  cases (s.Bits == 0) with
  | false => rfl
  | true => cases ((s.Cols.length : Int) == 0) <;> rfl
def Xyg (p : Par) : Bool := (p.Qp == 0) && ((p.Large == false) && ((p.Exact == false) && (p.Confined == false)))
def Yfp (d : Decoder) : Bool :=
 if d.HasSeq = true then
  Xl1 d.Seq && ((if d.HasPar = true then Xtp d.Par else Xyg d.Par && (decide (d.Got = 0) && !d.HasRef)) && (decide (-1 ≤ d.Frame ∧ d.Frame < 2 ^ d.Seq.Bits.toNat) && (decide (0 ≤ d.Got ∧ d.Got < Xdg d.Seq) && ((if d.Got > 0 then !(d.Frame == -1) && Xnf d.Now d.Seq else Xkc d.Now) && (if d.HasRef = true then Xnf d.Ref d.Seq else Xkc d.Ref)))))
 else
  !d.HasPar && (!d.HasRef && (Ymj d.Seq && (Xyg d.Par && ((d.Frame == -1) && ((d.Got == 0) && (Xkc d.Now && Xkc d.Ref))))))
theorem Ykt (d : Decoder) : Xog d = some (Yfp d) := by
 unfold Xog Yfp
 have hP : ((d.Par.Qp == 0) && ((d.Par.Large == false) && ((d.Par.Exact == false) && (d.Par.Confined == false)))) = Xyg d.Par := rfl
 rw [hP]
 simp only [Yfc, Ya1, Xjm, Xl4, Xjp, Xad]
 cases hS : d.HasSeq with
 | false =>
  rw [Bool.not_false, Xaw, if_neg (by decide)]
  cases d.HasPar with
  | true => rfl
  | false =>
   cases d.HasRef with
   | true => rfl
   | false =>
    unfold Ymj
    cases (d.Seq.Level == 0) with
    | false => rfl
    | true =>
     cases (d.Seq.Bits == 0) with
     | false => rfl
     | true =>
      cases ((d.Seq.Cols.length : Int) == 0) with
      | false => rfl
      | true =>
       cases ((d.Seq.Rows.length : Int) == 0) with
       | false => rfl
       | true =>
        cases Xyg d.Par with
        | false => rfl
        | true =>
         cases (d.Frame == -1) with
         | false => rfl
         | true =>
          cases (d.Got == 0) with
          | false => rfl
          | true => cases Xkc d.Now <;> rfl
 | true =>
  rw [Bool.not_true, Xav, if_pos rfl]
  cases hs : Xl1 d.Seq with
  | false => rfl
  | true =>
   obtain ⟨_, _, b1, b2⟩ := Xdy hs
   obtain ⟨s1, s2, s3, s4, s5⟩ := Xns d.Seq.Bits ⟨b1, b2⟩
   have ht := Xl5 hs
   rw [Xaw, s2, Bool.true_and]
   generalize (2 : Int) ^ d.Seq.Bits.toNat = N at *
   generalize Xdg d.Seq = T at *
   have tailE : ∀ v : Bool, (bnd (sel (decide (d.Frame < (-1))) (some true) (req (0 ≤ (Xaa .u64 (d.Seq.Bits))) <| sel (decide (d.Frame ≥ N)) (some true) (sel (decide (d.Got < 0)) (some true) (sel (decide (d.Got ≥ T)) (some true) (some v))))) fun v7 => sel v7 (some false) (bnd (sel (decide (d.Got > 0)) (sel (d.Frame == (-1)) (some true) (sel (Xnf d.Now d.Seq) (sel (d.Got == 0) (some (!Xkc d.Now)) (some false)) (some true))) (sel (d.Got == 0) (some (!Xkc d.Now)) (some false))) fun v9 => sel v9 (some false) (bnd (sel d.HasRef (sel (Xnf d.Ref d.Seq) (some true) (some false)) (some (Xkc d.Ref))) fun v13 => some v13))) = some (!v && (decide (-1 ≤ d.Frame ∧ d.Frame < N) && (decide (0 ≤ d.Got ∧ d.Got < T) && ((if d.Got > 0 then !(d.Frame == -1) && Xnf d.Now d.Seq else Xkc d.Now) && (if d.HasRef = true then Xnf d.Ref d.Seq else Xkc d.Ref))))) := by
    intro v
    rw [Xai s1]
    by_cases f1 : d.Frame < -1
    ·
     rw [Xaj f1, Xad, Xaw, decide_eq_false (show ¬ (-1 ≤ d.Frame ∧ d.Frame < N) from fun h => by omega), Bool.false_and, Bool.and_false]
    rw [Xap f1]
    by_cases f2 : d.Frame ≥ N
    ·
     rw [Xaj f2, Xad, Xaw, decide_eq_false (show ¬ (-1 ≤ d.Frame ∧ d.Frame < N) from fun h => by omega), Bool.false_and, Bool.and_false]
    rw [Xap f2, decide_eq_true (show -1 ≤ d.Frame ∧ d.Frame < N by omega), Bool.true_and]
    by_cases g1 : d.Got < 0
    ·
     rw [Xaj g1, Xad, Xaw, decide_eq_false (show ¬ (0 ≤ d.Got ∧ d.Got < T) from fun h => by omega), Bool.false_and, Bool.and_false]
    rw [Xap g1]
    by_cases g2 : d.Got ≥ T
    ·
     rw [Xaj g2, Xad, Xaw, decide_eq_false (show ¬ (0 ≤ d.Got ∧ d.Got < T) from fun h => by omega), Bool.false_and, Bool.and_false]
    rw [Xap g2, decide_eq_true (show 0 ≤ d.Got ∧ d.Got < T by omega), Bool.true_and, Xad]
    cases v with
    | true => rfl
    | false =>
     rw [Xav, Bool.not_false, Bool.true_and]
     by_cases g3 : d.Got > 0
     ·
      rw [Xaj g3, if_pos g3, Xbg (b := d.Got == 0) (by rw [beq_eq_false_iff_ne]; omega)]
      cases (d.Frame == -1) with
      | true => rfl
      | false =>
       cases Xnf d.Now d.Seq with
       | false => rfl
       | true =>
        cases d.HasRef with
        | false => cases Xkc d.Ref <;> rfl
        | true => cases Xnf d.Ref d.Seq <;> rfl
     ·
      rw [Xap g3, if_neg g3, Xb1 (b := d.Got == 0) (by rw [beq_iff_eq]; omega)]
      cases Xkc d.Now with
      | false => rfl
      | true =>
       cases d.HasRef with
       | false => cases Xkc d.Ref <;> rfl
       | true => cases Xnf d.Ref d.Seq <;> rfl
   cases hp : d.HasPar with
   | true =>
    rw [Xaw, if_pos rfl]
    cases Xtp d.Par with
    | false => rfl
    | true =>
     rw [Xaw, Xad, Xav, Bool.true_and]
     exact (tailE false).trans (by rw [Bool.not_false, Bool.true_and])
   | false =>
    rw [Xav, if_neg (by decide)]
    cases Xyg d.Par with
    | false => rfl
    | true =>
     rw [show ((true : Bool) == false) = false from rfl, Xad, Xav, Bool.true_and]
     have h2 : (sel (decide (d.Got > 0)) (some true) (some d.HasRef)) = some (decide (d.Got > 0) || d.HasRef) := by
      cases decide (d.Got > 0) <;> rfl
     simp only [Xav]
     rw [h2]
     refine (tailE _).trans ?_
     by_cases g0 : d.Got = 0
     ·
      rw [decide_eq_true g0, decide_eq_false (show ¬ d.Got > 0 by omega), Bool.false_or, Bool.true_and]
     ·
      rw [decide_eq_false g0, Bool.false_and, Bool.false_and]
      by_cases g1 : d.Got > 0
      ·
       rw [decide_eq_true g1, Bool.true_or, Bool.not_true, Bool.false_and]
      ·
       rw [decide_eq_false (show ¬ (0 ≤ d.Got ∧ d.Got < T) from fun h => by omega), Bool.false_and, Bool.and_false, Bool.and_false]
theorem Yjf (d : Decoder) (h1 : d.Seq.Cols.length ≤ maxLen) (h2 : d.Seq.Rows.length ≤ maxLen) : Xnt d = some (Yfp d) := by
 unfold Xnt Yfp
 have hP : ((d.Par.Qp == 0) && ((d.Par.Large == false) && ((d.Par.Exact == false) && (d.Par.Confined == false)))) = Xyg d.Par := rfl
 have hN : ((d.Now.Wide == 0) && ((d.Now.High == 0) && ((d.Now.Dots.size : Int) == 0))) = Xkc d.Now := rfl
 have hR : ((d.Ref.Wide == 0) && ((d.Ref.High == 0) && ((d.Ref.Dots.size : Int) == 0))) = Xkc d.Ref := rfl
 rw [hP]
 simp only [Yp0, hN, hR, Ycu, Yl1 _ _ h1 h2, Xgz _ h1 h2, Xly, Xi9 _ h1 h2, Xan, Xad]
 cases hS : d.HasSeq with
 | false =>
  rw [Bool.not_false, Xaw, if_neg (by decide)]
  cases d.HasPar with
  | true => rfl
  | false =>
   cases d.HasRef with
   | true => rfl
   | false =>
    cases Ymj d.Seq with
    | false => rfl
    | true =>
     cases Xyg d.Par with
     | false => rfl
     | true =>
      cases (d.Frame == -1) with
      | false => rfl
      | true =>
       cases (d.Got == 0) with
       | false => rfl
       | true => cases Xkc d.Now <;> cases Xkc d.Ref <;> rfl
 | true =>
  rw [Bool.not_true, Xav, if_pos rfl]
  cases hs : Xl1 d.Seq with
  | false => rfl
  | true =>
   obtain ⟨_, _, b1, b2⟩ := Xdy hs
   obtain ⟨s1, s2, s3, s4, s5⟩ := Xns d.Seq.Bits ⟨b1, b2⟩
   have ht := Xl5 hs
   rw [Xaw, s3, Bool.true_and]
   generalize (2 : Int) ^ d.Seq.Bits.toNat = N at *
   generalize Xdg d.Seq = T at *
   rw [wk (e := N - 1) (by omega) (by omega), wk (e := T - 1) (by omega) (by omega)]
   have e1 : decide (-1 ≤ d.Frame ∧ d.Frame ≤ N - 1) = decide (-1 ≤ d.Frame ∧ d.Frame < N) := by rw [decide_eq_decide]; omega
   have e2 : decide (0 ≤ d.Got ∧ d.Got ≤ T - 1) = decide (0 ≤ d.Got ∧ d.Got < T) := by rw [decide_eq_decide]; omega
   rw [e1, e2, Xai (by omega)]
   have tailE : (bnd (sel (decide (-1 ≤ d.Frame ∧ d.Frame < N)) (some (!decide (0 ≤ d.Got ∧ d.Got < T))) (some true)) fun v6 => sel v6 (some false) (bnd (sel (decide (d.Got > 0)) (sel (d.Frame == (-1)) (some true) (sel (Xnf d.Now d.Seq) (sel (d.Got == 0) (some (Xkc d.Now == false)) (some false)) (some true))) (sel (d.Got == 0) (some (Xkc d.Now == false)) (some false))) fun v10 => sel v10 (some false) (sel d.HasRef (some (Xnf d.Ref d.Seq)) (some (Xkc d.Ref == true))))) = some (decide (-1 ≤ d.Frame ∧ d.Frame < N) && (decide (0 ≤ d.Got ∧ d.Got < T) && ((if d.Got > 0 then !(d.Frame == -1) && Xnf d.Now d.Seq else Xkc d.Now) && (if d.HasRef = true then Xnf d.Ref d.Seq else Xkc d.Ref)))) := by
    by_cases f1 : -1 ≤ d.Frame ∧ d.Frame < N
    ·
     rw [decide_eq_true f1, Bool.true_and, Xaw, Xad]
     by_cases g1 : 0 ≤ d.Got ∧ d.Got < T
     ·
      rw [decide_eq_true g1, Bool.true_and, Bool.not_true, Xav]
      by_cases g3 : d.Got > 0
      ·
       rw [Xaj g3, if_pos g3, Xbg (b := d.Got == 0) (by rw [beq_eq_false_iff_ne]; omega)]
       cases (d.Frame == -1) with
       | true => rfl
       | false =>
        cases Xnf d.Now d.Seq with
        | false => rfl
        | true =>
         cases d.HasRef with
         | false => cases Xkc d.Ref <;> rfl
         | true => cases Xnf d.Ref d.Seq <;> rfl
      ·
       rw [Xap g3, if_neg g3, Xb1 (b := d.Got == 0) (by rw [beq_iff_eq]; omega)]
       cases Xkc d.Now with
       | false => rfl
       | true =>
        cases d.HasRef with
        | false => cases Xkc d.Ref <;> rfl
        | true => cases Xnf d.Ref d.Seq <;> rfl
     ·
      rw [decide_eq_false g1, Bool.false_and]; rfl
    ·
     rw [decide_eq_false f1, Bool.false_and]; rfl
   cases hp : d.HasPar with
   | true =>
    rw [Xaw, if_pos rfl]
    cases Xtp d.Par with
    | false => rfl
    | true =>
     rw [Xaw, Xad, Xav, Bool.true_and]
     exact tailE
   | false =>
    rw [Xav, if_neg (by decide)]
    cases Xyg d.Par with
    | false => rfl
    | true =>
     rw [show ((true : Bool) == false) = false from rfl, Xav]
     by_cases g0 : d.Got = 0
     ·
      rw [Xbg (b := d.Got != 0) (by rw [bne_eq_false_iff_eq]; exact g0), decide_eq_true g0]
      cases hr : d.HasRef with
      | true => rfl
      | false =>
       rw [hr] at tailE
       rw [Xad, Xav]
       exact tailE
     ·
      rw [Xb1 (b := d.Got != 0) (by rw [bne_iff_ne]; exact g0), decide_eq_false g0]
      rfl
theorem Yoh (s : Seq) (h1 : s.Cols.length ≤ 1048576) (h2 : s.Rows.length ≤ 1048576) : Xis s = some s ∧ Xk4 s = some s := by
 have hm : maxLen = 9223372036854775807 := rfl
 constructor
 ·
  unfold Xis
  rw [Xai (by simp only [List.length_nil]; omega), Xai (by simp only [List.length_nil]; omega)]
  rfl
 ·
  unfold Xk4 Xee
  rw [Xai (by simp only [List.length_nil]; omega), Xai (by simp only [List.length_nil]; omega), Xad, Xad]
  rfl
theorem Ylm {d : Decoder} (h : Yfp d = true) (hp : d.HasPar = true) : d.HasSeq = true := by
 unfold Yfp at h
 cases hs : d.HasSeq with
 | true => rfl
 | false =>
  rw [hs, if_neg (by decide), hp] at h
  simp at h
theorem Yq5 {d : Decoder} (h : Yfp d = true) (hs : d.HasSeq = true) (g : d.Got ≠ 0) : Xcp d.Now = true := by
 unfold Yfp at h
 rw [if_pos hs] at h
 simp only [Bool.and_eq_true, decide_eq_true_eq] at h
 obtain ⟨_, _, _, ⟨g1, _⟩, hn, _⟩ := h
 rw [if_pos (by omega)] at hn
 unfold Xnf at hn
 simp only [Bool.and_eq_true] at hn
 exact hn.2.1
theorem Ypq {L : List Int} (hb : Xnp L) (hl : L.length ≤ 400000) (d : Decoder) (hd : Yfp d = true) (h1 : d.Seq.Cols.length ≤ maxLen) (h2 : d.Seq.Rows.length ≤ maxLen) (k : Int) (hk : k = 1 ∨ k = 5) : ∃ (D : Decoder) (co : Int) (P : Pic), Xjt d k (strOfNums L) = some (D, co, P) ∧ Xc1 d (k == 5) (strOfNums L) = some (D, co, P, d) ∧ D.Seq = d.Seq ∧ (P = ⟨0, 0, ⟨#[]⟩⟩ ∨ Xcp P = true) := by
 have hm : maxLen = 9223372036854775807 := rfl
 have fin : ∀ {x : Option (Decoder × Int × Pic)} {z : Option (Decoder × Int × Pic × Decoder)} {co : Int}, x = some (d, co, ⟨0, 0, ⟨#[]⟩⟩) → z = some (d, co, ⟨0, 0, ⟨#[]⟩⟩, d) → ∃ (D : Decoder) (co : Int) (P : Pic), x = some (D, co, P) ∧ z = some (D, co, P, d) ∧ D.Seq = d.Seq ∧ (P = ⟨0, 0, ⟨#[]⟩⟩ ∨ Xcp P = true) := fun e1 e2 => ⟨d, _, _, e1, e2, rfl, .inl rfl⟩
 unfold Xjt Xc1
 cases hp : d.HasPar with
 | false =>
  refine fin (co := 4) rfl ?_
  cases d.HasSeq <;> rfl
 | true =>
  rw [Ylm hd hp, Xaw, Bool.not_true, Xav, Xad, Xav]
  rcases Yiu hb hl d.Seq d.Par h1 h2 with ⟨h, j, e1, e2, hh, hj⟩ | ⟨e1, e2⟩
  ·
   rw [e1, Xad, e2, Xad]
   simp only
   rw [Bool.not_true, Xav, Xav]
   cases ht : (h.Tile != d.Got) with
   | true => exact fin (co := 6) rfl rfl
   | false =>
    rw [Xav, Xav]
    have ex : ∃ b : Bool, (sel (d.Frame != (-1)) (some (d.Frame != h.Frame)) (some false)) = some b := by cases (d.Frame != (-1)) <;> exact ⟨_, rfl⟩
    obtain ⟨b, eb⟩ := ex
    rw [eb, Xad, Xad]
    cases b with
    | true => exact fin (co := 7) rfl rfl
    | false =>
     rw [Xav, Xav]
     have e8 : (sel (k == 1) (some (!d.HasRef)) (some false)) = some (!(k == 5) && !d.HasRef) ∧ (sel (k == 5) (some false) (some (!d.HasRef))) = some (!(k == 5) && !d.HasRef) := by
      rcases hk with rfl | rfl <;> exact ⟨rfl, rfl⟩
     rw [e8.1, e8.2, Xad, Xad]
     cases (!(k == 5) && !d.HasRef) with
     | true => exact fin (co := 8) rfl rfl
     | false =>
      rw [Xav, Xav]
      unfold Ybt at hh
      simp only [Bool.and_eq_true, decide_eq_true_eq] at hh
      obtain ⟨hs, hpar, hti, hfr, hqp⟩ := hh
      obtain ⟨s1, s2, b1, b2⟩ := Xdy hs
      have i1 := Xw5 s1
      have i2 := Xw5 s2
      obtain ⟨r, t1, t2, rw_, rh⟩ := Ynf hs h1 h2 h.Tile hti
      have sw := Xkg rw_
      have sh := Xkg rh
      have mb : r.Wide / 8 * (r.High / 8) ≤ 8 * 8 := Int.mul_le_mul (by omega) (by omega) (by omega) (by omega)
      have m0 : 1 * 1 ≤ r.Wide / 8 * (r.High / 8) := Int.mul_le_mul (by omega) (by omega) (by omega) (by omega)
      have q1 : Xfv d.Seq h.Tile = some (r.Wide / 8 * (r.High / 8)) := by
       unfold Xfv
       rw [t2, Xad, Xai (by omega), Xai (by omega), Xbn (a := r.Wide) (by omega), Xbn (a := r.High) (by omega), wk (e := r.Wide / 8) (by omega) (by omega), wk (e := r.High / 8) (by omega) (by omega), wk (by omega) (by omega)]
      have q2 : Xfp d.Seq h.Tile = some (r.Wide / 8 * (r.High / 8)) := by
       unfold Xfp
       rw [t1, Xad, Xai (by omega), Xai (by omega), Xbn (a := r.Wide) (by omega), Xbn (a := r.High) (by omega), wk (e := r.Wide / 8) (by omega) (by omega), wk (e := r.High / 8) (by omega) (by omega), wk (by omega) (by omega)]
      rw [q1, Xad, q2, Xad]
      obtain ⟨l, ok, r1, r2, l1, l2, l3⟩ := Yiv (strOfNums L) (j : Int) (r.Wide / 8 * (r.High / 8)) ⟨k == 5, h.Qp, d.Par.Large, d.Par.Exact⟩
      rw [r1, Xad, r2, Xad]
      cases ok with
      | false => exact fin (co := 9) rfl rfl
      | true =>
       obtain ⟨x, x1, x2, _⟩ := Yiy d.Ref r ⟨k == 5, h.Qp, d.Par.Large, d.Par.Exact⟩ d.Par.Confined l (by omega) (fun q hq => by have := l2 q hq; omega)
       simp only
       rw [Bool.not_true, Xav, Xav, t1, Xad, t2, Xad]
       simp only
       rw [x1, Xad, x2, Xad]
       have ev : ∃ n : Pic, (sel (d.Got == 0) (bnd (Xid d.Seq) fun q9 => bnd (Xmr q9.1 q9.2) fun q10 => some (q10.Wide, q10.High, q10.Dots)) (some (d.Now.Wide, d.Now.High, d.Now.Dots))) = some (n.Wide, n.High, n.Dots) ∧ (sel (d.Got == 0) (bnd (Xic d.Seq) fun q9 => bnd (Xme q9.1 q9.2) fun q10 => some (q10.Wide, q10.High, q10.Dots)) (some (d.Now.Wide, d.Now.High, d.Now.Dots))) = some (n.Wide, n.High, n.Dots) ∧ Xcp n = true := by
        cases hg : (d.Got == 0) with
        | false => exact ⟨d.Now, rfl, rfl, Yq5 hd (Ylm hd hp) (by rw [beq_eq_false_iff_ne] at hg; exact hg)⟩
        | true =>
         have hsz : Xpe d.Seq = (8 * Xm6 d.Seq.Cols, 8 * Xm6 d.Seq.Rows) := by unfold Xpe; rw [if_pos hs]
         refine ⟨Yxe (8 * Xm6 d.Seq.Cols) (8 * Xm6 d.Seq.Rows), ?_, ?_, Yu4 (by omega) (by omega)⟩
         ·
          rw [Xaw, Xsz, Xad, hsz, Xyj _ _ (by simp only; omega) (by simp only; omega), Xad]
          rfl
         ·
          rw [Xaw, Xse _ h1 h2, Xad, hsz, Xx9 _ _ (by simp only; omega) (by simp only; omega), Xad]
          rfl
       obtain ⟨n, n1, n2, nok⟩ := ev
       rw [n1, Xad, n2, Xad]
       simp only
       obtain ⟨o, bo, p1, p2, ow, oh, p3, _⟩ := Ync n x.1 r.Left r.Top
       have ho : Xcp o = true := by
        obtain ⟨k1, k2, k3⟩ := Xbr nok
        exact Xvg (by rw [ow]; exact k1) (by rw [oh]; exact k2) (by rw [p3, ow, oh]; exact k3)
       rw [show (⟨n.Wide, n.High, n.Dots⟩ : Pic) = n from rfl, p1, Xad, p2, Xad, Xjp, Xad, Xi9 _ h1 h2, Xad]
       simp only
       cases decide ((Xaa .i64 (d.Got + 1)) < Xdg d.Seq) with
       | true => exact ⟨_, _, _, rfl, rfl, rfl, .inl rfl⟩
       | false =>
        obtain ⟨z1, z2, z3, z4, z5⟩ := Xns d.Seq.Bits ⟨b1, b2⟩
        have nz : (2 : Int) ^ d.Seq.Bits.toNat ≠ 0 := by
         generalize (2 : Int) ^ d.Seq.Bits.toNat = N at z4 z5 ⊢
         omega
        have nb : 0 ≤ d.Seq.Bits := by omega
        rw [Xav, Xav, z2, Xai z1, Xai nz]
        unfold Xrf
        rw [z3, Xai nb, Xai nz, Xad]
        exact ⟨_, _, _, rfl, rfl, rfl, .inr ho⟩
  ·
   rw [e1, Xad, e2, Xad]
   simp only
   rw [Bool.not_false, Xaw, Xaw]
   exact fin (co := 5) rfl rfl
theorem Yk7 (d : Decoder) (u : ByteArray) (h1 : d.Seq.Cols.length ≤ 1048576) (h2 : d.Seq.Rows.length ≤ 1048576) (hu : u.size ≤ 1048576) : ∃ (D : Decoder) (co : Int) (P : Pic), Xih d u = some (D, co, P) ∧ Xld d u = some (D, co, P) ∧ D.Seq.Cols.length ≤ 1048576 ∧ D.Seq.Rows.length ≤ 1048576 ∧ (P = ⟨0, 0, ⟨#[]⟩⟩ ∨ Xcp P = true) := by
 have hm : maxLen = 9223372036854775807 := rfl
 obtain ⟨_, cp⟩ := Yoh d.Seq h1 h2
 have cd : Xfq d = some d := by unfold Xfq; rw [cp, Xad]
 have key : ∀ {z x : Option (Decoder × Int × Pic)} {D : Decoder} {co : Int} {P : Pic}, z = some (D, co, P) → x = some (D, co, P) → D.Seq.Cols.length ≤ 1048576 → D.Seq.Rows.length ≤ 1048576 → (P = ⟨0, 0, ⟨#[]⟩⟩ ∨ Xcp P = true) → ∃ (D : Decoder) (co : Int) (P : Pic), z = some (D, co, P) ∧ (bnd x fun q1 => bnd (Xis q1.1.Seq) fun q2 => some ((⟨q1.1.HasSeq, q1.1.HasPar, q1.1.HasRef, q2, q1.1.Par, q1.1.Frame, q1.1.Got, q1.1.Now, q1.1.Ref⟩ : Decoder), q1.2.1, q1.2.2)) = some (D, co, P) ∧ D.Seq.Cols.length ≤ 1048576 ∧ D.Seq.Rows.length ≤ 1048576 ∧ (P = ⟨0, 0, ⟨#[]⟩⟩ ∨ Xcp P = true) := fun {z x D co P} e1 e2 l1 l2 hP => by
  refine ⟨D, co, P, e1, ?_, l1, l2, hP⟩
  rw [e2, Xad]
  simp only
  rw [(Yoh D.Seq l1 l2).1, Xad]
 unfold Xih Xld Xnc
 rw [cd, Xad, Yjf d (by omega) (by omega), Xad, Ykt, Xad]
 cases hd : Yfp d with
 | false => exact key (D := d) (co := 1) rfl rfl h1 h2 (.inl rfl)
 | true =>
  rw [Bool.not_true, Xav, Xav]
  rcases Yng u hu with ⟨k, L, hk, hb, hl, e1, e2⟩ | ⟨e1, e2⟩
  ·
   rw [e1, Xad, e2, Xad]
   simp only
   rw [Bool.not_true, Xav, Xav]
   unfold Yc6 at hk
   simp only [Bool.or_eq_true, beq_iff_eq] at hk
   have hz : ((0 : Nat) : Int) = 0 := rfl
   by_cases k7 : k = 7
   ·
    subst k7
    rw [Xb1 (b := (7 : Int) == 7) (by rfl), Xb1 (b := (7 : Int) == 7) (by rfl)]
    rcases Yla hb hl 0 (by omega) with ⟨q, j, r1, r2, hs, l1, l2, _⟩ | ⟨r1, r2⟩
    ·
     rw [hz] at r1 r2
     rw [r1, Xad, r2, Xad]
     simp only
     simp only [Xaw, Xad]
     cases ((j : Int) != ((strOfNums L).size : Int)) with
     | true => exact key (D := d) (co := 3) rfl rfl h1 h2 (.inl rfl)
     | false => exact key (D := ⟨true, false, false, q, ⟨0, false, false, false⟩, -1, 0, ⟨0, 0, ⟨#[]⟩⟩, ⟨0, 0, ⟨#[]⟩⟩⟩) (co := 0) rfl rfl (by simp only; omega) (by simp only; omega) (.inl rfl)
    ·
     rw [hz] at r1 r2
     rw [r1, Xad, r2, Xad]
     simp only
     simp only [Xav, Xaw, Xad]
     exact key (D := d) (co := 3) rfl rfl h1 h2 (.inl rfl)
   ·
    rw [Xbg (b := k == 7) (by rw [beq_eq_false_iff_ne]; exact k7), Xbg (b := k == 7) (by rw [beq_eq_false_iff_ne]; exact k7)]
    by_cases k8 : k = 8
    ·
     subst k8
     rw [Xb1 (b := (8 : Int) == 8) (by rfl), Xb1 (b := (8 : Int) == 8) (by rfl)]
     rcases Yk9 hb hl 0 (by omega) with ⟨q, j, r1, r2, hs, _⟩ | ⟨r1, r2⟩
     ·
      rw [hz] at r1 r2
      rw [r1, Xad, r2, Xad]
      simp only
      simp only [Xaw, Xad]
      cases ((j : Int) != ((strOfNums L).size : Int)) with
      | true => exact key (D := d) (co := 3) rfl rfl h1 h2 (.inl rfl)
      | false =>
       simp only [Xav]
       cases hS : d.HasSeq with
       | false => exact key (D := d) (co := 4) rfl rfl h1 h2 (.inl rfl)
       | true =>
        simp only [Xaw, Xad]
        cases decide (d.Got > 0) with
        | true => exact key (D := d) (co := 4) rfl rfl h1 h2 (.inl rfl)
        | false => exact key (D := ⟨true, true, d.HasRef, d.Seq, q, d.Frame, d.Got, d.Now, d.Ref⟩) (co := 0) rfl rfl h1 h2 (.inl rfl)
     ·
      rw [hz] at r1 r2
      rw [r1, Xad, r2, Xad]
      simp only
      simp only [Xav, Xaw, Xad]
      exact key (D := d) (co := 3) rfl rfl h1 h2 (.inl rfl)
    ·
     rw [Xbg (b := k == 8) (by rw [beq_eq_false_iff_ne]; exact k8), Xbg (b := k == 8) (by rw [beq_eq_false_iff_ne]; exact k8)]
     obtain ⟨D, co, P, s1, s2, s3, s4⟩ := Ypq hb hl d hd (by omega) (by omega) k (by omega)
     rw [s1, Xad, s2, Xad]
     refine key (D := D) (co := co) (P := P) ?_ rfl (by rw [s3]; exact h1) (by rw [s3]; exact h2) s4
     simp only
     rw [← s3]
  ·
   rw [e1, Xad, e2, Xad]
   exact key (D := d) (co := 2) rfl rfl h1 h2 (.inl rfl)
theorem Xml (d : Decoder) (h1 : d.Seq.Cols.length ≤ 1048576) (h2 : d.Seq.Rows.length ≤ 1048576) : Xdm d d = some true := by
 unfold Xdm
 simp only [beq_self_eq_true, Bool.not_true, Xav, Yc8 _ (show d.Seq.Cols.length ≤ 9223372036854775806 by omega) (show d.Seq.Rows.length ≤ 9223372036854775806 by omega), Yc7, Xqq, Xad, bne_self_eq_false]
theorem FnExactDecStep {p0 : Decoder} {p1 : ByteArray} (h0 : Yml p0) (h1 : p1.size ≤ maxLen) : Xfj p0 p1 = some true := by
 have hm : maxLen = 9223372036854775807 := rfl
 unfold Xfj
 by_cases hz : (p1.size : Int) > 1048576
 ·
  rw [Xaj hz]
 rw [Xap hz]
 obtain ⟨_, _, _, ⟨_, _, ⟨c1, _⟩, ⟨c2, _⟩⟩, _, _, _, ⟨_, _, n1⟩, ⟨_, _, n2⟩⟩ := h0
 have hsz : ∃ t, Xhy p0 1048576 = some t ∧ (0 ≤ t → p0.Seq.Cols.length ≤ 1048576 ∧ p0.Seq.Rows.length ≤ 1048576) := by
  unfold Xhy
  obtain ⟨t, e, a1, a2, a3⟩ := Yj1 p0.Seq 1048576 c1 c2 (by omega) (by omega)
  rw [e, Xad]
  by_cases ht : t < 0
  ·
   rw [Xaj ht]; exact ⟨_, rfl, fun h => by omega⟩
  rw [Xap ht, Xva p0.Now t n1 (by omega) (by omega), Xad]
  obtain ⟨b1, b2⟩ := a3 (by omega)
  by_cases g1 : t < p0.Now.Dots.size
  ·
   rw [if_pos g1, Xaj (by omega)]; exact ⟨_, rfl, fun h => by omega⟩
  rw [if_neg g1, Xap (by omega), Xva p0.Ref _ n2 (by omega) (by omega), Xad]
  by_cases g2 : t - (p0.Now.Dots.size : Int) < p0.Ref.Dots.size
  ·
   rw [if_pos g2, Xaj (by omega)]; exact ⟨_, rfl, fun h => by omega⟩
  ·
   rw [if_neg g2, Xap (by omega)]; exact ⟨_, rfl, fun _ => ⟨b1, b2⟩⟩
 obtain ⟨t, e, ht⟩ := hsz
 rw [e, Xad]
 by_cases t0 : t < 0
 ·
  rw [Xaj t0]
 rw [Xap t0]
 obtain ⟨l1, l2⟩ := ht (by omega)
 have eto : Xdn p0 = some p0 := by
  unfold Xdn Xrj Xob
  rw [Yj4 _ l1 l2, Xad, Xad, Xad, Xad]
 obtain ⟨D, co, P, ei, es, d1, d2, _⟩ := Yk7 p0 p1 l1 l2 (by omega)
 have mk : ∀ d : Decoder, d.Seq.Cols.length ≤ 1048576 → d.Seq.Rows.length ≤ 1048576 → Xd5 d 1 = some (1 + (d.Seq.Cols.length : Int) + (d.Seq.Rows.length : Int), ⟨d.HasSeq, d.HasPar, d.HasRef, ⟨d.Seq.Level, d.Seq.Bits, Xod 1 d.Seq.Cols, Xod (1 + (d.Seq.Cols.length : Int)) d.Seq.Rows⟩, d.Par, d.Frame, d.Got, d.Now, d.Ref⟩) := fun d a b => by
  unfold Xd5
  rw [Ydc d.Seq 1 (by omega) (by omega) (by omega) (by omega), Xad]
 have hd : Xd4 ⟨D.HasSeq, D.HasPar, D.HasRef, ⟨D.Seq.Level, D.Seq.Bits, Xod 1 D.Seq.Cols, Xod (1 + (D.Seq.Cols.length : Int)) D.Seq.Rows⟩, D.Par, D.Frame, D.Got, D.Now, D.Ref⟩ 1 = some (1 + (D.Seq.Cols.length : Int) + (D.Seq.Rows.length : Int)) := by
  unfold Xd4
  rw [Yda _ D.Seq.Cols D.Seq.Rows 1 (by omega) (by omega) (by omega) (by omega) rfl rfl, Xad, Xap (by omega)]
 simp only [eto, es, ei, Xad, Xml D d1 d2, Xml p0 l1 l2, Xaw, bne_self_eq_false, Xav, Xqq, Bool.not_true, mk p0 l1 l2, mk D d1 d2, hd]
 rw [Xap (by omega), Xad, Xav, Xap (by omega), Xap (by omega)]
end Go.Proofs.YtjgbfopmjpkkhaaGreat.A.Pure
