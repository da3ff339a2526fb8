/- The pure statement of the law FnMovie, part 3: over numbers, texts and lists alone, what the law computes is true. Conditions: the sizes of what a machine holds. -/
import Derived.Test.YtnhflbeahbcklaaGreatPureFnMoviex1
namespace Go.Proofs.YtnhflbeahbcklaaGreat.A.Pure
open Go Go.Proofs Go.Proofs.YtnhflbeahbcklaaGreatAL Go.RowKit
set_option linter.unusedVariables false
set_option linter.unusedSimpArgs false
set_option maxHeartbeats 1000000
theorem Ys2 (p : List Int) (hp : p.length = 64) : Xdn 8 (Xlq p) = some (p, true) := by
 have hw : Xaa .i64 (8 * 8) = 64 := wkA
 have hl : (Xlq p).length = 64 := by simp [Xlq]
 unfold Xdn
 have hc : (sel ((8 : Int) != 4) (sel ((8 : Int) != 8) (some true) (some (((Xlq p).length : Int) != (Xaa .i64 (8 * 8))))) (some (((Xlq p).length : Int) != (Xaa .i64 (8 * 8))))) = some false := by
  rw [hw, hl]; rfl
 rw [hc, Xab, Xao, rqA, Int.toNat_natCast]
 obtain ⟨o, e, h1, h2⟩ := Xfh (f := Xb0 8 (Xlq p)) 64 (fun i s => s.length = 64 ∧ ∀ j : Nat, j < i → s.getD (Xcr 8 j).toNat 0 = p.getD (Xcr 8 j).toNat 0) (by
  intro i s hi ⟨g1, g2⟩
  have hp := Xfe 8 (Or.inr rfl) i (by omega)
  unfold Xb0
  simp only
  rw [hw, syA, Xea 8 (Or.inr rfl) i (by omega), Xab, rqA, rqA, rqA, wkA, Int.toNat_natCast, Yjh p hi]
  refine ⟨_, rfl, by rw [List.length_set]; exact g1, fun j hj => ?_⟩
  rw [Xeg _ _ _ _ (by omega)]
  by_cases h : (Xcr 8 i).toNat = (Xcr 8 j).toNat
  ·
   rw [if_pos h, h]
  ·
   rw [if_neg h]
   have : j ≠ i := fun e => h (by rw [e])
   exact g2 j (by omega)) (fun s _ => by unfold Xb0; rw [hw, Xap (by simp)]) (List.replicate (Xlq p).length 0) ⟨by rw [List.length_replicate]; exact hl, fun j hj => by omega⟩
 rw [e, Xab]
 congr 2
 refine Xrd h1 hp fun j hj => ?_
 obtain ⟨i, hi, hs⟩ := Yrl j hj
 have := h2 i hi
 rwa [hs, Int.toNat_natCast] at this
theorem Ybh {p l : List Int} {c : Xeu} (hc : Xho c = true) (hE : c.Exact = true) (hp : p.length = 64) (hb : inB 255 p) (h : Xc1 p c = some (l, true)) (hl : Yfh l = true) : Xcg l c = some (p, true) ∧ l = Xlq p := by
 have e : l = Xlq p := by
  unfold Xc1 at h
  rw [Xdl, Xab, hc, Xat, Xcc p 64 255 (by omega) (by omega) (by omega) hb, Xab, Bool.not_true, Xab, Xao, hE, Xat, Yl2 p hp, Xab] at h
  injection h with h
  injection h with h _
  exact h.symm
 refine ⟨?_, e⟩
 obtain ⟨l1, l2⟩ := Yco hl
 unfold Xcg
 rw [Xdl, Xab, hc, Xat, Xcc l 64 5000 (by omega) (by omega) (by omega) l2, Xab, Bool.not_true, Xab, Xao, hE, Xat, e, Ys2 p hp, Xab]
def Ycn (g b : List Int) : List Int := (List.range 64).map fun i => Xbo (g.getD i 0 + b.getD i 0) 0 255
theorem Xxm (g b : List Int) (hg : Xby g = true) (hl : b.length = 64) (hb : inB 10000000 b) : Xid g b = some (Ycn g b) := by
 have hm : maxLen = 9223372036854775807 := rfl
 obtain ⟨g1, g2⟩ := Xbr hg
 unfold Xid
 rw [Xe5 g hg, Xab, Xat, Xcc b 64 10000000 (by omega) (by omega) (by omega) hb, Xab, Bool.not_true, Xab, Xao]
 have := Yf6 (f := Xdm g b) 64 (fun i => Xbo (g.getD i 0 + b.getD i 0) 0 255) [] (by
  intro i hi
  have ha := Xma hb (i := i) (by omega)
  have hd := g2 i hi
  unfold Xdm
  simp only [Int.toNat_natCast]
  rw [syA, rqA, rqA, wkA (e := g.getD i 0 + b.getD i 0), Xeo, Xab, Xa2 (by simp only [List.length_append, List.length_nil, List.length_map, List.length_range, List.length_singleton]; omega), wkA (e := (i : Int) + 1)]
  rfl) (by unfold Xdm; rw [Xap (by simp)])
 rw [List.nil_append] at this
 rw [this, Xab]; rfl
theorem Yut {n : Int} (h : 0 ≤ n ∧ n ≤ 255) : Xbo n 0 255 = n := by
 unfold Xbo
 repeat' split
 all_goals omega
theorem Yi1 {w g : List Int} (hw : Xby w = true) : Ycn g (Xwj w g) = w := by
 obtain ⟨w1, w2⟩ := Xbr hw
 refine Xrd (by simp [Ycn]) w1 fun i hi => ?_
 have := w2 i hi
 rw [Ycn, Xft _ hi, Yao _ _ hi, Yut (by omega)]; omega
theorem Ykf {now ref : Pic} {l t x y : Int} {c : Xeu} {q : Xam} (h : Zdf now ref l t x y c q) (hq : Xuc q = true) (hL : Xqg q c = true) (hr : c.Key = false → Xbx ref = true) : ∃ d, Xc3 now ref l t c x y q = some (d, true) ∧ Xby d = true ∧
  ((q.Kind = 0 ∧ c.Key = false ∧ d = Xqi ref (l + x) (t + y) 64) ∨ (q.Kind = 1 ∧ c.Key = false ∧ ∃ b, Xcg q.Levels c = some (b, true) ∧ d = Ycn (Xqi ref (l + x + q.Dx) (t + y + q.Dy) 64) b) ∨ (q.Kind = 2 ∧ ∃ e b g, Xgj now x y = some (e, true) ∧ Xtq e ∧ Xcg q.Levels c = some (b, true) ∧ Xd9 q.Mode e = some g ∧ Xby g = true ∧ d = Ycn g b)) := by
 obtain ⟨d, _, ed, hd⟩ := Xpd h hq hL hr
 obtain ⟨ok, hx, hy, h0, hl, ht, hc, hs⟩ := h
 obtain ⟨k1, k2, k3⟩ := Xay ok
 have h0' := h0
 unfold Xdr at h0'
 rw [decide_eq_true_eq] at h0'
 have dxy := Yt9 hq
 refine ⟨d, ed, hd, ?_⟩
 unfold Xc3 at ed
 rw [Xe6 ok hx hy h0, Xab, Xat, Xaj, Xab, decide_eq_true hl, Xat, Xaj, Xab, decide_eq_true ht, Xat, Xt1, Xab, hq, Xat, Xdl, Xab, hc, Bool.not_true, Xab, Xao] at ed
 by_cases h2 : q.Kind = 2
 ·
  obtain ⟨hm, hlv⟩ := Xv6 hq h2
  obtain ⟨e, ee, he⟩ := Xp0 ok hx hy h0
  obtain ⟨b, eb, b1, b2⟩ := Xhm q.Levels c hc hlv
  obtain ⟨g, eg, hg⟩ := Xic q.Mode hm he
  rw [Xbp (by simpa using h2), ee, Xab, eb, Xab, eg, Xab, Xxm g b hg b1 b2, Xab] at ed
  injection ed with ed
  injection ed with ed _
  exact .inr (.inr ⟨h2, e, b, g, ee, he, eb, eg, hg, ed.symm⟩)
 ·
  have hK : c.Key = false := by
   unfold Xqg at hL
   cases hk : c.Key with
   | false => rfl
   | true => rw [hk] at hL; simp at hL; exact absurd hL h2
  have rok := hr hK
  rw [Xba (b := q.Kind == 2) (by simpa using h2), hK, Xao, Xc2, Xab, rok, Bool.not_true, Xab, Xao, wkA (e := l + x), wkA (e := l + x + q.Dx), wkA (e := t + y), wkA (e := t + y + q.Dy), Xib rok _ _ (by omega) (by omega), Xab] at ed
  by_cases h3 : q.Kind = 0
  ·
   obtain ⟨z1, z2⟩ := Yj3 hq h3
   rw [Xbp (b := q.Kind == 0) (by simpa using h3), z1, z2, Int.add_zero, Int.add_zero] at ed
   injection ed with ed
   injection ed with ed _
   exact .inl ⟨h3, hK, ed.symm⟩
  ·
   have h1 : q.Kind = 1 := by have := Xsn hq; omega
   obtain ⟨_, _, hlv⟩ := Xtm hq h1
   obtain ⟨b, eb, b1, b2⟩ := Xhm q.Levels c hc hlv
   rw [Xba (b := q.Kind == 0) (by simpa using h3), eb, Xab, Xxm _ b (Xg0 _ _ _) b1 b2, Xab] at ed
   injection ed with ed
   injection ed with ed _
   exact .inr (.inl ⟨h1, hK, b, eb, ed.symm⟩)
theorem Yu3 {now ref : Pic} {w : List Int} {x y : Int} {c : Xeu} {r : Int} {q : Xam} (H : Zb0 now ref w x y c r) (hE : c.Exact = true) (hq : Xrm now ref w x y c r q) {d : List Int} (hd : Xc3 now ref 0 0 c x y q = some (d, true)) : d = w := by
 obtain ⟨q1, q2, q3⟩ := hq.ok H.hr
 have SD : Zdf now ref 0 0 x y c q := ⟨H.ok, H.hx, H.hy, H.h0, by omega, by omega, H.hc, by omega⟩
 obtain ⟨d', e', _, hv⟩ := Ykf SD q1 q2 (fun h => (H.hk h).1)
 rw [hd] at e'
 injection e' with e'
 injection e' with e' _
 subst e'
 have wl := (Xbr H.hw).1
 rw [Int.zero_add, Int.zero_add] at hv
 cases hq with
 | same hK h =>
  rcases hv with ⟨_, _, e⟩ | ⟨k, _⟩ | ⟨k, _⟩
  ·
   rw [e]; exact (Xrd wl (Xpe _ _ _ _) h).symm
  ·
   simp at k
  ·
   simp at k
 | still hK l h hl hz =>
  rcases hv with ⟨_, _, e⟩ | ⟨k, _⟩ | ⟨k, _⟩
  ·
   obtain ⟨_, es⟩ := Ybh H.hc hE (Xjj _ _) (Xs5 H.hw (Xg0 ref x y)) h hl
   rw [e]
   refine Xrd (Xpe _ _ _ _) wl fun j hj => ?_
   obtain ⟨i, hi, hs⟩ := Yrl j hj
   have := hz i hi
   rw [es, Yjh _ hi, hs, Int.toNat_natCast, Yao _ _ hj] at this
   omega
  ·
   simp at k
  ·
   simp at k
 | move hK dx dy hdx hdy hh l h hl hn =>
  rcases hv with ⟨k, _⟩ | ⟨_, _, b, eb, e⟩ | ⟨k, _⟩
  ·
   simp at k
  ·
   obtain ⟨ex, _⟩ := Ybh H.hc hE (Xjj _ _) (Xs5 H.hw (Xg0 ref (x + dx) (y + dy))) h hl
   simp only at eb e
   rw [ex] at eb
   injection eb with eb
   injection eb with eb _
   rw [e, ← eb]; exact Yi1 H.hw
  ·
   simp at k
 | guess e he hp m hm g hg hgd l h hl hn =>
  rcases hv with ⟨k, _⟩ | ⟨k, _⟩ | ⟨_, e2, b, g2, ee, _, eb, eg, _, ed⟩
  ·
   simp at k
  ·
   simp at k
  ·
   obtain ⟨ex, _⟩ := Ybh H.hc hE (Xjj _ _) (Xs5 H.hw hgd) h hl
   simp only at eb eg
   rw [he] at ee
   injection ee with ee
   injection ee with ee _
   rw [← ee, hg] at eg
   injection eg with eg
   rw [ex] at eb
   injection eb with eb
   injection eb with eb _
   rw [ed, ← eb, ← eg]; exact Yi1 H.hw
theorem Yat {W x y : Int} (hx : 0 ≤ x ∧ x < W) : (y * W + x) / W = y ∧ (y * W + x) % W = x := by
 have hW : 0 < W := by omega
 constructor
 ·
  rw [Int.add_comm, Int.add_mul_ediv_right _ _ (by omega), Int.ediv_eq_zero_of_lt hx.1 hx.2, Int.zero_add]
 ·
  rw [Int.add_comm, Int.add_mul_emod_self_right, Int.emod_eq_of_lt hx.1 hx.2]
theorem Xqv {W H x y : Int} (hx : 0 ≤ x ∧ x < W) (hy : 0 ≤ y ∧ y < H) : 0 ≤ y * W + x ∧ y * W + x < W * H := by
 have a : 0 ≤ y * W := Int.mul_nonneg hy.1 (by omega)
 have b : y * W ≤ (H - 1) * W := Int.mul_le_mul_of_nonneg_right (by omega) (by omega)
 have c : (H - 1) * W = W * H - W := by rw [Int.sub_mul, Int.one_mul, Int.mul_comm]
 omega
theorem Ymm {n m : Int} (h : 0 ≤ n ∧ n ≤ m) : Xbo n 0 m = n := by
 unfold Xbo
 repeat' split
 all_goals omega
theorem Xvp {p : Pic} {x y : Int} (hx : 0 ≤ x ∧ x < p.Wide) (hy : 0 ≤ y ∧ y < p.High) : Xqe p x y = Xuh p.Dots (y * p.Wide + x) := by
 unfold Xqe
 rw [Ymm (by omega), Ymm (by omega)]
theorem Xmt (s : ByteArray) (k : Nat) (hk : k < s.size) : (Xaz s).getD k 0 = Xuh s k := by
 have := Xwu (Xaz s) (by intro x hx; obtain ⟨b, _, rfl⟩ := List.mem_map.1 hx; have := b.toNat_lt; omega) k (by rw [Xbf]; exact hk)
 rw [Xso] at this
 exact this.symm
theorem Ymn (s : ByteArray) : Yki (Xaz s) := fun x hx => by
 obtain ⟨b, _, rfl⟩ := List.mem_map.1 hx
 have := b.toNat_lt
 omega
theorem Ywb {l : List Int} (h : Yki l) (i : Nat) {y : Int} (hy : 0 ≤ y ∧ y ≤ 255) : Yki (l.set i y) := fun x hx => by
 rcases List.mem_or_eq_of_mem_set hx with hx | hx
 ·
  exact h x hx
 ·
  rw [hx]; exact hy
theorem Zah {p q : Pic} (hp : Xbx p = true) (hq : Xbx q = true) (hw : p.Wide = q.Wide) (hh : p.High = q.High) (h : ∀ x y : Int, 0 ≤ x ∧ x < p.Wide → 0 ≤ y ∧ y < p.High → Xqe p x y = Xqe q x y) : p = q := by
 obtain ⟨p1, p2, p3⟩ := Xay hp
 obtain ⟨q1, q2, q3⟩ := Xay hq
 have hd : p.Dots = q.Dots := by
  rw [← Xso p.Dots, ← Xso q.Dots]
  congr 1
  have hsz : p.Dots.size = q.Dots.size := by
   have : (p.Dots.size : Int) = q.Dots.size := by rw [p3, q3, hw, hh]
   omega
  refine Xrd (n := p.Dots.size) (Xbf _) ((Xbf _).trans hsz.symm) fun k hk => ?_
  have hkW : (k : Int) < p.Wide * p.High := by omega
  have m0 := Int.emod_nonneg (k : Int) (show p.Wide ≠ 0 by omega)
  have m1 := Int.emod_lt_of_pos (k : Int) (show 0 < p.Wide by omega)
  have d0 : 0 ≤ (k : Int) / p.Wide := Int.ediv_nonneg (by omega) (by omega)
  have d1 : (k : Int) / p.Wide < p.High := Int.ediv_lt_of_lt_mul (by omega) (by rw [Int.mul_comm]; exact hkW)
  have e := h ((k : Int) % p.Wide) ((k : Int) / p.Wide) ⟨m0, m1⟩ ⟨d0, d1⟩
  rw [Xvp ⟨m0, m1⟩ ⟨d0, d1⟩, Xvp (by rw [← hw]; exact ⟨m0, m1⟩) (by rw [← hh]; exact ⟨d0, d1⟩), ← hw, Int.ediv_mul_add_emod] at e
  rw [Xmt _ k hk, Xmt _ k (by omega)]
  exact e
 cases p; cases q
 simp only at hw hh hd
 rw [hw, hh, hd]
def Ywu (x y X Y : Int) : Bool := decide (x ≤ X ∧ X < x + 8 ∧ y ≤ Y ∧ Y < y + 8)
theorem Yzb {p : Pic} {x y : Int} {d : List Int} (ok : Xbx p = true) (h0 : Xdr p x y = true) (hd : Xby d = true) : ∃ p', Xgy p x y d = some p' ∧ Xbx p' = true ∧ p'.Wide = p.Wide ∧ p'.High = p.High ∧ ∀ X Y : Int, 0 ≤ X ∧ X < p.Wide → 0 ≤ Y ∧ Y < p.High → Xqe p' X Y = if Ywu x y X Y = true then d.getD ((Y - y) * 8 + (X - x)).toNat 0 else Xqe p X Y := by
 obtain ⟨k1, k2, k3⟩ := Xay ok
 have ar := Xda k1 k2
 have hm : maxLen = 9223372036854775807 := rfl
 obtain ⟨d1, d2⟩ := Xbr hd
 have h0' := h0
 unfold Xdr at h0'
 rw [decide_eq_true_eq] at h0'
 have hn := Xbf p.Dots
 unfold Xgy
 rw [rqA]
 obtain ⟨o, e, o1, o2, o3⟩ := Xfh (f := Xdo p x y d) 64 (fun i s => s.length = p.Dots.size ∧ Yki s ∧ ∀ X Y : Int, 0 ≤ X ∧ X < p.Wide → 0 ≤ Y ∧ Y < p.High → s.getD (Y * p.Wide + X).toNat 0 = if Ywu x y X Y = true ∧ ((Y - y) * 8 + (X - x)).toNat < i then d.getD ((Y - y) * 8 + (X - x)).toNat 0 else (Xaz p.Dots).getD (Y * p.Wide + X).toNat 0) (by
  intro i s hi ⟨g1, g2, g3⟩
  have di := d2 i hi
  have hxx : 0 ≤ x + (i : Int) % 8 ∧ x + (i : Int) % 8 < p.Wide := by omega
  have hyy : 0 ≤ y + (i : Int) / 8 ∧ y + (i : Int) / 8 < p.High := by omega
  have pin := Xqv hxx hyy
  have b1 : 0 ≤ (y + (i : Int) / 8) * p.Wide := Int.mul_nonneg (by omega) (by omega)
  have b2 : (y + (i : Int) / 8) * p.Wide ≤ (p.High - 1) * p.Wide := Int.mul_le_mul_of_nonneg_right (by omega) (by omega)
  have b3 : (p.High - 1) * p.Wide = p.Wide * p.High - p.Wide := by rw [Int.sub_mul, Int.one_mul, Int.mul_comm]
  unfold Xdo
  simp only
  rw [syA, rqA, rqA, rqA, Xbn (by omega), Xb2 (by omega), wkA (e := (i : Int) / 8), wkA (e := y + (i : Int) / 8), wkA (e := (y + (i : Int) / 8) * p.Wide), wkA (e := (y + (i : Int) / 8) * p.Wide + x), wkA (e := (y + (i : Int) / 8) * p.Wide + x + (i : Int) % 8), rqA, rqA, wkA (e := (i : Int) + 1), Int.toNat_natCast, w8 di.1 di.2]
  refine ⟨_, rfl, by rw [List.length_set]; exact g1, Ywb g2 _ di, fun X Y hX hY => ?_⟩
  have pXY := Xqv hX hY
  rw [Xeg _ _ _ _ (by omega)]
  by_cases heq : ((y + (i : Int) / 8) * p.Wide + x + (i : Int) % 8).toNat = (Y * p.Wide + X).toNat
  ·
   rw [if_pos heq]
   have heq' : (y + (i : Int) / 8) * p.Wide + (x + (i : Int) % 8) = Y * p.Wide + X := by omega
   have q1 := Yat (y := y + (i : Int) / 8) hxx
   have q2 := Yat (y := Y) hX
   rw [heq'] at q1
   have eY : Y = y + (i : Int) / 8 := q2.1.symm.trans q1.1
   have eX : X = x + (i : Int) % 8 := q2.2.symm.trans q1.2
   have hin : Ywu x y X Y = true := by unfold Ywu; rw [decide_eq_true_eq]; omega
   have hpl : ((Y - y) * 8 + (X - x)).toNat = i := by omega
   rw [if_pos ⟨hin, by omega⟩, hpl]
  ·
   rw [if_neg heq, g3 X Y hX hY]
   by_cases hin : Ywu x y X Y = true
   ·
    have hin' := hin
    unfold Ywu at hin'
    rw [decide_eq_true_eq] at hin'
    by_cases hlt : ((Y - y) * 8 + (X - x)).toNat < i
    ·
     rw [if_pos ⟨hin, hlt⟩, if_pos ⟨hin, by omega⟩]
    ·
     have hne : ((Y - y) * 8 + (X - x)).toNat ≠ i := fun h => heq (by
      have eY : Y = y + (i : Int) / 8 := by omega
      have eX : X = x + (i : Int) % 8 := by omega
      rw [eY, eX]; congr 1; omega)
     rw [if_neg (fun h => hlt h.2), if_neg (fun h => by omega)]
   ·
    rw [if_neg (fun h => hin h.1), if_neg (fun h => hin h.1)]) (fun s _ => by unfold Xdo; rw [Xap (by simp)]) (Xaz p.Dots) ⟨hn, Ymn _, fun X Y hX hY => by rw [if_neg (fun h => by omega)]⟩
 refine ⟨_, (Xge e).trans rfl, Xvy k1 k2 (by simp only; rw [strOfNums_size]; omega), rfl, rfl, fun X Y hX hY => ?_⟩
 have pXY := Xqv hX hY
 rw [Xvp (p := ⟨p.Wide, p.High, strOfNums o⟩) hX hY, Xvp hX hY]
 simp only
 have e1 : Xuh (strOfNums o) (Y * p.Wide + X) = o.getD (Y * p.Wide + X).toNat 0 := by
  have := Xwu o o2 (Y * p.Wide + X).toNat (by omega)
  rwa [show (((Y * p.Wide + X).toNat : Nat) : Int) = Y * p.Wide + X by omega] at this
 have e2 : Xuh p.Dots (Y * p.Wide + X) = (Xaz p.Dots).getD (Y * p.Wide + X).toNat 0 := by
  rw [Xmt _ _ (by omega), show (((Y * p.Wide + X).toNat : Nat) : Int) = Y * p.Wide + X by omega]
 rw [e1, e2, o3 X Y hX hY]
 by_cases hin : Ywu x y X Y = true
 ·
  have hin' := hin
  unfold Ywu at hin'
  rw [decide_eq_true_eq] at hin'
  rw [if_pos ⟨hin, by omega⟩, if_pos hin]
 ·
  rw [if_neg (fun h => hin h.1), if_neg hin]
theorem Ywg {p : Pic} {r : Xyz} (ok : Xbx p = true) (h : Xno p r = true) (X Y : Int) (hX : 0 ≤ X ∧ X < r.Wide) (hY : 0 ≤ Y ∧ Y < r.High) : Xqe (Zb9 p r) X Y = Xqe p (r.Left + X) (r.Top + Y) := by
 obtain ⟨k1, k2, k3⟩ := Xay ok
 obtain ⟨a1, a2, a3, a4⟩ := Xhr h
 have key : ∀ n : Nat, (n : Int) ≤ r.High → Yki (Xhp p r n) ∧ ∀ X Y : Int, 0 ≤ X ∧ X < r.Wide → 0 ≤ Y ∧ Y < n → (Xhp p r n).getD (Y * r.Wide + X).toNat 0 = Xqe p (r.Left + X) (r.Top + Y) := by
  intro n
  induction n with
  | zero => intro _; exact ⟨fun x hx => by simp [Xhp] at hx, fun X Y hX hY => by omega⟩
  | succ n ih =>
   intro hn
   obtain ⟨i1, i2⟩ := ih (by omega)
   obtain ⟨b1, b2, b3, b4⟩ := Yr8 ok h n (by omega)
   have cl := Xpg ok h n (by omega)
   refine ⟨fun x hx => ?_, fun X Y hX hY => ?_⟩
   ·
    rw [Xhp] at hx
    rcases List.mem_append.1 hx with hx | hx
    ·
     exact i1 x hx
    ·
     exact Ymn _ x hx
   ·
    have pXY := Xqv (H := (n : Int) + 1) (y := Y) hX (by omega)
    rw [Xhp, List.getD_eq_getElem?_getD, List.getElem?_append]
    by_cases hlt : Y < n
    ·
     have := Xqv (H := n) hX (y := Y) (by omega)
     have h2 : r.Wide * n = n * r.Wide := Int.mul_comm _ _
     rw [if_pos (by omega), ← List.getD_eq_getElem?_getD]
     exact i2 X Y hX (by omega)
    ·
     have eY : Y = n := by omega
     subst eY
     rw [if_neg (by omega), ← List.getD_eq_getElem?_getD]
     have hk : ((n : Int) * r.Wide + X).toNat - (Xhp p r n).length = X.toNat := by omega
     rw [hk, Xmt _ _ (by rw [Xbf] at b4; omega), Xvp (p := p) (x := r.Left + X) (y := r.Top + n) (by omega) (by omega)]
     unfold Xuh
     have hs : (p.Dots.extract ((r.Top + n) * p.Wide + r.Left).toNat ((r.Top + n) * p.Wide + r.Left + r.Wide).toNat).size = r.Wide.toNat := by rw [← Xbf]; exact b4
     rw [dif_pos (by rw [hs]; omega), dif_pos (show ((r.Top + (n : Int)) * p.Wide + (r.Left + X)).toNat < p.Dots.size by omega)]
     rw [ByteArray.getElem_extract]
     congr 2
     congr 1
     omega
 obtain ⟨c1, c2⟩ := key r.High.toNat (by omega)
 have cl := Xpg ok h r.High.toNat (by omega)
 have pXY := Xqv hX hY
 have cm : ((r.High.toNat : Nat) : Int) * r.Wide = r.Wide * r.High := by rw [Int.mul_comm]; congr 1; omega
 rw [Xvp (p := Zb9 p r) hX hY]
 show Xuh (strOfNums (Xhp p r r.High.toNat)) (Y * r.Wide + X) = _
 have := Xwu _ c1 (Y * r.Wide + X).toNat (by omega)
 rw [show (((Y * r.Wide + X).toNat : Nat) : Int) = Y * r.Wide + X by omega] at this
 rw [this]
 exact c2 X Y hX (by omega)
theorem Ygx {p : Pic} (ok : Xbx p = true) : Xno p ⟨0, 0, p.Wide, p.High⟩ = true ∧ Zb9 p ⟨0, 0, p.Wide, p.High⟩ = p := by
 obtain ⟨k1, k2, k3⟩ := Xay ok
 have hh : Xno p ⟨0, 0, p.Wide, p.High⟩ = true := by
  unfold Xno
  simp only [Bool.and_eq_true, decide_eq_true_eq]
  omega
 refine ⟨hh, Zah (Zax ok hh) ok rfl rfl fun X Y hX hY => ?_⟩
 rw [Ywg ok hh X Y hX hY]
 simp only [Int.zero_add]
def tX (W : Int) (i : Nat) : Int := (i : Int) % (W / 8) * 8
def tY (W : Int) (i : Nat) : Int := (i : Int) / (W / 8) * 8
structure Yr1 (src ref : Pic) (c : Xeu) (r : Int) : Prop where
 ok : Xbx src = true
 hw : Xyu src.Wide = true
 hh : Xyu src.High = true
 hc : Xho c = true
 hr : 0 ≤ r ∧ r ≤ 4
 hk : c.Key = false → Xbx ref = true ∧ ref.Wide = src.Wide ∧ ref.High = src.High
inductive Xk0 (src ref : Pic) (c : Xeu) (r : Int) : Nat → List Xam → Pic → Prop
 | zero : Xk0 src ref c r 0 [] ⟨src.Wide, src.High, strOfNums (List.replicate (src.Wide * src.High).toNat 128)⟩
 | succ {n : Nat} {l : List Xam} {now : Pic} (h : Xk0 src ref c r n l now) (hn : (n : Int) < src.Wide / 8 * (src.High / 8)) (q : Xam) (d : List Int) (now' : Pic)
   (hi : Xfi now ref (Xqi src (tX src.Wide n) (tY src.Wide n) 64) (tX src.Wide n) (tY src.Wide n) c r = some (q, d, true)) (hs : Xni now ref (Xqi src (tX src.Wide n) (tY src.Wide n) 64) (tX src.Wide n) (tY src.Wide n) c r = some (q, d, true)) (hq : Xrm now ref (Xqi src (tX src.Wide n) (tY src.Wide n) 64) (tX src.Wide n) (tY src.Wide n) c r q)
   (hd : Xbz now ref 0 0 c (tX src.Wide n) (tY src.Wide n) q = some (d, true)) (hp : Xgy now (tX src.Wide n) (tY src.Wide n) d = some now') : Xk0 src ref c r (n + 1) (l ++ [q]) now'
theorem Ywq {w h : Int} (hw : 1 ≤ w ∧ w ≤ 256) (hh : 1 ≤ h ∧ h ≤ 256) : Xbx ⟨w, h, strOfNums (List.replicate (w * h).toNat 128)⟩ = true := by
 have ar := Xda hw hh
 refine Xvy hw hh ?_
 simp only
 rw [strOfNums_size, List.length_replicate]; omega
theorem Yo7 {src ref now : Pic} {c : Xeu} {r : Int} (H : Yr1 src ref c r) {n : Nat} (hn : (n : Int) < src.Wide / 8 * (src.High / 8)) (ok : Xbx now = true) (hw : now.Wide = src.Wide) (hh : now.High = src.High) : Zb0 now ref (Xqi src (tX src.Wide n) (tY src.Wide n) 64) (tX src.Wide n) (tY src.Wide n) c r := by
 obtain ⟨p1, p2, p3, p4, p5, p6, p7, p8, p9, p10⟩ := Ym5 H.hw H.hh n hn
 refine ⟨ok, by unfold tX; rw [Xb2 p7]; omega, by unfold tY; rw [Xb2 p9]; omega, by unfold Xdr tX tY; rw [decide_eq_true_eq, hw, hh]; exact ⟨p7, p8, p9, p10⟩, Xg0 _ _ _, H.hc, H.hr, fun hK => ?_⟩
 obtain ⟨a, b, c⟩ := H.hk hK
 exact ⟨a, by rw [b, hw], by rw [c, hh]⟩
theorem Xk0.pic {src ref : Pic} {c : Xeu} {r : Int} (H : Yr1 src ref c r) {n : Nat} {l : List Xam} {now : Pic} (h : Xk0 src ref c r n l now) : Xbx now = true ∧ now.Wide = src.Wide ∧ now.High = src.High ∧ l.length = n ∧ (∀ q ∈ l, Xuc q = true ∧ Xqg q c = true ∧ q.Levels.length ≤ 64) := by
 induction h with
 | zero =>
  obtain ⟨k1, k2, k3⟩ := Xay H.ok
  exact ⟨Ywq k1 k2, rfl, rfl, rfl, fun q hq => by simp at hq⟩
 | succ h hn q d now' hi hs hq hd hp ih =>
  obtain ⟨ok, w, hh, hl, hall⟩ := ih
  have SF := Yo7 H hn ok w hh
  obtain ⟨q2, d2, e2, _, _, _, hd64⟩ := Xor SF
  rw [hi] at e2
  injection e2 with e2
  injection e2 with e2 e3
  injection e3 with e3 _
  subst e2; subst e3
  obtain ⟨p', ep, p1, p2, p3⟩ := Xxv ok SF.h0 hd64
  rw [hp] at ep
  injection ep with ep
  subst ep
  refine ⟨p1, by rw [p2, w], by rw [p3, hh], by rw [List.length_append, hl]; rfl, fun x hx => ?_⟩
  rcases List.mem_append.1 hx with hx | hx
  ·
   exact hall x hx
  ·
   rw [List.mem_singleton.1 hx]; exact hq.ok H.hr
theorem Xk0.step {src ref : Pic} {c : Xeu} {r : Int} (H : Yr1 src ref c r) {n : Nat} {l : List Xam} {now : Pic} (h : Xk0 src ref c r n l now) (hn : (n : Int) < src.Wide / 8 * (src.High / 8)) : ∃ q d now', Xfi now ref (Xqi src (tX src.Wide n) (tY src.Wide n) 64) (tX src.Wide n) (tY src.Wide n) c r = some (q, d, true) ∧ Xni now ref (Xqi src (tX src.Wide n) (tY src.Wide n) 64) (tX src.Wide n) (tY src.Wide n) c r = some (q, d, true) ∧ Xby d = true ∧ Xgy now (tX src.Wide n) (tY src.Wide n) d = some now' ∧ Xk0 src ref c r (n + 1) (l ++ [q]) now' := by
 obtain ⟨ok, w, hh, hl, _⟩ := h.pic H
 have SF := Yo7 H hn ok w hh
 obtain ⟨q, d, e1, e2, hq, ed, hd64⟩ := Xor SF
 obtain ⟨p', ep, p1, p2, p3⟩ := Xxv ok SF.h0 hd64
 exact ⟨q, d, p', e1, e2, hd64, ep, .succ h hn q d p' e1 e2 hq ed ep⟩
theorem Zc2 {W : Int} (hW : Xyu W = true) (a b : Nat) (hb : (b : Int) < W / 8) : tX W ((W / 8).toNat * a + b) = 8 * b ∧ tY W ((W / 8).toNat * a + b) = 8 * a := by
 have s := Xcm hW
 have e : (((W / 8).toNat * a + b : Nat) : Int) = (a : Int) * (W / 8) + b := by
  rw [Int.natCast_add, Int.natCast_mul, show (((W / 8).toNat : Nat) : Int) = W / 8 by omega, Int.mul_comm]
 have d := Yat (W := W / 8) (x := b) (y := a) ⟨by omega, hb⟩
 unfold tX tY
 rw [e, d.1, d.2]
 omega
theorem Zak {W H : Int} (hW : Xyu W = true) (a b : Nat) (hb : (b : Int) < W / 8) (ha : (a : Int) < H / 8) : (((W / 8).toNat * a + b : Nat) : Int) < W / 8 * (H / 8) := by
 have s := Xcm hW
 have p := Xqv (W := W / 8) (H := H / 8) (x := b) (y := a) ⟨by omega, hb⟩ ⟨by omega, ha⟩
 rw [Int.natCast_add, Int.natCast_mul, show (((W / 8).toNat : Nat) : Int) = W / 8 by omega, Int.mul_comm (W / 8)]
 exact p.2
theorem Ye2 {src ref : Pic} {c : Xeu} {r : Int} (H : Yr1 src ref c r) : ∃ l now, Xkk src ref c r = some (l, now, true) ∧ Xk0 src ref c r ((src.Wide / 8).toNat * (src.High / 8).toNat) l now := by
 have hm : maxLen = 9223372036854775807 := rfl
 have sw := Xcm H.hw
 have sh := Xcm H.hh
 obtain ⟨k1, k2, k3⟩ := Xay H.ok
 -- one row
 have row : ∀ a : Nat, (a : Int) < src.High / 8 → ∀ (l : List Xam) (now : Pic), Xk0 src ref c r ((src.Wide / 8).toNat * a) l now → ∃ l' now', loop (Xe1 src ref c r ((8 * a : Nat), l, now.Wide, now.High, now.Dots)) (0, l, now.Wide, now.High, now.Dots) = some (.out (l', now'.Wide, now'.High, now'.Dots)) ∧ Xk0 src ref c r ((src.Wide / 8).toNat * (a + 1)) l' now' := by
  intro a ha l now hT
  have key : ∀ b : Nat, b ≤ (src.Wide / 8).toNat → ∀ (l2 : List Xam) (now2 : Pic), Xk0 src ref c r ((src.Wide / 8).toNat * a + b) l2 now2 → ∃ l' now', loop (Xe1 src ref c r ((8 * a : Nat), l, now.Wide, now.High, now.Dots)) (((8 * b : Nat) : Int), l2, now2.Wide, now2.High, now2.Dots) = some (.out (l', now'.Wide, now'.High, now'.Dots)) ∧ Xk0 src ref c r ((src.Wide / 8).toNat * (a + 1)) l' now' := by
   refine Xgp _ ?_ ?_
   ·
    intro l2 now2 h2
    refine ⟨l2, now2, Xf9 ?_, by rw [Nat.mul_add, Nat.mul_one]; exact h2⟩
    unfold Xe1
    rw [Xap (by simp only; omega)]
   ·
    intro b hb ih l2 now2 h2
    have hbI : (b : Int) < src.Wide / 8 := by omega
    obtain ⟨eX, eY⟩ := Zc2 H.hw a b hbI
    obtain ⟨q, d, now', e1, _, hd, ep, hT'⟩ := h2.step H (Zak H.hw a b hbI ha)
    rw [eX, eY] at e1 ep
    obtain ⟨ok2, w2, hh2, hl2, _⟩ := h2.pic H
    obtain ⟨l', n', el, hT2⟩ := ih (l2 ++ [q]) now' hT'
    refine ⟨l', n', lgo (y := (((8 * (b + 1) : Nat) : Int), l2 ++ [q], now'.Wide, now'.High, now'.Dots)) ?_ el, hT2⟩
    have lb : l2.length ≤ 1000 := by
     have := Zak H.hw a b hbI ha
     have : src.Wide / 8 * (src.High / 8) ≤ 8 * 8 := Int.mul_le_mul (by omega) (by omega) (by omega) (by omega)
     omega
    unfold Xe1
    simp only
    rw [show ((8 * a : Nat) : Int) = 8 * (a : Int) by omega, show ((8 * b : Nat) : Int) = 8 * (b : Int) by omega, syA, Xgv H.ok _ _ (by omega) (by omega), Xab, show (⟨now2.Wide, now2.High, now2.Dots⟩ : Pic) = now2 from rfl, e1, Xab]
    simp only
    rw [Bool.not_true, Xao, Xa2 (by simp only [List.length_singleton]; omega), Yrc hd (by have := Xy9 ok2; omega), ep, Xab, wkA, show ((8 * (b + 1) : Nat) : Int) = 8 * (b : Int) + 8 by omega]
  exact key 0 (by omega) l now hT
 have rows : ∀ a : Nat, a ≤ (src.High / 8).toNat → ∀ (l : List Xam) (now : Pic), Xk0 src ref c r ((src.Wide / 8).toNat * a) l now → ∃ l' now', loop (Xe0 src ref c r) (((8 * a : Nat) : Int), l, now.Wide, now.High, now.Dots) = some (.out (l', now'.Wide, now'.High, now'.Dots)) ∧ Xk0 src ref c r ((src.Wide / 8).toNat * (src.High / 8).toNat) l' now' := by
  refine Xgp _ ?_ ?_
  ·
   intro l now h
   refine ⟨l, now, Xf9 ?_, h⟩
   unfold Xe0
   rw [Xap (by simp only; omega)]
  ·
   intro a ha ih l now h
   obtain ⟨l', n', el, hT⟩ := row a (by omega) l now h
   obtain ⟨l2, n2, el2, hT2⟩ := ih l' n' hT
   refine ⟨l2, n2, lgo (y := (((8 * (a + 1) : Nat) : Int), l', n'.Wide, n'.High, n'.Dots)) ?_ el2, hT2⟩
   unfold Xe0
   rw [Xbh (by simp only; omega)]
   simp only
   rw [el, Xab]
   simp only
   rw [wkA, show ((8 * (a + 1) : Nat) : Int) = ((8 * a : Nat) : Int) + 8 by omega]
 obtain ⟨l, now, e, hT⟩ := rows 0 (by omega) [] ⟨src.Wide, src.High, strOfNums (List.replicate (src.Wide * src.High).toNat 128)⟩ (by rw [Nat.mul_zero]; exact .zero)
 refine ⟨l, now, ?_, hT⟩
 unfold Xkk
 have hl7 : (sel c.Key (some false) (bnd (Xbt ref) fun q8 => sel q8 (sel (ref.Wide != src.Wide) (some true) (some (ref.High != src.High))) (some true))) = some false := by
  cases hK : c.Key with
  | true => rfl
  | false =>
   obtain ⟨a1, a2, a3⟩ := H.hk hK
   rw [Xao, Xbj, Xab, a1, a2, a3, Xat, bne_self_eq_false, Xao, bne_self_eq_false]
 rw [Xbj, Xab, H.ok, Xat, Xhd, Xab, H.hw, Xat, Xhd, Xab, H.hh, Xat, Xdk, Xab, H.hc, Xat, Xak, Xab, decide_eq_true H.hr, Bool.not_true, Xab, Xao, hl7, Xab, Xao, Xql _ _ k1 k2, Xab]
 have e' : loop (Xe0 src ref c r) (0, [], src.Wide, src.High, strOfNums (List.replicate (src.Wide * src.High).toNat 128)) = some (.out (l, now.Wide, now.High, now.Dots)) := e
 rw [e', Xab]
theorem Xk0.dots {src ref : Pic} {c : Xeu} {r : Int} (H : Yr1 src ref c r) (P : Int → Int → Int → Prop)
  (hP : ∀ (n : Nat) (now : Pic) (q : Xam) (d : List Int), (n : Int) < src.Wide / 8 * (src.High / 8) → Zb0 now ref (Xqi src (tX src.Wide n) (tY src.Wide n) 64) (tX src.Wide n) (tY src.Wide n) c r → Xrm now ref (Xqi src (tX src.Wide n) (tY src.Wide n) 64) (tX src.Wide n) (tY src.Wide n) c r q → Xc3 now ref 0 0 c (tX src.Wide n) (tY src.Wide n) q = some (d, true) → ∀ i : Nat, i < 64 → P (tX src.Wide n + ((i % 8 : Nat) : Int)) (tY src.Wide n + ((i / 8 : Nat) : Int)) (d.getD i 0))
  {n : Nat} {l : List Xam} {now : Pic} (h : Xk0 src ref c r n l now) : ∀ X Y : Int, 0 ≤ X ∧ X < src.Wide → 0 ≤ Y ∧ Y < src.High → Y / 8 * (src.Wide / 8) + X / 8 < n → P X Y (Xqe now X Y) := by
 induction h with
 | zero =>
  intro X Y hX hY hlt
  have := Int.mul_nonneg (show 0 ≤ Y / 8 by omega) (show 0 ≤ src.Wide / 8 by omega)
  omega
 | succ h hn q d now' hi hs hq hd hp ih =>
  rename_i n0 l0 now0
  obtain ⟨ok, w, hh, hl, hall⟩ := h.pic H
  have SF := Yo7 H hn ok w hh
  obtain ⟨q2, d2, e2, _, _, _, hd64⟩ := Xor SF
  rw [hi] at e2
  injection e2 with e2
  injection e2 with e2 e3
  injection e3 with e3 _
  subst e2; subst e3
  obtain ⟨p', ep, p1, p2, p3, p4⟩ := Yzb ok SF.h0 hd64
  rw [hp] at ep
  injection ep with ep
  subst ep
  obtain ⟨q1, q2', q3⟩ := hq.ok H.hr
  obtain ⟨d', ei', es', _⟩ := Xpd (now := now0) (ref := ref) (l := 0) (t := 0) (x := tX src.Wide n0) (y := tY src.Wide n0) (c := c) (q := q) ⟨ok, SF.hx, SF.hy, SF.h0, by omega, by omega, H.hc, by omega⟩ q1 q2' (fun hK => (H.hk hK).1)
  rw [hd] at ei'
  injection ei' with ei'
  injection ei' with ei' _
  subst ei'
  have hPd := hP n0 now0 q d hn SF hq es'
  intro X Y hX hY hlt
  rw [p4 X Y (by rw [w]; exact hX) (by rw [hh]; exact hY)]
  have sw := Xcm H.hw
  have dv := Yat (W := src.Wide / 8) (x := X / 8) (y := Y / 8) ⟨by omega, by omega⟩
  by_cases hin : Ywu (tX src.Wide n0) (tY src.Wide n0) X Y = true
  ·
   rw [if_pos hin]
   unfold Ywu at hin
   rw [decide_eq_true_eq] at hin
   have := hPd ((Y - tY src.Wide n0) * 8 + (X - tX src.Wide n0)).toNat (by omega)
   have e1 : tX src.Wide n0 + (((((Y - tY src.Wide n0) * 8 + (X - tX src.Wide n0)).toNat % 8 : Nat)) : Int) = X := by omega
   have e2 : tY src.Wide n0 + (((((Y - tY src.Wide n0) * 8 + (X - tX src.Wide n0)).toNat / 8 : Nat)) : Int) = Y := by omega
   rw [e1, e2] at this
   exact this
  ·
   rw [if_neg hin]
   refine ih X Y hX hY ?_
   have hne : Y / 8 * (src.Wide / 8) + X / 8 ≠ n0 := fun e => hin (by
    rw [e] at dv
    unfold Ywu tX tY
    rw [dv.1, dv.2, decide_eq_true_eq]
    omega)
   omega
theorem Xk0.all {src ref : Pic} {c : Xeu} {r : Int} (H : Yr1 src ref c r) (P : Int → Int → Int → Prop)
  (hP : ∀ (n : Nat) (now : Pic) (q : Xam) (d : List Int), (n : Int) < src.Wide / 8 * (src.High / 8) → Zb0 now ref (Xqi src (tX src.Wide n) (tY src.Wide n) 64) (tX src.Wide n) (tY src.Wide n) c r → Xrm now ref (Xqi src (tX src.Wide n) (tY src.Wide n) 64) (tX src.Wide n) (tY src.Wide n) c r q → Xc3 now ref 0 0 c (tX src.Wide n) (tY src.Wide n) q = some (d, true) → ∀ i : Nat, i < 64 → P (tX src.Wide n + ((i % 8 : Nat) : Int)) (tY src.Wide n + ((i / 8 : Nat) : Int)) (d.getD i 0))
  {l : List Xam} {now : Pic} (h : Xk0 src ref c r ((src.Wide / 8).toNat * (src.High / 8).toNat) l now) : ∀ X Y : Int, 0 ≤ X ∧ X < src.Wide → 0 ≤ Y ∧ Y < src.High → P X Y (Xqe now X Y) := by
 intro X Y hX hY
 refine h.dots H P hP X Y hX hY ?_
 have sw := Xcm H.hw
 have sh := Xcm H.hh
 have p := Xqv (W := src.Wide / 8) (H := src.High / 8) (x := X / 8) (y := Y / 8) ⟨by omega, by omega⟩ ⟨by omega, by omega⟩
 rw [Int.natCast_mul, show (((src.Wide / 8).toNat : Nat) : Int) = src.Wide / 8 by omega, show (((src.High / 8).toNat : Nat) : Int) = src.High / 8 by omega]
 exact p.2
theorem Zas (p : Pic) (x y : Int) {i : Nat} (hi : i < 64) : (Xqi p x y 64).getD i 0 = Xqe p (x + ((i % 8 : Nat) : Int)) (y + ((i / 8 : Nat) : Int)) := Xft _ hi
theorem Xk0.same {src ref : Pic} {c : Xeu} {r : Int} (H : Yr1 src ref c r) (hd : ∀ (now : Pic) (w : List Int) (x y : Int) (q : Xam) (d : List Int), Zb0 now ref w x y c r → w = Xqi src x y 64 → Xrm now ref w x y c r q → Xc3 now ref 0 0 c x y q = some (d, true) → d = w) {l : List Xam} {now : Pic} (h : Xk0 src ref c r ((src.Wide / 8).toNat * (src.High / 8).toNat) l now) : now = src := by
 obtain ⟨ok, w, hh, _, _⟩ := h.pic H
 refine Zah ok H.ok w hh fun X Y hX hY => ?_
 rw [w] at hX
 rw [hh] at hY
 refine h.all H (fun X Y v => v = Xqe src X Y) (fun n now q d hn SF hq hs i hi => ?_) X Y hX hY
 rw [hd now _ _ _ q d SF rfl hq hs]
 exact Zas _ _ _ hi
theorem Ydb {src : Pic} (hw : Xyu src.Wide = true) (hh : Xyu src.High = true) : (((src.Wide / 8).toNat * (src.High / 8).toNat : Nat) : Int) = src.Wide / 8 * (src.High / 8) ∧ 1 ≤ src.Wide / 8 * (src.High / 8) ∧ src.Wide / 8 * (src.High / 8) ≤ 64 := by
 have a := Xcm hw
 have b := Xcm hh
 have m1 : src.Wide / 8 * (src.High / 8) ≤ 8 * 8 := Int.mul_le_mul (by omega) (by omega) (by omega) (by omega)
 have m2 : 1 * 1 ≤ src.Wide / 8 * (src.High / 8) := Int.mul_le_mul (by omega) (by omega) (by omega) (by omega)
 rw [Int.natCast_mul, show (((src.Wide / 8).toNat : Nat) : Int) = src.Wide / 8 by omega, show (((src.High / 8).toNat : Nat) : Int) = src.High / 8 by omega]
 exact ⟨rfl, by omega, by omega⟩
theorem Xk0.still {src : Pic} {c : Xeu} {r : Int} (H : Yr1 src src c r) (hK : c.Key = false) {n : Nat} {l : List Xam} {now : Pic} (h : Xk0 src src c r n l now) : l = List.replicate n ⟨0, 0, 0, 0, []⟩ := by
 induction h with
 | zero => rfl
 | succ h hn q d now' hi hs hq hd hp ih =>
  have : q = ⟨0, 0, 0, 0, []⟩ := by
   cases hq with
   | same => rfl
   | still => rfl
   | move _ _ _ _ _ _ _ _ _ hn => exact absurd (fun _ _ => rfl) hn
   | guess _ _ _ _ _ _ _ _ _ _ _ hn => exact absurd (fun _ _ => rfl) (hn hK)
  rw [ih, this, List.replicate_succ']
theorem Yqg (a b : List Int) (i : Nat) : (a ++ b).getD (a.length + i) 0 = b.getD i 0 := by
 rw [List.getD_eq_getElem?_getD, List.getD_eq_getElem?_getD, List.getElem?_append_right (by omega)]
 congr 2; omega
theorem Ywm (a b : List Int) (i : Nat) (hi : i < a.length) : (a ++ b).getD i 0 = a.getD i 0 := by
 rw [List.getD_eq_getElem?_getD, List.getD_eq_getElem?_getD, List.getElem?_append_left hi]
theorem Zcj (v x : Int) (h0 : 0 ≤ v) (h1 : v ≤ 1000000000000000000) (hx : x = 0 ∨ x = 1) : IntKind.wrap .i64 (BitVec.ofInt (IntKind.bits .i64) (v * 2) ||| BitVec.ofInt (IntKind.bits .i64) x).toNat = v * 2 + x := by
 obtain ⟨a, rfl⟩ : ∃ a : Nat, v = a := ⟨v.toNat, by omega⟩
 obtain ⟨b, rfl⟩ : ∃ b : Nat, x = b := ⟨x.toNat, by omega⟩
 have h : (BitVec.ofInt 64 ((a : Int) * 2) ||| BitVec.ofInt 64 (b : Int)).toNat = a * 2 + b := by
  rw [BitVec.toNat_or, BitVec.toNat_ofInt, BitVec.toNat_ofInt]
  have e1 : (((a : Int) * 2) % ((2 ^ 64 : Nat) : Int)).toNat = a * 2 := by omega
  have e2 : ((b : Int) % ((2 ^ 64 : Nat) : Int)).toNat = b := by omega
  rw [e1, e2]
  have := Nat.two_pow_add_eq_or_of_lt (i := 1) (b := b) (by omega) a
  rw [show 2 ^ 1 * a = a * 2 by omega] at this
  exact this.symm
 show IntKind.wrap .i64 ((BitVec.ofInt 64 ((a : Int) * 2) ||| BitVec.ofInt 64 (b : Int)).toNat : Int) = _
 rw [h, ← Xq3, wkA]
 omega
theorem Yxh {i : Nat} (h : i ≤ 40) : (2 : Int) ^ i ≤ 1099511627776 := by
 have h2 : (2 : Nat) ^ i ≤ 1099511627776 := Nat.pow_le_pow_right (n := 2) (by omega) h
 have := Int.ofNat_le.2 h2
 rw [Int.natCast_pow] at this
 exact this
theorem Xkd {L a f b : List Int} (hL : L = a ++ (f ++ b)) (hb : Xoo L) (hl : L.length ≤ 400000) (hf : f.length ≤ 41) : Xcw ⟨strOfNums L, (a.length : Int), false⟩ (f.length : Int) = some (Xqb f, ⟨strOfNums L, ((a.length + f.length : Nat) : Int), false⟩) := by
 have hLl : L.length = a.length + (f.length + b.length) := by rw [hL]; simp only [List.length_append]
 have hfb : Xoo f := fun x hx => hb x (by rw [hL]; simp [hx])
 unfold Xcw
 simp only
 rw [Xao, strOfNums_size, wkA, Xab, snA]
 have key : ∀ i : Nat, i ≤ f.length → loop (Xg6 ⟨strOfNums L, (a.length : Int), false⟩ (f.length : Int)) (Xqb (f.take i), (i : Int)) = some (Xqb f) := by
  refine Xgp _ ?_ ?_
  ·
   refine Xf9 ?_
   unfold Xg6
   simp only
   rw [snA, List.take_length]
  ·
   intro i hi ih
   refine lgo ?_ ih
   have hx : L.getD (a.length + i) 0 = f.getD i 0 := by rw [hL, Yqg, Ywm _ _ _ hi]
   have hbt : Xuh (strOfNums L) ((a.length : Int) + i) = f.getD i 0 := by
    rw [show (a.length : Int) + i = ((a.length + i : Nat) : Int) by omega, Xwu L (Xfw hb) _ (by omega), hx]
   have h2 : f.getD i 0 = 48 ∨ f.getD i 0 = 49 := hfb _ (by rw [Xb4 f i hi]; exact List.getElem_mem hi)
   have ht : Xoo (f.take i) := fun x hx => hfb x (List.mem_of_mem_take hx)
   have hr := Ya9 ht
   have hp : (2 : Int) ^ (f.take i).length ≤ 1099511627776 := Yxh (by rw [List.length_take]; omega)
   have hv : Xqb (f.take (i + 1)) = Xqb (f.take i) * 2 + (f.getD i 0 - 48) := by
    rw [List.take_add_one, Xrl, Xb4 f i hi, List.getElem?_eq_getElem hi]
    simp [Xqb]
   unfold Xg6
   simp only
   rw [syA, rqA, wkA (e := (a.length : Int) + i), Xa2 (by rw [strOfNums_size]; omega), hbt, w8 (by omega) (by omega), wkA (e := f.getD i 0 - 48), show (2 : Int) ^ min (1 : Int).toNat (IntKind.bits .i64) = 2 from rfl, wkA (e := Xqb (f.take i) * 2), Zcj _ _ (by omega) (by omega) (by omega), wkA, hv]
   rfl
 have := key 0 (by omega)
 rw [List.take_zero] at this
 refine (Xge this).trans ?_
 rw [wkA]
 rfl
theorem Yv9 (m : Nat) (h : m ≠ 0) : ∃ r, Ypr m = 49 :: r := by
 induction m using Nat.strongRecOn with
 | _ m ih =>
  rw [Ypr, dif_neg h]
  by_cases h1 : m / 2 = 0
  ·
   have : m = 1 := by omega
   subst this
   rw [Ypr, dif_pos h1]
   exact ⟨[], rfl⟩
  ·
   obtain ⟨r, e⟩ := ih (m / 2) (by omega) h1
   rw [e]
   exact ⟨r ++ [48 + ((m % 2 : Nat) : Int)], rfl⟩
theorem Zby (m : Nat) : Xqb (Ypr m) = m := by
 induction m using Nat.strongRecOn with
 | _ m ih =>
  rw [Ypr]
  by_cases h : m = 0
  ·
   rw [dif_pos h, h]; rfl
  ·
   rw [dif_neg h, Xrl, ih (m / 2) (by omega)]
   simp [Xqb]
   omega
theorem Xiv {L a b : List Int} {n : Nat} (hL : L = a ++ (ueL n ++ b)) (hb : Xoo L) (hl : L.length ≤ 400000) (hn : n ≤ 1000000) : Xb5 ⟨strOfNums L, (a.length : Int), false⟩ = some ((n : Int), ⟨strOfNums L, ((a.length + (ueL n).length : Nat) : Int), false⟩) := by
 have hLl : L.length = a.length + ((ueL n).length + b.length) := by rw [hL]; simp only [List.length_append]
 have f1 := Yns (m := n + 1) (j := 20) (by omega)
 have f2 := Yf7 (m := n + 1) (by omega)
 have ul : (ueL n).length = Xui (n + 1) - 1 + Xui (n + 1) := by unfold ueL; rw [List.length_append, List.length_replicate, Ynk]
 obtain ⟨r, er⟩ := Yv9 (n + 1) (by omega)
 have hc : ∀ i : Nat, i < (ueL n).length → L.getD (a.length + i) 0 = (ueL n).getD i 0 := fun i hi => by rw [hL, Yqg, Ywm _ _ _ hi]
 have key : ∀ i : Nat, i ≤ Xui (n + 1) - 1 → loop (Xh5 ⟨strOfNums L, (a.length : Int), false⟩) (i : Int) = some ((Xui (n + 1) - 1 : Nat) : Int) := by
  refine Xgp _ ?_ ?_
  ·
   refine Xf9 ?_
   have hx : (ueL n).getD (Xui (n + 1) - 1) 0 = 49 := by
    have := Yqg (List.replicate (Xui (n + 1) - 1) 48) (Ypr (n + 1)) 0
    rw [List.length_replicate] at this
    unfold ueL
    exact this.trans (by rw [er]; rfl)
   unfold Xh5
   simp only
   rw [Xao, wkA, strOfNums_size, syA, rqA, show (a.length : Int) + ((Xui (n + 1) - 1 : Nat) : Int) = ((a.length + (Xui (n + 1) - 1) : Nat) : Int) by omega, Xwu L (Xfw hb) _ (by omega), hc _ (by omega), hx, Xab]
   rfl
  ·
   intro i hi ih
   refine lgo ?_ ih
   have hx : (ueL n).getD i 0 = 48 := by
    unfold ueL
    rw [Ywm _ _ _ (by rw [List.length_replicate]; exact hi), Xb4 _ i (by rw [List.length_replicate]; exact hi), List.getElem_replicate]
   unfold Xh5
   simp only
   rw [Xao, wkA (e := (a.length : Int) + i), strOfNums_size, syA, rqA, show (a.length : Int) + (i : Int) = ((a.length + i : Nat) : Int) by omega, Xwu L (Xfw hb) _ (by omega), hc _ (by omega), hx, Xab, wkA]
   rfl
 have hf := Xkd hL hb hl (by omega)
 have hv : Xqb (ueL n) = (n : Int) + 1 := by unfold ueL; rw [Xrl, Ypm, Zby, Int.zero_mul, Int.zero_add]; omega
 unfold Xb5
 refine (Xge (key 0 (by omega))).trans ?_
 simp only
 rw [snA, Xab, wkA (e := 2 * ((Xui (n + 1) - 1 : Nat) : Int)), wkA (e := 2 * ((Xui (n + 1) - 1 : Nat) : Int) + 1), show 2 * ((Xui (n + 1) - 1 : Nat) : Int) + 1 = ((ueL n).length : Int) by omega, hf, Xab]
 simp only
 rw [Xao, hv, wkA, Xab, snA, show (n : Int) + 1 - 1 = n by omega]
theorem Xv2 {L a b : List Int} {n : Int} (hL : L = a ++ (seL n ++ b)) (hb : Xoo L) (hl : L.length ≤ 400000) (hn : -500000 ≤ n ∧ n ≤ 500000) : Xd8 ⟨strOfNums L, (a.length : Int), false⟩ = some (n, ⟨strOfNums L, ((a.length + (seL n).length : Nat) : Int), false⟩) := by
 have hf := Xvr n hn
 unfold Xd8
 rw [Xiv hL hb hl hf, Xab]
 have ho : Xpm ((Ygz n : Nat) : Int) = some (n, true) := by
  unfold Xpm
  rw [Xak, Xab, decide_eq_true (by omega), Bool.not_true, Xao, rqA, Xb2 (by omega)]
  unfold Ygz
  split
  ·
   rw [Xbp (by rw [beq_iff_eq]; omega), rqA, wkA (e := (((2 * n - 1).toNat : Nat) : Int) + 1), Xbn (by omega), wkA]
   congr 2; omega
  ·
   rw [Xba (by rw [beq_eq_false_iff_ne]; omega), rqA, wkA (e := 0 - _)]
   have : (0 - (((-2 * n).toNat : Nat) : Int)).tdiv 2 = n := by
    rw [show (0 - (((-2 * n).toNat : Nat) : Int)) = n * 2 by omega]
    exact Int.mul_tdiv_cancel n (by omega)
   rw [this, wkA]
 simp only
 rw [ho, Xab]
 rfl
theorem Za6 (l : List Int) (hl : l.length ≤ 64) : nz l ≤ 64 := by have := Yxe l; omega
theorem Ydw {L a b l : List Int} (hL : L = a ++ (Xi6 l ++ b)) (hb : Xoo L) (hl : L.length ≤ 400000) (hall : l.all Ypt = true) (h64 : l.length ≤ 64) : Xhh ⟨strOfNums L, (a.length : Int), false⟩ (l.length : Int) = some (l, ⟨strOfNums L, ((a.length + (Xi6 l).length : Nat) : Int), false⟩) := by
 have key : ∀ (r pre : List Int) (g : Nat) (a' b' : List Int), l = pre ++ r → g ≤ pre.length → L = a' ++ (Xo0 g r ++ b') → loop (Xf5 (l.length : Int)) (((pre.length - g : Nat) : Int), (nz r : Int), strOfNums L, (a'.length : Int), false, pre ++ List.replicate r.length 0) = some (l, strOfNums L, ((a'.length + (Xo0 g r).length : Nat) : Int), false) := by
  intro r
  induction r with
  | nil =>
   intro pre g a' b' h1 h2 h3
   refine Xf9 ?_
   unfold Xf5
   simp only
   rw [Xap (by rw [nz]; omega), Xab, Xao, h1]
   simp only [Xo0, List.length_nil, List.replicate_zero, Nat.add_zero]
  | cons x r ih =>
   intro pre g a' b' h1 h2 h3
   have hlen : l.length = pre.length + (r.length + 1) := by rw [h1]; simp
   have hx : -5000 ≤ x ∧ x ≤ 5000 := Yot.1 (List.all_eq_true.1 hall x (by rw [h1]; simp))
   by_cases e : x = 0
   ·
    rw [Xo0, if_pos e] at h3
    have := ih (pre ++ [x]) (g + 1) a' b' (by rw [h1]; simp) (by simp; omega) h3
    rw [nz, if_pos e, Xo0, if_pos e, ← this, List.length_append, List.length_singleton, show pre.length + 1 - (g + 1) = pre.length - g by omega, List.append_assoc, List.length_cons, List.replicate_succ, e]
    rfl
   ·
    rw [Xo0, if_neg e] at h3
    have u1 := Xfq g (by omega)
    have u2 := Xtb x (by omega)
    have u3 := Yxe r
    have e1 := Xiv (L := L) (a := a') (b := seL x ++ Xo0 0 r ++ b') (n := g) (by rw [h3]; simp only [List.append_assoc]) hb hl (by omega)
    have e2 := Xv2 (L := L) (a := a' ++ ueL g) (b := Xo0 0 r ++ b') (n := x) (by rw [h3]; simp only [List.append_assoc]) hb hl (by omega)
    have := ih (pre ++ [x]) 0 (a' ++ ueL g ++ seL x) b' (by rw [h1]; simp) (by simp) (by rw [h3]; simp only [List.append_assoc])
    rw [List.length_append] at e2
    simp only [List.length_append, List.length_singleton] at this
    rw [nz, if_neg e, Xo0, if_neg e]
    refine lgo ?_ (this.trans ?_)
    ·
     unfold Xf5
     simp only
     rw [syA, Bool.not_false, Xab, Xat, e1, Xab]
     simp only
     rw [e2, Xab]
     simp only
     have hp : ((pre.length - g : Nat) : Int) + (g : Int) = (pre.length : Int) := by omega
     rw [hp, wkA (e := (pre.length : Int)), snA, Xba (by rw [beq_eq_false_iff_ne]; exact e), Xak, Xab, decide_eq_true (by omega), Bool.not_true, Xab, Xao, Int.toNat_natCast, Xa2 (by simp only [List.length_append, List.length_replicate, List.length_cons]; omega), Xa2 (by simp only [List.length_append, List.length_replicate, List.length_cons]; omega), wkA, wkA, List.length_cons, List.replicate_succ, Ysu]
     rw [show ((nz r + 1 : Nat) : Int) - 1 = (nz r : Int) by omega, show pre ++ [x] ++ List.replicate r.length 0 = pre ++ x :: List.replicate r.length 0 by simp, show ((pre.length + 1 - 0 : Nat) : Int) = (pre.length : Int) + 1 by omega]
    ·
     simp only [List.length_append]
     rw [show a'.length + (ueL g).length + (seL x).length + (Xo0 0 r).length = a'.length + ((ueL g).length + (seL x).length + (Xo0 0 r).length) by omega]
 have hz := Za6 l h64
 have e0 := Xiv (L := L) (a := a) (b := Xo0 0 l ++ b) (n := nz l) (by rw [hL]; unfold Xi6; simp only [List.append_assoc]) hb hl (by omega)
 have := key l [] 0 (a ++ ueL (nz l)) b rfl (by simp) (by rw [hL]; unfold Xi6; simp only [List.append_assoc])
 unfold Xhh
 rw [rqA, e0, Xab]
 simp only
 rw [List.length_append] at this
 simp only [List.nil_append, List.length_nil] at this
 rw [Int.toNat_natCast]
 refine (Xge this).trans ?_
 simp only
 unfold Xi6
 rw [List.length_append, Nat.add_assoc]
theorem Xxl {L a b l : List Int} {c : Xeu} (hL : L = a ++ (Yps l c ++ b)) (hb : Xoo L) (hl : L.length ≤ 400000) (h : Yfh l = true) : Xc5 ⟨strOfNums L, (a.length : Int), false⟩ c = some (l, ⟨strOfNums L, ((a.length + (Yps l c).length : Nat) : Int), false⟩) := by
 have hm : maxLen = 9223372036854775807 := rfl
 obtain ⟨h1, h2⟩ := Xpa h
 unfold Xc5
 rw [Ydx, Xab]
 unfold Yps at hL ⊢
 by_cases e : (c.Large || c.Exact) = true
 ·
  rw [if_pos e] at hL
  rw [Xbp e, if_pos e]
  have := Ydw hL hb hl h2 (by omega)
  rw [h1] at this
  exact (Xge this).trans rfl
 ·
  rw [if_neg e] at hL
  rw [Xba (by simpa using e), if_neg e]
  have step : ∀ (n : Nat) (s q : List Int) (a' b' : List Int), n < 4 → q.length = 16 → q.all Ypt = true → s.length ≤ 64 → L = a' ++ (Xi6 q ++ b') → Xcl ((n : Int), strOfNums L, (a'.length : Int), false, s) = some (.go (((n + 1 : Nat) : Int), strOfNums L, (((a' ++ Xi6 q).length : Nat) : Int), false, s ++ q)) := by
   intro n s q a' b' hn hq hqa hs hLL
   have := Ydw hLL hb hl hqa (by omega)
   rw [hq] at this
   unfold Xcl
   simp only
   rw [syA]
   refine (Xge this).trans ?_
   simp only
   rw [rqA, wkA, List.length_append]
   rfl
  have q0 : (l.take 16).length = 16 := by rw [List.length_take]; omega
  have q1 : ((l.drop 16).take 16).length = 16 := by rw [List.length_take, List.length_drop]; omega
  have q2 : ((l.drop 32).take 16).length = 16 := by rw [List.length_take, List.length_drop]; omega
  have q3 : (l.drop 48).length = 16 := by rw [List.length_drop]; omega
  have hcat : l.take 16 ++ (l.drop 16).take 16 ++ (l.drop 32).take 16 ++ l.drop 48 = l := by
   have e1 : (l.drop 32).take 16 ++ l.drop 48 = l.drop 32 := by
    have := List.take_append_drop 16 (l.drop 32)
    rwa [List.drop_drop] at this
   have e2 : (l.drop 16).take 16 ++ l.drop 32 = l.drop 16 := by
    have := List.take_append_drop 16 (l.drop 16)
    rwa [List.drop_drop] at this
   rw [List.append_assoc, e1, List.append_assoc, e2, List.take_append_drop]
  have g0 := step 0 [] _ a (Xi6 ((l.drop 16).take 16) ++ Xi6 ((l.drop 32).take 16) ++ Xi6 (l.drop 48) ++ b) (by omega) q0 (Xk2 h2 _) (by simp) (by rw [hL]; simp only [List.append_assoc])
  have g1 := step 1 ([] ++ l.take 16) _ (a ++ Xi6 (l.take 16)) (Xi6 ((l.drop 32).take 16) ++ Xi6 (l.drop 48) ++ b) (by omega) q1 (Xk2 (Xk1 h2 _) _) (by simp only [List.length_append, List.length_nil]; omega) (by rw [hL]; simp only [List.append_assoc])
  have g2 := step 2 ([] ++ l.take 16 ++ (l.drop 16).take 16) _ (a ++ Xi6 (l.take 16) ++ Xi6 ((l.drop 16).take 16)) (Xi6 (l.drop 48) ++ b) (by omega) q2 (Xk2 (Xk1 h2 _) _) (by simp only [List.length_append, List.length_nil]; omega) (by rw [hL]; simp only [List.append_assoc])
  have g3 := step 3 ([] ++ l.take 16 ++ (l.drop 16).take 16 ++ (l.drop 32).take 16) _ (a ++ Xi6 (l.take 16) ++ Xi6 ((l.drop 16).take 16) ++ Xi6 ((l.drop 32).take 16)) b (by omega) q3 (Xk1 h2 _) (by simp only [List.length_append, List.length_nil]; omega) (by rw [hL]; simp only [List.append_assoc])
  have l4 : ∀ s, Xcl (((4 : Nat) : Int), s) = some (.done (s.2.2.2, s.1, s.2.1, s.2.2.1)) := by intro s; unfold Xcl; simp only; rw [snA]
  have e : loop Xcl (((0 : Nat) : Int), strOfNums L, (a.length : Int), false, []) = _ := (Xcz g0).trans ((Xcz g1).trans ((Xcz g2).trans ((Xcz g3).trans (Xc9 (l4 _)))))
  refine (Xge e).trans ?_
  simp only [List.nil_append, hcat]
  simp only [List.length_append, Nat.add_assoc]
theorem Yxy {s : Xam} (h : Xuc s = true) (h1 : s.Kind = 0) : s = ⟨0, 0, 0, 0, []⟩ := by
 unfold Xuc at h
 rw [if_pos h1, decide_eq_true_eq] at h
 obtain ⟨k, m, x, y, l⟩ := s
 simp only at h h1
 obtain ⟨a, b, c, d⟩ := h
 rw [h1, a, b, c, List.length_eq_zero_iff.1 d]
theorem Ylp {L a b : List Int} {s : Xam} {c : Xeu} (hL : L = a ++ (sqL s c ++ b)) (hb : Xoo L) (hl : L.length ≤ 400000) (h : Xuc s = true) (hlet : Xqg s c = true) : Xg7 ⟨strOfNums L, (a.length : Int), false⟩ c = some (s, ⟨strOfNums L, ((a.length + (sqL s c).length : Nat) : Int), false⟩) := by
 have hk := Xsn h
 have hl6 : s.Levels.length ≤ 64 := by
  by_cases h0 : s.Kind = 0
  ·
   rw [Yxy h h0]; simp
  ·
   by_cases h1 : s.Kind = 1
   ·
    have := Xpa (Xtm h h1).2.2; omega
   ·
    have := Xpa (Xv6 h (by omega)).2; omega
 have hok := Xoe s (by omega)
 rw [h] at hok
 unfold Xg7
 simp only
 obtain ⟨p, hp, hL2, e1⟩ : ∃ p : List Int, p = (if c.Key = true then [] else ueL s.Kind.toNat) ∧ L = (a ++ p) ++ ((if s.Kind = 1 then seL s.Dx ++ seL s.Dy ++ Yps s.Levels c else if s.Kind = 2 then ueL s.Mode.toNat ++ Yps s.Levels c else []) ++ b) ∧ (sel (!c.Key) (bnd (Xb5 ⟨strOfNums L, (a.length : Int), false⟩) fun q2 => some (q2.2.row_, q2.2.at_, q2.2.bad_, q2.1)) (some (strOfNums L, (a.length : Int), false, 2))) = some (strOfNums L, (((a ++ p).length : Nat) : Int), false, s.Kind) := by
  refine ⟨_, rfl, by rw [hL]; unfold sqL; simp only [List.append_assoc], ?_⟩
  cases hK : c.Key with
  | true =>
   unfold Xqg at hlet
   rw [hK, Bool.not_true, Bool.false_or, beq_iff_eq] at hlet
   rw [Bool.not_true, Xao, if_pos rfl, List.append_nil, hlet]
  | false =>
   have := Xiv (L := L) (a := a) (n := s.Kind.toNat) (b := (if s.Kind = 1 then seL s.Dx ++ seL s.Dy ++ Yps s.Levels c else if s.Kind = 2 then ueL s.Mode.toNat ++ Yps s.Levels c else []) ++ b) (by rw [hL]; unfold sqL; rw [hK, if_neg (by decide)]; simp only [List.append_assoc]) hb hl (by omega)
   rw [Bool.not_false, Xat, this, Xab, if_neg (by decide), List.length_append]
   simp only
   rw [show ((s.Kind.toNat : Nat) : Int) = s.Kind by omega]
 rw [e1, Xab]
 simp only
 have e2 : (sel false (some (strOfNums L, (((a ++ p).length : Nat) : Int), false, (0 : Int), (0 : Int), (0 : Int), ([] : List Int))) (
   sel (s.Kind == 1) (
   bnd (Xd8 (⟨strOfNums L, (((a ++ p).length : Nat) : Int), false⟩ : Xnn)) fun q4 =>
   bnd (Xd8 q4.2) fun q5 =>
   bnd (Xc5 q5.2 c) fun q6 =>
   some (q6.2.row_, q6.2.at_, q6.2.bad_, 0, q4.1, q5.1, q6.1)) (
   sel (s.Kind == 2) (
   bnd (Xb5 (⟨strOfNums L, (((a ++ p).length : Nat) : Int), false⟩ : Xnn)) fun q7 =>
   bnd (Xc5 q7.2 c) fun q8 =>
   some (q8.2.row_, q8.2.at_, q8.2.bad_, q7.1, 0, 0, q8.1)) (
   some (strOfNums L, (((a ++ p).length : Nat) : Int), false, 0, 0, 0, []))))) = some (strOfNums L, ((a.length + (sqL s c).length : Nat) : Int), false, s.Mode, s.Dx, s.Dy, s.Levels) := by
  rw [Xao]
  unfold sqL
  rw [← hp]
  by_cases h1 : s.Kind = 1
  ·
   obtain ⟨x1, x2, x3⟩ := Xtm h h1
   have hm0 : s.Mode = 0 := by
    unfold Xuc at h
    rw [if_neg (by omega), if_pos h1] at h
    simp only [Bool.and_eq_true, decide_eq_true_eq] at h
    exact h.1
   rw [if_pos h1] at hL2
   have y1 := Xv2 (L := L) (a := a ++ p) (b := seL s.Dy ++ Yps s.Levels c ++ b) (n := s.Dx) (by rw [hL2]; simp only [List.append_assoc]) hb hl (by omega)
   have y2 := Xv2 (L := L) (a := a ++ p ++ seL s.Dx) (b := Yps s.Levels c ++ b) (n := s.Dy) (by rw [hL2]; simp only [List.append_assoc]) hb hl (by omega)
   have y3 := Xxl (L := L) (a := a ++ p ++ seL s.Dx ++ seL s.Dy) (b := b) (l := s.Levels) (c := c) (by rw [hL2]; simp only [List.append_assoc]) hb hl x3
   rw [List.length_append (as := a ++ p)] at y2
   rw [List.length_append (as := a ++ p ++ seL s.Dx), List.length_append (as := a ++ p)] at y3
   rw [Xbp (by rw [beq_iff_eq]; exact h1), y1, Xab]
   simp only
   rw [y2, Xab]
   simp only
   rw [y3, Xab, if_pos h1, hm0]
   simp only [List.length_append, Nat.add_assoc]
  ·
   rw [Xba (by rw [beq_eq_false_iff_ne]; exact h1), if_neg h1]
   rw [if_neg h1] at hL2
   by_cases h2 : s.Kind = 2
   ·
    obtain ⟨x1, x3⟩ := Xv6 h h2
    have hd0 : s.Dx = 0 ∧ s.Dy = 0 := by
     unfold Xuc at h
     rw [if_neg (by omega), if_neg (by omega), if_pos h2] at h
     simp only [Bool.and_eq_true, decide_eq_true_eq] at h
     exact ⟨h.2.1, h.2.2.1⟩
    rw [if_pos h2] at hL2
    have y1 := Xiv (L := L) (a := a ++ p) (b := Yps s.Levels c ++ b) (n := s.Mode.toNat) (by rw [hL2]; simp only [List.append_assoc]) hb hl (by omega)
    have y3 := Xxl (L := L) (a := a ++ p ++ ueL s.Mode.toNat) (b := b) (l := s.Levels) (c := c) (by rw [hL2]; simp only [List.append_assoc]) hb hl x3
    rw [List.length_append (as := a ++ p)] at y3
    rw [Xbp (by rw [beq_iff_eq]; exact h2), y1, Xab]
    simp only
    rw [y3, Xab, if_pos h2, hd0.1, hd0.2, show ((s.Mode.toNat : Nat) : Int) = s.Mode by omega]
    simp only [List.length_append, Nat.add_assoc]
   ·
    have h0 := Yxy h (by omega)
    rw [Xba (by rw [beq_eq_false_iff_ne]; exact h2), if_neg h2, List.append_nil, List.length_append]
    rw [h0]
 rw [e2, Xab]
 simp only
 rw [Xao, show (⟨s.Kind, s.Mode, s.Dx, s.Dy, s.Levels⟩ : Xam) = s from rfl, hok, Xab, Xab]
 rfl
theorem Xk0.back {src ref : Pic} {c : Xeu} {r : Int} (H : Yr1 src ref c r) {n : Nat} {l : List Xam} {now : Pic} (h : Xk0 src ref c r n l now) : ∀ rest : List Xam, (l ++ rest).length ≤ 64 → loop (Xbd ⟨0, 0, src.Wide, src.High⟩ c (l ++ rest) (0, 0, ref.Wide, ref.High, ref.Dots)) (0, src.Wide, src.High, strOfNums (List.replicate (src.Wide * src.High).toNat 128)) = loop (Xbd ⟨0, 0, src.Wide, src.High⟩ c (l ++ rest) (0, 0, ref.Wide, ref.High, ref.Dots)) ((n : Int), now.Wide, now.High, now.Dots) := by
 induction h with
 | zero => intro rest _; rfl
 | succ h hn q d now' hi hs hq hd hp ih =>
  rename_i n0 l0 now0
  intro rest hlen
  rw [List.append_assoc] at hlen ⊢
  rw [ih ([q] ++ rest) hlen]
  obtain ⟨ok, w, hh, hl, hall⟩ := h.pic H
  have SF := Yo7 H hn ok w hh
  obtain ⟨q2, d2, e2, _, _, _, hd64⟩ := Xor SF
  rw [hi] at e2
  injection e2 with e2
  injection e2 with e2 e3
  injection e3 with e3 _
  subst e2; subst e3
  have sw := Xcm H.hw
  have sh := Xcm H.hh
  obtain ⟨p1, p2, p3, p4, p5, p6, p7, p8, p9, p10⟩ := Ym5 H.hw H.hh n0 hn
  have hx : (l0 ++ ([q] ++ rest)).getD n0 Xgo = q := by rw [← hl]; exact Xm6 l0 q _ rest
  have hn2 : (l0 ++ ([q] ++ rest)).length = n0 + 1 + rest.length := by simp only [List.length_append, List.length_singleton, hl]; omega
  refine Xcz ?_
  unfold Xbd
  simp only [Int.toNat_natCast, hx]
  rw [syA, rqA, rqA, Xbn (a := src.Wide) (by omega), wkA (e := src.Wide / 8), rqA, rqA, rqA, Xb2 (a := (n0 : Int)) (by omega), Xbn (a := (n0 : Int)) (by omega), wkA (e := (n0 : Int) % (src.Wide / 8) * 8), wkA (e := (n0 : Int) / (src.Wide / 8)), wkA (e := (n0 : Int) / (src.Wide / 8) * 8), wkA (e := (n0 : Int) + 1), show (⟨now0.Wide, now0.High, now0.Dots⟩ : Pic) = now0 from rfl, show (⟨ref.Wide, ref.High, ref.Dots⟩ : Pic) = ref from rfl, show (⟨q.Kind, q.Mode, q.Dx, q.Dy, q.Levels⟩ : Xam) = q from rfl]
  have hd' : Xbz now0 ref 0 0 c ((n0 : Int) % (src.Wide / 8) * 8) ((n0 : Int) / (src.Wide / 8) * 8) q = some (d, true) := hd
  have hp' : Xgy now0 ((n0 : Int) % (src.Wide / 8) * 8) ((n0 : Int) / (src.Wide / 8) * 8) d = some now' := hp
  rw [hd', Xab]
  simp only
  rw [Bool.not_true, Xao, Yrc hd64 (by have := Xy9 ok; have hm : maxLen = 9223372036854775807 := rfl; omega), hp', Xab]
  rfl
theorem Ye1 {src ref : Pic} {c : Xeu} {r : Int} (H : Yr1 src ref c r) {l : List Xam} {now : Pic} (h : Xk0 src ref c r ((src.Wide / 8).toNat * (src.High / 8).toNat) l now) : Xcv ref ⟨0, 0, src.Wide, src.High⟩ c true l = some (now, true) := by
 obtain ⟨ok, w, hh, hl, hall⟩ := h.pic H
 obtain ⟨t1, t2, t3⟩ := Ydb H.hw H.hh
 have sw := Xcm H.hw
 have sh := Xcm H.hh
 have hb := h.back H [] (by rw [List.append_nil]; omega)
 rw [List.append_nil] at hb
 have hend : loop (Xbd ⟨0, 0, src.Wide, src.High⟩ c l (0, 0, ref.Wide, ref.High, ref.Dots)) ((((src.Wide / 8).toNat * (src.High / 8).toNat : Nat) : Int), now.Wide, now.High, now.Dots) = some (.out (now.Wide, now.High, now.Dots)) := by
  refine Xf9 ?_
  unfold Xbd
  rw [Xap (by simp only; omega)]
 unfold Xcv
 simp only
 rw [Xhd, Xab, H.hw, Xat, Xhd, Xab, H.hh, Xat, Xak, Xab, decide_eq_true (by omega), Xat, Xab, Xat, Xdk, Xab, H.hc, Xat, rqA, rqA, Xbn (a := src.Wide) (by omega), Xbn (a := src.High) (by omega), wkA (e := src.Wide / 8), wkA (e := src.High / 8), wkA (e := src.Wide / 8 * (src.High / 8)), show (((l.length : Nat) : Int) != src.Wide / 8 * (src.High / 8)) = false by rw [bne_eq_false_iff_eq]; omega, Xab, Xao]
 have e1 : (sel c.Key (some false) (bnd (Xbt ref) fun q8 => sel q8 (bnd (Xb9 ref ⟨0, 0, src.Wide, src.High⟩) fun q9 => some (!q9)) (some true))) = some false ∧ (sel true (sel (!c.Key) (bnd (Xo5 ref ⟨0, 0, src.Wide, src.High⟩) fun q11 => some ((0 : Int), (0 : Int), q11.1.Wide, q11.1.High, q11.1.Dots)) (some (0, 0, ref.Wide, ref.High, ref.Dots))) (some (0, 0, ref.Wide, ref.High, ref.Dots))) = some (0, 0, ref.Wide, ref.High, ref.Dots) := by
  cases hK : c.Key with
  | true => exact ⟨rfl, rfl⟩
  | false =>
   obtain ⟨a1, a2, a3⟩ := H.hk hK
   obtain ⟨b1, b2⟩ := Ygx a1
   rw [a2, a3] at b1 b2
   refine ⟨?_, ?_⟩
   ·
    rw [Xao, Xbj, Xab, a1, Xat, Xow a1, Xab, b1]; rfl
   ·
    rw [Xat, Bool.not_false, Xat, Ynv a1 b1, Xab, b2]
 rw [e1.1, Xab, Xao, e1.2, Xab, Xql _ _ (by omega) (by omega), Xab]
 simp only
 rw [hb, hend, Xab]
def Zds (t : Nat → Int) : Nat → Int
 | 0 => 0
 | k + 1 => Zds t k + t k
def eT (f : Nat → Int) (u : Nat) : Int := Zds (fun k => Xjk (u : Int) (k : Int) * f k) 8
def eS (X : Nat → Nat → Int) (u v : Nat) : Int := eT (fun i => eT (X i) v) u
def Yd3 (w h : Int) : Pic := ⟨w, h, strOfNums (List.replicate (w * h).toNat 128)⟩
def Yup (s : ByteArray) (i : Nat) : Int := 48 + (Xuh s ((i / 8 : Nat) : Int) / 2 ^ (7 - i % 8)) % 2
def Xtp (s : ByteArray) : List Int := (List.range (8 * s.size)).map (Yup s)
theorem Yyu : ∀ b : Fin 256, Xvq 8 (b.val : Int) = (List.range 8).map fun k => 48 + ((b.val : Int) / 2 ^ (7 - k)) % 2 := by decide +kernel
theorem Zd9 (b : Int) (h : 0 ≤ b ∧ b ≤ 255) : Xvq 8 b = (List.range 8).map fun k => 48 + (b / 2 ^ (7 - k)) % 2 := by
 have := Yyu ⟨b.toNat, by omega⟩
 simp only at this
 rwa [show ((b.toNat : Nat) : Int) = b by omega] at this
theorem Xvn (s : ByteArray) : (Xtp s).length = 8 * s.size := by simp [Xtp]
theorem Yp1 (s : ByteArray) {i : Nat} (h : i < 8 * s.size) : (Xtp s).getD i 0 = Yup s i := Xft _ h
theorem Yuq : ∀ b : Fin 256, ∀ k : Fin 8, Xaa .u8 (48 + (IntKind.wrap .u8 (BitVec.ofInt (IntKind.bits .u8) ((b.val : Int) / 2 ^ min (k.val) (IntKind.bits .u8)) &&& BitVec.ofInt (IntKind.bits .u8) 1).toNat)) = 48 + ((b.val : Int) / 2 ^ k.val) % 2 := by decide +kernel
theorem Zb7 (b : Int) (h : 0 ≤ b ∧ b ≤ 255) (k : Nat) (hk : k < 8) : Xaa .u8 (48 + (IntKind.wrap .u8 (BitVec.ofInt (IntKind.bits .u8) (b / 2 ^ min k (IntKind.bits .u8)) &&& BitVec.ofInt (IntKind.bits .u8) 1).toNat)) = 48 + (b / 2 ^ k) % 2 := by
 have := Yuq ⟨b.toNat, by omega⟩ ⟨k, hk⟩
 simp only at this
 rwa [show ((b.toNat : Nat) : Int) = b by omega] at this
theorem Xy6 (s : ByteArray) (hs : s.size ≤ 50001) : loop (Xey s) (0, []) = some (Xtp s) := by
 have hm : maxLen = 9223372036854775807 := rfl
 have := Yf6 (f := Xey s) (8 * s.size) (Yup s) [] (by
  intro i hi
  have hb := Xy5 s ((i / 8 : Nat) : Int)
  unfold Xey
  simp only
  rw [wkA (e := 8 * (s.size : Int)), syA, rqA, Xbn (by omega), wkA (e := (i : Int) / 8), rqA, rqA, Xb2 (by omega), wkA (e := 7 - (i : Int) % 8), rqA, show (7 - (i : Int) % 8).toNat = 7 - i % 8 by omega, show (i : Int) / 8 = ((i / 8 : Nat) : Int) by omega, Zb7 _ hb (7 - i % 8) (by omega), Xa2 (by simp only [List.length_append, List.length_nil, List.length_map, List.length_range, List.length_singleton]; omega), wkA (e := (i : Int) + 1)]
  rfl) (by unfold Xey; rw [wkA (e := 8 * (s.size : Int)), Xap (by simp)])
 rw [List.nil_append] at this
 exact this
theorem Yar {L : List Int} (hb : Xoo L) (hl : L.length ≤ 400000) (i : Nat) (hi : i ≤ L.length) : Xh4 (strOfNums L) (i : Int) = some ⟨strOfNums L, (i : Int), false⟩ := by
 unfold Xh4
 rw [Xzu L hb hl, Xab, Xat, Xak, Xab, strOfNums_size, decide_eq_true (by omega), Xab]
 rfl
theorem Xij (b : Int) (h : 3 ≤ b ∧ b ≤ 8) : 0 ≤ Xaa .u64 b ∧ Xaa .i64 (1 * 2 ^ min (Xaa .u64 b).toNat (IntKind.bits .i64)) = 2 ^ b.toNat ∧ Xaa .i64 (1 * 2 ^ min b.toNat (IntKind.bits .i64)) = 2 ^ b.toNat ∧ (2 : Int) ^ b.toNat ≤ 256 ∧ 8 ≤ (2 : Int) ^ b.toNat := by
 obtain h | h | h | h | h | h : b = 3 ∨ b = 4 ∨ b = 5 ∨ b = 6 ∨ b = 7 ∨ b = 8 := by omega
 all_goals (subst h; decide +kernel)
def Xze (q : Seq) (p : Par) (h : Ynb) : Bool := Xfs q && (Xlm p && (decide (0 ≤ h.Tile ∧ h.Tile < Xb7 q) && (decide (0 ≤ h.Frame ∧ h.Frame < 2 ^ q.Bits.toNat) && decide (0 ≤ h.Qp ∧ h.Qp ≤ 40))))
theorem Xi2 {q : Seq} (h : Xfs q = true) : 0 ≤ Xb7 q ∧ Xb7 q ≤ 1000000 := by
 obtain ⟨h1, h2, _⟩ := Xbe h
 unfold Xb7
 rw [if_pos h]
 have a := Xbl h1
 have b := Xbl h2
 have : (q.Cols.length : Int) * q.Rows.length ≤ 4 * 4 := Int.mul_le_mul (by omega) (by omega) (by omega) (by omega)
 exact ⟨Int.mul_nonneg (by omega) (by omega), by omega⟩
theorem Xw0 (q : Seq) (p : Par) (h : Ynb) (h1 : q.Cols.length ≤ maxLen) (h2 : q.Rows.length ≤ maxLen) : Xme q p h = some (Xze q p h) := by
 unfold Xme Xze
 rw [Xgt q h1 h2, Xab]
 cases hs : Xfs q with
 | false => rfl
 | true =>
  rw [Xat, Xin, Xab, Bool.true_and]
  cases hp : Xlm p with
  | false => rfl
  | true =>
   obtain ⟨_, _, b1, b2⟩ := Xbe hs
   obtain ⟨s1, s2, s3, s4, s5⟩ := Xij q.Bits ⟨b1, b2⟩
   have ht := Xi2 hs
   rw [Xat, Xh1 q h1 h2, Xab, Xak, Xab, wkA (e := Xb7 q - 1), Bool.true_and, rqA, s3, wkA (e := (2 : Int) ^ q.Bits.toNat - 1), Xak, Xab, Xak, Xab]
   have e1 : decide (0 ≤ h.Tile ∧ h.Tile ≤ Xb7 q - 1) = decide (0 ≤ h.Tile ∧ h.Tile < Xb7 q) := by rw [decide_eq_decide]; omega
   have e2 : decide (0 ≤ h.Frame ∧ h.Frame ≤ 2 ^ q.Bits.toNat - 1) = decide (0 ≤ h.Frame ∧ h.Frame < 2 ^ q.Bits.toNat) := by rw [decide_eq_decide]; omega
   rw [e1, e2, Xdf, Xdf, Xab]
theorem Yqt : ∀ (a : List Int) (x : Int), Xpz (a ++ [x]) = Xpz a + x
 | [], x => by simp [Xpz]
 | y :: a, x => by rw [List.cons_append, Xpz, Xpz, Yqt a x, Int.add_assoc]
theorem Yqu {l : List Int} : ∀ k : Nat, k < l.length → Xpz (l.take (k + 1)) = Xpz (l.take k) + l.getD k 0 := by
 intro k hk
 rw [List.take_add_one, List.getElem?_eq_getElem hk, Xb4 l k hk]
 exact Yqt _ _
theorem Xvm {l : List Int} (h : l.all Xew = true) {i : Nat} (hi : i < l.length) : 1 ≤ l.getD i 0 ∧ l.getD i 0 ≤ 8 := by
 have := List.all_eq_true.1 h (l.getD i 0) (by rw [Xb4 l i hi]; exact List.getElem_mem _)
 unfold Xew at this
 rwa [decide_eq_true_eq] at this
theorem Xqr {l : List Int} (h : l.all Xew = true) (hl : l.length ≤ 4) (i : Nat) : 0 ≤ Xpz (l.take i) ∧ Xpz (l.take i) ≤ 32 := by
 have := Xs4 (l := l.take i) (List.all_eq_true.2 fun x hx => List.all_eq_true.1 h x (List.mem_of_mem_take hx))
 rw [List.length_take] at this
 omega
theorem Yp0 {l : List Int} (h : l.all Xew = true) (hl : l.length ≤ 4) (k : Nat) (hk : k ≤ l.length) : Xrj l (k : Int) = some (Xpz (l.take k)) := by
 have key : ∀ i : Nat, i ≤ k → loop (Xiz l (k : Int)) (Xpz (l.take i), (i : Int)) = some (Xpz (l.take k)) := by
  refine Xgp _ (Xf9 (by unfold Xiz; rw [Xap (by simp)])) ?_
  intro i hi ih
  refine lgo ?_ ih
  have a := Xvm h (i := i) (by omega)
  have b := Xqr h hl i
  unfold Xiz
  simp only [Int.toNat_natCast]
  rw [syA, rqA, wkA (e := Xpz (l.take i) + l.getD i 0), wkA (e := (i : Int) + 1), Yqu i (by omega)]
  rfl
 exact Xge (key 0 (by omega))
theorem Yue {l : List Int} (h : l.all Xew = true) (hl : l.length ≤ 4) : Xcp l = some (Xpz l) := by
 have key : ∀ i : Nat, i ≤ l.length → loop (Xd4 l) (Xpz (l.take i), (i : Int)) = some (Xpz l) := by
  refine Xgp _ (Xf9 (by unfold Xd4; rw [Xap (by simp), List.take_length])) ?_
  intro i hi ih
  refine lgo ?_ ih
  have a := Xvm h (i := i) (by omega)
  have b := Xqr h hl i
  unfold Xd4
  simp only [Int.toNat_natCast]
  rw [syA, rqA, wkA (e := Xpz (l.take i) + l.getD i 0), wkA (e := (i : Int) + 1), Yqu i (by omega)]
  rfl
 exact Xge (key 0 (by omega))
theorem Yxf {l m : List Int} {b x : Nat} (h : b + m.length ≤ l.length) (hx : x < m.length) : (over l b (m.take x)).set (b + x) (m.getD x 0) = over l b (m.take (x + 1)) := by
 have h1 : b + (m.take x).length ≤ l.length := by rw [List.length_take]; omega
 have h2 : b + (m.take (x + 1)).length ≤ l.length := by rw [List.length_take]; omega
 apply List.ext_getElem?
 intro j
 rw [List.getElem?_set, Xs8 h1, Ygd h1, Ygd h2]
 simp only [List.length_take]
 by_cases hj : b + x = j
 ·
  subst hj
  rw [if_pos rfl, if_pos (by omega), if_pos (by omega), Xb4 m x hx, List.getElem?_take, if_pos (by omega), show b + x - b = x by omega, List.getElem?_eq_getElem hx]
 ·
  rw [if_neg hj]
  by_cases hin : b ≤ j ∧ j < b + x
  ·
   rw [if_pos (by omega), if_pos (by omega), List.getElem?_take, List.getElem?_take, if_pos (by omega), if_pos (by omega)]
  ·
   rw [if_neg (by omega), if_neg (by omega)]
theorem Yza (l : List Int) (b : Nat) : over l b [] = l := by
 unfold over
 rw [List.append_nil, List.length_nil, Nat.add_zero, List.take_append_drop]
theorem Yry (p0 p1 : Pic) (x y : Int) : ∃ (o : Pic) (b : Bool), Xmi p0 p1 x y = some (o, b) ∧ Xte p0 p1 x y = some (o, b) ∧ o.Wide = p0.Wide ∧ o.High = p0.High ∧ o.Dots.size = p0.Dots.size ∧ (b = false → o = p0) := by
 unfold Xmi Xte
 have hw := Xsl p0 ⟨x, y, p1.Wide, p1.High⟩
 simp only at hw
 rw [Xbj, Xab, Xc2, Xab, hw]
 cases ok1 : Xbx p1 with
 | false =>
  rw [Xao, Xab, Xat]
  refine ⟨p0, false, ?_, rfl, rfl, rfl, rfl, fun _ => rfl⟩
  cases Xbx p0 with
  | false => rfl
  | true => rw [Xat, Xbj, Xab, ok1]; rfl
 | true =>
  rw [Xat, Xab, Xab, Xbj, Xab, ok1]
  cases ok0 : Xbx p0 with
  | false => exact ⟨p0, false, rfl, rfl, rfl, rfl, rfl, fun _ => rfl⟩
  | true =>
   rw [Xat, Xat, Xow ok0, Xab]
   cases ho : Xno p0 ⟨x, y, p1.Wide, p1.High⟩ with
   | false => exact ⟨p0, false, rfl, rfl, rfl, rfl, rfl, fun _ => rfl⟩
   | true =>
    have hm : maxLen = 9223372036854775807 := rfl
    obtain ⟨k1, k2, k3⟩ := Xay ok0
    obtain ⟨g1, g2, g3⟩ := Xay ok1
    obtain ⟨a1, a2, a3, a4⟩ := Xhr ho
    simp only at a1 a2 a3 a4
    have ar := Xda k1 k2
    have ar1 := Xda g1 g2
    have hdl := Xy9 ok0
    unfold Xrz
    simp only [Bool.and_self, Bool.not_true, Xab, Xao]
    rw [rqA, rqA, Xab]
    -- places of a row
    have row : ∀ r : Nat, (r : Int) < p1.High → ∃ B S : Nat, (B : Int) = (y + (r : Int)) * p0.Wide + x ∧ B + p1.Wide.toNat ≤ p0.Dots.size ∧ (S : Int) = (r : Int) * p1.Wide ∧ S + p1.Wide.toNat ≤ p1.Dots.size ∧ ((r : Int) + 1) * p1.Wide = (S : Int) + p1.Wide ∧ 0 ≤ (y + (r : Int)) * p0.Wide := fun r hr => by
     have e1 : 0 ≤ (y + (r : Int)) * p0.Wide := Int.mul_nonneg (by omega) (by omega)
     have e2 : (y + (r : Int)) * p0.Wide ≤ (p0.High - 1) * p0.Wide := Int.mul_le_mul_of_nonneg_right (by omega) (by omega)
     have e3 : (p0.High - 1) * p0.Wide = p0.Wide * p0.High - p0.Wide := by rw [Int.sub_mul, Int.one_mul, Int.mul_comm]
     have f1 : 0 ≤ (r : Int) * p1.Wide := Int.mul_nonneg (by omega) (by omega)
     have f2 : (r : Int) * p1.Wide ≤ (p1.High - 1) * p1.Wide := Int.mul_le_mul_of_nonneg_right (by omega) (by omega)
     have f3 : (p1.High - 1) * p1.Wide = p1.Wide * p1.High - p1.Wide := by rw [Int.sub_mul, Int.one_mul, Int.mul_comm]
     have f4 : ((r : Int) + 1) * p1.Wide = (r : Int) * p1.Wide + p1.Wide := by rw [Int.add_mul, Int.one_mul]
     refine ⟨((y + (r : Int)) * p0.Wide + x).toNat, ((r : Int) * p1.Wide).toNat, by omega, by omega, by omega, by omega, by omega, e1⟩
    have hl : loop (Xm8 p0 p1 x y) (0, Xaz p0.Dots) = loop (Xch p0 p1 x y) (0, Xaz p0.Dots) := by
     refine Yos p1.High.toNat (fun _ s => s.length = p0.Dots.size) ?_ ?_ (Xbf _)
     ·
      intro r s hr hs
      unfold Xm8 Xch
      simp only
      by_cases hlt : (r : Int) < p1.High
      ·
       obtain ⟨B, S, b1, b2, b3, b4, b5, b6⟩ := row r hlt
       have hml : (Xaz (p1.Dots.extract S (S + p1.Wide.toNat))).length = p1.Wide.toNat := by rw [Xbf, ByteArray.size_extract]; omega
       have hin : loop (Xbk p0 p1 x y ((r : Int), s)) (0, s) = some (over s B (Xaz (p1.Dots.extract S (S + p1.Wide.toNat)))) := by
        obtain ⟨o, e, ho⟩ := Xfh (f := Xbk p0 p1 x y ((r : Int), s)) p1.Wide.toNat (fun k t => t = over s B ((Xaz (p1.Dots.extract S (S + p1.Wide.toNat))).take k)) (by
         intro k t hk ht
         subst ht
         have hol : (over s B ((Xaz (p1.Dots.extract S (S + p1.Wide.toNat))).take k)).length = s.length := Xs8 (by rw [List.length_take]; omega)
         have hbt : Xuh p1.Dots ((S : Int) + k) = (Xaz (p1.Dots.extract S (S + p1.Wide.toNat))).getD k 0 := by
          rw [Xmt _ k (by rw [ByteArray.size_extract]; omega)]
          unfold Xuh
          rw [dif_pos (show ((S : Int) + k).toNat < p1.Dots.size by omega), dif_pos (by rw [ByteArray.size_extract]; omega), ByteArray.getElem_extract]
          congr 2
         unfold Xbk
         simp only
         rw [syA, wkA (e := (r : Int) * p1.Wide), wkA (e := y + (r : Int)), wkA (e := (y + (r : Int)) * p0.Wide), wkA (e := (y + (r : Int)) * p0.Wide + x), ← b1, ← b3, wkA (e := (S : Int) + (k : Int)), wkA (e := (B : Int) + (k : Int)), rqA, rqA, rqA, wkA (e := (k : Int) + 1), hbt, show ((B : Int) + (k : Int)).toNat = B + k by omega]
         exact ⟨_, rfl, Yxf (by omega) (by omega)⟩) (fun t _ => by unfold Xbk; rw [Xap (by simp only; omega)]) s (by rw [List.take_zero, Yza])
        rw [e, ho, List.take_of_length_le (by omega)]
       rw [Xbh hlt, Xbh hlt, hin, Xab, wkA (e := y + (r : Int)), wkA (e := (y + (r : Int)) * p0.Wide), wkA (e := (y + (r : Int)) * p0.Wide + x), wkA (e := (r : Int) + 1), wkA (e := (r : Int) * p1.Wide), wkA (e := ((r : Int) + 1) * p1.Wide), b5, ← b1, ← b3, show (S : Int).toNat = S by omega, show (B : Int).toNat = B by omega, show ((S : Int) + p1.Wide).toNat = S + p1.Wide.toNat by omega, rqA, rqA, Xa2 (by rw [hml]; omega)]
      ·
       rw [Xap hlt, Xap hlt]
     ·
      intro r s v' hr hs he
      unfold Xch at he
      simp only at he
      by_cases hlt : (r : Int) < p1.High
      ·
       obtain ⟨B, S, b1, b2, b3, b4, b5, b6⟩ := row r hlt
       rw [Xbh hlt] at he
       obtain ⟨o, e, ho⟩ := Xfh (f := Xbk p0 p1 x y ((r : Int), s)) p1.Wide.toNat (fun k t => t.length = p0.Dots.size) (by
        intro k t hk ht
        unfold Xbk
        simp only
        rw [syA, wkA (e := (r : Int) * p1.Wide), wkA (e := y + (r : Int)), wkA (e := (y + (r : Int)) * p0.Wide), wkA (e := (y + (r : Int)) * p0.Wide + x), ← b1, ← b3, wkA (e := (S : Int) + (k : Int)), wkA (e := (B : Int) + (k : Int)), rqA, rqA, rqA, wkA (e := (k : Int) + 1)]
        exact ⟨_, rfl, by rw [List.length_set]; exact ht⟩) (fun t _ => by unfold Xbk; rw [Xap (by simp only; omega)]) s hs
       rw [e, Xab] at he
       injection he with he
       injection he with he
       subst he
       exact ⟨by simp only; rw [wkA]; rfl, by omega, ho⟩
      ·
       rw [Xap hlt] at he
       cases he
    obtain ⟨o, e, ho2⟩ := Xfh (f := Xch p0 p1 x y) p1.High.toNat (fun _ s => s.length = p0.Dots.size) (by
     intro r s hr hs
     obtain ⟨B, S, b1, b2, b3, b4, b5, b6⟩ := row r (by omega)
     obtain ⟨o, e, ho⟩ := Xfh (f := Xbk p0 p1 x y ((r : Int), s)) p1.Wide.toNat (fun k t => t.length = p0.Dots.size) (by
      intro k t hk ht
      unfold Xbk
      simp only
      rw [syA, wkA (e := (r : Int) * p1.Wide), wkA (e := y + (r : Int)), wkA (e := (y + (r : Int)) * p0.Wide), wkA (e := (y + (r : Int)) * p0.Wide + x), ← b1, ← b3, wkA (e := (S : Int) + (k : Int)), wkA (e := (B : Int) + (k : Int)), rqA, rqA, rqA, wkA (e := (k : Int) + 1)]
      exact ⟨_, rfl, by rw [List.length_set]; exact ht⟩) (fun t _ => by unfold Xbk; rw [Xap (by simp only; omega)]) s hs
     unfold Xch
     simp only
     rw [syA, e, Xab, wkA]
     exact ⟨_, rfl, ho⟩) (fun t _ => by unfold Xch; rw [Xap (by simp only; omega)]) (Xaz p0.Dots) (Xbf _)
    rw [hl, e, Xab]
    exact ⟨_, true, rfl, rfl, rfl, rfl, by rw [strOfNums_size]; exact ho2, fun h => by cases h⟩
def Xrf (p : Pic) : Bool := (p.Wide == 0) && ((p.High == 0) && ((p.Dots.size : Int) == 0))
theorem Yu2 (s : ByteArray) : (s.toList == (⟨#[]⟩ : ByteArray).toList) = ((s.size : Int) == 0) := by
 rw [Bool.eq_iff_iff, beq_iff_eq, beq_iff_eq, Ym8]
 constructor
 ·
  intro h; rw [h]; rfl
 ·
  intro h
  have := Xso s
  have hn : Xaz s = [] := List.length_eq_zero_iff.1 (by rw [Xbf]; omega)
  rw [hn] at this
  exact this.symm
def Yty (s : Seq) : Bool := (s.Level == 0) && ((s.Bits == 0) && (((s.Cols.length : Int) == 0) && ((s.Rows.length : Int) == 0)))
theorem Yio (s : Seq) : Xnx s = some (Yty s) := by
 unfold Xnx Yty
 cases (s.Level == 0) with
 | false => rfl
 | true =>
  cases (s.Bits == 0) with
  | false => rfl
  | true => cases ((s.Cols.length : Int) == 0) <;> rfl
def Yq5 (p : Par) : Bool := (p.Qp == 0) && ((p.Large == false) && ((p.Exact == false) && (p.Confined == false)))
def Xqd (d : Xa3) : Bool :=
 if d.HasSeq = true then
  Xfs d.Seq && ((if d.HasPar = true then Xlm d.Par else Yq5 d.Par && (decide (d.Got = 0) && !d.HasRef)) && (decide (-1 ≤ d.Frame ∧ d.Frame < 2 ^ d.Seq.Bits.toNat) && (decide (0 ≤ d.Got ∧ d.Got < Xb7 d.Seq) && ((if d.Got > 0 then !(d.Frame == -1) && Xja d.Now d.Seq else Xrf d.Now) && (if d.HasRef = true then Xja d.Ref d.Seq else Xrf d.Ref)))))
 else
  !d.HasPar && (!d.HasRef && (Yty d.Seq && (Yq5 d.Par && ((d.Frame == -1) && ((d.Got == 0) && (Xrf d.Now && Xrf d.Ref))))))
theorem Xot (d : Xa3) (h1 : d.Seq.Cols.length ≤ maxLen) (h2 : d.Seq.Rows.length ≤ maxLen) : Xo6 d = some (Xqd d) := by
 unfold Xo6 Xqd
 have hP : ((d.Par.Qp == 0) && ((d.Par.Large == false) && ((d.Par.Exact == false) && (d.Par.Confined == false)))) = Yq5 d.Par := rfl
 have hN : ((d.Now.Wide == 0) && ((d.Now.High == 0) && ((d.Now.Dots.size : Int) == 0))) = Xrf d.Now := rfl
 have hR : ((d.Ref.Wide == 0) && ((d.Ref.High == 0) && ((d.Ref.Dots.size : Int) == 0))) = Xrf d.Ref := rfl
 rw [hP]
 simp only [Yu2, hN, hR, Yio, Xuv _ _ h1 h2, Xgt _ h1 h2, Xin, Xh1 _ h1 h2, Xak, Xab]
 cases hS : d.HasSeq with
 | false =>
  rw [Bool.not_false, Xat, if_neg (by decide)]
  cases d.HasPar with
  | true => rfl
  | false =>
   cases d.HasRef with
   | true => rfl
   | false =>
    cases Yty d.Seq with
    | false => rfl
    | true =>
     cases Yq5 d.Par with
     | false => rfl
     | true =>
      cases (d.Frame == -1) with
      | false => rfl
      | true =>
       cases (d.Got == 0) with
       | false => rfl
       | true => cases Xrf d.Now <;> cases Xrf d.Ref <;> rfl
 | true =>
  rw [Bool.not_true, Xao, if_pos rfl]
  cases hs : Xfs d.Seq with
  | false => rfl
  | true =>
   obtain ⟨_, _, b1, b2⟩ := Xbe hs
   obtain ⟨s1, s2, s3, s4, s5⟩ := Xij d.Seq.Bits ⟨b1, b2⟩
   have ht := Xi2 hs
   rw [Xat, s3, Bool.true_and]
   generalize (2 : Int) ^ d.Seq.Bits.toNat = N at *
   generalize Xb7 d.Seq = T at *
   rw [wkA (e := N - 1), wkA (e := T - 1)]
   have e1 : decide (-1 ≤ d.Frame ∧ d.Frame ≤ N - 1) = decide (-1 ≤ d.Frame ∧ d.Frame < N) := by rw [decide_eq_decide]; omega
   have e2 : decide (0 ≤ d.Got ∧ d.Got ≤ T - 1) = decide (0 ≤ d.Got ∧ d.Got < T) := by rw [decide_eq_decide]; omega
   rw [e1, e2, rqA]
   have tailE : (bnd (sel (decide (-1 ≤ d.Frame ∧ d.Frame < N)) (some (!decide (0 ≤ d.Got ∧ d.Got < T))) (some true)) fun v6 => sel v6 (some false) (bnd (sel (decide (d.Got > 0)) (sel (d.Frame == (-1)) (some true) (sel (Xja d.Now d.Seq) (sel (d.Got == 0) (some (Xrf d.Now == false)) (some false)) (some true))) (sel (d.Got == 0) (some (Xrf d.Now == false)) (some false))) fun v10 => sel v10 (some false) (sel d.HasRef (some (Xja d.Ref d.Seq)) (some (Xrf d.Ref == true))))) = some (decide (-1 ≤ d.Frame ∧ d.Frame < N) && (decide (0 ≤ d.Got ∧ d.Got < T) && ((if d.Got > 0 then !(d.Frame == -1) && Xja d.Now d.Seq else Xrf d.Now) && (if d.HasRef = true then Xja d.Ref d.Seq else Xrf d.Ref)))) := by
    by_cases f1 : -1 ≤ d.Frame ∧ d.Frame < N
    ·
     rw [decide_eq_true f1, Bool.true_and, Xat, Xab]
     by_cases g1 : 0 ≤ d.Got ∧ d.Got < T
     ·
      rw [decide_eq_true g1, Bool.true_and, Bool.not_true, Xao]
      by_cases g3 : d.Got > 0
      ·
       rw [Xbh g3, if_pos g3, Xba (b := d.Got == 0) (by rw [beq_eq_false_iff_ne]; omega)]
       cases (d.Frame == -1) with
       | true => rfl
       | false =>
        cases Xja d.Now d.Seq with
        | false => rfl
        | true =>
         cases d.HasRef with
         | false => cases Xrf d.Ref <;> rfl
         | true => cases Xja d.Ref d.Seq <;> rfl
      ·
       rw [Xap g3, if_neg g3, Xbp (b := d.Got == 0) (by rw [beq_iff_eq]; omega)]
       cases Xrf d.Now with
       | false => rfl
       | true =>
        cases d.HasRef with
        | false => cases Xrf d.Ref <;> rfl
        | true => cases Xja d.Ref d.Seq <;> rfl
     ·
      rw [decide_eq_false g1, Bool.false_and]; rfl
    ·
     rw [decide_eq_false f1, Bool.false_and]; rfl
   cases hp : d.HasPar with
   | true =>
    rw [Xat, if_pos rfl]
    cases Xlm d.Par with
    | false => rfl
    | true =>
     rw [Xat, Xab, Xao, Bool.true_and]
     exact tailE
   | false =>
    rw [Xao, if_neg (by decide)]
    cases Yq5 d.Par with
    | false => rfl
    | true =>
     rw [show ((true : Bool) == false) = false from rfl, Xao]
     by_cases g0 : d.Got = 0
     ·
      rw [Xba (b := d.Got != 0) (by rw [bne_eq_false_iff_eq]; exact g0), decide_eq_true g0]
      cases hr : d.HasRef with
      | true => rfl
      | false =>
       rw [hr] at tailE
       rw [Xab, Xao]
       exact tailE
     ·
      rw [Xbp (b := d.Got != 0) (by rw [bne_iff_ne]; exact g0), decide_eq_false g0]
      rfl
theorem Xy8 (s : Seq) (h1 : s.Cols.length ≤ 1048576) (h2 : s.Rows.length ≤ 1048576) : Ydz s = some s ∧ Xkm s = some s := by
 have hm : maxLen = 9223372036854775807 := rfl
 constructor
 ·
  unfold Ydz
  rw [Xa2 (by simp only [List.length_nil]; omega), Xa2 (by simp only [List.length_nil]; omega)]
  rfl
 ·
  unfold Xkm Xd3
  rw [Xa2 (by simp only [List.length_nil]; omega), Xa2 (by simp only [List.length_nil]; omega), Xab, Xab]
  rfl
theorem Ywi {d : Xa3} (h : Xqd d = true) (hp : d.HasPar = true) : d.HasSeq = true := by
 unfold Xqd at h
 cases hs : d.HasSeq with
 | true => rfl
 | false =>
  rw [hs, if_neg (by decide), hp] at h
  simp at h
abbrev Zd8 := Int × Bool × Bool × Bool × Int × Int × Int × Bool × Bool × Bool × Int × Int × Int × Int × ByteArray × Int × Int × ByteArray × (List Pic) × (List Int) × (List Int) × (List Int)
def Zb1 (k : Int) (d : Xa3) (ps : List Pic) (cs : List Int) : Zd8 := (k, d.HasSeq, d.HasPar, d.HasRef, d.Seq.Level, d.Seq.Bits, d.Par.Qp, d.Par.Large, d.Par.Exact, d.Par.Confined, d.Frame, d.Got, d.Now.Wide, d.Now.High, d.Now.Dots, d.Ref.Wide, d.Ref.High, d.Ref.Dots, ps, cs, d.Seq.Cols, d.Seq.Rows)
theorem Ywl : ∀ n : Nat, ∀ c : List Int, c.length = n → Xoo c → Xvq n (Xqb c) = c
 | 0, c, h, _ => by rw [List.length_eq_zero_iff.1 h]; rfl
 | n + 1, c, h, hb => by
  have hne : c ≠ [] := fun e => by rw [e] at h; simp at h
  have hc := (List.dropLast_concat_getLast hne).symm
  have hl : c.dropLast.length = n := by rw [List.length_dropLast]; omega
  have ih := Ywl n c.dropLast hl (fun x hx => hb x (List.dropLast_subset c hx))
  have hx := hb _ (List.getLast_mem hne)
  generalize c.getLast hne = x at hc hx
  have hv : Xqb c = Xqb c.dropLast * 2 + (x - 48) := by
   rw [hc, Xrl, ← hc]
   show Xqb c.dropLast * 2 ^ 1 + Xqb [x] = _
   rw [show Xqb [x] = x - 48 by simp [Xqb], show (2 : Int) ^ 1 = 2 from rfl]
  rw [Xvq, hv, show (Xqb c.dropLast * 2 + (x - 48)) / 2 = Xqb c.dropLast by omega, show (48 : Int) + (Xqb c.dropLast * 2 + (x - 48)) % 2 = x by omega, ih]
  exact hc.symm
theorem Yp5 : ∀ (m : Nat) (V : List Int) (q : Nat), q < m → (Xg1 m V).getD q 0 = Xqb ((V.drop (8 * q)).take 8)
 | 0, _, _, h => by omega
 | m + 1, V, 0, _ => rfl
 | m + 1, V, q + 1, h => by
  rw [Xg1, List.getD_cons_succ, Yp5 m (V.drop 8) q (by omega), List.drop_drop, show 8 + 8 * q = 8 * (q + 1) by omega]
theorem Xxy : ∀ (m : Nat) (V : List Int), Xoo V → Yki (Xg1 m V)
 | 0, _, _ => fun x hx => by simp [Xg1] at hx
 | m + 1, V, h => fun x hx => by
  rw [Xg1] at hx
  rcases List.mem_cons.1 hx with rfl | hx
  ·
   have r := Ya9 (l := V.take 8) (fun x hx => h x (List.mem_of_mem_take hx))
   have h8 : (V.take 8).length ≤ 8 := by rw [List.length_take]; omega
   have hp : (2 : Int) ^ (V.take 8).length ≤ 2 ^ 8 := by
    have : ∀ k : Fin 9, (2 : Int) ^ k.val ≤ 2 ^ 8 := by decide
    exact this ⟨(V.take 8).length, by omega⟩
   have e8 : (2 : Int) ^ 8 = 256 := rfl
   omega
  ·
   exact Xxy m (V.drop 8) (fun x hx => h x (List.mem_of_mem_drop hx)) x hx
theorem Zaz (V : List Int) (a n k : Nat) (h : k < n) : ((V.drop a).take n).getD k 0 = V.getD (a + k) 0 := by
 rw [List.getD_eq_getElem?_getD, List.getD_eq_getElem?_getD, List.getElem?_take_of_lt h, List.getElem?_drop]
theorem Yym (V : List Int) (hb : Xoo V) (m : Nat) (hV : V.length = 8 * m) (i : Nat) (hi : i < 8 * m) : Yup (strOfNums (Xg1 m V)) i = V.getD i 0 := by
 have hc := Xxy m V hb
 unfold Yup
 rw [Xwu _ hc (i / 8) (by rw [Xro]; omega), Yp5 m V (i / 8) (by omega)]
 have h8 : ((V.drop (8 * (i / 8))).take 8).length = 8 := by rw [List.length_take, List.length_drop]; omega
 have hcb : Xoo ((V.drop (8 * (i / 8))).take 8) := fun x hx => hb x (List.mem_of_mem_drop (List.mem_of_mem_take hx))
 have hr := Ya9 hcb
 rw [h8] at hr
 have e8 : (2 : Int) ^ 8 = 256 := rfl
 have f1 := Ywl 8 _ h8 hcb
 rw [Zd9 _ ⟨hr.1, by omega⟩] at f1
 have f2 : (_ : Int) = _ := congrArg (fun l => List.getD l (i % 8) 0) f1
 rw [Xft _ (by omega), Zaz V _ _ _ (by omega), show 8 * (i / 8) + i % 8 = i by omega] at f2
 exact f2
theorem Zag (L : List Int) : ∃ z, L ++ 49 :: List.replicate (8 * (L.length / 8 + 1) - L.length - 1) 48 = L ++ 49 :: List.replicate z 48 ∧ z ≤ 7 ∧ L.length + 1 + z = 8 * (L.length / 8 + 1) := ⟨_, rfl, by omega, by omega⟩
theorem Ywa (L : List Int) (hb : Xoo L) : ∃ z, Xtp (strOfNums (Xwk L)) = L ++ 49 :: List.replicate z 48 ∧ L.length + 1 + z = 8 * (L.length / 8 + 1) := by
 obtain ⟨z, h1, h2, h3⟩ := Zag L
 refine ⟨z, ?_, h3⟩
 have hV : Xoo (L ++ 49 :: List.replicate z 48) := Xa8 hb (fun x hx => by
  rcases List.mem_cons.1 hx with rfl | hx
  ·
   exact .inr rfl
  ·
   exact Ynl z x hx)
 have hl : (L ++ 49 :: List.replicate z 48).length = 8 * (L.length / 8 + 1) := by
  rw [List.length_append, List.length_cons, List.length_replicate]; omega
 refine List.ext_getElem (by rw [Xvn, strOfNums_size, Xs9, hl]) fun i i1 i2 => ?_
 rw [Xvn, strOfNums_size, Xs9] at i1
 have e1 : (Xtp (strOfNums (Xwk L)))[i] = (Xtp (strOfNums (Xwk L))).getD i 0 := (Xb4 _ _ (by rw [Xvn, strOfNums_size, Xs9]; exact i1) 0).symm
 have e2 : (L ++ 49 :: List.replicate z 48)[i] = (L ++ 49 :: List.replicate z 48).getD i 0 := (Xb4 _ _ i2 0).symm
 rw [e1, e2, Yp1 _ (by rw [strOfNums_size, Xs9]; exact i1)]
 unfold Xwk
 rw [h1]
 exact Yym _ hV _ hl i i1
theorem Yyo : ∀ b : Fin 256, ∀ k : Fin 8, 48 + ((b.val : Int) / 2 ^ (7 - k.val)) % 2 = 49 → b.val ≠ 0 := by decide +kernel
theorem Yna (L : List Int) (hb : Xoo L) (hl : L.length ≤ 400000) : Xk3 (strOfNums (Xwk L)) = some (strOfNums L, true) := by
 obtain ⟨z, h1, h3⟩ := Ywa L hb
 have hs : (strOfNums (Xwk L)).size = L.length / 8 + 1 := by rw [strOfNums_size, Xs9]
 generalize hS : strOfNums (Xwk L) = s at h1 hs
 have k2 : (Xtp s).getD L.length 0 = 49 := by
  rw [h1]
  have := Yqg L (49 :: List.replicate z 48) 0
  rw [Nat.add_zero] at this
  rw [this]; rfl
 have k3 : ∀ j, L.length + 1 ≤ j → j < 8 * s.size → (Xtp s).getD j 0 = 48 := fun j j1 j2 => by
  rw [h1]
  have := Yqg L (49 :: List.replicate z 48) (j - L.length)
  rw [show L.length + (j - L.length) = j by omega] at this
  rw [this, show j - L.length = (j - L.length - 1) + 1 by omega, List.getD_cons_succ, Xb4 _ _ (by rw [List.length_replicate]; omega) 0, List.getElem_replicate]
 have hb0 := Xy5 s ((s.size : Int) - 1)
 have hz : (Xuh s ((s.size : Int) - 1) == 0) = false := by
  rw [beq_eq_false_iff_ne]
  intro h0
  have hk := k2
  rw [Yp1 s (by omega)] at hk
  unfold Yup at hk
  rw [show L.length / 8 = s.size - 1 by omega, show (((s.size - 1 : Nat)) : Int) = (s.size : Int) - 1 by omega, h0] at hk
  exact Yyo ⟨0, by omega⟩ ⟨L.length % 8, by omega⟩ hk rfl
 unfold Xk3
 rw [wkA (e := 8 * (s.size : Int)), Xba (b := (8 * (s.size : Int)) == 0) (by rw [beq_eq_false_iff_ne]; omega), wkA (e := (s.size : Int) - 1), Xa2 (show 0 ≤ (s.size : Int) - 1 ∧ (s.size : Int) - 1 < s.size by omega), hz, Xao, decide_eq_false (by omega), Xab, Xao, Xa2 (show 0 ≤ (0 : Int) ∧ (0 : Int) ≤ 8 * (s.size : Int) ∧ 8 * (s.size : Int) * 1 ≤ 281474976710656 by omega), show (List.replicate (0 : Int).toNat (0 : Int)) = [] from rfl, Xy6 s (by omega), Xab]
 have hbl := Xvn s
 have lI : loop (Xez (Xtp s)) (8 * (s.size : Int)) = some ((L.length + 1 : Nat) : Int) := by
  have key : ∀ m : Nat, L.length + 1 + m ≤ 8 * s.size → loop (Xez (Xtp s)) ((L.length + 1 + m : Nat) : Int) = some ((L.length + 1 : Nat) : Int) := by
   intro m
   induction m with
   | zero =>
    intro _
    refine Xf9 ?_
    unfold Xez
    rw [wkA, rqA, rqA, show (((L.length + 1 + 0 : Nat) : Int) - 1).toNat = L.length by omega, k2]
    rfl
   | succ m ih =>
    intro hm
    refine lgo ?_ (ih (by omega))
    unfold Xez
    rw [wkA, rqA, rqA, show (((L.length + 1 + (m + 1) : Nat) : Int) - 1).toNat = L.length + 1 + m by omega, k3 _ (by omega) (by omega), show ((L.length + 1 + (m + 1) : Nat) : Int) - 1 = ((L.length + 1 + m : Nat) : Int) by omega]
    rfl
  have := key (8 * s.size - (L.length + 1)) (by omega)
  rwa [show ((L.length + 1 + (8 * s.size - (L.length + 1)) : Nat) : Int) = 8 * (s.size : Int) by omega] at this
 rw [lI, Xab, wkA (e := ((L.length + 1 : Nat) : Int) - 1), show ((L.length + 1 : Nat) : Int) - 1 = (L.length : Int) by omega, snA, rqA, rqA]
 have ht : (Xtp s).take L.length = L := by rw [h1, List.take_left]
 simp only [Int.toNat_natCast, Int.toNat_zero, Nat.sub_zero, List.drop_zero]
 rw [ht]
theorem Yx7 {k : Int} (hk : Yal k = true) (L : List Int) (hb : Xoo L) : Yki (k :: Xwk L) := fun x hx => by
 have hi := Yi0 hk
 rcases List.mem_cons.1 hx with rfl | hx
 ·
  omega
 ·
  obtain ⟨z, h1, _, h3⟩ := Zag L
  unfold Xwk at hx
  rw [h1] at hx
  exact Xxy _ _ (Xa8 hb (fun y hy => by
   rcases List.mem_cons.1 hy with rfl | hy
   ·
    exact .inr rfl
   ·
    exact Ynl z y hy)) x hx
theorem Xue {k : Int} (hk : Yal k = true) (L : List Int) (hb : Xoo L) (hl : L.length ≤ 400000) : Xpq (strOfNums (k :: Xwk L)) = some (k, strOfNums L, true) := by
 have hby := Yx7 hk L hb
 have hsz : (strOfNums (k :: Xwk L)).size = L.length / 8 + 2 := by rw [strOfNums_size, List.length_cons, Xs9]
 have hne : ((strOfNums (k :: Xwk L)).toList == (⟨#[]⟩ : ByteArray).toList) = false := by
  rw [beq_eq_false_iff_ne]
  intro h
  rw [Ym8.1 h] at hsz
  have : (⟨#[]⟩ : ByteArray).size = 0 := rfl
  omega
 have b0 : Xuh (strOfNums (k :: Xwk L)) 0 = k := Xwu _ hby 0 (by simp)
 have hi := Yi0 hk
 have hx : (strOfNums (k :: Xwk L)).extract (1 : Int).toNat (((strOfNums (k :: Xwk L)).size : Int)).toNat = strOfNums (Xwk L) := by
  rw [show k :: Xwk L = [k] ++ Xwk L from rfl, ← Xef]
  have h1 : (strOfNums [k]).size = 1 := by rw [strOfNums_size]; rfl
  rw [ByteArray.size_append, h1]
  have : (1 : Int).toNat = (strOfNums [k]).size := by rw [h1]; rfl
  rw [this, show (((1 + (strOfNums (Xwk L)).size : Nat)) : Int).toNat = (strOfNums [k]).size + (strOfNums (Xwk L)).size by rw [h1]; omega]
  exact ByteArray.extract_append_eq_right rfl rfl
 have hiw : Xaa .i64 k = k := wkA
 have r0 : ∀ {β : Type} (x : Option β), req (0 ≤ (0 : Int) ∧ (0 : Int) < ((strOfNums (k :: Xwk L)).size : Int)) x = x := fun x => rqA
 have r1 : ∀ {β : Type} (x : Option β), req (0 ≤ (1 : Int) ∧ (1 : Int) ≤ ((strOfNums (k :: Xwk L)).size : Int) ∧ ((strOfNums (k :: Xwk L)).size : Int) ≤ ((strOfNums (k :: Xwk L)).size : Int)) x = x := fun x => rqA
 unfold Xpq
 rw [hne, Xao]
 simp only [r0, r1, b0, hiw, Xxf, hk, Xab, Bool.not_true, Xao, hx, Yna L hb hl]
theorem Ypl : ∀ (w : Nat) (n : Int), 0 ≤ n → n < 2 ^ w → Xqb (Xvq w n) = n
 | 0, n, h0, h1 => by
  have : (2 : Int) ^ 0 = 1 := rfl
  rw [show n = 0 by omega]; rfl
 | w + 1, n, h0, h1 => by
  rw [Int.pow_succ] at h1
  rw [Xvq, Xrl, Ypl w (n / 2) (by omega) (by omega)]
  show n / 2 * 2 ^ 1 + Xqb [48 + n % 2] = n
  rw [show Xqb [48 + n % 2] = n % 2 from (by simp only [Xqb, List.foldl_cons, List.foldl_nil]; omega), show (2 : Int) ^ 1 = 2 from rfl]
  omega
theorem Ytr {L : List Int} (hb : Xoo L) (hl : L.length ≤ 400000) (q1 : Int × Xnn) (l : List Int) (ha : l.all Xew = true) (h4 : l.length ≤ 4) (hq : q1.1 = (l.length : Int)) (b : List Int) : ∀ (r pre a : List Int), l = pre ++ r → L = a ++ (Yuh r ++ b) → loop (Xf4 q1) ((pre.length : Int), strOfNums L, (a.length : Int), false, pre) = some (l, strOfNums L, ((a.length + (Yuh r).length : Nat) : Int), false)
 | [], pre, a, h1, h2 => by
  refine Xf9 ?_
  rw [List.append_nil] at h1
  unfold Xf4
  simp only
  rw [hq, h1, snA, Xab, Xao]
  rfl
 | x :: r, pre, a, h1, h2 => by
  have hm : maxLen = 9223372036854775807 := rfl
  have hlen : l.length = pre.length + (r.length + 1) := by rw [h1]; simp
  have hx : Xew x = true := List.all_eq_true.1 ha x (by rw [h1]; simp)
  have hx : 1 ≤ x ∧ x ≤ 8 := by simpa [Xew] using hx
  rw [Yuh, List.append_assoc] at h2
  have e := Xiv h2 hb hl (by omega)
  have ih := Ytr hb hl q1 l ha h4 hq b r (pre ++ [x]) (a ++ ueL x.toNat) (by rw [h1]; simp) (by rw [h2]; simp only [List.append_assoc])
  refine lgo ?_ (ih.trans ?_)
  ·
   unfold Xf4
   simp only
   rw [hq, syA, Bool.not_false, Xab, Xat, e, Xab]
   simp only
   rw [Xa2 (by simp only [List.length_singleton]; omega), wkA, List.length_append, List.length_append, List.length_singleton, show ((x.toNat : Nat) : Int) = x by omega]
   rfl
  ·
   rw [Yuh, List.length_append, List.length_append, Nat.add_assoc]
theorem Ydv {L a b l : List Int} (hL : L = a ++ (Xsa l ++ b)) (hb : Xoo L) (hl : L.length ≤ 400000) (ho : Xen l = true) : Xhg ⟨strOfNums L, (a.length : Int), false⟩ = some (l, ⟨strOfNums L, ((a.length + (Xsa l).length : Nat) : Int), false⟩) := by
 have h4 := Xbl ho
 unfold Xen at ho
 rw [Bool.and_eq_true] at ho
 unfold Xsa at hL ⊢
 rw [List.append_assoc] at hL
 have e := Xiv hL hb hl (by omega)
 unfold Xhg
 rw [e, Xab]
 simp only
 rw [snA, Xab]
 have := Ytr hb hl ((l.length : Int), ⟨strOfNums L, ((a.length + (ueL l.length).length : Nat) : Int), false⟩) l ho.2 h4.2 rfl b l [] (a ++ ueL l.length) rfl (by rw [hL]; simp only [List.append_assoc])
 rw [List.length_append] at this
 refine (Xge this).trans ?_
 rw [List.length_append, Nat.add_assoc]
theorem Ym1 {s : Seq} (h : Xfs s = true) : (Yba s).length ≤ 400000 := by have := Yt7 h; omega
theorem Ynd {s : Seq} (h : Xfs s = true) : Xnt (strOfNums (Yba s)) 0 = some (s, ((Yba s).length : Int), true) := by
 have hm : maxLen = 9223372036854775807 := rfl
 have hb := Yo6 s
 have hl := Ym1 h
 obtain ⟨s1, s2, b1, b2⟩ := Xbe h
 have lv := Xyt h
 have c1 := Xbl s1
 have c2 := Xbl s2
 have p1 : Yba s = [] ++ (ueL s.Level.toNat ++ (Xvq 4 s.Bits ++ Xsa s.Cols ++ Xsa s.Rows)) := by unfold Yba; simp only [List.nil_append, List.append_assoc]
 have p2 : Yba s = ueL s.Level.toNat ++ (Xvq 4 s.Bits ++ (Xsa s.Cols ++ Xsa s.Rows)) := by unfold Yba; simp only [List.append_assoc]
 have p3 : Yba s = (ueL s.Level.toNat ++ Xvq 4 s.Bits) ++ (Xsa s.Cols ++ Xsa s.Rows) := by unfold Yba; simp only [List.append_assoc]
 have p4 : Yba s = (ueL s.Level.toNat ++ Xvq 4 s.Bits ++ Xsa s.Cols) ++ (Xsa s.Rows ++ []) := by unfold Yba; simp only [List.append_assoc, List.append_nil]
 have hlen : (Yba s).length = (ueL s.Level.toNat).length + 4 + (Xsa s.Cols).length + (Xsa s.Rows).length := by unfold Yba; simp only [List.length_append, Xc8]
 generalize Yba s = L at *
 have e1 := Xiv p1 hb hl (by omega)
 have e2 := Xkd p2 hb hl (by rw [Xc8]; omega)
 have e3 := Ydv p3 hb hl s1
 have e4 := Ydv p4 hb hl s2
 rw [Xc8, Ypl 4 s.Bits (by omega) (by have : (2 : Int) ^ 4 = 16 := rfl; omega)] at e2
 rw [List.length_append, Xc8] at e3
 rw [List.length_append, List.length_append, Xc8] at e4
 rw [List.length_nil, Nat.zero_add] at e1
 have o := Yar hb hl 0 (by omega)
 unfold Xnt
 rw [show (0 : Int) = ((0 : Nat) : Int) from rfl, o, Xab, e1, Xab]
 simp only
 rw [show (4 : Int) = ((4 : Nat) : Int) from rfl, e2, Xab]
 simp only
 rw [e3, Xab]
 simp only
 rw [e4, Xab]
 simp only
 rw [Xao, show ((s.Level.toNat : Nat) : Int) = s.Level by omega, show (⟨s.Level, s.Bits, s.Cols, s.Rows⟩ : Seq) = s from rfl, Xgt _ (by omega) (by omega), Xab, h, Xab, hlen]
 rfl
theorem Yzl (b : Bool) : Xqb (Xrh b) = if b = true then 1 else 0 := by cases b <;> rfl
theorem Ync {p : Par} (h : Xlm p = true) : Xns (strOfNums (Yge p)) 0 = some (p, 9, true) := by
 have hb := Yoy p
 have hl9 := Ygf p
 have hl : (Yge p).length ≤ 400000 := by omega
 have hq := Yas h
 have p1 : Yge p = [] ++ (Xvq 6 p.Qp ++ (Xrh p.Large ++ Xrh p.Exact ++ Xrh p.Confined)) := by unfold Yge; simp only [List.nil_append, List.append_assoc]
 have p2 : Yge p = Xvq 6 p.Qp ++ (Xrh p.Large ++ (Xrh p.Exact ++ Xrh p.Confined)) := by unfold Yge; simp only [List.append_assoc]
 have p3 : Yge p = (Xvq 6 p.Qp ++ Xrh p.Large) ++ (Xrh p.Exact ++ Xrh p.Confined) := by unfold Yge; simp only [List.append_assoc]
 have p4 : Yge p = (Xvq 6 p.Qp ++ Xrh p.Large ++ Xrh p.Exact) ++ (Xrh p.Confined ++ []) := by unfold Yge; simp only [List.append_assoc, List.append_nil]
 generalize Yge p = L at *
 have e1 := Xkd p1 hb hl (by rw [Xc8]; omega)
 have e2 := Xkd p2 hb hl (by rw [Xn2]; omega)
 have e3 := Xkd p3 hb hl (by rw [Xn2]; omega)
 have e4 := Xkd p4 hb hl (by rw [Xn2]; omega)
 simp only [List.length_append, Xc8, Xn2, Yzl, List.length_nil] at e1 e2 e3 e4
 rw [Ypl 6 p.Qp (by omega) (by have : (2 : Int) ^ 6 = 64 := rfl; omega)] at e1
 have o := Yar hb hl 0 (by omega)
 unfold Xns
 rw [show (0 : Int) = ((0 : Nat) : Int) from rfl, o, Xab, show (6 : Int) = ((6 : Nat) : Int) from rfl, e1, Xab]
 simp only
 rw [show (1 : Int) = ((1 : Nat) : Int) from rfl, e2, Xab]
 simp only
 rw [e3, Xab]
 simp only
 rw [e4, Xab]
 simp only
 have hbit : ∀ b : Bool, ((if b = true then (1 : Int) else 0) == ((1 : Nat) : Int)) = b := fun b => by cases b <;> rfl
 rw [hbit, hbit, hbit, Xao, show (⟨p.Qp, p.Large, p.Exact, p.Confined⟩ : Par) = p from rfl, Xin, Xab, h, Xab]
 rfl
def Xx3 (q : Seq) (p : Par) (h : Ynb) : List Int := ueL h.Tile.toNat ++ Xvq q.Bits.toNat h.Frame ++ seL (h.Qp - p.Qp)
theorem Yws (q : Seq) (p : Par) (h : Ynb) : Xoo (Xx3 q p h) := Xa8 (Xa8 (Xgz _) (Yf8 _ _)) (Xgz _)
theorem Xul {q : Seq} {p : Par} {h : Ynb} (hh : Xze q p h = true) : Xfs q = true ∧ Xlm p = true ∧ (0 ≤ h.Tile ∧ h.Tile < Xb7 q) ∧ (0 ≤ h.Frame ∧ h.Frame < 2 ^ q.Bits.toNat) ∧ (0 ≤ h.Qp ∧ h.Qp ≤ 40) := by
 unfold Xze at hh
 simp only [Bool.and_eq_true, decide_eq_true_eq] at hh
 exact hh
theorem Ywt {q : Seq} {p : Par} {h : Ynb} (hh : Xze q p h = true) : (Xx3 q p h).length ≤ 200 := by
 obtain ⟨hs, hp, ht, hf, hq⟩ := Xul hh
 obtain ⟨_, _, b1, b2⟩ := Xbe hs
 have hr := Xi2 hs
 have pq := Yas hp
 have u := Xfq h.Tile.toNat (by omega)
 have z := Xtb (h.Qp - p.Qp) (by omega)
 unfold Xx3
 simp only [List.length_append, Xc8]
 omega
theorem Yke {q : Seq} {p : Par} {h : Ynb} {L R : List Int} (hh : Xze q p h = true) (hL : L = Xx3 q p h ++ R) (hb : Xoo L) (hl : L.length ≤ 400000) : Xip q p (strOfNums L) = some (h, ((Xx3 q p h).length : Int), true) := by
 have hm : maxLen = 9223372036854775807 := rfl
 obtain ⟨hs, hp, ht, hf, hq⟩ := Xul hh
 obtain ⟨s1, s2, b1, b2⟩ := Xbe hs
 obtain ⟨_, _, _, w4, _⟩ := Xij q.Bits ⟨b1, b2⟩
 have hr := Xi2 hs
 have pq := Yas hp
 have c1 := Xbl s1
 have c2 := Xbl s2
 have p1 : L = [] ++ (ueL h.Tile.toNat ++ (Xvq q.Bits.toNat h.Frame ++ seL (h.Qp - p.Qp) ++ R)) := by rw [hL]; unfold Xx3; simp only [List.nil_append, List.append_assoc]
 have p2 : L = ueL h.Tile.toNat ++ (Xvq q.Bits.toNat h.Frame ++ (seL (h.Qp - p.Qp) ++ R)) := by rw [hL]; unfold Xx3; simp only [List.append_assoc]
 have p3 : L = (ueL h.Tile.toNat ++ Xvq q.Bits.toNat h.Frame) ++ (seL (h.Qp - p.Qp) ++ R) := by rw [hL]; unfold Xx3; simp only [List.append_assoc]
 have e1 := Xiv p1 hb hl (by omega)
 have e2 := Xkd p2 hb hl (by rw [Xc8]; omega)
 have e3 := Xv2 p3 hb hl (by omega)
 rw [Xc8, Ypl _ h.Frame hf.1 hf.2] at e2
 rw [List.length_append, Xc8] at e3
 rw [List.length_nil, Nat.zero_add] at e1
 have hlen : (Xx3 q p h).length = (ueL h.Tile.toNat).length + q.Bits.toNat + (seL (h.Qp - p.Qp)).length := by unfold Xx3; simp only [List.length_append, Xc8]
 have o := Yar hb hl 0 (by omega)
 unfold Xip
 rw [show (0 : Int) = ((0 : Nat) : Int) from rfl, o, Xab, Xgt _ (by omega) (by omega), Xab, hs, Xat, Xin, Xab, hp, Xab, Bool.not_true, Xao, e1, Xab]
 simp only
 rw [show q.Bits = ((q.Bits.toNat : Nat) : Int) by omega, e2, Xab]
 simp only
 rw [e3, Xab]
 simp only
 rw [Xao, wkA, show h.Qp - p.Qp + p.Qp = h.Qp by omega, show ((h.Tile.toNat : Nat) : Int) = h.Tile by omega, show (⟨h.Tile, h.Frame, h.Qp⟩ : Ynb) = h from rfl, Xw0 _ _ _ (by omega) (by omega), Xab, hh, Xab, hlen]
 rfl
theorem Ypw {l : List Xam} {c : Xeu} {A L : List Int} (hs : Yme l c = true) (hc : Xho c = true) (hl : 1 ≤ l.length ∧ l.length ≤ 64) (hL : L = A ++ Xn8 l c) (hb : Xoo L) (hL4 : L.length ≤ 400000) : Xiq (strOfNums L) (A.length : Int) (l.length : Int) c = some (l, true) := by
 have hm : maxLen = 9223372036854775807 := rfl
 have key : ∀ (r pre : List Xam) (a : List Int), l = pre ++ r → L = a ++ Xn8 r c → loop (Xg3 (l.length : Int) c) ((pre.length : Int), strOfNums L, (a.length : Int), false, pre) = some (.out (strOfNums L, (L.length : Int), false, l)) := by
  intro r
  induction r with
  | nil =>
   intro pre a h1 h2
   refine Xf9 ?_
   rw [List.append_nil] at h1
   rw [Xn8, List.append_nil] at h2
   unfold Xg3
   simp only
   rw [Xap (by rw [h1]; omega), h1, h2]
  | cons s r ih =>
   intro pre a h1 h2
   have hlen : l.length = pre.length + (r.length + 1) := by rw [h1]; simp
   have hmem : s ∈ l := by rw [h1]; simp
   have hq := List.all_eq_true.1 hs s hmem
   simp only [Bool.and_eq_true] at hq
   obtain ⟨q1, q2, q3⟩ := hq
   rw [Xn8] at h2
   have hsc := Ylp h2 hb hL4 q1 q3
   have := ih (pre ++ [s]) (a ++ sqL s c) (by rw [h1]; simp) (by rw [h2]; simp only [List.append_assoc])
   refine lgo ?_ this
   unfold Xg3
   simp only
   rw [syA, hsc, Xab]
   simp only
   rw [Xa2 (by simp only [List.length_singleton]; omega), Xao, wkA, List.length_append, List.length_append, List.length_singleton]
   rfl
 have := key l [] A rfl hL
 have hA : A.length ≤ L.length := by rw [hL, List.length_append]; omega
 unfold Xiq
 rw [Yar hb hL4 A.length hA, Xab, Xak, Xab, decide_eq_true (by omega), Xat, Xdk, Xab, hc, Xab, Bool.not_true, Xao]
 refine (Xge this).trans ?_
 simp only
 rw [strOfNums_size, bne_self_eq_false, Xao]
abbrev Xu2 : Pic := ⟨0, 0, ⟨#[]⟩⟩
theorem Ywh {d : Xa3} (hd : Xqd d = true) (hp : d.HasPar = true) : d.HasSeq = true ∧ Xfs d.Seq = true ∧ Xlm d.Par = true ∧ (-1 ≤ d.Frame ∧ d.Frame < 2 ^ d.Seq.Bits.toNat) ∧ (0 ≤ d.Got ∧ d.Got < Xb7 d.Seq) ∧ (0 < d.Got → d.Frame ≠ -1 ∧ Xja d.Now d.Seq = true) ∧ (d.Got = 0 → Xrf d.Now = true) ∧ (d.HasRef = true → Xja d.Ref d.Seq = true) ∧ (d.HasRef = false → Xrf d.Ref = true) := by
 have hs := Ywi hd hp
 unfold Xqd at hd
 rw [if_pos hs, if_pos hp] at hd
 simp only [Bool.and_eq_true, decide_eq_true_eq] at hd
 obtain ⟨a, b, c, g, n, r⟩ := hd
 refine ⟨hs, a, b, c, g, ?_, ?_, ?_, ?_⟩
 ·
  intro h
  rw [if_pos h] at n
  simpa using n
 ·
  intro h
  rw [if_neg (by omega)] at n
  exact n
 ·
  intro h
  rw [if_pos h] at r
  exact r
 ·
  intro h
  rw [if_neg (by rw [h]; decide)] at r
  exact r
theorem Ytd {d : Xa3} (h1 : d.HasSeq = true) (h2 : d.HasPar = true) (h3 : Xfs d.Seq = true) (h4 : Xlm d.Par = true) (h5 : -1 ≤ d.Frame ∧ d.Frame < 2 ^ d.Seq.Bits.toNat) (h6 : 0 ≤ d.Got ∧ d.Got < Xb7 d.Seq) (h7 : 0 < d.Got → d.Frame ≠ -1 ∧ Xja d.Now d.Seq = true) (h8 : d.Got = 0 → Xrf d.Now = true) (h9 : d.HasRef = true → Xja d.Ref d.Seq = true) (h10 : d.HasRef = false → Xrf d.Ref = true) : Xqd d = true := by
 unfold Xqd
 rw [if_pos h1, if_pos h2, h3, h4, decide_eq_true h5, decide_eq_true h6]
 simp only [Bool.true_and, Bool.and_eq_true]
 constructor
 ·
  by_cases g : d.Got > 0
  ·
   rw [if_pos g]
   obtain ⟨a, b⟩ := h7 g
   rw [b]; simpa using a
  ·
   rw [if_neg g]
   exact h8 (by omega)
 ·
  cases hr : d.HasRef with
  | true => rw [if_pos rfl]; exact h9 hr
  | false => rw [if_neg (by decide)]; exact h10 hr
theorem Ytz {b : Nat} (h : 8 ≤ (2 : Int) ^ b) : (2 : Int) ^ b ≠ 0 := by
 generalize (2 : Int) ^ b = N at h ⊢
 omega
theorem Yxg {b : Nat} (h : 8 ≤ (2 : Int) ^ b) : 0 < (2 : Int) ^ b := by
 generalize (2 : Int) ^ b = N at h ⊢
 omega
theorem Xx2 {b : Nat} {f : Int} (h : (2 : Int) ^ b ≤ 256) (h1 : f < 2 ^ b) : f ≤ 255 := by
 generalize (2 : Int) ^ b = N at h h1
 omega
theorem Za5 : Xrf Xu2 = true := rfl
theorem Xph {p : Pic} {s : Seq} (h : Xja p s = true) : Xbx p = true ∧ p.Wide = (Xke s).1 ∧ p.High = (Xke s).2 := by
 unfold Xja at h
 simp only [Bool.and_eq_true, beq_iff_eq] at h
 exact h
theorem Ywk {p : Pic} {s : Seq} (h1 : Xbx p = true) (h2 : p.Wide = (Xke s).1) (h3 : p.High = (Xke s).2) : Xja p s = true := by
 unfold Xja
 simp only [Bool.and_eq_true, beq_iff_eq]
 exact ⟨h1, h2, h3⟩
theorem Zbh {s : Seq} (h : Xfs s = true) : Xke s = (8 * Xpz s.Cols, 8 * Xpz s.Rows) ∧ (1 ≤ Xpz s.Cols ∧ Xpz s.Cols ≤ 32) ∧ (1 ≤ Xpz s.Rows ∧ Xpz s.Rows ≤ 32) := by
 obtain ⟨s1, s2, _⟩ := Xbe h
 exact ⟨by unfold Xke; rw [if_pos h], Ycm s1, Ycm s2⟩
theorem Yu7 (w h : Int) : (Yd3 w h).Wide = w := rfl
theorem Yu6 (w h : Int) : (Yd3 w h).High = h := rfl
theorem Yp7 {q : Seq} (h : Xfs q = true) : Xqd ⟨true, false, false, q, ⟨0, false, false, false⟩, -1, 0, Xu2, Xu2⟩ = true := by
 obtain ⟨_, _, b1, b2⟩ := Xbe h
 obtain ⟨_, _, _, _, z5⟩ := Xij q.Bits ⟨b1, b2⟩
 have tr := Xyy h
 have ht : Xb7 q = (q.Cols.length : Int) * q.Rows.length := by unfold Xb7; rw [if_pos h]
 have p := Yxg z5
 unfold Xqd
 simp only [if_pos, h]
 generalize (2 : Int) ^ q.Bits.toNat = N at p
 rw [decide_eq_true (show (-1 : Int) ≤ -1 ∧ (-1 : Int) < N by omega), decide_eq_true (show (0 : Int) ≤ 0 ∧ (0 : Int) < Xb7 q by omega)]
 rfl
theorem Yuz : Xqd ⟨false, false, false, ⟨0, 0, [], []⟩, ⟨0, false, false, false⟩, -1, 0, Xu2, Xu2⟩ = true := rfl
theorem Yp6 {d : Xa3} (hd : Xqd d = true) (hs : d.HasSeq = true) (g : ¬ d.Got > 0) {p : Par} (hp : Xlm p = true) : Xqd ⟨true, true, d.HasRef, d.Seq, p, d.Frame, d.Got, d.Now, d.Ref⟩ = true := by
 unfold Xqd at hd
 rw [if_pos hs] at hd
 simp only [Bool.and_eq_true, decide_eq_true_eq] at hd
 obtain ⟨a, _, f, g0, n, r⟩ := hd
 rw [if_neg g] at n
 refine Ytd rfl rfl a hp f g0 (fun h => absurd h g) (fun _ => n) ?_ ?_
 ·
  intro h
  rw [if_pos h] at r
  exact r
 ·
  intro h
  rw [if_neg (by rw [h]; decide)] at r
  exact r
def Yrf (q : Seq) (x y : Nat) : Xyz := ⟨8 * Xpz (q.Cols.take x), 8 * Xpz (q.Rows.take y), 8 * q.Cols.getD x 0, 8 * q.Rows.getD y 0⟩
theorem Ydg {q : Seq} (hs : Xfs q = true) (h1 : q.Cols.length ≤ maxLen) (h2 : q.Rows.length ≤ maxLen) (t : Int) (ht : 0 ≤ t ∧ t < Xb7 q) : ∃ x y : Nat, (x : Int) = t % (q.Cols.length : Int) ∧ (y : Int) = t / (q.Cols.length : Int) ∧ x < q.Cols.length ∧ y < q.Rows.length ∧ Xir q t = some (Yrf q x y, true) ∧ Xtk q t = some (Yrf q x y, true) ∧ (1 ≤ q.Cols.getD x 0 ∧ q.Cols.getD x 0 ≤ 8) ∧ (1 ≤ q.Rows.getD y 0 ∧ q.Rows.getD y 0 ≤ 8) := by
 have hr := Xi2 hs
 have hto : Xb7 q = (q.Cols.length : Int) * q.Rows.length := by unfold Xb7; rw [if_pos hs]
 obtain ⟨s1, s2, _⟩ := Xbe hs
 have c1 := Xbl s1
 have c2 := Xbl s2
 unfold Xen at s1 s2
 rw [Bool.and_eq_true] at s1 s2
 have m0 := Int.emod_nonneg t (show (q.Cols.length : Int) ≠ 0 by omega)
 have m1 := Int.emod_lt_of_pos t (show 0 < (q.Cols.length : Int) by omega)
 have d0 : 0 ≤ t / (q.Cols.length : Int) := Int.ediv_nonneg ht.1 (by omega)
 have d1 : t / (q.Cols.length : Int) < q.Rows.length := Int.ediv_lt_of_lt_mul (by omega) (by rw [Int.mul_comm, ← hto]; exact ht.2)
 have ex : ∃ x y : Nat, (x : Int) = t % (q.Cols.length : Int) ∧ (y : Int) = t / (q.Cols.length : Int) := ⟨(t % (q.Cols.length : Int)).toNat, (t / (q.Cols.length : Int)).toNat, by omega, by omega⟩
 obtain ⟨x, y, hx, hy⟩ := ex
 have tm : t.tmod (q.Cols.length : Int) = (x : Int) := by rw [Xb2 ht.1]; exact hx.symm
 have td : Xaa .i64 (t.tdiv (q.Cols.length : Int)) = (y : Int) := by rw [Xbn ht.1, ← hy, wkA]
 have bx := Xqr s1.2 c1.2 x
 have by_ := Xqr s2.2 c2.2 y
 have gx := Xvm s1.2 (i := x) (by omega)
 have gy := Xvm s2.2 (i := y) (by omega)
 refine ⟨x, y, hx, hy, by omega, by omega, ?_, ?_, gx, gy⟩
 ·
  unfold Xir
  rw [Xh1 q h1 h2, Xab, wkA (e := Xb7 q - 1), Xak, Xab, decide_eq_true (by omega), Bool.not_true, Xao, rqA, tm, td, rqA, rqA]
  simp only [Int.toNat_natCast]
  rw [show (0 : Int).toNat = 0 from rfl, List.drop_zero, List.drop_zero, Nat.sub_zero, Nat.sub_zero, Yue (List.all_eq_true.2 fun z hz => List.all_eq_true.1 s1.2 z (List.mem_of_mem_take hz)) (by rw [List.length_take]; omega), Xab, rqA, Yue (List.all_eq_true.2 fun z hz => List.all_eq_true.1 s2.2 z (List.mem_of_mem_take hz)) (by rw [List.length_take]; omega), Xab, rqA, rqA, wkA (e := 8 * Xpz (q.Cols.take x)), wkA (e := 8 * Xpz (q.Rows.take y)), wkA (e := 8 * q.Cols.getD x 0), wkA (e := 8 * q.Rows.getD y 0)]
  rfl
 ·
  unfold Xtk
  rw [snA, Xva, Xab, decide_eq_false (by omega), Xab, Xao, rqA, tm, td, rqA, Yp0 s1.2 c1.2 x (by omega), Xab, Yp0 s2.2 c2.2 y (by omega), Xab, rqA, rqA]
  simp only [Int.toNat_natCast]
  rw [wkA (e := 8 * Xpz (q.Cols.take x)), wkA (e := 8 * Xpz (q.Rows.take y)), wkA (e := 8 * q.Cols.getD x 0), wkA (e := 8 * q.Rows.getD y 0)]
  rfl
theorem Ygp {q : Seq} (hs : Xfs q = true) (h1 : q.Cols.length ≤ maxLen) (h2 : q.Rows.length ≤ maxLen) (t : Int) (ht : 0 ≤ t ∧ t < Xb7 q) : ∃ x y : Nat, (x : Int) = t % (q.Cols.length : Int) ∧ (y : Int) = t / (q.Cols.length : Int) ∧ x < q.Cols.length ∧ y < q.Rows.length ∧ Xg9 q t = some (q.Cols.getD x 0 * q.Rows.getD y 0) ∧ (1 ≤ q.Cols.getD x 0 ∧ q.Cols.getD x 0 ≤ 8) ∧ (1 ≤ q.Rows.getD y 0 ∧ q.Rows.getD y 0 ≤ 8) := by
 obtain ⟨x, y, hx, hy, lx, ly, _, e, gx, gy⟩ := Ydg hs h1 h2 t ht
 have mb : q.Cols.getD x 0 * q.Rows.getD y 0 ≤ 8 * 8 := Int.mul_le_mul (by omega) (by omega) (by omega) (by omega)
 have m0 : 1 * 1 ≤ q.Cols.getD x 0 * q.Rows.getD y 0 := Int.mul_le_mul (by omega) (by omega) (by omega) (by omega)
 refine ⟨x, y, hx, hy, lx, ly, ?_, gx, gy⟩
 unfold Xg9
 rw [e, Xab]
 unfold Yrf
 simp only
 rw [rqA, rqA, Xbn (by omega), Xbn (by omega), show 8 * q.Cols.getD x 0 / 8 = q.Cols.getD x 0 by omega, show 8 * q.Rows.getD y 0 / 8 = q.Rows.getD y 0 by omega, wkA (e := q.Cols.getD x 0), wkA (e := q.Rows.getD y 0), wkA]
def Xwr (k : Int) (L : List Int) : ByteArray := strOfNums (k :: Xwk L)
def Ytc : Xa3 := ⟨false, false, false, ⟨0, 0, [], []⟩, ⟨0, false, false, false⟩, -1, 0, Xu2, Xu2⟩
theorem Ykp : Xpk = some Ytc := rfl
theorem Yfp {p q : Pic} (h0 : Xbx p = true) (h1 : Xbx q = true) (hw : q.Wide = p.Wide) (hh : q.High = p.High) : Xte p q 0 0 = some (q, true) := by
 have hm : maxLen = 9223372036854775807 := rfl
 obtain ⟨k1, k2, k3⟩ := Xay h0
 obtain ⟨g1, g2, g3⟩ := Xay h1
 have ar := Xda k1 k2
 have hdl := Xy9 h0
 have hdl1 := Xy9 h1
 obtain ⟨w, ew⟩ : ∃ w : Nat, p.Wide = w := ⟨p.Wide.toNat, by omega⟩
 obtain ⟨h, eh⟩ : ∃ h : Nat, p.High = h := ⟨p.High.toNat, by omega⟩
 have hsz : p.Dots.size = w * h := by
  have : ((p.Dots.size : Nat) : Int) = ((w * h : Nat) : Int) := by rw [k3, ew, eh, Int.natCast_mul]
  omega
 have hsz1 : q.Dots.size = w * h := by
  have : ((q.Dots.size : Nat) : Int) = ((w * h : Nat) : Int) := by rw [g3, hw, hh, ew, eh, Int.natCast_mul]
  omega
 have hwh : w * h ≤ 65536 := by
  have : ((w * h : Nat) : Int) ≤ 65536 := by rw [Int.natCast_mul, ← ew, ← eh]; exact ar.2
  omega
 have place : ∀ r k : Nat, r < h → k < w → r * w + k < w * h := fun r k hr hk => by
  have a : r * w + w ≤ h * w := by
   have := Nat.mul_le_mul_right w (show r + 1 ≤ h by omega)
   rw [Nat.succ_mul] at this
   exact this
  have b : h * w = w * h := Nat.mul_comm _ _
  omega
 have win := Xsl p ⟨0, 0, q.Wide, q.High⟩
 simp only at win
 have hol : Xno p ⟨0, 0, q.Wide, q.High⟩ = true := by
  have := (Ygx h0).1
  rw [hw, hh]; exact this
 let I : Nat → List Int → Prop := fun n t => t.length = w * h ∧ ∀ j : Nat, j < n → t.getD j 0 = (Xaz q.Dots).getD j 0
 obtain ⟨o, e, ho⟩ := Xfh (f := Xch p q 0 0) h (fun r t => I (r * w) t) (by
  intro r t hr ht
  obtain ⟨o, e, ho⟩ := Xfh (f := Xbk p q 0 0 ((r : Int), t)) w (fun k s => I (r * w + k) s) (by
   intro k s hk hs
   obtain ⟨s1, s2⟩ := hs
   have pl := place r k hr hk
   have e1 : (r : Int) * (w : Int) = ((r * w : Nat) : Int) := (Int.natCast_mul r w).symm
   have rw_le : r * w ≤ w * h := by omega
   unfold Xbk
   simp only
   rw [hw, ew, syA, wkA (e := (r : Int) * (w : Int)), wkA (e := 0 + (r : Int)), Int.zero_add, wkA (e := (r : Int) * (w : Int)), e1, wkA (e := ((r * w : Nat) : Int) + (k : Int)), wkA (e := ((r * w : Nat) : Int) + 0), Int.add_zero, wkA (e := ((r * w : Nat) : Int) + (k : Int)), rqA, rqA, rqA, wkA (e := (k : Int) + 1), show (((r * w : Nat) : Int) + (k : Int)).toNat = r * w + k by omega, show ((r * w : Nat) : Int) + (k : Int) = ((r * w + k : Nat) : Int) by omega]
   refine ⟨_, rfl, by rw [List.length_set]; exact s1, ?_⟩
   intro j hj
   rw [List.getD_eq_getElem?_getD, List.getElem?_set]
   by_cases hjk : r * w + k = j
   ·
    rw [if_pos hjk, if_pos (by omega), hjk, Xmt _ _ (by omega)]
    rfl
   ·
    rw [if_neg hjk, ← List.getD_eq_getElem?_getD]
    exact s2 j (by omega)) (fun s _ => by unfold Xbk; rw [Xap (by simp only; omega)]) t (by rw [Nat.add_zero]; exact ht)
  unfold Xch
  simp only
  rw [syA, e, Xab, wkA]
  refine ⟨o, rfl, ?_⟩
  rw [Nat.succ_mul]
  exact ho) (fun t _ => by unfold Xch; rw [Xap (by simp only; omega)]) (Xaz p.Dots) ⟨by rw [Xbf, hsz], fun j hj => by rw [Nat.zero_mul] at hj; omega⟩
 unfold Xte
 rw [Xc2, Xab, h1, Xat, win, Xab, h0, hol]
 simp only [Bool.and_self, Bool.not_true, Xab, Xao]
 rw [rqA, e, Xab]
 obtain ⟨o1, o2⟩ := ho
 have eo : o = Xaz q.Dots := by
  refine List.ext_getElem (by rw [o1, Xbf, hsz1]) fun i i1 i2 => ?_
  have := o2 i (by rw [Nat.mul_comm]; omega)
  rw [Xb4 _ _ i1, Xb4 _ _ i2] at this
  exact this
 rw [eo, Xso, ← hw, ← hh]
theorem Ykg {src ref : Pic} {c : Xeu} {r : Int} (H : Yr1 src ref c r) {l : List Xam} {now : Pic} (h : Xk0 src ref c r ((src.Wide / 8).toNat * (src.High / 8).toNat) l now) (cf : Bool) : Xcv ref ⟨0, 0, src.Wide, src.High⟩ c cf l = some (now, true) := by
 obtain ⟨ok, w, hh, hl, hall⟩ := h.pic H
 obtain ⟨t1, t2, t3⟩ := Ydb H.hw H.hh
 cases cf with
 | true => exact Ye1 H h
 | false =>
  have sw := Xcm H.hw
  have sh := Xcm H.hh
  have hb := h.back H [] (by rw [List.append_nil]; omega)
  rw [List.append_nil] at hb
  have hend : loop (Xbd ⟨0, 0, src.Wide, src.High⟩ c l (0, 0, ref.Wide, ref.High, ref.Dots)) ((((src.Wide / 8).toNat * (src.High / 8).toNat : Nat) : Int), now.Wide, now.High, now.Dots) = some (.out (now.Wide, now.High, now.Dots)) := by
   refine Xf9 ?_
   unfold Xbd
   rw [Xap (by simp only; omega)]
  unfold Xcv
  simp only
  rw [Xhd, Xab, H.hw, Xat, Xhd, Xab, H.hh, Xat, Xak, Xab, decide_eq_true (by omega), Xat, Xab, Xat, Xdk, Xab, H.hc, Xat, rqA, rqA, Xbn (a := src.Wide) (by omega), Xbn (a := src.High) (by omega), wkA (e := src.Wide / 8), wkA (e := src.High / 8), wkA (e := src.Wide / 8 * (src.High / 8)), show (((l.length : Nat) : Int) != src.Wide / 8 * (src.High / 8)) = false by rw [bne_eq_false_iff_eq]; omega, Xab, Xao]
  have e1 : (sel c.Key (some false) (bnd (Xbt ref) fun q8 => sel q8 (bnd (Xb9 ref ⟨0, 0, src.Wide, src.High⟩) fun q9 => some (!q9)) (some true))) = some false := by
   cases hK : c.Key with
   | true => rfl
   | false =>
    obtain ⟨a1, a2, a3⟩ := H.hk hK
    obtain ⟨b1, b2⟩ := Ygx a1
    rw [a2, a3] at b1 b2
    rw [Xao, Xbj, Xab, a1, Xat, Xow a1, Xab, b1]; rfl
  rw [e1, Xab, Xao, Xao, Xab, Xql _ _ (by omega) (by omega), Xab]
  simp only
  rw [hb, hend, Xab]
theorem Yt0 (r : Rate) (key : Bool) : 0 ≤ Xwl r key ∧ Xwl r key ≤ 40 := by
 unfold Xwl
 split
 ·
  rename_i h
  have h' := (Xpc r).1 h
  split
  ·
   exact Xfx (by omega)
  ·
   omega
 ·
  omega
theorem Yhi {q : Seq} {p : Par} {h : Ynb} (hh : Xze q p h = true) (h1 : q.Cols.length ≤ maxLen) (h2 : q.Rows.length ≤ maxLen) : Xnr q p h = some (strOfNums (Xx3 q p h), true) := by
 obtain ⟨hs, hp, ht, hf, hq⟩ := Xul hh
 obtain ⟨_, _, b1, b2⟩ := Xbe hs
 obtain ⟨_, _, _, w4, _⟩ := Xij q.Bits ⟨b1, b2⟩
 have hr := Xi2 hs
 have pq := Yas hp
 have hfs := Xx2 w4 hf.2
 have hf0 := hf.1
 unfold Xnr
 have fl := Xc8 q.Bits.toNat h.Frame
 have u := Xfq h.Tile.toNat (by omega)
 have z := Xtb (h.Qp - p.Qp) (by omega)
 rw [Xw0 _ _ _ h1 h2, Xab, hh, Bool.not_true, Xao, wkA (e := h.Qp - p.Qp), Xov _ (by omega), Xab, show h.Tile = ((h.Tile.toNat : Nat) : Int) by omega, Xf8 _ (by omega), Xab, show q.Bits = ((q.Bits.toNat : Nat) : Int) by omega, Xoy h.Frame _ hf0 (by omega) (by omega), Xab, Xa2 (by simp only [strOfNums_size]; omega), Xef, Xa2 (by simp only [strOfNums_size, List.length_append]; omega), Xef]
 rfl
theorem Zar {b : Int} (h : 3 ≤ b ∧ b ≤ 8) : (Lit.int .i64 b).wf = true := by
 rcases (show b = 3 ∨ b = 4 ∨ b = 5 ∨ b = 6 ∨ b = 7 ∨ b = 8 by omega) with rfl | rfl | rfl | rfl | rfl | rfl <;> decide
def Xbi (s : Xbb) (want : Bool) : Bool := Xb3 s && (want || (!s.Has || decide (s.Since ≥ s.Every)))
theorem Xw3 (s : Xbb) (w : Bool) (h1 : s.Seq.Cols.length ≤ maxLen) (h2 : s.Seq.Rows.length ≤ maxLen) : Xmg s w = some (Xbi s w) := by
 unfold Xmg Xbi
 rw [Xjx s h1 h2, Xab]
 cases Xb3 s with
 | false => rfl
 | true => cases w <;> cases s.Has <;> rfl
theorem Xfp {s : Xbb} (h : Xb3 s = true) : Xb7 s.Seq = 1 ∧ Xfs s.Seq = true ∧ Xlm s.Par = true ∧ Xku s.Rate = true ∧ (0 ≤ s.Frame ∧ s.Frame < 2 ^ s.Seq.Bits.toNat) ∧ (1 ≤ s.Every ∧ s.Every ≤ 1000) ∧ (0 ≤ s.Since ∧ s.Since ≤ 1000) ∧ (0 ≤ s.Reach ∧ s.Reach ≤ 4) ∧ (s.Has = true → Xja s.Ref s.Seq = true) ∧ (s.Has = false → s.Ref.Wide = 0 ∧ s.Ref.High = 0 ∧ s.Ref.Dots.size = 0) := by
 unfold Xb3 at h
 simp only [Bool.and_eq_true, decide_eq_true_eq] at h
 obtain ⟨⟨⟨⟨⟨a, b⟩, c⟩, d⟩, e⟩, f⟩ := h
 refine ⟨a, Xvj a, b, c, d, e.1, e.2.1, e.2.2, ?_, ?_⟩
 ·
  intro hh
  rw [if_pos hh] at f
  exact f
 ·
  intro hh
  rw [if_neg (by rw [hh]; decide)] at f
  exact of_decide_eq_true f
theorem Ys0 {s : Xbb} (a : Xb7 s.Seq = 1) (b : Xlm s.Par = true) (c : Xku s.Rate = true) (d : 0 ≤ s.Frame ∧ s.Frame < 2 ^ s.Seq.Bits.toNat) (e1 : 1 ≤ s.Every ∧ s.Every ≤ 1000) (e2 : 0 ≤ s.Since ∧ s.Since ≤ 1000) (e3 : 0 ≤ s.Reach ∧ s.Reach ≤ 4) (f : s.Has = true) (g : Xja s.Ref s.Seq = true) : Xb3 s = true := by
 unfold Xb3
 rw [decide_eq_true a, b, c, decide_eq_true d, decide_eq_true ⟨e1, e2, e3⟩, if_pos f, g]
 rfl
theorem Yox {q : Seq} (h : Xb7 q = 1) : ∃ c r : Int, q.Cols = [c] ∧ q.Rows = [r] ∧ (1 ≤ c ∧ c ≤ 8) ∧ (1 ≤ r ∧ r ≤ 8) ∧ Xke q = (8 * c, 8 * r) := by
 have hs := Xvj h
 obtain ⟨s1, s2, _⟩ := Xbe hs
 have l1 := Xbl s1
 have l2 := Xbl s2
 have ht : Xb7 q = (q.Cols.length : Int) * q.Rows.length := by unfold Xb7; rw [if_pos hs]
 have hn : q.Cols.length * q.Rows.length = 1 := by
  have : ((q.Cols.length * q.Rows.length : Nat) : Int) = 1 := by rw [Int.natCast_mul, ← ht, h]
  omega
 have n1 := Nat.eq_one_of_mul_eq_one_right hn
 have n2 := Nat.eq_one_of_mul_eq_one_left hn
 obtain ⟨c, ec⟩ := List.length_eq_one_iff.1 n1
 obtain ⟨r, er⟩ := List.length_eq_one_iff.1 n2
 obtain ⟨e, _⟩ := Zbh hs
 unfold Xen at s1 s2
 rw [Bool.and_eq_true] at s1 s2
 have a1 := List.all_eq_true.1 s1.2 c (by rw [ec]; simp)
 have a2 := List.all_eq_true.1 s2.2 r (by rw [er]; simp)
 unfold Xew at a1 a2
 rw [decide_eq_true_eq] at a1 a2
 refine ⟨c, r, ec, er, a1, a2, ?_⟩
 rw [e, ec, er]
 simp [Xpz]
theorem Yt8 {c : Int} (h : 1 ≤ c ∧ c ≤ 8) : Xyu (8 * c) = true := by
 unfold Xyu
 rw [Bool.and_eq_true, decide_eq_true_eq, decide_eq_true_eq, Xb2 (by omega)]
 omega
def Xi7 (s : Xbb) (key : Bool) : Xeu := ⟨key, Xwl s.Rate key, s.Par.Large, s.Par.Exact⟩
def Xt8 (s : Xbb) (key : Bool) (l : List Xam) : List Int := Xx3 s.Seq s.Par ⟨0, s.Frame, Xwl s.Rate key⟩ ++ Xn8 l (Xi7 s key)
def Xl9 (s : Xbb) (key : Bool) (l : List Xam) : List ByteArray := (if key = true then [Xwr 7 (Yba s.Seq), Xwr 8 (Yge s.Par)] else []) ++ [Xwr (if key = true then 5 else 1) (Xt8 s key l)]
def Xm3 (s : Xbb) (key : Bool) (l : List Xam) (now : Pic) : Xbb := ⟨s.Seq, s.Par, Yav s.Rate ((Xt8 s key l).length : Int), (s.Frame + 1) % 2 ^ s.Seq.Bits.toNat, (if key = true then 1 else s.Since + 1), s.Every, s.Reach, true, now⟩
theorem Ypf {s : Xbb} (hs : Xb3 s = true) (key : Bool) : Xho (Xi7 s key) = true := by
 obtain ⟨_, _, hp, _⟩ := Xfp hs
 unfold Xlm at hp
 rw [Bool.and_eq_true] at hp
 unfold Xho Xi7
 rw [Bool.and_eq_true]
 exact ⟨decide_eq_true (Yt0 _ _), hp.2⟩
theorem Yx0 {s : Xbb} {pic : Pic} {want : Bool} (hs : Xb3 s = true) (hp : Xja pic s.Seq = true) : Yr1 pic s.Ref (Xi7 s (Xbi s want)) s.Reach := by
 obtain ⟨t1, so, po, ro, hf, he, hsi, hre, hh, hn⟩ := Xfp hs
 obtain ⟨c, r, ec, er, hc, hr, esz⟩ := Yox t1
 obtain ⟨p1, p2, p3⟩ := Xph hp
 rw [esz] at p2 p3
 refine ⟨p1, by rw [p2]; exact Yt8 hc, by rw [p3]; exact Yt8 hr, Ypf hs _, hre, ?_⟩
 intro hk
 have hk : Xbi s want = false := hk
 unfold Xbi at hk
 rw [hs, Bool.true_and] at hk
 have hH : s.Has = true := by
  cases hx : s.Has with
  | true => rfl
  | false => rw [hx] at hk; simp at hk
 obtain ⟨q1, q2, q3⟩ := Xph (hh hH)
 rw [esz] at q2 q3
 exact ⟨q1, by rw [q2, p2], by rw [q3, p3]⟩
theorem Ypg {s : Xbb} (hs : Xb3 s = true) (key : Bool) : Xze s.Seq s.Par ⟨0, s.Frame, Xwl s.Rate key⟩ = true := by
 obtain ⟨t1, so, po, _, hf, _⟩ := Xfp hs
 unfold Xze
 simp only [Bool.and_eq_true, decide_eq_true_eq]
 exact ⟨so, po, ⟨Int.le_refl _, by omega⟩, hf, Yt0 _ _⟩
structure Yz4 (s : Xbb) (pic : Pic) (key : Bool) (l : List Xam) (now : Pic) : Prop where
 til : Xk0 pic s.Ref (Xi7 s key) s.Reach ((pic.Wide / 8).toNat * (pic.High / 8).toNat) l now
 fit : Xja now s.Seq = true
 sq : Yme l (Xi7 s key) = true
 lv : ∀ q ∈ l, q.Levels.length ≤ 64
 len : 1 ≤ l.length ∧ l.length ≤ 64
 cnt : Xg9 s.Seq 0 = some (l.length : Int)
theorem Zbg {s : Xbb} {pic : Pic} {want : Bool} {l : List Xam} {now : Pic} (hs : Xb3 s = true) (hp : Xja pic s.Seq = true) (h : Xk0 pic s.Ref (Xi7 s (Xbi s want)) s.Reach ((pic.Wide / 8).toNat * (pic.High / 8).toNat) l now) : Yz4 s pic (Xbi s want) l now := by
 have hm : maxLen = 9223372036854775807 := rfl
 have H := Yx0 (want := want) hs hp
 obtain ⟨t1, so, _⟩ := Xfp hs
 obtain ⟨c, r, ec, er, hc, hr, esz⟩ := Yox t1
 obtain ⟨p1, p2, p3⟩ := Xph hp
 obtain ⟨ok, w, hh, hl, hall⟩ := h.pic H
 obtain ⟨n1, n2, n3⟩ := Ydb H.hw H.hh
 have hcc := Ypf hs (Xbi s want)
 obtain ⟨x, y, hx, hy, lx, ly, eT, _⟩ := Ygp so (by rw [ec]; simp; omega) (by rw [er]; simp; omega) 0 ⟨Int.le_refl _, by omega⟩
 rw [ec] at hx lx eT
 rw [er] at ly eT
 have x0 : x = 0 := by simp at lx; exact lx
 have y0 : y = 0 := by simp at ly; exact ly
 subst x0 y0
 have eT' : Xg9 s.Seq 0 = some (c * r) := eT
 have e1 : pic.Wide = 8 * c := by rw [p2, esz]
 have e2 : pic.High = 8 * r := by rw [p3, esz]
 have mb : c * r ≤ 8 * 8 := Int.mul_le_mul hc.2 hr.2 (by omega) (by omega)
 have m0 : 1 * 1 ≤ c * r := Int.mul_le_mul hc.1 hr.1 (by omega) (by omega)
 have hlen : (l.length : Int) = c * r := by
  rw [hl, e1, e2, Int.natCast_mul, show 8 * c / 8 = c by omega, show 8 * r / 8 = r by omega, show ((c.toNat : Nat) : Int) = c by omega, show ((r.toNat : Nat) : Int) = r by omega]
 refine ⟨h, Ywk ok (by rw [w, p2]) (by rw [hh, p3]), ?_, fun q hq => (hall q hq).2.2, by omega, by rw [eT', hlen]⟩
 refine List.all_eq_true.2 fun q hq => ?_
 obtain ⟨a, b, _⟩ := hall q hq
 rw [a, b, hcc]; rfl
theorem Yj4 {s : Xbb} {pic : Pic} {key : Bool} {l : List Xam} {now : Pic} (hs : Xb3 s = true) (h : Yz4 s pic key l now) : (Xt8 s key l).length ≤ 400000 ∧ Xoo (Xt8 s key l) ∧ (Xx3 s.Seq s.Par ⟨0, s.Frame, Xwl s.Rate key⟩).length ≤ 200 ∧ (Xn8 l (Xi7 s key)).length ≤ 336960 := by
 have a := Ywt (Ypg hs key)
 have b := Ym7 h.sq
 have c := h.len.2
 refine ⟨?_, Xa8 (Yws _ _ _) (Ym6 _ _), a, by omega⟩
 unfold Xt8
 rw [List.length_append]
 omega
theorem Ygn {s : Xbb} {pic : Pic} {want : Bool} (hs : Xb3 s = true) (hp : Xja pic s.Seq = true) (hk : Xbi s want = true ∨ s.Since < 1000) : ∃ l now, Yz4 s pic (Xbi s want) l now ∧ Xhz s pic want = some (Xm3 s (Xbi s want) l now, Xl9 s (Xbi s want) l, true) := by
 have hm : maxLen = 9223372036854775807 := rfl
 have H := Yx0 (want := want) hs hp
 obtain ⟨t1, so, po, ro, hf, he, hsi, hre, hh, hn⟩ := Xfp hs
 obtain ⟨s1, s2, b1, b2⟩ := Xbe so
 have c1 := Xbl s1
 have c2 := Xbl s2
 obtain ⟨z1, z2, z3, z4, z5⟩ := Xij s.Seq.Bits ⟨b1, b2⟩
 obtain ⟨p1, p2, p3⟩ := Xph hp
 obtain ⟨l, now, e1, hT⟩ := Ye2 H
 have S := Zbg hs hp hT
 refine ⟨l, now, S, ?_⟩
 obtain ⟨r1, r2, r3, r4⟩ := Yj4 hs S
 have hfs := Xx2 z4 hf.2
 have hf0 := hf.1
 have hd := Ypg hs (Xbi s want)
 have hwf := Zar ⟨b1, b2⟩
 have hss : Xv4 s = [Xwr 7 (Yba s.Seq), Xwr 8 (Yge s.Par)] := by unfold Xv4; rw [if_pos hs]; rfl
 have htr : Ypk l (Xi7 s (Xbi s want)) = (strOfNums (Xn8 l (Xi7 s (Xbi s want))), true) := by
  unfold Ypk
  rw [if_pos (by rw [decide_eq_true S.len, S.sq]; rfl)]
 have hcut : (sel (Xbi s want) (some false) (some (decide (s.Since ≥ 1000)))) = some false := by
  cases hx : Xbi s want with
  | true => rfl
  | false =>
   rw [Xao, decide_eq_false]
   rcases hk with hk | hk
   ·
    rw [hx] at hk; cases hk
   ·
    omega
 have hsq : ∀ q ∈ l, Xuc q = true := fun q hq => by
  have := List.all_eq_true.1 S.sq q hq
  simp only [Bool.and_eq_true] at this
  exact this.1
 have hcp : Xem s = some s := by
  unfold Xem
  rw [(Xy8 s.Seq (by omega) (by omega)).2, Xab]
 unfold Xt8 at r1 r2
 have hkk : ∀ k : Int, k = 5 ∨ k = 1 → Yal k = true := fun k h => by rcases h with rfl | rfl <;> rfl
 unfold Xhz
 rw [Xjx s (by omega) (by omega), Xab, hs, Xat, Xuv _ _ (by omega) (by omega), Xab, hp, Xab, Bool.not_true, Xao, Xw3 s want (by omega) (by omega), Xab, hcut, Xab, Xao, Yn2, Xab]
 have e1' : Xkk pic s.Ref ⟨Xbi s want, Xwl s.Rate (Xbi s want), s.Par.Large, s.Par.Exact⟩ s.Reach = some (l, now, true) := e1
 have htr' : Xkl l ⟨Xbi s want, Xwl s.Rate (Xbi s want), s.Par.Large, s.Par.Exact⟩ = some (strOfNums (Xn8 l (Xi7 s (Xbi s want))), true) := (Yid l _ (fun q hq => by have := S.lv q hq; omega)).trans (congrArg some htr)
 rw [e1', Xab]
 simp only
 rw [Yhi hd (by omega) (by omega), Xab]
 simp only
 rw [htr', Xab, hcp, Xab, Xzz s (by omega) (by omega), Xab, hss, wkA (e := s.Since + 1)]
 have e13 : (sel (Xbi s want) (some ((5 : Int), (1 : Int), [Xwr 7 (Yba s.Seq), Xwr 8 (Yge s.Par)])) (some (1, s.Since + 1, ([] : List ByteArray)))) = some ((if Xbi s want = true then 5 else 1), (if Xbi s want = true then 1 else s.Since + 1), (if Xbi s want = true then [Xwr 7 (Yba s.Seq), Xwr 8 (Yge s.Par)] else [])) := by
  cases Xbi s want <;> rfl
 rw [e13, Xab]
 simp only
 rw [Xa2 (by simp only [strOfNums_size]; omega), Xef, Xq9 _ _ (hkk _ (by cases Xbi s want <;> simp)) r2 r1, Xab, Yel, Xab]
 simp only
 rw [z3, rqA, Xa2 (Ytz z5), Xa2 (by
  simp only [List.length_singleton]
  split <;> simp <;> omega), wkA (e := s.Frame + 1), Xb2 (by omega), wk (by simp only [strOfNums_size]; omega) (by simp only [strOfNums_size]; omega)]
 unfold Xm3 Xl9 Xt8
 rw [strOfNums_size, strOfNums_size, List.length_append, Int.natCast_add]
 rfl
theorem Ycu (b : List Int) (hb : b.length ≤ 1048576) : ∃ s pics wants, Xjm b = some (s, pics, wants) ∧ Xb3 s = true ∧ s.Seq.Bits = 3 ∧ s.Has = false ∧ s.Frame = 0 ∧ s.Since = 0 ∧ s.Every ≤ 5 ∧ (∀ p ∈ pics, Xja p s.Seq = true) ∧ wants.length = pics.length ∧ 2 ≤ pics.length ∧ pics.length ≤ 5 := by
 have hm : maxLen = 9223372036854775807 := rfl
 unfold Xjm
 obtain ⟨c, e, hc⟩ := Yma b hb
 obtain ⟨x1, c1, e1, a1, b1, _, h1⟩ := Xa5 c 2 hc
 obtain ⟨x2, c2, e2, a2, b2, _, h2⟩ := Xa5 c1 2 h1
 obtain ⟨p, c4, e4, hp, h4⟩ := Xyx c2 h2
 obtain ⟨t, c5, e5, ht, h5⟩ := Yf3 c4 h4
 obtain ⟨x6, c6, e6, a6, b6, _, h6⟩ := Xa5 c5 5 h5
 obtain ⟨x7, c7, e7, a7, b7, _, h7⟩ := Xa5 c6 3 h6
 have b1' := b1 (by omega)
 have b2' := b2 (by omega)
 have b6' := b6 (by omega)
 have b7' := b7 (by omega)
 rw [e, Xab, e1, Xab]
 simp only
 rw [e2, Xab]
 simp only
 rw [e4, Xab]
 simp only
 rw [e5, Xab]
 simp only
 rw [e6, Xab]
 simp only
 rw [e7, Xab]
 simp only
 have sok := Yaq (1 + x1) (1 + x2) 3 p t (1 + x6) x7 (by omega) (by omega) (by omega) hp ht (by omega) (by omega)
 rw [wkA (e := 1 + x1), wkA (e := 1 + x2), wkA (e := 1 + x6), Ycx (1 + x1) (1 + x2) 3 p t (1 + x6) x7 (by omega) (by omega) (by omega) hp ht (by omega) (by omega), Xab]
 have hsz := (Yw8 (1 + x1) (1 + x2) 3 (by omega) (by omega) (by omega)).2
 have hsz' : Xke (Xpb (1 + x1) (1 + x2) 3 p t (1 + x6) x7).Seq = (8 * (1 + x1), 8 * (1 + x2)) := hsz
 simp only
 rw [Xxs, Xab, hsz']
 simp only
 obtain ⟨pic, c8, e8, pw, ph, pok, h8⟩ := Xt5 c7 (8 * (1 + x1)) (8 * (1 + x2)) h7 (by omega) (by omega)
 rw [e8, Xab]
 simp only
 obtain ⟨o, eo, r1, r2, r3, r4⟩ := Xqt (f := Xix (8 * (1 + x1), 8 * (1 + x2)))
  (fun (i, b, j, h, w, hh, dd, pics, wants) => (0 ≤ i ∧ i ≤ 5) ∧ Xpf ⟨b, j, h⟩ ∧ Xbx ⟨w, hh, dd⟩ = true ∧ w = 8 * (1 + x1) ∧ hh = 8 * (1 + x2) ∧ (pics.length : Int) = i ∧ (wants.length : Int) = i ∧ ∀ q ∈ pics, Xbx q = true ∧ q.Wide = 8 * (1 + x1) ∧ q.High = 8 * (1 + x2))
  (fun v => (5 - v.1).toNat)
  (fun _ (pics, wants) => (∀ q ∈ pics, Xbx q = true ∧ q.Wide = 8 * (1 + x1) ∧ q.High = 8 * (1 + x2)) ∧ wants.length = pics.length ∧ 2 ≤ pics.length ∧ pics.length ≤ 5) (by
  intro ⟨i, b, j, h, w, hh, dd, pics, wants⟩ ⟨i1, i2, i3, i4, i5, i6, i7, i8⟩
  unfold Xix
  simp only
  obtain ⟨x, k1, f1, y0, y1, _, q1⟩ := Xa5 _ 4 i2
  have y1' := y1 (by omega)
  rw [f1, Xab]
  simp only
  rw [wkA (e := 2 + x)]
  by_cases hi : i < 2 + x
  ·
   obtain ⟨z, k2, f2, q2⟩ := Xlx k1 4 q1
   obtain ⟨p2, k3, f4, p3, p4, p5, q3⟩ := Yj2 k2 (⟨w, hh, dd⟩ : Pic) q2 i3
   obtain ⟨z2, k4, f5, q4⟩ := Xlx k3 4 q3
   have hall : ∀ q ∈ pics ++ [(⟨w, hh, dd⟩ : Pic)], Xbx q = true ∧ q.Wide = 8 * (1 + x1) ∧ q.High = 8 * (1 + x2) := fun q hq => by
    rcases List.mem_append.1 hq with hq | hq
    ·
     exact i8 q hq
    ·
     rw [List.mem_singleton.1 hq]; exact ⟨i3, i4, i5⟩
   rw [Xbh hi, Xa2 (by simp only [List.length_singleton]; omega), f2, Xab]
   simp only
   rw [Xa2 (by simp only [List.length_singleton]; omega), f4, Xab, f5, Xab]
   simp only at p3 p4 ⊢
   cases z2 with
   | true =>
    obtain ⟨p6, k5, f6, w6, h6', ok6, q5⟩ := Xt5 k4 (8 * (1 + x1)) (8 * (1 + x2)) q4 (by omega) (by omega)
    rw [Xat, f6, Xab, Xab, wkA (e := i + 1)]
    refine .inr ⟨_, rfl, ⟨by simp only; omega, q5, ok6, w6, h6', ?_, ?_, hall⟩, by simp only; omega, fun _ h => h⟩
    ·
     simp only [List.length_append, List.length_singleton]; omega
    ·
     simp only [List.length_append, List.length_singleton]; omega
   | false =>
    rw [Xao, Xab, wkA (e := i + 1)]
    refine .inr ⟨_, rfl, ⟨by simp only; omega, q4, p5, by simp only; omega, by simp only; omega, ?_, ?_, hall⟩, by simp only; omega, fun _ h => h⟩
    ·
     simp only [List.length_append, List.length_singleton]; omega
    ·
     simp only [List.length_append, List.length_singleton]; omega
  ·
   rw [Xap hi]
   exact .inl ⟨_, rfl, i8, by simp only; omega, by simp only; omega, by simp only; omega⟩) (0, c8.b_, c8.i_, c8.h_, pic.Wide, pic.High, pic.Dots, [], []) ⟨⟨Int.le_refl _, by omega⟩, h8, pok, pw, ph, rfl, rfl, fun q hq => by simp at hq⟩
 obtain ⟨pics, wants⟩ := o
 rw [eo, Xab]
 simp only at r1 r2 r3 r4
 refine ⟨_, pics, wants, rfl, sok, rfl, rfl, rfl, rfl, by show 1 + x6 ≤ 5; omega, ?_, r2, r3, r4⟩
 intro q hq
 obtain ⟨g1, g2, g3⟩ := r1 q hq
 exact Ywk g1 (by rw [hsz']; exact g2) (by rw [hsz']; exact g3)
theorem Ygo {q : Xam} (hq : q.Kind = 2) (now ref ref' : Pic) (a b : Int) (c : Xeu) (x y : Int) : Xbz now ref a b c x y q = Xbz now ref' a b c x y q := by
 have h2 : (q.Kind != 2) = false := by rw [bne_eq_false_iff_eq]; exact hq
 have h3 : (q.Kind == 0) = false := by rw [beq_eq_false_iff_ne]; omega
 have h4 : (q.Kind == 1) = false := by rw [beq_eq_false_iff_ne]; omega
 unfold Xbz
 simp only [h2, h3, h4, Xao]
theorem Yng {c : Xeu} (hk : c.Key = true) {l : List Xam} (hl : ∀ q ∈ l, q.Kind = 2) (ref ref' : Pic) (r : Xyz) (cf : Bool) (h0 : r.Left = 0 ∧ r.Top = 0) : Xcv ref r c cf l = Xcv ref' r c cf l := by
 have body : ∀ (v : Int × Int × Int × ByteArray) (u u' : Int × Int × Int × Int × ByteArray), u.1 = u'.1 → u.2.1 = u'.2.1 → Xbd r c l u v = Xbd r c l u' v := by
  intro v u u' h1 h2
  unfold Xbd
  by_cases hv : v.1 < (l.length : Int)
  ·
   rw [Xbh hv, Xbh hv]
   by_cases hv0 : 0 ≤ v.1
   ·
    have hK : (l.getD v.1.toNat Xgo).Kind = 2 := hl _ (by rw [Xb4 l _ (by omega)]; exact List.getElem_mem _)
    rw [h1, h2, Ygo (q := ⟨(l.getD v.1.toNat Xgo).Kind, (l.getD v.1.toNat Xgo).Mode, (l.getD v.1.toNat Xgo).Dx, (l.getD v.1.toNat Xgo).Dy, (l.getD v.1.toNat Xgo).Levels⟩) hK _ (⟨u.2.2.1, u.2.2.2.1, u.2.2.2.2⟩ : Pic) (⟨u'.2.2.1, u'.2.2.2.1, u'.2.2.2.2⟩ : Pic)]
   ·
    have hz : ¬ (0 ≤ v.1 ∧ v.1 < (l.length : Int)) := fun h => hv0 h.1
    simp only [req, if_neg hz]
  ·
   rw [Xap hv, Xap hv]
 have lp : ∀ (u u' : Int × Int × Int × Int × ByteArray), u.1 = u'.1 → u.2.1 = u'.2.1 → ∀ v, loop (Xbd r c l u) v = loop (Xbd r c l u') v := fun u u' h1 h2 v => Xkt (fun _ => True) (fun v _ => body v u u' h1 h2) (fun _ _ _ _ => trivial) trivial
 unfold Xcv
 cases cf with
 | true =>
  simp only [hk, Xat, Xab, Bool.not_true, Xao]
  simp only [lp (0, 0, ref.Wide, ref.High, ref.Dots) (0, 0, ref'.Wide, ref'.High, ref'.Dots) rfl rfl]
 | false =>
  simp only [hk, Xat, Xab, Xao]
  simp only [lp (r.Left, r.Top, ref.Wide, ref.High, ref.Dots) (r.Left, r.Top, ref'.Wide, ref'.High, ref'.Dots) rfl rfl]
structure Rel (s : Xbb) (d : Xa3) : Prop where
 ok : Xqd d = true
 par : d.HasPar = true
 eS : d.Seq = s.Seq
 eP : d.Par = s.Par
 fr : d.Frame = s.Frame
 got : d.Got = 0
 rf : d.HasRef = true
 eR : d.Ref = s.Ref
theorem Ys1 {s : Xbb} {pic : Pic} {key : Bool} {l : List Xam} {now : Pic} (hs : Xb3 s = true) (h : Yz4 s pic key l now) (hk : key = true ∨ s.Since < 1000) : Xb3 (Xm3 s key l now) = true := by
 obtain ⟨t1, so, po, ro, hf, he, hsi, hre, hh, hn⟩ := Xfp hs
 obtain ⟨_, _, b1, b2⟩ := Xbe so
 obtain ⟨z1, z2, z3, z4, z5⟩ := Xij s.Seq.Bits ⟨b1, b2⟩
 have m0 := Int.emod_nonneg (s.Frame + 1) (Ytz z5)
 have m1 := Int.emod_lt_of_pos (s.Frame + 1) (Yxg z5)
 refine Ys0 (s := Xm3 s key l now) t1 po (Ysr _ _ ro) ⟨m0, m1⟩ he ?_ hre rfl h.fit
 unfold Xm3
 simp only
 cases key with
 | true => rw [if_pos rfl]; omega
 | false =>
  rcases hk with hk | hk
  ·
   cases hk
  ·
   rw [if_neg (by decide)]; omega
theorem Ywy {d : Xa3} (hd : Xqd d = true) (h1 : d.Seq.Cols.length ≤ 1048576) (h2 : d.Seq.Rows.length ≤ 1048576) {s : Seq} (hs : Xfs s = true) : Xds d (Xwr 7 (Yba s)) = some (⟨true, false, false, s, ⟨0, false, false, false⟩, -1, 0, Xu2, Xu2⟩, 0, Xu2) := by
 have hm : maxLen = 9223372036854775807 := rfl
 have cd : Xbq d = some d := by unfold Xbq; rw [(Xy8 d.Seq h1 h2).2, Xab]
 unfold Xds
 rw [cd, Xab, Xot d (by omega) (by omega), Xab, hd, Bool.not_true, Xao, show Xwr 7 (Yba s) = strOfNums (7 :: Xwk (Yba s)) from rfl, Xue (k := 7) rfl (Yba s) (Yo6 s) (Ym1 hs), Xab]
 simp only
 rw [Bool.not_true, Xao, Xbp (b := (7 : Int) == 7) (by rfl), Ynd hs, Xab]
 simp only
 rw [Xat, strOfNums_size, bne_self_eq_false, Xab, Xao]
 rfl
theorem Ywx {d : Xa3} (hd : Xqd d = true) (h1 : d.Seq.Cols.length ≤ 1048576) (h2 : d.Seq.Rows.length ≤ 1048576) (hq : d.HasSeq = true) (g : ¬ d.Got > 0) {p : Par} (hp : Xlm p = true) : Xds d (Xwr 8 (Yge p)) = some (⟨true, true, d.HasRef, d.Seq, p, d.Frame, d.Got, d.Now, d.Ref⟩, 0, Xu2) := by
 have hm : maxLen = 9223372036854775807 := rfl
 have cd : Xbq d = some d := by unfold Xbq; rw [(Xy8 d.Seq h1 h2).2, Xab]
 unfold Xds
 rw [cd, Xab, Xot d (by omega) (by omega), Xab, hd, Bool.not_true, Xao, show Xwr 8 (Yge p) = strOfNums (8 :: Xwk (Yge p)) from rfl, Xue (k := 8) rfl (Yge p) (Yoy p) (by rw [Ygf]; omega), Xab]
 simp only
 rw [Bool.not_true, Xao, Xba (b := (8 : Int) == 7) (by rfl), Xbp (b := (8 : Int) == 8) (by rfl), Ync hp, Xab]
 simp only
 rw [Xat, strOfNums_size, Ygf, show ((9 : Int) != ((9 : Nat) : Int)) = false from rfl, Xab, Xao, hq, Xat, Xab, Xap g]
theorem Yoj {s : Xbb} {pic : Pic} {key : Bool} {l : List Xam} {now : Pic} (hs : Xb3 s = true) (hp : Xja pic s.Seq = true) (h : Yz4 s pic key l now) (H : Yr1 pic s.Ref (Xi7 s key) s.Reach) {d : Xa3} (hd : Xqd d = true) (par : d.HasPar = true) (eS : d.Seq = s.Seq) (eP : d.Par = s.Par) (fr : d.Frame = -1 ∨ d.Frame = s.Frame) (got : d.Got = 0) (rf : key = true ∨ d.HasRef = true ∧ d.Ref = s.Ref) :
  Xds d (Xwr (if key = true then 5 else 1) (Xt8 s key l)) = some (⟨true, true, true, s.Seq, s.Par, (s.Frame + 1) % 2 ^ s.Seq.Bits.toNat, 0, Xu2, now⟩, 0, now) := by
 have hm : maxLen = 9223372036854775807 := rfl
 obtain ⟨t1, so, po, ro, hf, he, hsi, hre, hh, hn⟩ := Xfp hs
 obtain ⟨c, r, ec, er, hc, hr, esz⟩ := Yox t1
 obtain ⟨_, _, b1, b2⟩ := Xbe so
 obtain ⟨z1, z2, z3, z4, z5⟩ := Xij s.Seq.Bits ⟨b1, b2⟩
 have hf0 := hf.1
 have hfs := Xx2 z4 hf.2
 have l1 : s.Seq.Cols.length ≤ 1048576 := by rw [ec]; simp
 have l2 : s.Seq.Rows.length ≤ 1048576 := by rw [er]; simp
 obtain ⟨p1, p2, p3⟩ := Xph hp
 rw [esz] at p2 p3
 obtain ⟨g1, g2, _⟩ := Xay p1
 obtain ⟨m1, m2, m3⟩ := Xph h.fit
 rw [esz] at m2 m3
 obtain ⟨r1, r2, r3, r4⟩ := Yj4 hs h
 have hseq := (Ywh hd par).1
 have k5 : ((if key = true then (5 : Int) else 1) == 5) = key := by cases key <;> rfl
 have k7 : ((if key = true then (5 : Int) else 1) == 7) = false := by cases key <;> rfl
 have k8 : ((if key = true then (5 : Int) else 1) == 8) = false := by cases key <;> rfl
 have hkk : Yal (if key = true then (5 : Int) else 1) = true := by cases key <;> rfl
 have cd : Xbq d = some d := by unfold Xbq; rw [(Xy8 d.Seq (by rw [eS]; exact l1) (by rw [eS]; exact l2)).2, Xab]
 have ehd : Xip s.Seq s.Par (strOfNums (Xt8 s key l)) = some (⟨0, s.Frame, Xwl s.Rate key⟩, ((Xx3 s.Seq s.Par ⟨0, s.Frame, Xwl s.Rate key⟩).length : Int), true) := Yke (Ypg hs key) rfl r2 r1
 have ert : Xiq (strOfNums (Xt8 s key l)) ((Xx3 s.Seq s.Par ⟨0, s.Frame, Xwl s.Rate key⟩).length : Int) (l.length : Int) ⟨key, Xwl s.Rate key, s.Par.Large, s.Par.Exact⟩ = some (l, true) := Ypw h.sq (Ypf hs key) h.len rfl r2 r1
 obtain ⟨xx, yy, hx, hy, lx, ly, e1, e2, gx, gy⟩ := Ydg so (by omega) (by omega) 0 ⟨Int.le_refl _, by omega⟩
 rw [ec] at hx lx
 rw [er] at ly
 have x0 : xx = 0 := by simp at lx; exact lx
 have y0 : yy = 0 := by simp at ly; exact ly
 subst x0 y0
 have er2 : Yrf s.Seq 0 0 = ⟨0, 0, pic.Wide, pic.High⟩ := by
  unfold Yrf
  rw [ec, er, p2, p3]
  rfl
 rw [er2] at e1 e2
 have ets : Xg5 s.Seq 0 = some (l.length : Int) := by
  have hcnt := h.cnt
  unfold Xg9 at hcnt
  rw [e2, Xab] at hcnt
  unfold Xg5
  rw [e1, Xab]
  exact hcnt
 have etb : Xcv d.Ref ⟨0, 0, pic.Wide, pic.High⟩ ⟨key, Xwl s.Rate key, s.Par.Large, s.Par.Exact⟩ s.Par.Confined l = some (now, true) := by
  have tb := Ykg H h.til s.Par.Confined
  rcases rf with rf | rf
  ·
   refine (Yng (c := Xi7 s key) rf ?_ _ s.Ref ⟨0, 0, pic.Wide, pic.High⟩ _ ⟨rfl, rfl⟩).trans tb
   intro q hq
   have := List.all_eq_true.1 h.sq q hq
   simp only [Bool.and_eq_true] at this
   have hlet := this.2.2
   unfold Xqg at hlet
   have : (Xi7 s key).Key = true := rf
   rw [this] at hlet
   simpa using hlet
  ·
   rw [rf.2]; exact tb
 have epa : Xmi (Yd3 (8 * c) (8 * r)) now 0 0 = some (now, true) := by
  have gok : Xbx (Yd3 (8 * c) (8 * r)) = true := Ywq (by omega) (by omega)
  have pf := Yfp gok m1 (by rw [m2, Yu7]) (by rw [m3, Yu6])
  obtain ⟨o, b, i1, i2, _⟩ := Yry (Yd3 (8 * c) (8 * r)) now 0 0
  rw [i1, ← i2, pf]
 have eno : (sel (d.Got == 0) (bnd (Xka s.Seq) fun q10 => bnd (Xnp q10.1 q10.2) fun q11 => some (q11.Wide, q11.High, q11.Dots)) (some (d.Now.Wide, d.Now.High, d.Now.Dots))) = some ((Yd3 (8 * c) (8 * r)).Wide, (Yd3 (8 * c) (8 * r)).High, (Yd3 (8 * c) (8 * r)).Dots) := by
  rw [Xbp (by rw [beq_iff_eq]; exact got), Xxa _ (by omega) (by omega), Xab, esz, Xql _ _ (by simp only; omega) (by simp only; omega), Xab]
  rfl
 have c3 : (sel (d.Frame != (-1)) (some (d.Frame != s.Frame)) (some false)) = some false := by
  rcases fr with fr | fr
  ·
   rw [fr]; rfl
  ·
   rw [fr]
   cases (s.Frame != -1) with
   | true => rw [Xat, bne_self_eq_false]
   | false => rfl
 have c4 : (sel key (some false) (some (!d.HasRef))) = some false := by
  rcases rf with rf | rf
  ·
   rw [rf]; rfl
  ·
   rw [rf.1]; cases key <;> rfl
 have eaf : Xrx s.Frame s.Seq.Bits = some ((s.Frame + 1) % 2 ^ s.Seq.Bits.toNat) := by
  unfold Xrx
  rw [rqA, z3, Xa2 (Ytz z5), wkA (e := s.Frame + 1), Xb2 (by omega)]
 have sl : Xdt d key (strOfNums (Xt8 s key l)) = some (⟨true, true, true, s.Seq, s.Par, (s.Frame + 1) % 2 ^ s.Seq.Bits.toNat, 0, Xu2, now⟩, 0, now, d) := by
  unfold Xdt
  rw [hseq, par, Xat, Bool.not_true, Xab, Xao, eS, eP, ehd, Xab]
  simp only
  rw [Bool.not_true, Xao, Xba (b := ((0 : Int) != d.Got)) (by rw [got]; rfl), c3, Xab, Xao, c4, Xab, Xao, ets, Xab, ert, Xab]
  simp only
  rw [Bool.not_true, Xao, e1, Xab]
  simp only
  rw [etb, Xab, eno, Xab]
  simp only
  rw [show (⟨(Yd3 (8 * c) (8 * r)).Wide, (Yd3 (8 * c) (8 * r)).High, (Yd3 (8 * c) (8 * r)).Dots⟩ : Pic) = Yd3 (8 * c) (8 * r) from rfl, epa, Xab, Xh1 _ (by omega) (by omega), Xab, t1, got, Xap (by decide), eaf, Xab]
 unfold Xds
 rw [cd, Xab, Xot d (by rw [eS]; omega) (by rw [eS]; omega), Xab, hd, Bool.not_true, Xao]
 unfold Xwr
 rw [Xue hkk _ r2 r1, Xab]
 simp only
 rw [Bool.not_true, Xao, k7, Xao, k8, Xao, k5, sl, Xab, eS]
def Yvx : List ByteArray → Xa3 → Xa3 → List Pic → Prop
 | [], d, D, ps => D = d ∧ ps = []
 | u :: us, d, D, ps => ∃ (d1 : Xa3) (P : Pic) (qs : List Pic), Xds d u = some (d1, 0, P) ∧ Yvx us d1 D qs ∧ ps = (if Xbx P = true then P :: qs else qs)
theorem Ymq (us : List ByteArray) (h400 : us.length ≤ 400) : ∀ (r : List ByteArray) (k : Nat), us.drop k = r → ∀ (d D : Xa3) (ps qs : List Pic) (cs : List Int), Yvx r d D qs → ps.length ≤ k → cs.length = k →
  loop (Xhb us) (Zb1 (k : Int) d ps cs) = some (Zb1 0 D (ps ++ qs) (cs ++ List.replicate r.length 0)).2
 | [], k, hk, d, D, ps, qs, cs, hg, hp, hc => by
  obtain ⟨rfl, rfl⟩ := hg
  have : us.length ≤ k := List.drop_eq_nil_iff.1 hk
  refine Xf9 ?_
  unfold Xhb Zb1
  simp only
  rw [snA, List.append_nil, List.length_nil, List.replicate_zero, List.append_nil]
 | u :: r, k, hk, d, D, ps, qs, cs, hg, hp, hc => by
  have hm : maxLen = 9223372036854775807 := rfl
  obtain ⟨e, P, rs, a1, a3, a4⟩ := hg
  have hlt : k < us.length := by
   have := congrArg List.length hk
   rw [List.length_drop, List.length_cons] at this
   omega
  have hu : us.getD k Ybg = u := by
   rw [Xb4 us k hlt]
   have := List.drop_eq_getElem_cons hlt
   rw [hk] at this
   exact (List.cons.inj this).1.symm
  have hr : us.drop (k + 1) = r := by
   have := List.drop_eq_getElem_cons hlt
   rw [hk] at this
   exact (List.cons.inj this).2.symm
  have es' : Xds (⟨d.HasSeq, d.HasPar, d.HasRef, ⟨d.Seq.Level, d.Seq.Bits, d.Seq.Cols, d.Seq.Rows⟩, ⟨d.Par.Qp, d.Par.Large, d.Par.Exact, d.Par.Confined⟩, d.Frame, d.Got, ⟨d.Now.Wide, d.Now.High, d.Now.Dots⟩, ⟨d.Ref.Wide, d.Ref.High, d.Ref.Dots⟩⟩ : Xa3) u = some (e, 0, P) := a1
  have gS : Xhb us (Zb1 (k : Int) d ps cs) = some (.go (Zb1 ((k + 1 : Nat) : Int) e (if Xbx P = true then ps ++ [P] else ps) (cs ++ [0]))) := by
   unfold Xhb Zb1
   simp only [Int.toNat_natCast]
   rw [syA, rqA, hu, es', Xab]
   simp only
   rw [Xa2 (by simp only [List.length_singleton]; omega), Xbj, Xab]
   cases Xbx P with
   | true => rw [Xat, Xa2 (by simp only [List.length_singleton]; omega), Xab, wkA]; rfl
   | false => rw [Xao, Xab, wkA]; rfl
  have hl : (if Xbx P = true then ps ++ [P] else ps).length ≤ k + 1 := by
   split
   ·
    rw [List.length_append, List.length_singleton]; omega
   ·
    omega
  have ih := Ymq us h400 r (k + 1) hr e D _ rs (cs ++ [0]) a3 hl (by rw [List.length_append, List.length_singleton]; omega)
  refine (lgo gS ih).trans ?_
  have e1 : (if Xbx P = true then ps ++ [P] else ps) ++ rs = ps ++ qs := by
   rw [a4]
   split
   ·
    rw [List.append_assoc]; rfl
   ·
    rfl
  have e2 : (cs ++ [0]) ++ List.replicate r.length (0 : Int) = cs ++ List.replicate (u :: r).length 0 := by
   rw [List.append_assoc, List.length_cons, List.replicate_succ]; rfl
  rw [e1, e2]
theorem Yvy {us : List ByteArray} {d D : Xa3} {ps : List Pic} (h : Yvx us d D ps) (h400 : us.length ≤ 400) (h1 : d.Seq.Cols.length ≤ 1048576) (h2 : d.Seq.Rows.length ≤ 1048576) : Xpj d us = some (D, ps, List.replicate us.length 0) := by
 have cd : Xbq d = some d := by unfold Xbq; rw [(Xy8 d.Seq h1 h2).2, Xab]
 unfold Xpj
 rw [cd, Xab, snA]
 exact (Xge (Ymq us h400 us 0 rfl d D [] ps [] h (by simp) rfl)).trans rfl
theorem Yva {s : Xbb} {pic : Pic} {key : Bool} {l : List Xam} {now : Pic} (hs : Xb3 s = true) (hp : Xja pic s.Seq = true) (h : Yz4 s pic key l now) (H : Yr1 pic s.Ref (Xi7 s key) s.Reach) {d : Xa3} (hd : Xqd d = true) (h1 : d.Seq.Cols.length ≤ 1048576) (h2 : d.Seq.Rows.length ≤ 1048576) (rel : key = true ∨ Rel s d) : ∃ D, Yvx (Xl9 s key l) d D [now] ∧ Rel (Xm3 s key l now) D := by
 obtain ⟨t1, so, po, ro, hf, he, hsi, hre, hh, hn⟩ := Xfp hs
 obtain ⟨s1, s2, b1, b2⟩ := Xbe so
 have l1 := Xbl s1
 have l2 := Xbl s2
 obtain ⟨z1, z2, z3, z4, z5⟩ := Xij s.Seq.Bits ⟨b1, b2⟩
 have m0 := Int.emod_nonneg (s.Frame + 1) (Ytz z5)
 have m1 := Int.emod_lt_of_pos (s.Frame + 1) (Yxg z5)
 have okD : Xqd ⟨true, true, true, s.Seq, s.Par, (s.Frame + 1) % 2 ^ s.Seq.Bits.toNat, 0, Xu2, now⟩ = true := by
  generalize (s.Frame + 1) % 2 ^ s.Seq.Bits.toNat = f at m0 m1
  exact Ytd rfl rfl so po ⟨by simp only; omega, m1⟩ ⟨by simp only; omega, by simp only; omega⟩ (fun g => by simp only at g; omega) (fun _ => Za5) (fun _ => h.fit) (fun g => by simp at g)
 have mk : ∀ d2 : Xa3, Xqd d2 = true → d2.HasPar = true → d2.Seq = s.Seq → d2.Par = s.Par → (d2.Frame = -1 ∨ d2.Frame = s.Frame) → d2.Got = 0 → (key = true ∨ d2.HasRef = true ∧ d2.Ref = s.Ref) → Yvx [Xwr (if key = true then 5 else 1) (Xt8 s key l)] d2 ⟨true, true, true, s.Seq, s.Par, (s.Frame + 1) % 2 ^ s.Seq.Bits.toNat, 0, Xu2, now⟩ [now] := fun d2 a1 a2 a3 a4 a5 a6 a7 => ⟨_, now, [], Yoj hs hp h H a1 a2 a3 a4 a5 a6 a7, ⟨rfl, rfl⟩, (if_pos (Xph h.fit).1).symm⟩
 have d1 := Yp7 so
 have d2 := Yp6 d1 rfl (by simp) po
 refine ⟨_, ?_, okD, rfl, rfl, rfl, rfl, rfl, rfl, rfl⟩
 by_cases hk : key = true
 ·
  have g2 := mk ⟨true, true, false, s.Seq, s.Par, -1, 0, Xu2, Xu2⟩ d2 rfl rfl rfl (.inl rfl) rfl (.inl hk)
  unfold Xl9
  rw [if_pos hk]
  exact ⟨_, _, _, Ywy hd h1 h2 so, ⟨_, _, _, Ywx d1 (by simp only; omega) (by simp only; omega) rfl (by simp) po, g2, rfl⟩, rfl⟩
 ·
  obtain ⟨a1, a2, a3, a4, a5, a6, a7, a8⟩ := rel.elim (fun h => absurd h hk) id
  unfold Xl9
  rw [if_neg hk, List.nil_append]
  exact mk d a1 a2 a3 a4 (.inr a5) a6 (.inr ⟨a7, a8⟩)
theorem Yvj {s : Xbb} {pic : Pic} {key : Bool} {l : List Xam} {now : Pic} (H : Yr1 pic s.Ref (Xi7 s key) s.Reach) (h : Yz4 s pic key l now) (hE : s.Par.Exact = true) : now = pic :=
 h.til.same H (fun _ _ _ _ _ _ SF _ hq hs => Yu3 SF hE hq hs)
theorem Ypi (s : Xbb) (key : Bool) (l : List Xam) : (Xl9 s key l).length = if key = true then 3 else 1 := by
 unfold Xl9
 cases key <;> rfl
def Zdc (f i : Int) (s : Xbb) (d : Xa3) : (Int × Int × Int × Int × Int × Bool × Bool × Bool × Int × Int × Int × Int × Int × Int × Int × Bool × Int × Int × ByteArray × Bool × Bool × Bool × Int × Int × (List Int) × (List Int) × Int × Bool × Bool × Bool × Int × Int × Int × Int × ByteArray × Int × Int × ByteArray × (List Int) × (List Int)) :=
 (f, i, s.Seq.Level, s.Seq.Bits, s.Par.Qp, s.Par.Large, s.Par.Exact, s.Par.Confined, s.Rate.Qp, s.Rate.Target, s.Rate.Debt, s.Frame, s.Since, s.Every, s.Reach, s.Has, s.Ref.Wide, s.Ref.High, s.Ref.Dots, d.HasSeq, d.HasPar, d.HasRef, d.Seq.Level, d.Seq.Bits, d.Seq.Cols, d.Seq.Rows, d.Par.Qp, d.Par.Large, d.Par.Exact, d.Par.Confined, d.Frame, d.Got, d.Now.Wide, d.Now.High, d.Now.Dots, d.Ref.Wide, d.Ref.High, d.Ref.Dots, s.Seq.Cols, s.Seq.Rows)
structure Run (q : Seq) (p : Par) (k : Nat) (s : Xbb) : Prop where
 ok : Xb3 s = true
 bits : s.Seq.Bits = 3
 eS : s.Seq = q
 eP : s.Par = p
 has : k = 0 → s.Has = false
 low : 1 ≤ k → 1 ≤ s.Since ∧ s.Has = true
 high : s.Since ≤ k
theorem Run.next {q : Seq} {p : Par} {k : Nat} {s : Xbb} (R : Run q p k s) (hk : k ≤ 100) {pic : Pic} {want : Bool} {l : List Xam} {now : Pic} (h : Yz4 s pic (Xbi s want) l now) : Run q p (k + 1) (Xm3 s (Xbi s want) l now) := by
 have a := Xfp R.ok
 have hs := R.high
 refine ⟨Ys1 R.ok h (.inr (by omega)), R.bits, R.eS, R.eP, fun h => by omega, fun _ => ⟨?_, rfl⟩, ?_⟩
 ·
  show 1 ≤ (if Xbi s want = true then (1 : Int) else s.Since + 1)
  split
  ·
   omega
  ·
   have := a.2.2.2.2.2.2.1; omega
 ·
  show (if Xbi s want = true then (1 : Int) else s.Since + 1) ≤ ((k + 1 : Nat) : Int)
  split <;> omega
theorem Run.first {q : Seq} {p : Par} {s : Xbb} (R : Run q p 0 s) (want : Bool) : Xbi s want = true := by
 unfold Xbi
 rw [R.ok, R.has rfl]
 cases want <;> rfl
theorem Yy3 {q : Seq} {p : Par} {k : Nat} {s : Xbb} (R : Run q p k s) : Xbi s true = true := by
 unfold Xbi
 rw [R.ok]; rfl
theorem Ywz {q : Seq} {p : Par} {k : Nat} {s : Xbb} (R : Run q p k s) (hk : 1 ≤ k) (h : s.Every = 1) (want : Bool) : Xbi s want = true := by
 unfold Xbi
 have := (R.low hk).1
 rw [R.ok, h, decide_eq_true (show s.Since ≥ 1 by omega)]
 cases want <;> cases s.Has <;> rfl
theorem Yi6 (p : Pic) : (((p.Wide == p.Wide) && ((p.High == p.High) && (p.Dots.toList == p.Dots.toList))) == false) = false := by
 simp only [beq_self_eq_true, Bool.and_self]
 rfl
theorem Yux (n : Nat) (hn : n ≤ 1000) (x : Xa3 × List Pic) : loop (Xe2 (x.1, x.2, List.replicate n 0)) 0 = some (.out ()) := by
 have key : ∀ i : Nat, i ≤ n → loop (Xe2 (x.1, x.2, List.replicate n 0)) (i : Int) = some (.out ()) := by
  refine Xgp _ (Xf9 ?_) ?_
  ·
   unfold Xe2
   simp only [List.length_replicate]
   rw [snA]
  ·
   intro i hi ih
   refine lgo ?_ ih
   unfold Xe2
   simp only [List.length_replicate]
   rw [syA, rqA, rqA, Xb4 _ _ (by rw [List.length_replicate]; omega), List.getElem_replicate, Xba (by rfl), wkA]
   rfl
 exact key 0 (by omega)
theorem Ymu {q2 : Xbb × List Pic × List Bool} {q : Seq} {p : Par} {E : Int} (hp : ∀ x ∈ q2.2.1, Xja x q = true) (hw : q2.2.2.length = q2.2.1.length) (h5 : q2.2.1.length ≤ 5) : ∀ n k : Nat, k + n = q2.2.1.length → ∀ (s : Xbb) (d : Xa3), Run q p k s → s.Every = E → Xqd d = true → d.Seq.Cols.length ≤ 1048576 → d.Seq.Rows.length ≤ 1048576 → (k = 0 ∨ Rel s d) → loop (Xg8 q2) (Zdc s.Frame (k : Int) s d) = some (.out ())
 | 0, k, hk, s, d, R, hE, hd, c1, c2, rel => by
  refine Xf9 ?_
  unfold Xg8 Zdc
  simp only
  rw [snA]
 | n + 1, k, hk, s, d, R, hE, hd, c1, c2, rel => by
  have hm : maxLen = 9223372036854775807 := rfl
  have a := Xfp R.ok
  obtain ⟨s1, s2, b1, b2⟩ := Xbe a.2.1
  have l1 := Xbl s1
  have l2 := Xbl s2
  have hlt : k < q2.2.1.length := by omega
  have hfit : Xja (q2.2.1.getD k Yrw) s.Seq = true := by rw [R.eS]; exact hp _ (by rw [Xb4 _ k hlt]; exact List.getElem_mem _)
  have hsn := R.high
  generalize hpic : q2.2.1.getD k Yrw = pic at hfit
  generalize hwant : q2.2.2.getD k Yuy = want
  obtain ⟨l, now, S, e1⟩ := Ygn (want := want) R.ok hfit (.inr (by omega))
  have H := Yx0 (want := want) R.ok hfit
  have kr : Xbi s want = true ∨ Rel s d := by
   rcases rel with rel | rel
   ·
    subst rel; exact .inl (R.first want)
   ·
    exact .inr rel
  obtain ⟨D, g, rel'⟩ := Yva R.ok hfit S H hd c1 c2 kr
  have R' := R.next (by omega) S
  have okD := rel'.ok
  have c3 : D.Seq.Cols.length ≤ 1048576 := by rw [rel'.eS]; show s.Seq.Cols.length ≤ 1048576; omega
  have c4 : D.Seq.Rows.length ≤ 1048576 := by rw [rel'.eS]; show s.Seq.Rows.length ≤ 1048576; omega
  have hul := Ypi s (Xbi s want) l
  have hul3 : (Xl9 s (Xbi s want) l).length ≤ 3 := by rw [hul]; split <;> omega
  have eA := Yvy g (by omega) c1 c2
  have ih := Ymu (p := p) (E := E) hp hw h5 n (k + 1) (by omega) (Xm3 s (Xbi s want) l now) D R' hE okD c3 c4 (.inr rel')
  have hf8 : (Xm3 s (Xbi s want) l now).Frame = (s.Frame + 1) % 8 := by
   show (s.Frame + 1) % 2 ^ s.Seq.Bits.toNat = _
   rw [R.bits]; rfl
  have hf : 0 ≤ s.Frame ∧ s.Frame < 8 := by
   have := a.2.2.2.2.1
   rw [R.bits] at this
   exact this
  have hk3 : (Xbi s want == (((Xl9 s (Xbi s want) l).length : Int) == 3)) = true := by
   rw [hul]
   cases Xbi s want <;> rfl
  have ok' := Xjx (Xm3 s (Xbi s want) l now) (show s.Seq.Cols.length ≤ maxLen by omega) (show s.Seq.Rows.length ≤ maxLen by omega)
  rw [R'.ok] at ok'
  have okd' := Xot D (by omega) (by omega)
  rw [okD] at okd'
  refine lgo (y := Zdc (Xm3 s (Xbi s want) l now).Frame ((k + 1 : Nat) : Int) (Xm3 s (Xbi s want) l now) D) ?_ ih
  have es : (⟨(⟨s.Seq.Level, s.Seq.Bits, s.Seq.Cols, s.Seq.Rows⟩ : Seq), (⟨s.Par.Qp, s.Par.Large, s.Par.Exact, s.Par.Confined⟩ : Par), (⟨s.Rate.Qp, s.Rate.Target, s.Rate.Debt⟩ : Rate), s.Frame, s.Since, s.Every, s.Reach, s.Has, (⟨s.Ref.Wide, s.Ref.High, s.Ref.Dots⟩ : Pic)⟩ : Xbb) = s := rfl
  have ed : (⟨d.HasSeq, d.HasPar, d.HasRef, (⟨d.Seq.Level, d.Seq.Bits, d.Seq.Cols, d.Seq.Rows⟩ : Seq), (⟨d.Par.Qp, d.Par.Large, d.Par.Exact, d.Par.Confined⟩ : Par), d.Frame, d.Got, (⟨d.Now.Wide, d.Now.High, d.Now.Dots⟩ : Pic), (⟨d.Ref.Wide, d.Ref.High, d.Ref.Dots⟩ : Pic)⟩ : Xa3) = d := rfl
  unfold Xg8 Zdc
  simp only [Int.toNat_natCast]
  rw [syA, rqA, rqA, es, hwant, hpic, Xw3 s want (by omega) (by omega), Xab, rqA, rqA, rqA, rqA, show (⟨pic.Wide, pic.High, pic.Dots⟩ : Pic) = pic from rfl, e1, Xab]
  simp only
  rw [List.nil_append, Xa2 (show (([] : List ByteArray).length + (Xl9 s (Xbi s want) l).length) * 16 ≤ 140737488355328 ∧ ([] : List ByteArray).length + (Xl9 s (Xbi s want) l).length ≤ maxLen by rw [List.length_nil]; omega), ed, eA, Xab]
  simp only [List.length_replicate]
  have e0 : (0 : Int).toNat = 0 := rfl
  have en : ([now] : List Pic).getD 0 Yrw = now := rfl
  have r1 : (Xm3 s (Xbi s want) l now).Ref = now := rfl
  rw [Xat, show ((([now] : List Pic).length : Int) != 1) = false from rfl, Xao, Xa2 (show 0 ≤ (0 : Int) ∧ (0 : Int) < (([now] : List Pic).length : Int) by simp), e0, Xa2 (show 0 < ([now] : List Pic).length by simp), en, r1, Yi6, Xao, bne_self_eq_false, Xao, hk3, Xat, rqA, hf8, wkA (e := s.Frame + 1), Xb2 (by omega), bne_self_eq_false, Xao, ok', Xab, Xat, okd', Xab, Bool.not_true, Xab, Xao]
  have e40 : (sel s.Par.Exact (req (0 ≤ (0 : Int) ∧ (0 : Int) < (([now] : List Pic).length : Int)) <| req (0 < ([now] : List Pic).length) <| req (0 ≤ (k : Int) ∧ (k : Int) < (q2.2.1.length : Int)) <| req (k < q2.2.1.length) <| some ((((now.Wide == pic.Wide) && ((now.High == pic.High) && (now.Dots.toList == pic.Dots.toList))) == false))) (some false)) = some false := by
   cases hE : s.Par.Exact with
   | false => rfl
   | true =>
    rw [Xat, Xa2 (show 0 ≤ (0 : Int) ∧ (0 : Int) < (([now] : List Pic).length : Int) by simp), Xa2 (show 0 < ([now] : List Pic).length by simp), rqA, rqA, Yvj H S hE, Yi6]
  rw [e40, Xab, Xao, Yux _ (by omega) (D, [now]), Xab]
  simp only
  have e46 : (sel ((k : Int) == 0) (sel (Xbi s want) (req (0 ≤ (k : Int) ∧ (k : Int) < (q2.2.2.length : Int)) <| req (k < q2.2.2.length) <| sel want (sel (decide ((k : Int) ≥ s.Every)) (sel (s.Every == 1) (some (!Xbi s want)) (some false)) (some false)) (sel (decide ((k : Int) ≥ s.Every)) (sel (s.Every == 1) (some (!Xbi s want)) (some false)) (some false))) (some true)) (req (0 ≤ (k : Int) ∧ (k : Int) < (q2.2.2.length : Int)) <| req (k < q2.2.2.length) <| sel want (sel (Xbi s want) (sel (decide ((k : Int) ≥ s.Every)) (sel (s.Every == 1) (some (!Xbi s want)) (some false)) (some false)) (some true)) (sel (decide ((k : Int) ≥ s.Every)) (sel (s.Every == 1) (some (!Xbi s want)) (some false)) (some false)))) = some false := by
   have inner : (sel (decide ((k : Int) ≥ s.Every)) (sel (s.Every == 1) (some (!Xbi s want)) (some false)) (some false)) = some false := by
    by_cases h1 : (k : Int) ≥ s.Every
    ·
     rw [Xbh h1]
     by_cases h2 : s.Every = 1
     ·
      rw [Xbp (by rw [beq_iff_eq]; exact h2), Ywz R (by omega) h2]; rfl
     ·
      rw [Xba (by rw [beq_eq_false_iff_ne]; exact h2)]
    ·
     rw [Xap h1]
   rw [inner]
   by_cases h0 : k = 0
   ·
    rw [Xbp (by rw [beq_iff_eq]; omega)]
    have hk1 : Xbi s want = true := by subst h0; exact R.first want
    rw [hk1, Xat, rqA, rqA]
    cases want <;> rfl
   ·
    rw [Xba (by rw [beq_eq_false_iff_ne]; omega), rqA, rqA]
    cases hwv : want with
    | false => rfl
    | true =>
     rw [Xat, Yy3 R]; rfl
  rw [e46, Xab, Xao, wkA]
  rfl
theorem FnMovie {p0 : List Int} (h0 : p0.length ≤ maxLen ∧ ∀ y ∈ p0, (Lit.int .u8 y).wf = true) : Xqs p0 = some true := by
 unfold Xqs
 rw [Ysj, Xab]
 by_cases hbig : (p0.length : Int) > 1048576
 ·
  rw [Xbh hbig]
 rw [Xap hbig]
 obtain ⟨s, pics, wants, e, ok, hb, hh, hf, hsi, hev, hp, hw, h2, h5⟩ := Ycu p0 (by omega)
 rw [e, Xab, Ykp, Xab]
 have R : Run s.Seq s.Par 0 s := ⟨ok, hb, rfl, rfl, fun _ => hh, fun h => by omega, by omega⟩
 have h := Ymu (q2 := (s, pics, wants)) (q := s.Seq) (p := s.Par) (E := s.Every) hp hw h5 pics.length 0 (by simp) s Ytc R rfl Yuz (by simp [Ytc]) (by simp [Ytc]) (.inl rfl)
 exact (Xge h).trans rfl
end Go.Proofs.YtnhflbeahbcklaaGreat.A.Pure
