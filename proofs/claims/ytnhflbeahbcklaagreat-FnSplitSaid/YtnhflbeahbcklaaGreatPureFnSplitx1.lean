/- The pure statement of the law FnSplit, part 2: over numbers, texts and lists alone, what the law computes is true. Conditions: the sizes of what a machine holds. -/
import Derived.Test.YtnhflbeahbcklaaGreatPureFnSplitx0
namespace Go.Proofs.YtnhflbeahbcklaaGreat.A.Pure
open Go Go.Proofs Go.Proofs.YtnhflbeahbcklaaGreatAL Go.RowKit
set_option linter.unusedVariables false
set_option linter.unusedSimpArgs false
set_option maxHeartbeats 1000000
theorem Xu3 {e : Xm9} (h : Yac e) : ∃ x, Xor e = some x ∧ 0 ≤ x ∧ x ≤ 255 := by
 obtain ⟨h1, h2, h3, h4, _, _⟩ := h
 unfold Xor
 rw [wkA (e := (e.Above.length : Int) + (e.Left.length : Int))]
 by_cases hz : (e.Above.length : Int) + (e.Left.length : Int) = 0
 ·
  rw [Xbg (by simpa using hz)]; exact ⟨_, rfl, by omega, by omega⟩
 ·
  rw [Xa6 (by simpa using hz), rqA, Xbl (by omega), wkA (e := ((e.Above.length : Int) + (e.Left.length : Int)) / 2)]
  obtain ⟨a, ea, a1, a2⟩ := Xox (f := Xi1 e) e.Above.length (fun i s => 0 ≤ s ∧ s ≤ ((e.Above.length : Int) + (e.Left.length : Int)) / 2 + 255 * i) (by
   intro i s hi ⟨g1, g2⟩
   have := h3 (e.Above.getD i 0) (by rw [Xb3 _ i hi]; exact List.getElem_mem _)
   unfold Xi1
   simp only [Int.toNat_natCast]
   rw [syA, rqA, wkA (e := s + e.Above.getD i 0), wkA (e := (i : Int) + 1)]
   exact ⟨_, rfl, by omega, by omega⟩) (by intro s; unfold Xi1; rw [Xas (by simp)]) (((e.Above.length : Int) + (e.Left.length : Int)) / 2) ⟨by omega, by omega⟩
  obtain ⟨b, eb, b1, b2⟩ := Xox (f := Xi2 e) e.Left.length (fun i s => 0 ≤ s ∧ s ≤ ((e.Above.length : Int) + (e.Left.length : Int)) / 2 + 255 * e.Above.length + 255 * i) (by
   intro i s hi ⟨g1, g2⟩
   have := h4 (e.Left.getD i 0) (by rw [Xb3 _ i hi]; exact List.getElem_mem _)
   unfold Xi2
   simp only [Int.toNat_natCast]
   rw [syA, rqA, wkA (e := s + e.Left.getD i 0), wkA (e := (i : Int) + 1)]
   exact ⟨_, rfl, by omega, by omega⟩) (by intro s; unfold Xi2; rw [Xas (by simp)]) a ⟨by omega, by omega⟩
  rw [ea, Xab, eb, Xab, Xay hz, Xbl b1]
  have hn : (e.Above.length : Int) + (e.Left.length : Int) = 8 ∨ (e.Above.length : Int) + (e.Left.length : Int) = 16 := by omega
  have hr : 0 ≤ b / ((e.Above.length : Int) + (e.Left.length : Int)) ∧ b / ((e.Above.length : Int) + (e.Left.length : Int)) ≤ 255 := by
   rcases hn with hn | hn <;> rw [hn] <;> omega
  rw [wkA]
  exact ⟨_, rfl, hr⟩
theorem Yft (m : Int) (hm0 : 0 ≤ m ∧ m ≤ 3) {e : Xm9} (h : Yac e) : ∃ g, Xjx m e = some g ∧ Xn2 g = true := by
 have hm : maxLen = 9223372036854775807 := rfl
 have h' := h
 obtain ⟨h1, h2, h3, h4, h5, h6⟩ := h'
 obtain ⟨mid, em, m1, m2⟩ := Xu3 h
 unfold Xjx
 rw [Xrv h, Xab, Xap, Xai, Xab, decide_eq_true hm0, Bool.not_true, Xab, Xal]
 have hc : ∃ v, sel (decide (e.Corner < 0)) (some (128 : Int)) (some e.Corner) = some v ∧ 0 ≤ v ∧ v ≤ 255 := by
  by_cases c : e.Corner < 0
  ·
   rw [Xbk c]; exact ⟨_, rfl, by omega, by omega⟩
  ·
   rw [Xas c]; exact ⟨_, rfl, by omega, by omega⟩
 obtain ⟨v, ev, v1, v2⟩ := hc
 rw [ev, Xab]
 obtain ⟨o, eo, o1, o2⟩ := Xfb (f := Xed m e v) 64 (fun i s => s.length = i ∧ ∀ x ∈ s, 0 ≤ x ∧ x ≤ 255) (by
  intro i s hi ⟨g1, g2⟩
  obtain ⟨a, ea, a1, a2⟩ := Xqq e.Above (i % 8) (by omega) h1 h3
  obtain ⟨b, eb, b1, b2⟩ := Xqq e.Left (i / 8) (by omega) h2 h4
  have br := Xny (n := b + a - v) (a := 0) (b := 255) (by omega)
  have put : ∀ z : Int, 0 ≤ z ∧ z ≤ 255 → (s ++ [z]).length = i + 1 ∧ ∀ x ∈ s ++ [z], 0 ≤ x ∧ x ≤ 255 := by
   intro z hz
   refine ⟨by simp; omega, fun x hx => ?_⟩
   rcases List.mem_append.1 hx with hx | hx
   ·
    exact g2 x hx
   ·
    rw [List.mem_singleton.1 hx]; exact hz
  unfold Xed
  simp only
  rw [syA, rqA, Xbm (by omega), show (i : Int) % 8 = ((i % 8 : Nat) : Int) by omega, ea, Xab, rqA, Xbl (by omega), wkA (e := (i : Int) / 8), show (i : Int) / 8 = ((i / 8 : Nat) : Int) by omega, eb, Xab, wkA (e := (i : Int) + 1), em]
  cases (m == 0) with
  | true =>
   rw [Xap, Xab, Xay (by simp only [List.length_singleton]; omega), Xab]
   exact ⟨_, rfl, put _ ⟨m1, m2⟩⟩
  | false =>
   rw [Xal]
   cases (m == 1) with
   | true =>
    rw [Xap, Xay (by simp only [List.length_singleton]; omega), Xab]
    exact ⟨_, rfl, put _ ⟨a1, a2⟩⟩
   | false =>
    rw [Xal]
    cases (m == 2) with
    | true =>
     rw [Xap, Xay (by simp only [List.length_singleton]; omega), Xab]
     exact ⟨_, rfl, put _ ⟨b1, b2⟩⟩
    | false =>
     rw [Xal, wkA (e := b + a), wkA (e := b + a - v), Xfj, Xab, Xay (by simp only [List.length_singleton]; omega), Xab]
     exact ⟨_, rfl, put _ br⟩) (by intro s; unfold Xed; rw [Xas (by simp)]) [] ⟨rfl, fun x hx => by simp at hx⟩
 exact ⟨o, (Xei eo).trans rfl, Ymk o1 o2⟩
theorem Yt4 : Xm7 ⟨0, 0, 0, 0, []⟩ = true := rfl
theorem Yrx {m : Int} {l : List Int} (hm : 0 ≤ m ∧ m ≤ 3) (hl : Ygu l = true) : Xm7 ⟨2, m, 0, 0, l⟩ = true := by
 unfold Xm7
 simp only
 rw [if_neg (by omega), if_neg (by omega), if_pos trivial, hl, decide_eq_true hm]
 rfl
theorem Yn4 {dx dy : Int} {l : List Int} (hx : -16 ≤ dx ∧ dx ≤ 16) (hy : -16 ≤ dy ∧ dy ≤ 16) (hl : Ygu l = true) : Xm7 ⟨1, 0, dx, dy, l⟩ = true := by
 unfold Xm7
 simp only
 rw [if_neg (by omega), if_pos trivial, hl, decide_eq_true hx, decide_eq_true hy]
 rfl
theorem Yin {p : Pic} {x y : Int} {d : List Int} (ok : Xcj p = true) (h0 : Xmm p x y = true) (hd : Xn2 d = true) : ∃ p', Xl4 p x y d = some p' ∧ Xcj p' = true ∧ p'.Wide = p.Wide ∧ p'.High = p.High := by
 have hm : maxLen = 9223372036854775807 := rfl
 obtain ⟨k1, k2, k3⟩ := Xbr ok
 have ar := Xd6 k1 k2
 unfold Xmm at h0
 rw [decide_eq_true_eq] at h0
 have hdl := (Xr9 hd).1
 have hn := Xby p.Dots
 unfold Xl4
 rw [rqA]
 obtain ⟨o, e, o1⟩ := Xfb (f := Xg1 p x y d) 64 (fun _ s => s.length = p.Dots.size) (by
  intro i s hi g1
  have b1 : 0 ≤ (y + (i : Int) / 8) * p.Wide := Int.mul_nonneg (by omega) (by omega)
  have b2 : (y + (i : Int) / 8) * p.Wide ≤ (p.High - 1) * p.Wide := Int.mul_le_mul_of_nonneg_right (by omega) (by omega)
  have b3 : (p.High - 1) * p.Wide = p.Wide * p.High - p.Wide := by rw [Int.sub_mul, Int.one_mul, Int.mul_comm]
  unfold Xg1
  simp only
  rw [syA, rqA, rqA, rqA, Xbl (by omega), Xbm (by omega), wkA (e := (i : Int) / 8), wkA (e := y + (i : Int) / 8), wkA (e := (y + (i : Int) / 8) * p.Wide), wkA (e := (y + (i : Int) / 8) * p.Wide + x), wkA (e := (y + (i : Int) / 8) * p.Wide + x + (i : Int) % 8), rqA, rqA, wkA (e := (i : Int) + 1)]
  exact ⟨_, rfl, by rw [List.length_set]; exact g1⟩) (by intro s; unfold Xg1; rw [Xas (by simp)]) (Xbu p.Dots) hn
 refine ⟨_, (Xei e).trans rfl, Xtj k1 k2 ?_, rfl, rfl⟩
 simp only
 rw [strOfNums_size]; omega
def Xrh (n : Int) : Bool := decide (n.tmod 8 = 0) && decide (8 ≤ n ∧ n ≤ 64)
theorem Xs3 (n : Int) : Xo9 n = some (Xrh n) := by
 unfold Xo9 Xrh
 rw [rqA, Xai, Xab, Xdx, Xab, Yjy]
theorem Yip (l : List Xao) (c : Xfc) (hs : ∀ s ∈ l, Xm7 s = true) (hl : l.length ≤ 64) : Xot l c = some (strOfNums (Xj7 l c)) := by
 have hm : maxLen = 9223372036854775807 := rfl
 have kr : ∀ (r a : List Xao) (t : List Int), l = a ++ r → t.length ≤ 5265 * a.length → loop (Xi4 l c) ((a.length : Int), t) = some (t ++ Xj7 r c) := by
  intro r
  induction r with
  | nil =>
   intro a t ha _
   rw [List.append_nil] at ha
   exact Xce (by unfold Xi4; simp only; rw [Xas (by rw [ha]; omega), Xj7, List.append_nil])
  | cons s r ih =>
   intro a t ha ht
   have hlen : a.length < l.length := by rw [ha]; simp
   have hx : l.getD a.length Xbq = s := by rw [ha]; exact Xnn a s _ r
   have hok : Xm7 s = true := hs s (by rw [ha]; simp)
   have g := Yt3 (c := c) hok
   have hn := ih (a ++ [s]) (t ++ sqL s c) (by rw [ha]; simp) (by simp only [List.length_append, List.length_singleton]; omega)
   rw [List.length_append, List.length_singleton] at hn
   rw [Xj7, ← List.append_assoc, ← hn]
   refine Xg3 ?_
   unfold Xi4
   simp only [Int.toNat_natCast, hx]
   rw [syA, rqA, show (⟨s.Kind, s.Mode, s.Dx, s.Dy, s.Levels⟩ : Xao) = s from rfl, Yim s c hok, Xab, Yk1 _ (Xka (Yt2 _ _)), rqA, wkA]
   rfl
 unfold Xot
 exact Xei (kr l [] [] rfl (by simp))
theorem Xop (c : Xav) (hc : Xf4 c) : ∃ p c', Xeo c = some (p, c') ∧ Xj8 p = true ∧ Xf4 c' := by
 unfold Xeo
 obtain ⟨x, c1, e1, x0, x1, _, h1⟩ := Xau c 41 hc
 obtain ⟨b, c2, e2, h2⟩ := Xci c1 4 h1
 obtain ⟨y, c3, e3, y0, y1, _, h3⟩ := Xau c2 3 h2
 have x1' := x1 (by omega)
 rw [e1, Xab]
 simp only
 rw [e2, Xab]
 simp only
 rw [e3, Xab]
 simp only
 have po : ∀ (l e f : Bool), (l && e) = false → Xj8 ⟨x, l, e, f⟩ = true := by
  intro l e f h
  unfold Xj8
  rw [Bool.and_eq_true, decide_eq_true_eq]
  exact ⟨by simp only; omega, by simp only [h]; rfl⟩
 cases (y == 0) with
 | true => exact ⟨_, _, rfl, po _ _ _ rfl, h3⟩
 | false =>
  cases (y == 1) with
  | true => exact ⟨_, _, rfl, po _ _ _ rfl, h3⟩
  | false => exact ⟨_, _, rfl, po _ _ _ rfl, h3⟩
theorem Yks {V O : Type} {f g : V → Option (Lp V O)} (I : V → Prop) (h : ∀ v, I v → f v = g v) (hI : ∀ v v', I v → g v = some (.go v') → I v') : ∀ (k : Nat) (v : V), I v → it f k v = it g k v
 | 0, _, _ => rfl
 | k + 1, v, hv => by
  rw [it, it, h v hv]
  cases e : g v with
  | none => rfl
  | some s =>
   cases s with
   | go y => exact Yks I h hI k y (hI v y hv e)
   | done o => rfl
theorem Xzc {V O : Type} {f g : V → Option (Lp V O)} (I : V → Prop) (h : ∀ v, I v → f v = g v) (hI : ∀ v v', I v → g v = some (.go v') → I v') {v : V} (hv : I v) : loop f v = loop g v := by
 apply Option.ext
 intro o
 rw [Xil, Xil]
 exact ⟨fun ⟨k, hk⟩ => ⟨k, by rw [← Yks I h hI k v hv]; exact hk⟩, fun ⟨k, hk⟩ => ⟨k, by rw [Yks I h hI k v hv]; exact hk⟩⟩
theorem Yo6 {V O : Type} {f : V → Option (Lp V O)} {v : V} {o : O} (k : Nat) (h : it f k v = some o) : loop f v = some o := Xil.2 ⟨k, h⟩
theorem Ye7 {a b : List Int} {n : Nat} (ha : a.length = n) (hb : b.length = n) (h : ∀ i : Nat, i < n → a.getD i 0 = b.getD i 0) : a = b := by
 apply List.ext_getElem (by omega)
 intro i h1 h2
 have := h i (by omega)
 rwa [Xb3 a i h1, Xb3 b i h2] at this
theorem Xi9 {n : Nat} (g : Nat → Int) {i : Nat} (h : i < n) : ((List.range n).map g).getD i 0 = g i := by
 rw [Xb3 _ i (by simpa using h)]; simp
theorem Yur {α : Type} {f : Int × List α → Option (Lp (Int × List α) (List α))} (n : Nat) (g : Nat → α) (a : List α) (hs : ∀ i : Nat, i < n → f ((i : Int), a ++ (List.range i).map g) = some (.go (((i + 1 : Nat) : Int), a ++ (List.range i).map g ++ [g i]))) (he : f ((n : Int), a ++ (List.range n).map g) = some (.done (a ++ (List.range n).map g))) : loop f (0, a) = some (a ++ (List.range n).map g) := by
 have key : ∀ i : Nat, i ≤ n → loop f ((i : Int), a ++ (List.range i).map g) = some (a ++ (List.range n).map g) := by
  refine Xg2 _ (Xce he) ?_
  intro i hi ih
  refine lgo (hs i hi) ?_
  rw [List.append_assoc, show (List.range i).map g ++ [g i] = (List.range (i + 1)).map g by simp [List.range_succ]]
  exact ih
 have := key 0 (by omega)
 simpa using this
theorem Xii {S : Type} {f : Int × S → Option (Lp (Int × S) S)} (n : Nat) (I : Nat → S → Prop) (hs : ∀ (i : Nat) (l : S), i < n → I i l → ∃ l', f ((i : Int), l) = some (.go (((i + 1 : Nat) : Int), l')) ∧ I (i + 1) l') (he : ∀ l, I n l → f ((n : Int), l) = some (.done l)) (l0 : S) (h0 : I 0 l0) : ∃ o, loop f (0, l0) = some o ∧ I n o := by
 have key : ∀ i : Nat, i ≤ n → ∀ l, I i l → ∃ o, loop f ((i : Int), l) = some o ∧ I n o := by
  refine Xg2 _ ?_ ?_
  ·
   intro l h; exact ⟨l, Xce (he l h), h⟩
  ·
   intro i hi ih l h
   obtain ⟨l', e, h'⟩ := hs i l hi h
   obtain ⟨o, e2, h2⟩ := ih l' h'
   exact ⟨o, lgo e e2, h2⟩
 exact key 0 (by omega) l0 h0
theorem Yrn {f : Int × List Int → Option (Lp (Int × List Int) (List Int))} (n : Nat) (g : Nat → Int) (l : List Int) (hl : l.length = n) (hs : ∀ (i : Nat) (s : List Int), i < n → s.length = n → s.getD i 0 = l.getD i 0 → f ((i : Int), s) = some (.go (((i + 1 : Nat) : Int), s.set i (g i)))) (he : ∀ s : List Int, s.length = n → f ((n : Int), s) = some (.done s)) : loop f (0, l) = some ((List.range n).map g) := by
 obtain ⟨o, e, h1, h2, _⟩ := Xii (f := f) n (fun i s => s.length = n ∧ (∀ j, j < i → s.getD j 0 = g j) ∧ ∀ j, i ≤ j → s.getD j 0 = l.getD j 0) (by
  intro i s hi ⟨g1, g2, g3⟩
  refine ⟨_, hs i s hi g1 (g3 i (Nat.le_refl _)), by rw [List.length_set]; exact g1, fun j hj => ?_, fun j hj => ?_⟩
  ·
   rw [Xf5 s i j _ (by omega)]
   by_cases h : i = j
   ·
    rw [if_pos h, h]
   ·
    rw [if_neg h]; exact g2 j (by omega)
  ·
   rw [Xf5 s i j _ (by omega), if_neg (by omega)]; exact g3 j (by omega)) (fun s hs => he s hs.1) l ⟨hl, fun j hj => by omega, fun _ _ => rfl⟩
 rw [e]
 congr 1
 exact Ye7 h1 (by simp) fun i hi => by rw [h2 i hi, Xi9 g hi]
theorem You : Xn1 = Xd5 := rfl
theorem Yh6 (qp : Int) (h0 : 0 ≤ qp ∧ qp ≤ 40) : Xlz qp = some (Xou qp) := by
 have h := Yt5 ⟨qp.toNat, by omega⟩
 simp only at h
 rw [show ((qp.toNat : Nat) : Int) = qp by omega] at h
 unfold Xlz
 rw [Xai, Xab, decide_eq_true (by omega), Bool.not_true, Xal, rqA]
 have hb : (sel ((qp.tmod 6) == 0) (some (10 : Int)) (sel ((qp.tmod 6) == 1) (some 11) (sel ((qp.tmod 6) == 2) (some 13) (sel ((qp.tmod 6) == 3) (some 14) (sel ((qp.tmod 6) == 4) (some 16) (some 18)))))) = some (Xrk qp) := by
  unfold Xrk
  simp only [Yle, beq_iff_eq]
  repeat' split
  all_goals rfl
 rw [hb, Xab]
 unfold Xou at h ⊢
 cases e : it (Xmg qp) 10 (Xrk qp, 0) with
 | none => rw [e] at h; simp only at h; omega
 | some q => rw [Xil.2 ⟨10, e⟩, Xab]
theorem Yko : ∀ q : Fin 41, Xll (q.val : Int) = some (Xou (q.val : Int)) := by decide +kernel
theorem Yhh (qp : Int) (h0 : 0 ≤ qp ∧ qp ≤ 40) : Xll qp = some (Xou qp) := by
 have := Yko ⟨qp.toNat, by omega⟩
 simp only at this
 rwa [show ((qp.toNat : Nat) : Int) = qp by omega] at this
theorem Yl6 (qp : Int) (h0 : 0 ≤ qp ∧ qp ≤ 40) : Xll qp = Xlz qp := by rw [Yhh qp h0, Yh6 qp h0]
theorem Xuy (u v : Nat) (hu : u < 8) (hv : v < 8) : Xlx u v = some (Xiv u v) := by
 have h := Yty ⟨u, hu⟩ ⟨v, hv⟩
 simp only at h
 unfold Xlx
 rw [Xai, Xab, decide_eq_true (by omega), Xap, Xai, Xab, decide_eq_true (by omega), Bool.not_true, Xab, Xal]
 unfold Xiv at h ⊢
 cases e : it Xmf 10 (1, (IntKind.wrap .i64 (BitVec.ofInt (IntKind.bits .i64) (u : Int) &&& BitVec.ofInt (IntKind.bits .i64) (v : Int)).toNat)) with
 | none => rw [e] at h; simp only at h; omega
 | some q => rw [Xil.2 ⟨10, e⟩, Xab]
theorem Ykn : ∀ u v : Fin 8, Xlk (u.val : Int) (v.val : Int) = some (Xiv (u.val : Int) (v.val : Int)) := by decide +kernel
theorem Xz7 (u v : Nat) (hu : u < 8) (hv : v < 8) : Xlk u v = some (Xiv u v) := Ykn ⟨u, hu⟩ ⟨v, hv⟩
def Ylc (qp p : Int) : Option Int :=
 bnd (Xri p) fun q1 => bnd (Xca q1 10 16 13) fun a1 => bnd (Xca q1 11 18 14) fun a2 => bnd (Xca q1 13 20 16) fun a3 => bnd (Xca q1 14 23 18) fun a4 => bnd (Xca q1 16 25 20) fun a5 => bnd (Xca q1 18 29 23) fun a6 =>
 it (Xfn qp) 10 ((sel (qp.tmod 6 == 0) a1 (sel (qp.tmod 6 == 1) a2 (sel (qp.tmod 6 == 2) a3 (sel (qp.tmod 6 == 3) a4 (sel (qp.tmod 6 == 4) a5 (sel (qp.tmod 6 == 5) a6 0)))))), 0)
theorem Ytu : ∀ q : Fin 41, ∀ p : Fin 16, (Ylc (q.val : Int) (p.val : Int)).isSome = true ∧ Xmr (q.val : Int) (p.val : Int) = Ylc (q.val : Int) (p.val : Int) := by decide +kernel
theorem Yjr (qp p : Int) (h0 : 0 ≤ qp ∧ qp ≤ 40) (hp : 0 ≤ p ∧ p ≤ 15) : Xmr qp p = Xm3 qp p := by
 have := Ytu ⟨qp.toNat, by omega⟩ ⟨p.toNat, by omega⟩
 simp only at this
 rw [show ((qp.toNat : Nat) : Int) = qp by omega, show ((p.toNat : Nat) : Int) = p by omega] at this
 obtain ⟨h1, h2⟩ := this
 rw [h2]
 cases e : Ylc qp p with
 | none => rw [e] at h1; cases h1
 | some o =>
  unfold Ylc at e
  unfold Xm3
  obtain ⟨k, ek, k0, k1⟩ := Xux p hp
  rw [ek, Xab] at e ⊢
  rw [Xai, Xab, decide_eq_true h0, Xap, decide_eq_false (by omega), Xab, Xal, rqA]
  obtain ⟨a1, e1, b1⟩ := Xb2 k 10 16 13
  obtain ⟨a2, e2, b2⟩ := Xb2 k 11 18 14
  obtain ⟨a3, e3, b3⟩ := Xb2 k 13 20 16
  obtain ⟨a4, e4, b4⟩ := Xb2 k 14 23 18
  obtain ⟨a5, e5, b5⟩ := Xb2 k 16 25 20
  obtain ⟨a6, e6, b6⟩ := Xb2 k 18 29 23
  rw [e1, e2, e3, e4, e5, e6] at e ⊢
  simp only [Xab, Ytx] at e ⊢
  rw [Yo6 10 e, Xab]
def Xqf (n : Int) (v16 : Int × List Int) : Option (Lp (Int × List Int) (List Int)) :=
 sel (decide (v16.1 ≤ (Xaa .i64 ((Xaa .i64 (2 * n)) - 2)))) (
 bnd (it (Xkm n v16) 20 (0, v16.2)) fun v42 =>
 some (.go (Xaa .i64 (v16.1 + 1), v42))) (
 some (.done v16.2))
theorem Yn0 {n : Int} {v : Int × List Int} {x : Lp (Int × List Int) (List Int)} (h : Xqf n v = some x) : Xg4 n v = some x := by
 unfold Xqf at h
 unfold Xg4
 rcases Xrg h with ⟨hb, h⟩ | ⟨hb, h⟩
 ·
  rw [hb, Xap]
  obtain ⟨a, h1, h2⟩ := Xb4 h
  rw [Xil.2 ⟨20, h1⟩, Xab]
  exact h2
 ·
  rw [hb, Xal]; exact h
def Yhs (n : Int) : List Int := (it (Xqf n) 20 (0, [])).getD []
theorem Yxk : (it (Xqf 4) 20 (0, [])).isSome = true ∧ (Yhs 4).length = 16 := by decide +kernel
theorem Yxl : (it (Xqf 8) 20 (0, [])).isSome = true ∧ (Yhs 8).length = 64 := by decide +kernel
theorem Ytv : ∀ i : Fin 16, (Yhs 4).getD i.val 0 = Xhg 4 (i.val : Int) := by decide +kernel
theorem Ytw : ∀ i : Fin 64, (Yhs 8).getD i.val 0 = Xhg 8 (i.val : Int) := by decide +kernel
theorem Xy6 (n : Int) (hn : n = 4 ∨ n = 8) : Xis n = some (Yhs n) ∧ ((Yhs n).length : Int) = n * n ∧ ∀ i : Nat, (i : Int) < n * n → (Yhs n).getD i 0 = Xhg n i := by
 have h : (it (Xqf n) 20 (0, [])).isSome = true ∧ ((Yhs n).length : Int) = n * n := by
  rcases hn with rfl | rfl
  ·
   have := Yxk; exact ⟨this.1, by omega⟩
  ·
   have := Yxl; exact ⟨this.1, by omega⟩
 refine ⟨?_, h.2, fun i hi => ?_⟩
 ·
  obtain ⟨o, ho⟩ := Option.isSome_iff_exists.1 h.1
  have hl := Yo6 20 (Yu8 (fun v y => Yn0 (n := n)) 20 _ ho)
  unfold Xis
  rw [hl, Xab]
  unfold Yhs; rw [ho]; rfl
 ·
  rcases hn with rfl | rfl
  ·
   exact Ytv ⟨i, by omega⟩
  ·
   exact Ytw ⟨i, by omega⟩
theorem Xr5 (n : Int) (hn : n = 4 ∨ n = 8) (l : List Int) (hl : (l.length : Int) = n * n) : Xe2 n l = Xe6 n l := by
 obtain ⟨e, h1, h2⟩ := Xy6 n hn
 have hw : Xaa .i64 (n * n) = n * n := by rcases hn with rfl | rfl <;> exact wkA
 have hn2 : n * n ≤ 64 := by rcases hn with rfl | rfl <;> omega
 unfold Xe2 Xe6
 rw [e]
 have : loop (Xh4 l (Yhs n)) (0, List.replicate (l.length : Int).toNat 0) = loop (Xc2 n l) (0, List.replicate (l.length : Int).toNat 0) := by
  refine Xzc (fun v => (∃ i : Nat, v.1 = (i : Int) ∧ i ≤ l.length) ∧ v.2.length = l.length) ?_ ?_ ⟨⟨0, rfl, by omega⟩, by simp⟩
  ·
   intro ⟨i, s⟩ ⟨⟨k, ek, hk⟩, hs⟩
   simp only at hs ek
   subst ek
   unfold Xh4 Xc2
   simp only [Int.toNat_natCast]
   rw [hw]
   by_cases hi : (k : Int) < n * n
   ·
    have hp := Xo4 n hn k hi
    have h3 := h2 k hi
    simp only [h3]
    rw [syA, Xbk hi, Xpm n hn k hi, Xab, rqA, rqA]
   ·
    rw [snA, Xas hi]
  ·
   intro ⟨i, s⟩ v' ⟨⟨k, ek, hk⟩, hs⟩ he
   simp only at hs ek
   subst ek
   unfold Xc2 at he
   simp only [Int.toNat_natCast] at he
   rw [hw] at he
   by_cases hi : (k : Int) < n * n
   ·
    have hp := Xo4 n hn k hi
    rw [Xbk hi, Xpm n hn k hi, Xab, rqA, rqA, rqA, wkA] at he
    cases he
    exact ⟨⟨k + 1, rfl, by omega⟩, by rw [List.length_set]; exact hs⟩
   ·
    rw [Xas hi] at he; cases he
 simp only [Xab, this]
def Ylx (t : Nat → Int) : Nat → Int
 | 0 => 0
 | k + 1 => Xaa .i64 (Ylx t k + t k)
def Yxg (p : List Int) (i v k : Nat) : Int := Xaa .i64 (Xiv v k * p.getD (8 * i + k) 0)
def Ywx (p : List Int) (u v k : Nat) : Int := Xaa .i64 (Xiv u k * p.getD (8 * k + v) 0)
def Xsa (p : List Int) : List Int := (List.range 64).map fun j => Ylx (Yxg p (j / 8) (j % 8)) 8
def Yr1 (p : List Int) : List Int := (List.range 64).map fun j => Ylx (Ywx (Xsa p) (j / 8) (j % 8)) 8
theorem Ymu (p : List Int) : (Xsa p).length = 64 := by simp [Xsa]
theorem Yt7 (p : List Int) : (Yr1 p).length = 64 := by simp [Yr1]
theorem Yn8 {f1 : Int × List Int → Option (Lp (Int × List Int) (List Int))} {f2 : Int × List Int → Int × List Int → Option (Lp (Int × List Int) (List Int))} {f3 : Int × List Int → Int × List Int → Int × List Int → Option (Lp (Int × List Int) (List Int))} (t : Nat → Nat → Nat → Int)
  (h1 : ∀ v, f1 v = sel (decide (v.1 < 8)) (bnd (loop (f2 v) (0, v.2)) fun w => some (.go (Xaa .i64 (v.1 + 1), w))) (some (.done v.2)))
  (h2 : ∀ v w, f2 v w = sel (decide (w.1 < 8)) (bnd (loop (f3 v w) (0, w.2)) fun x => some (.go (Xaa .i64 (w.1 + 1), x))) (some (.done w.2)))
  (h3 : ∀ (i v k : Nat) (a b s : List Int), i < 8 → v < 8 → k < 8 → s.length = 64 → f3 ((i : Int), a) ((v : Int), b) ((k : Int), s) = some (.go (((k + 1 : Nat) : Int), s.set (8 * i + v) (Xaa .i64 (s.getD (8 * i + v) 0 + t i v k)))))
  (h4 : ∀ (i v : Nat) (a b s : List Int), f3 ((i : Int), a) ((v : Int), b) (8, s) = some (.done s)) : loop f1 (0, List.replicate 64 0) = some ((List.range 64).map fun j => Ylx (t (j / 8) (j % 8)) 8) := by
 obtain ⟨o, e, o1, o2, _⟩ := Xii (f := f1) 8 (fun i s => s.length = 64 ∧ (∀ j, j < 8 * i → s.getD j 0 = Ylx (t (j / 8) (j % 8)) 8) ∧ ∀ j, 8 * i ≤ j → s.getD j 0 = 0) (by
  intro i s hi ⟨g1, g2, g3⟩
  obtain ⟨r, er, r1, r2, r3⟩ := Xii (f := f2 ((i : Int), s)) 8 (fun v s => s.length = 64 ∧ (∀ j, j < 8 * i + v → s.getD j 0 = Ylx (t (j / 8) (j % 8)) 8) ∧ ∀ j, 8 * i + v ≤ j → s.getD j 0 = 0) (by
   intro v s' hv ⟨k1, k2, k3⟩
   obtain ⟨q, eq, q1, q2, q3⟩ := Xii (f := f3 ((i : Int), s) ((v : Int), s')) 8 (fun k s => s.length = 64 ∧ (∀ j, j ≠ 8 * i + v → s.getD j 0 = s'.getD j 0) ∧ s.getD (8 * i + v) 0 = Ylx (t i v) k) (by
    intro k s'' hk ⟨m1, m2, m3⟩
    refine ⟨_, h3 i v k s s' s'' hi hv hk m1, by rw [List.length_set]; exact m1, fun j hj => ?_, ?_⟩
    ·
     rw [Xf5 _ _ _ _ (by omega), if_neg (fun h => hj h.symm)]; exact m2 j hj
    ·
     rw [Xf5 _ _ _ _ (by omega), if_pos rfl, m3]; rfl) (fun z _ => h4 i v s s' z) s' ⟨k1, fun _ _ => rfl, by rw [k3 _ (Nat.le_refl _)]; rfl⟩
   refine ⟨q, by rw [h2, Xbk (by simp only; omega), eq, Xab, wk (by simp only; omega) (by simp only; omega)]; rfl, q1, fun j hj => ?_, fun j hj => ?_⟩
   ·
    by_cases h : j = 8 * i + v
    ·
     rw [h, q3, show (8 * i + v) / 8 = i by omega, show (8 * i + v) % 8 = v by omega]
    ·
     rw [q2 j h]; exact k2 j (by omega)
   ·
    rw [q2 j (by omega)]; exact k3 j (by omega)) (fun z _ => by rw [h2, Xas (by simp)]) s ⟨g1, g2, g3⟩
  refine ⟨r, by rw [h1, Xbk (by simp only; omega), er, Xab, wk (by simp only; omega) (by simp only; omega)]; rfl, r1, fun j hj => r2 j (by omega), fun j hj => r3 j (by omega)⟩) (fun z _ => by rw [h1, Xas (by simp)]) (List.replicate 64 0) ⟨by simp, fun j hj => by omega, fun j _ => by
   by_cases h : j < 64
   ·
    rw [Xb3 _ _ (by rw [List.length_replicate]; exact h)]; exact List.getElem_replicate ..
   ·
    rw [List.getD_eq_getElem?_getD, List.getElem?_eq_none (by rw [List.length_replicate]; omega)]; rfl⟩
 rw [e]
 congr 1
 exact Ye7 o1 (by simp) fun j hj => by rw [o2 j (by omega), Xi9 (fun j => Ylx (t (j / 8) (j % 8)) 8) hj]
theorem Ym4 (p : List Int) (hp : p.length = 64) : Xsg p = some (Yr1 p) := by
 unfold Xsg
 rw [rqA]
 have e1 : loop (Xq5 p) (0, List.replicate (64 : Int).toNat 0) = some (Xsa p) :=
  Yn8 (f2 := Xq6 p) (f3 := Xko p) (fun i v k => Yxg p i v k) (fun _ => rfl) (fun _ _ => rfl) (fun i v k a b s hi hv hk hs => by
   unfold Xko
   simp only
   rw [syA, wkA (e := 8 * (i : Int)), wkA (e := 8 * (i : Int) + (v : Int)), wkA (e := 8 * (i : Int) + (k : Int)), rqA, rqA, Xz7 v k hv hk, Xab, rqA, rqA, rqA, wkA (e := (k : Int) + 1), show (8 * (i : Int) + (v : Int)).toNat = 8 * i + v by omega, show (8 * (i : Int) + (k : Int)).toNat = 8 * i + k by omega]
   rfl) (fun i v a b s => by unfold Xko; rw [Xas (by simp)])
 have e2 : loop (Xpg (Xsa p)) (0, List.replicate (64 : Int).toNat 0) = some (Yr1 p) :=
  Yn8 (f2 := Xph (Xsa p)) (f3 := Xit (Xsa p)) (fun i v k => Ywx (Xsa p) i v k) (fun _ => rfl) (fun _ _ => rfl) (fun i v k a b s hi hv hk hs => by
   have hl := Ymu p
   unfold Xit
   simp only
   rw [syA, wkA (e := 8 * (i : Int)), wkA (e := 8 * (i : Int) + (v : Int)), wkA (e := 8 * (k : Int)), wkA (e := 8 * (k : Int) + (v : Int)), rqA, rqA, Xz7 i k hi hk, Xab, rqA, rqA, rqA, rqA, wkA (e := (k : Int) + 1), show (8 * (i : Int) + (v : Int)).toNat = 8 * i + v by omega, show (8 * (k : Int) + (v : Int)).toNat = 8 * k + v by omega]
   rfl) (fun i v a b s => by unfold Xit; rw [Xas (by simp)])
 rw [e1, Xab, rqA, e2, Xab]
theorem Yij (p : List Int) (hp : p.length = 64) (i v : Nat) (hi : i < 8) (hv : v < 8) : Xoq p i v = some (Ylx (Yxg p i v) 8) := by
 obtain ⟨o, e, h⟩ := Xox (f := Xe9 p i v) 8 (fun k s => s = Ylx (Yxg p i v) k) (by
  intro k s hk g
  subst g
  unfold Xe9
  simp only
  rw [syA, wkA (e := 8 * (i : Int)), wkA (e := 8 * (i : Int) + (k : Int)), rqA, Xuy v k hv hk, Xab, wkA (e := (k : Int) + 1), show (8 * (i : Int) + (k : Int)).toNat = 8 * i + k by omega, Int.mul_comm (p.getD _ _)]
  exact ⟨_, rfl, rfl⟩) (by intro s; unfold Xe9; rw [Xas (by simp)]) 0 rfl
 unfold Xoq
 rw [e, Xab, h]
theorem Ygd (p : List Int) (hp : p.length = 64) : Xm5 p = some (Yr1 p) := by
 have hm : maxLen = 9223372036854775807 := rfl
 unfold Xm5
 obtain ⟨o, e, ho⟩ := Xfb (f := Xds p) 8 (fun i s => s = (List.range (8 * i)).map fun j => Ylx (Yxg p (j / 8) (j % 8)) 8) (by
  intro i s hi g
  subst g
  obtain ⟨r, er, hr⟩ := Xfb (f := Xdt p ((i : Int), (List.range (8 * i)).map fun j => Ylx (Yxg p (j / 8) (j % 8)) 8)) 8 (fun v s => s = (List.range (8 * i + v)).map fun j => Ylx (Yxg p (j / 8) (j % 8)) 8) (by
   intro v s hv g
   subst g
   unfold Xdt
   simp only
   rw [syA, Yij p hp i v hi hv, Xab, Xay (by simp only [List.length_singleton, List.length_map, List.length_range]; omega), wkA (e := (v : Int) + 1)]
   refine ⟨_, rfl, ?_⟩
   rw [show 8 * i + (v + 1) = (8 * i + v) + 1 by omega, List.range_succ, List.map_append, List.map_singleton, show (8 * i + v) / 8 = i by omega, show (8 * i + v) % 8 = v by omega]) (by intro s; unfold Xdt; rw [Xas (by simp)]) _ rfl
  rw [Nat.add_zero] at er
  unfold Xds
  simp only
  rw [syA, er, Xab, wkA (e := (i : Int) + 1)]
  exact ⟨_, rfl, by rw [hr, show 8 * (i + 1) = 8 * i + 8 by omega]⟩) (by intro s; unfold Xds; rw [Xas (by simp)]) [] rfl
 have ho' : o = Xsa p := by rw [ho]; rfl
 rw [e, Xab, ho']
 obtain ⟨o2, e2, ho2⟩ := Xfb (f := Xc3 (Xsa p)) 8 (fun i s => s = (List.range (8 * i)).map fun j => Ylx (Ywx (Xsa p) (j / 8) (j % 8)) 8) (by
  intro i s hi g
  subst g
  obtain ⟨r, er, hr⟩ := Xfb (f := Xc4 (Xsa p) ((i : Int), (List.range (8 * i)).map fun j => Ylx (Ywx (Xsa p) (j / 8) (j % 8)) 8)) 8 (fun v s => s = (List.range (8 * i + v)).map fun j => Ylx (Ywx (Xsa p) (j / 8) (j % 8)) 8) (by
   intro v s hv g
   obtain ⟨c, ec, hc⟩ := Xox (f := Xc5 (Xsa p) ((i : Int), (List.range (8 * i)).map fun j => Ylx (Ywx (Xsa p) (j / 8) (j % 8)) 8) ((v : Int), s)) 8 (fun k x => x = Ylx (Ywx (Xsa p) i v) k) (by
    intro k x hk g
    subst g
    have hl := Ymu p
    unfold Xc5
    simp only
    rw [syA, Xuy i k hi hk, Xab, wkA (e := 8 * (k : Int)), wkA (e := 8 * (k : Int) + (v : Int)), rqA, rqA, wkA (e := (k : Int) + 1), show (8 * (k : Int) + (v : Int)).toNat = 8 * k + v by omega]
    exact ⟨_, rfl, rfl⟩) (by intro s; unfold Xc5; rw [Xas (by simp)]) 0 rfl
   subst g
   unfold Xc4
   simp only
   rw [syA, ec, Xab, Xay (by simp only [List.length_singleton, List.length_map, List.length_range]; omega), wkA (e := (v : Int) + 1)]
   refine ⟨_, rfl, ?_⟩
   rw [hc, show 8 * i + (v + 1) = (8 * i + v) + 1 by omega, List.range_succ, List.map_append, List.map_singleton, show (8 * i + v) / 8 = i by omega, show (8 * i + v) % 8 = v by omega]) (by intro s; unfold Xc4; rw [Xas (by simp)]) _ rfl
  rw [Nat.add_zero] at er
  unfold Xc3
  simp only
  rw [syA, er, Xab, wkA (e := (i : Int) + 1)]
  exact ⟨_, rfl, by rw [hr, show 8 * (i + 1) = 8 * i + 8 by omega]⟩) (by intro s; unfold Xc3; rw [Xas (by simp)]) [] rfl
 rw [e2, Xab, ho2]
 rfl
theorem Yde (l : List Int) (n B : Int) (hn : (l.length : Int) = n) (hn2 : n ≤ 1000000) (h : inB B l) : Xd7 l n (-B) B = some true := by
 rw [Xnp l n (-B) B (by omega), hn, beq_self_eq_true, Bool.and_true]
 congr 1
 rw [List.all_eq_true]
 intro x hx
 rw [decide_eq_true_eq]; exact h x hx
theorem Xxt (o : List Int) {f : Int × List Int → Option (Lp (Int × List Int) (List Int))} (n : Nat) (hn : n ≤ 64) (hl : o.length = n) (hf : ∀ v : Int × List Int, f v = sel (decide (v.1 < (n : Int))) (req (0 ≤ v.1 ∧ v.1 < v.2.length) <| req (v.1.toNat < v.2.length) <| bnd (Xd5 (Xaa .i64 ((v.2.getD v.1.toNat 0) + 32)) 64) fun q => req (0 ≤ v.1 ∧ v.1 < v.2.length) <| req (v.1.toNat < v.2.length) <| some (.go (Xaa .i64 (v.1 + 1), (v.2.set v.1.toNat q)))) (some (.done v.2))) : bnd (Xjs o) (fun q => some q.2) = bnd (loop f (0, o)) fun q => some q := by
 unfold Xjs
 have : Xoa o = f := by
  funext v
  rw [hf, ← hl]; rfl
 rw [this]
 cases loop f (0, o) <;> rfl
theorem Yc5 (p : List Int) (hl : p.length = 64) (hb : inB 10000000 p) : Xio p = Xiw p := by
 unfold Xio Xiw
 rw [Yde p 64 10000000 (by omega) (by omega) hb, Xju p 64 10000000 (by omega) (by omega) (by omega) hb, Xab, Xab, Bool.not_true, Xal, Xal, Ym4 p hl, Ygd p hl, Xab, Xab]
 exact Xxt (Yr1 p) 64 (by omega) (Yt7 p) (fun _ => rfl)
def tgA (q : Int → Int → Int → Int → Option (Int × Int × Int × Int)) (v4 : (Int × (List Int))) : Option (Lp (Int × (List Int)) (List Int)) :=
 sel (decide (v4.1 < 16)) (
 req (0 ≤ v4.1 ∧ v4.1 < v4.2.length) <|
 req (v4.1.toNat < v4.2.length) <|
 req (0 ≤ (Xaa .i64 (v4.1 + 1)) ∧ (Xaa .i64 (v4.1 + 1)) < v4.2.length) <|
 req ((Xaa .i64 (v4.1 + 1)).toNat < v4.2.length) <|
 req (0 ≤ (Xaa .i64 (v4.1 + 2)) ∧ (Xaa .i64 (v4.1 + 2)) < v4.2.length) <|
 req ((Xaa .i64 (v4.1 + 2)).toNat < v4.2.length) <|
 req (0 ≤ (Xaa .i64 (v4.1 + 3)) ∧ (Xaa .i64 (v4.1 + 3)) < v4.2.length) <|
 req ((Xaa .i64 (v4.1 + 3)).toNat < v4.2.length) <|
 bnd (q (v4.2.getD v4.1.toNat 0) (v4.2.getD ((Xaa .i64 (v4.1 + 1)).toNat) 0) (v4.2.getD ((Xaa .i64 (v4.1 + 2)).toNat) 0) (v4.2.getD ((Xaa .i64 (v4.1 + 3)).toNat) 0)) fun q8 =>
 req (0 ≤ v4.1 ∧ v4.1 ≤ (Xaa .i64 (v4.1 + 4)) ∧ (Xaa .i64 (v4.1 + 4)) ≤ (v4.2.length : Int)) <|
 req ((v4.1.toNat + ((Xaa .i64 (v4.1 + 4)).toNat - v4.1.toNat) ≤ v4.2.length ∧ ([q8.1, q8.2.1, q8.2.2.1, q8.2.2.2]).length ≤ ((Xaa .i64 (v4.1 + 4)).toNat - v4.1.toNat))) <|
 some (.go (Xaa .i64 (v4.1 + 4), (over v4.2 v4.1.toNat ([q8.1, q8.2.1, q8.2.2.1, q8.2.2.2]))))) (
 some (.done v4.2))
def tgB (v17 : (Int × (List Int))) (q26 : (Int × Int × Int × Int)) (v28 : (Int × (List Int))) : Option (Lp (Int × (List Int)) (List Int)) :=
 sel (decide (v28.1 < 4)) (
 req (0 ≤ v28.1 ∧ v28.1 < ([q26.1, q26.2.1, q26.2.2.1, q26.2.2.2] : List Int).length) <|
 req (0 ≤ (Xaa .i64 (v17.1 + (Xaa .i64 (4 * v28.1)))) ∧ (Xaa .i64 (v17.1 + (Xaa .i64 (4 * v28.1)))) < v28.2.length) <|
 req ((Xaa .i64 (v17.1 + (Xaa .i64 (4 * v28.1)))).toNat < v28.2.length) <|
 some (.go (Xaa .i64 (v28.1 + 1), (v28.2.set ((Xaa .i64 (v17.1 + (Xaa .i64 (4 * v28.1)))).toNat) (([q26.1, q26.2.1, q26.2.2.1, q26.2.2.2] : List Int).getD v28.1.toNat 0))))) (
 some (.done v28.2))
noncomputable def tgC (q : Int → Int → Int → Int → Option (Int × Int × Int × Int)) (v17 : (Int × (List Int))) : Option (Lp (Int × (List Int)) (List Int)) :=
 sel (decide (v17.1 < 4)) (
 req (0 ≤ v17.1 ∧ v17.1 < v17.2.length) <|
 req (v17.1.toNat < v17.2.length) <|
 req (0 ≤ (Xaa .i64 (v17.1 + 4)) ∧ (Xaa .i64 (v17.1 + 4)) < v17.2.length) <|
 req ((Xaa .i64 (v17.1 + 4)).toNat < v17.2.length) <|
 req (0 ≤ (Xaa .i64 (v17.1 + 8)) ∧ (Xaa .i64 (v17.1 + 8)) < v17.2.length) <|
 req ((Xaa .i64 (v17.1 + 8)).toNat < v17.2.length) <|
 req (0 ≤ (Xaa .i64 (v17.1 + 12)) ∧ (Xaa .i64 (v17.1 + 12)) < v17.2.length) <|
 req ((Xaa .i64 (v17.1 + 12)).toNat < v17.2.length) <|
 bnd (q (v17.2.getD v17.1.toNat 0) (v17.2.getD ((Xaa .i64 (v17.1 + 4)).toNat) 0) (v17.2.getD ((Xaa .i64 (v17.1 + 8)).toNat) 0) (v17.2.getD ((Xaa .i64 (v17.1 + 12)).toNat) 0)) fun q26 =>
 bnd (loop (tgB v17 q26) (0, v17.2)) fun v30 =>
 some (.go (Xaa .i64 (v17.1 + 1), v30))) (
 some (.done v17.2))
noncomputable def Yxy (q : Int → Int → Int → Int → Option (Int × Int × Int × Int)) (p0 : (List Int)) : Option (List Int) :=
 bnd (Xey p0) fun q1 =>
 bnd (loop (tgA q) (0, q1)) fun v7 =>
 bnd (loop (tgC q) (0, v7)) fun v25 =>
 some v25
theorem Yua : Xct = Yxy Xd9 := rfl
abbrev Q4 := Int × Int × Int × Int
def Ynp (q : Q4) (i : Nat) : Int := [q.1, q.2.1, q.2.2.1, q.2.2.2].getD i 0
def Xvu (t : Int → Int → Int → Int → Q4) (p : List Int) : List Int := (List.range 16).map fun j => Ynp (t (p.getD (4 * (j / 4)) 0) (p.getD (4 * (j / 4) + 1) 0) (p.getD (4 * (j / 4) + 2) 0) (p.getD (4 * (j / 4) + 3) 0)) (j % 4)
def Xwo (p : List Int) : List Int := (List.range 16).map fun j => p.getD (j % 4 * 4 + j / 4) 0
theorem Xxp (t : Int → Int → Int → Int → Q4) (p : List Int) : (Xvu t p).length = 16 := by simp [Xvu]
theorem Xwp (p : List Int) : (Xwo p).length = 16 := by simp [Xwo]
theorem Ynn {l m : List Int} {i : Nat} (h : i + m.length ≤ l.length) (j : Nat) : (over l i m).getD j 0 = if i ≤ j ∧ j < i + m.length then m.getD (j - i) 0 else l.getD j 0 := by
 rw [List.getD_eq_getElem?_getD, Yc1 h]
 split <;> rw [List.getD_eq_getElem?_getD]
theorem Yv6 {q : Int → Int → Int → Int → Option Q4} {t : Int → Int → Int → Int → Q4} (hq : ∀ a b c d, q a b c d = some (t a b c d)) (p : List Int) (hp : p.length = 16) : Yxy q p = some (Xwo (Xvu t (Xwo (Xvu t p)))) := by
 have hm : maxLen = 9223372036854775807 := rfl
 unfold Yxy Xey
 rw [Xay (by simp only [List.length_nil]; omega), Xab, List.nil_append]
 have hA : loop (tgA q) (0, p) = some (Xvu t p) := by
  have key : ∀ r : Nat, r ≤ 4 → ∀ s : List Int, s.length = 16 → (∀ j, j < 4 * r → s.getD j 0 = (Xvu t p).getD j 0) → (∀ j, 4 * r ≤ j → s.getD j 0 = p.getD j 0) → loop (tgA q) (((4 * r : Nat) : Int), s) = some (Xvu t p) := by
   refine Xg2 _ ?_ ?_
   ·
    intro s h1 h2 _
    refine Xce ?_
    unfold tgA
    rw [Xas (by simp), Ye7 h1 (Xxp t p) h2]
   ·
    intro r hr ih s h1 h2 h3
    refine lgo (y := (((4 * (r + 1) : Nat) : Int), over s (4 * r) [Ynp (t (p.getD (4 * r) 0) (p.getD (4 * r + 1) 0) (p.getD (4 * r + 2) 0) (p.getD (4 * r + 3) 0)) 0, Ynp (t (p.getD (4 * r) 0) (p.getD (4 * r + 1) 0) (p.getD (4 * r + 2) 0) (p.getD (4 * r + 3) 0)) 1, Ynp (t (p.getD (4 * r) 0) (p.getD (4 * r + 1) 0) (p.getD (4 * r + 2) 0) (p.getD (4 * r + 3) 0)) 2, Ynp (t (p.getD (4 * r) 0) (p.getD (4 * r + 1) 0) (p.getD (4 * r + 2) 0) (p.getD (4 * r + 3) 0)) 3])) ?_ (ih _ ?_ ?_ ?_)
    ·
     unfold tgA
     simp only
     rw [syA, wkA (e := ((4 * r : Nat) : Int) + 1), wkA (e := ((4 * r : Nat) : Int) + 2), wkA (e := ((4 * r : Nat) : Int) + 3), wkA (e := ((4 * r : Nat) : Int) + 4)]
     rw [rqA, rqA, rqA, rqA, rqA, rqA, rqA, rqA, hq, Xab, rqA, Xay (by simp only [List.length_cons, List.length_nil]; omega)]
     rw [show (((4 * r : Nat) : Int) + 1).toNat = 4 * r + 1 by omega, show (((4 * r : Nat) : Int) + 2).toNat = 4 * r + 2 by omega, show (((4 * r : Nat) : Int) + 3).toNat = 4 * r + 3 by omega, Int.toNat_natCast, h3 _ (by omega), h3 _ (by omega), h3 _ (by omega), h3 _ (by omega)]
     rfl
    ·
     rw [Xrd (by simp only [List.length_cons, List.length_nil]; omega)]; exact h1
    ·
     intro j hj
     rw [Ynn (by simp only [List.length_cons, List.length_nil]; omega)]
     simp only [List.length_cons, List.length_nil]
     by_cases h : 4 * r ≤ j
     ·
      rw [if_pos (by omega)]
      unfold Xvu
      rw [Xi9 _ (by omega), show 4 * (j / 4) = 4 * r by omega]
      obtain h | h | h | h : j = 4 * r ∨ j = 4 * r + 1 ∨ j = 4 * r + 2 ∨ j = 4 * r + 3 := by omega
      ·
       rw [h, show 4 * r - 4 * r = 0 by omega, show (4 * r) % 4 = 0 by omega]; rfl
      ·
       rw [h, show 4 * r + 1 - 4 * r = 1 by omega, show (4 * r + 1) % 4 = 1 by omega]; rfl
      ·
       rw [h, show 4 * r + 2 - 4 * r = 2 by omega, show (4 * r + 2) % 4 = 2 by omega]; rfl
      ·
       rw [h, show 4 * r + 3 - 4 * r = 3 by omega, show (4 * r + 3) % 4 = 3 by omega]; rfl
     ·
      rw [if_neg (by omega)]; exact h2 j (by omega)
    ·
     intro j hj
     rw [Ynn (by simp only [List.length_cons, List.length_nil]; omega), if_neg (by simp only [List.length_cons, List.length_nil]; omega)]
     exact h3 j (by omega)
  exact key 0 (by omega) p hp (fun j hj => by omega) fun _ _ => rfl
 rw [hA, Xab]
 generalize hR : Xvu t p = R
 have hl : R.length = 16 := by rw [← hR]; exact Xxp t p
 have hC : loop (tgC q) (0, R) = some (Xwo (Xvu t (Xwo R))) := by
  have at4 : ∀ j : Nat, j < 16 → (Xwo (Xvu t (Xwo R))).getD j 0 = Ynp (t (R.getD (j % 4) 0) (R.getD (j % 4 + 4) 0) (R.getD (j % 4 + 8) 0) (R.getD (j % 4 + 12) 0)) (j / 4) := by
   intro j hj
   rw [Xwo, Xi9 _ hj, Xvu, Xi9 _ (by omega), Xwo, Xi9 _ (by omega), Xi9 _ (by omega), Xi9 _ (by omega), Xi9 _ (by omega)]
   rw [show (j % 4 * 4 + j / 4) / 4 = j % 4 by omega, show (j % 4 * 4 + j / 4) % 4 = j / 4 by omega, show 4 * (j % 4) % 4 * 4 + 4 * (j % 4) / 4 = j % 4 by omega, show (4 * (j % 4) + 1) % 4 * 4 + (4 * (j % 4) + 1) / 4 = j % 4 + 4 by omega, show (4 * (j % 4) + 2) % 4 * 4 + (4 * (j % 4) + 2) / 4 = j % 4 + 8 by omega, show (4 * (j % 4) + 3) % 4 * 4 + (4 * (j % 4) + 3) / 4 = j % 4 + 12 by omega]
  obtain ⟨o, e, o1, o2, _⟩ := Xii (f := tgC q) 4 (fun c s => s.length = 16 ∧ (∀ j, j < 16 → j % 4 < c → s.getD j 0 = (Xwo (Xvu t (Xwo R))).getD j 0) ∧ ∀ j, j < 16 → c ≤ j % 4 → s.getD j 0 = R.getD j 0) (by
   intro c s hc ⟨g1, g2, g3⟩
   obtain ⟨r, er, r1, r2, r3⟩ := Xii (f := tgB ((c : Int), s) (t (R.getD c 0) (R.getD (c + 4) 0) (R.getD (c + 8) 0) (R.getD (c + 12) 0))) 4 (fun i s' => s'.length = 16 ∧ (∀ j, j < 16 → j % 4 ≠ c → s'.getD j 0 = s.getD j 0) ∧ ∀ j, j < 16 → j % 4 = c → j / 4 < i → s'.getD j 0 = Ynp (t (R.getD c 0) (R.getD (c + 4) 0) (R.getD (c + 8) 0) (R.getD (c + 12) 0)) (j / 4)) (by
    intro i s' hi ⟨k1, k2, k3⟩
    unfold tgB
    simp only
    rw [syA, Xay (by simp only [List.length_cons, List.length_nil]; omega), wkA (e := 4 * (i : Int)), wkA (e := (c : Int) + 4 * (i : Int)), rqA, rqA, wkA (e := (i : Int) + 1), show ((c : Int) + 4 * (i : Int)).toNat = c + 4 * i by omega, Int.toNat_natCast]
    refine ⟨_, rfl, by rw [List.length_set]; exact k1, fun j hj hjc => ?_, fun j hj hjc hji => ?_⟩
    ·
     rw [Xf5 _ _ _ _ (by omega), if_neg (by omega)]; exact k2 j hj hjc
    ·
     rw [Xf5 _ _ _ _ (by omega)]
     by_cases h : c + 4 * i = j
     ·
      rw [if_pos h, show j / 4 = i by omega]; rfl
     ·
      rw [if_neg h]; exact k3 j hj hjc (by omega)) (fun z _ => by unfold tgB; rw [Xas (by simp)]) s ⟨g1, fun _ _ _ => rfl, fun j hj hjc hji => by omega⟩
   unfold tgC
   simp only
   rw [syA, wkA (e := (c : Int) + 4), wkA (e := (c : Int) + 8), wkA (e := (c : Int) + 12), rqA, rqA, rqA, rqA, rqA, rqA, rqA, rqA, hq, Xab, show ((c : Int) + 4).toNat = c + 4 by omega, show ((c : Int) + 8).toNat = c + 8 by omega, show ((c : Int) + 12).toNat = c + 12 by omega, Int.toNat_natCast, g3 c (by omega) (by omega), g3 (c + 4) (by omega) (by omega), g3 (c + 8) (by omega) (by omega), g3 (c + 12) (by omega) (by omega), er, Xab, wkA (e := (c : Int) + 1)]
   refine ⟨r, rfl, r1, fun j hj hjc => ?_, fun j hj hjc => ?_⟩
   ·
    by_cases h : j % 4 = c
    ·
     rw [r3 j hj h (by omega), at4 j hj, h]
    ·
     rw [r2 j hj h]; exact g2 j hj (by omega)
   ·
    rw [r2 j hj (by omega)]; exact g3 j hj (by omega)) (fun z _ => by unfold tgC; rw [Xas (by simp)]) R ⟨hl, fun j hj hjc => by omega, fun _ _ _ => rfl⟩
  rw [e]
  congr 1
  exact Ye7 o1 (Xwp _) fun j hj => o2 j hj (by omega)
 rw [hC, Xab]
theorem Xs0 (p : List Int) (hl : p.length = 16) : Xj5 p = some (Xwo p) := by
 unfold Xj5
 rw [rqA]
 obtain ⟨o, e, o1, o2⟩ := Xii (f := Xeg p) 16 (fun i s => s.length = 16 ∧ ∀ j, j < 16 → j % 4 * 4 + j / 4 < i → s.getD j 0 = p.getD (j % 4 * 4 + j / 4) 0) (by
  intro i s hi ⟨g1, g2⟩
  unfold Xeg
  simp only
  rw [syA, rqA, rqA, rqA, Xbm (by omega), Xbl (by omega), wkA (e := (i : Int) / 4), wkA (e := (i : Int) % 4 * 4), wkA (e := (i : Int) % 4 * 4 + (i : Int) / 4), rqA, rqA, wkA (e := (i : Int) + 1), Int.toNat_natCast, show ((i : Int) % 4 * 4 + (i : Int) / 4).toNat = i % 4 * 4 + i / 4 by omega]
  refine ⟨_, rfl, by rw [List.length_set]; exact g1, fun j hj hji => ?_⟩
  rw [Xf5 _ _ _ _ (by omega)]
  by_cases h : i % 4 * 4 + i / 4 = j
  ·
   rw [if_pos h, show j % 4 * 4 + j / 4 = i by omega]
  ·
   rw [if_neg h]; exact g2 j hj (by omega)) (fun z _ => by unfold Xeg; rw [Xas (by simp)]) (List.replicate (16 : Int).toNat 0) ⟨by simp, fun j hj h => by omega⟩
 rw [e, Xab]
 congr 1
 exact Ye7 o1 (Xwp p) fun j hj => by rw [o2 j hj (by omega), Xwo, Xi9 _ hj]
theorem Yts {f : Int × List Int → Option (Lp (Int × List Int) (List Int))} {t : Int → Int → Int → Int → Q4} (p : List Int) (h : ∀ (i : Nat) (s : List Int), i < 4 → s.length = 4 * i → f ((i : Int), s) = some (.go (((i + 1 : Nat) : Int), s ++ [(t (p.getD (4 * i) 0) (p.getD (4 * i + 1) 0) (p.getD (4 * i + 2) 0) (p.getD (4 * i + 3) 0)).1, (t (p.getD (4 * i) 0) (p.getD (4 * i + 1) 0) (p.getD (4 * i + 2) 0) (p.getD (4 * i + 3) 0)).2.1, (t (p.getD (4 * i) 0) (p.getD (4 * i + 1) 0) (p.getD (4 * i + 2) 0) (p.getD (4 * i + 3) 0)).2.2.1, (t (p.getD (4 * i) 0) (p.getD (4 * i + 1) 0) (p.getD (4 * i + 2) 0) (p.getD (4 * i + 3) 0)).2.2.2]))) (he : ∀ s, f (4, s) = some (.done s)) : loop f (0, []) = some (Xvu t p) := by
 obtain ⟨o, e, ho⟩ := Xii (f := f) 4 (fun i s => s = (List.range (4 * i)).map fun j => Ynp (t (p.getD (4 * (j / 4)) 0) (p.getD (4 * (j / 4) + 1) 0) (p.getD (4 * (j / 4) + 2) 0) (p.getD (4 * (j / 4) + 3) 0)) (j % 4)) (by
  intro i s hi g
  refine ⟨_, h i s hi (by rw [g]; simp), ?_⟩
  rw [g, show 4 * (i + 1) = 4 * i + 1 + 1 + 1 + 1 by omega]
  simp only [List.range_succ, List.map_append, List.map_singleton, List.append_assoc]
  rw [show (4 * i + 1 + 1 + 1) / 4 = i by omega, show (4 * i + 1 + 1) / 4 = i by omega, show (4 * i + 1) / 4 = i by omega, show 4 * i / 4 = i by omega, show (4 * i + 1 + 1 + 1) % 4 = 3 by omega, show (4 * i + 1 + 1) % 4 = 2 by omega, show (4 * i + 1) % 4 = 1 by omega, show 4 * i % 4 = 0 by omega]
  rfl) (fun z _ => he z) [] rfl
 rw [e, ho]; rfl
def Yi0 (a b : Int) : Int := Xaa .i64 (if a.tmod b < 0 then Xaa .i64 (a.tdiv b) - 1 else a.tdiv b)
theorem Xte (a b : Int) (hb : b ≠ 0) : Xd5 a b = some (Yi0 a b) := by
 unfold Xd5 Yi0
 rw [Xay hb, Xay hb, Yld]
 split <;> rfl
def t4B (a b c d : Int) : Q4 := (Xaa .i64 ((Xaa .i64 (a + c)) + (Xaa .i64 (b + Yi0 d 2))), Xaa .i64 ((Xaa .i64 (a - c)) + (Xaa .i64 (Yi0 b 2 - d))), Xaa .i64 ((Xaa .i64 (a - c)) - (Xaa .i64 (Yi0 b 2 - d))), Xaa .i64 ((Xaa .i64 (a + c)) - (Xaa .i64 (b + Yi0 d 2))))
theorem Xwt (a b c d : Int) : Xd9 a b c d = some (t4B a b c d) := by
 unfold Xd9
 rw [You, Xte b 2 (by omega), Xte d 2 (by omega), Xab, Xab]; rfl
theorem Xrz (p : List Int) (hl : p.length = 16) : Xif p = some (Xvu t4B p) := by
 have hm : maxLen = 9223372036854775807 := rfl
 unfold Xif
 rw [Yts (f := Xdr p) (t := t4B) p (by
  intro i s hi hs
  unfold Xdr
  simp only
  rw [syA, wkA (e := 4 * (i : Int)), wkA (e := 4 * (i : Int) + 1), wkA (e := 4 * (i : Int) + 2), wkA (e := 4 * (i : Int) + 3), rqA, rqA, rqA, rqA, show (4 * (i : Int)).toNat = 4 * i by omega, show (4 * (i : Int) + 1).toNat = 4 * i + 1 by omega, show (4 * (i : Int) + 2).toNat = 4 * i + 2 by omega, show (4 * (i : Int) + 3).toNat = 4 * i + 3 by omega, Xte _ 2 (by omega), Xab, Xte _ 2 (by omega), Xab, wkA (e := (i : Int) + 1), Xay (by simp only [List.length_cons, List.length_nil]; omega)]
  rfl) (by intro s; unfold Xdr; rw [Xas (by simp)]), Xab]
theorem Ygv (p : List Int) (hl : p.length = 16) (hb : inB 10000000 p) : Xkf p = Xk0 p := by
 unfold Xkf Xk0
 rw [Yde p 16 10000000 (by omega) (by omega) hb, Xju p 16 10000000 (by omega) (by omega) (by omega) hb, Xab, Xab, Bool.not_true, Xal, Xal, Yua, Yv6 Xwt p hl, Xrz p hl, Xab, Xab, Xs0 _ (Xxp _ _), Xab, Xrz _ (Xwp _), Xab, Xs0 _ (Xxp _ _), Xab]
 exact Xxt _ 16 (by omega) (Xwp _) (fun _ => rfl)
theorem Yk6 {β : Type} {c : Prop} [Decidable c] {k k' : Option β} (h : c → k = k') : req c k = req c k' := by
 by_cases hc : c
 ·
  rw [Xay hc, Xay hc, h hc]
 ·
  unfold req; rw [if_neg hc, if_neg hc]
theorem Xus {β : Type} {c : Prop} [Decidable c] {k k' : Option β} (h0 : c) (h : k = k') : req c k = k' := by rw [Xay h0, h]
theorem Ypd {β : Type} {b : Bool} {x x' y y' : β} (h : b = true → x = x') (h2 : b = false → y = y') : sel b x y = sel b x' y' := by
 cases b
 ·
  exact h2 rfl
 ·
  exact h rfl
theorem Ywu {α β : Type} {x x' : Option α} {f f' : α → Option β} (h : x = x') (h2 : ∀ a, x' = some a → f a = f' a) : bnd x f = bnd x' f' := by
 subst h
 cases x with
 | none => rfl
 | some a => exact h2 a rfl
theorem Ys7 {V O : Type} {f : V → Option (Lp V O)} (I : V → Prop) (J : O → Prop) (h1 : ∀ v v', I v → f v = some (.go v') → I v') (h2 : ∀ v o, I v → f v = some (.done o) → J o) {v : V} {o : O} (h : loop f v = some o) (hv : I v) : J o := by
 obtain ⟨k, hk⟩ := Xil.1 h
 clear h
 induction k generalizing v with
 | zero => cases hk
 | succ k ih =>
  rw [it] at hk
  cases e : f v with
  | none => rw [e] at hk; cases hk
  | some s =>
   rw [e] at hk
   cases s with
   | go y => exact ih (h1 v y hv e) hk
   | done o' => cases hk; exact h2 v o hv e
theorem Yc8 (l qp p : Int) (h0 : 0 ≤ qp ∧ qp ≤ 40) (hp : 0 ≤ p ∧ p ≤ 15) : Xiq l qp p = Xiy l qp p := by
 unfold Xiq Xiy
 rw [Xaj, Xai, Yjr qp p h0 hp]
theorem Yc6 (l qp : Int) (h0 : 0 ≤ qp ∧ qp ≤ 40) : Xip l qp = Xix l qp := by
 unfold Xip Xix
 rw [Xaj, Xai, Yl6 qp h0]
def Xxo (k : Int) (v7 : Int × List Int) : Option (Lp (Int × List Int) (List Int)) :=
 sel (decide (v7.1 < 4)) (
 bnd (it (Xne k v7) 10 (0, v7.2)) fun v18 =>
 some (.go (Xaa .i64 (v7.1 + 1), v18))) (
 some (.done v7.2))
theorem Yns {k : Int} {v : Int × List Int} {x : Lp (Int × List Int) (List Int)} (h : Xxo k v = some x) : Xja k v = some x := by
 unfold Xxo at h
 unfold Xja
 rcases Xrg h with ⟨hb, h⟩ | ⟨hb, h⟩
 ·
  rw [hb, Xap]
  obtain ⟨a, h1, h2⟩ := Xb4 h
  rw [Xil.2 ⟨10, h1⟩, Xab]
  exact h2
 ·
  rw [hb, Xal]; exact h
def Xo3 (k : Int) : List Int := (it (Xxo k) 10 (0, [])).getD []
def Xod (k i : Int) : Int := (Xaa .i64 ((Xaa .i64 ((Xaa .i64 (8 * (Xaa .i64 ((Xaa .i64 ((Xaa .i64 (k.tdiv 2)) * 4)) + (Xaa .i64 (i.tdiv 4)))))) + (Xaa .i64 ((k.tmod 2) * 4)))) + (i.tmod 4)))
theorem Yo9 : ∀ k : Fin 4, (it (Xxo (k.val : Int)) 10 (0, [])).isSome = true ∧ (Xo3 (k.val : Int)).length = 16 ∧ ∀ i : Fin 16, (Xo3 (k.val : Int)).getD i.val 0 = Xod (k.val : Int) (i.val : Int) ∧ 0 ≤ Xod (k.val : Int) (i.val : Int) ∧ Xod (k.val : Int) (i.val : Int) < 64 := by decide +kernel
theorem Ye0 (k : Nat) (hk : k < 4) : Xmu k = some (Xo3 k) ∧ (Xo3 k).length = 16 ∧ ∀ i : Nat, i < 16 → (Xo3 k).getD i 0 = Xod k i ∧ 0 ≤ Xod k i ∧ Xod k i < 64 := by
 obtain ⟨h1, h2, h3⟩ := Yo9 ⟨k, hk⟩
 refine ⟨?_, h2, fun i hi => h3 ⟨i, hi⟩⟩
 obtain ⟨o, ho⟩ := Option.isSome_iff_exists.1 h1
 have hl := Yo6 10 (Yu8 (fun v y => Yns (k := (k : Int))) 10 _ ho)
 unfold Xmu
 rw [hl, Xab]
 unfold Xo3; simp only at ho; rw [ho]; rfl
theorem Xrp (p : List Int) (c : Xfc) (hc : Xgf c = true) (hp : Ygu p = true) : Xhb p c = Xfm p c := by
 have hq := Ymh hc
 obtain ⟨hl, hb⟩ := Ys8 hp
 unfold Xhb Xfm
 rw [Xe5, Xc8, Xp4 p (by omega), hp, hc, Xju p 64 5000 (by omega) (by omega) (by omega) hb]
 simp only [Xab, Xap, Bool.not_true, Xal]
 rw [Xr5 8 (Or.inr rfl) p (by omega)]
 refine Ypd (fun _ => rfl) fun _ => Ypd (fun _ => ?_) fun _ => ?_
 ·
  obtain ⟨w, ew, w1, w2⟩ := Xfo 8 (Or.inr rfl) p 5000 (by omega) (by omega) hb
  rw [ew, Xab, Xab]
  have hloop : loop (Xer c (w, true)) (0, (w, true).1) = loop (Xbx c) (0, (w, true).1) := by
   have : Xer c (w, true) = Xbx c := by
    funext v
    unfold Xer Xbx
    simp only [Yc6 _ _ hq, w1, hl]
    rfl
   rw [this]
  rw [hloop]
  obtain ⟨l, el, l1, l2⟩ := Xtf (f := Xbx c) 64 (fun x => -5000 ≤ x ∧ x ≤ 5000) (fun x => -5760000 ≤ x ∧ x ≤ 5760000) (by
   intro i l hi hll hx
   obtain ⟨d, ed, d1, d2⟩ := Xqj (l.getD i 0) c.Qp hx hq
   unfold Xbx
   simp only [Int.toNat_natCast]
   rw [syA, rqA, rqA, ed, Xab, rqA, rqA, wkA (e := (i : Int) + 1)]
   exact ⟨d, rfl, d1, d2⟩) (by intro s; unfold Xbx; rw [Xas (by simp)]) w (by omega) w2
  simp only [el, Xab]
  rw [Yc5 l l1 (Ykr l2 (by omega))]
 ·
  refine Yk6 fun _ => Ywu ?_ fun _ _ => rfl
  refine Xzc (fun v => (∃ k : Nat, v.1 = (k : Int) ∧ k ≤ 4) ∧ v.2.length = 64) ?_ ?_ ⟨⟨0, rfl, by omega⟩, by simp⟩
  ·
   intro ⟨k0, s⟩ ⟨⟨k, ek, hk⟩, hs⟩
   simp only at ek hs
   subst ek
   unfold Xjj Xc1
   simp only
   refine Ypd (fun hk4 => ?_) fun _ => rfl
   have hk4 : k < 4 := by have := of_decide_eq_true hk4; omega
   rw [wkA (e := 16 * (k : Int)), wkA (e := 16 * (k : Int) + 16)]
   refine Yk6 fun _ => ?_
   rw [show (16 * (k : Int)).toNat = 16 * k by omega, show (16 * (k : Int) + 16).toNat - 16 * k = 16 by omega]
   have hcut : ((p.drop (16 * k)).take 16).length = 16 := by rw [List.length_take, List.length_drop]; omega
   obtain ⟨a, ea, a1, a2⟩ := Xfo 4 (Or.inl rfl) ((p.drop (16 * k)).take 16) 5000 (by omega) (by omega) (Yp1 (Yp0 hb _) _)
   rw [Xr5 4 (Or.inl rfl) _ (by omega), ea, Xab, Xab]
   have hloop : loop (Xea c (a, true)) (0, (a, true).1) = loop (Xbs c) (0, (a, true).1) := by
    have : Xea c (a, true) = Xbs c := by
     funext v
     unfold Xea Xbs
     simp only [show ((a.length : Nat) : Int) = 16 by omega]
     refine Ypd (fun h16 => ?_) fun _ => rfl
     have := of_decide_eq_true h16
     refine Yk6 fun h0 => Yk6 fun _ => ?_
     rw [Yc8 _ _ _ hq (by omega)]
    rw [this]
   rw [hloop]
   obtain ⟨l, el, l1, l2⟩ := Xtf (f := Xbs c) 16 (fun x => -5000 ≤ x ∧ x ≤ 5000) (fun x => -10000000 ≤ x ∧ x ≤ 10000000) (by
    intro i l hi hll hx
    obtain ⟨d, ed, d1, d2⟩ := Xqk (l.getD i 0) c.Qp i hx hq (by omega)
    unfold Xbs
    simp only [Int.toNat_natCast]
    rw [syA, rqA, rqA, ed, Xab, rqA, rqA, wkA (e := (i : Int) + 1)]
    exact ⟨d, rfl, d1, d2⟩) (by intro s; unfold Xbs; rw [Xas (by simp)]) a (by omega) a2
   obtain ⟨b, eb, b1, b2⟩ := Xrw l l1 l2
   obtain ⟨q1, q2, q3⟩ := Ye0 k hk4
   simp only [el, Xab]
   rw [Ygv l l1 l2, eb, Xab, Xab, q1, Xab]
   refine Ywu ?_ fun _ _ => rfl
   have : Xf6 b (Xo3 k) = Xbz ((k : Int), s) b := by
    funext v
    unfold Xf6 Xbz
    simp only [show (((Xo3 k).length : Nat) : Int) = 16 by omega]
    refine Ypd (fun h16 => ?_) fun _ => rfl
    have h16 := of_decide_eq_true h16
    by_cases h0 : 0 ≤ v.1
    ·
     obtain ⟨i, hi⟩ : ∃ i : Nat, v.1 = (i : Int) := ⟨v.1.toNat, by omega⟩
     obtain ⟨v1, v2⟩ := v
     simp only at hi h0 h16
     subst hi
     obtain ⟨r1, r2, r3⟩ := q3 i (by omega)
     have e1 : (Xaa .i64 ((Xaa .i64 ((Xaa .i64 (8 * (Xaa .i64 ((Xaa .i64 ((Xaa .i64 ((k : Int).tdiv 2)) * 4)) + (Xaa .i64 ((i : Int).tdiv 4)))))) + (Xaa .i64 (((k : Int).tmod 2) * 4)))) + ((i : Int).tmod 4))) = Xod k i := rfl
     simp only [Int.toNat_natCast, r1, e1]
     refine Xus (by omega) (Xus (by omega) (Xus (by omega) (Xus (by omega) ?_)))
     refine (Xus (by omega) (Xus (by omega) (Xus (by omega) (Xus (by omega) (Xus (by omega) (Xus (by omega) ?_)))))).symm
     rfl
    ·
     unfold req
     rw [if_neg (by omega), if_pos (by omega), if_pos (by omega), if_pos (by omega), if_pos (by omega), if_neg (by omega)]
   rw [this]
  ·
   intro ⟨k0, s⟩ v' ⟨⟨k, ek, hk⟩, hs⟩ he
   simp only at ek hs
   subst ek
   unfold Xc1 at he
   simp only at he
   rcases Xrg he with ⟨hb4, he⟩ | ⟨_, he⟩
   ·
    have hk4 : k < 4 := by have := of_decide_eq_true hb4; omega
    obtain ⟨_, he⟩ := Xa7 he
    obtain ⟨a, _, he⟩ := Xb4 he
    obtain ⟨l, _, he⟩ := Xb4 he
    obtain ⟨b, _, he⟩ := Xb4 he
    obtain ⟨r, hr, he⟩ := Xb4 he
    rw [wkA (e := (k : Int) + 1)] at he
    cases he
    refine ⟨⟨k + 1, rfl, by omega⟩, ?_⟩
    refine Ys7 (f := Xbz ((k : Int), s) b) (fun v => v.2.length = 64) (fun o => o.length = 64) ?_ ?_ hr hs
    ·
     intro v v' hv he
     unfold Xbz at he
     rcases Xrg he with ⟨_, he⟩ | ⟨_, he⟩
     ·
      obtain ⟨_, he⟩ := Xa7 he
      obtain ⟨_, he⟩ := Xa7 he
      obtain ⟨_, he⟩ := Xa7 he
      obtain ⟨_, he⟩ := Xa7 he
      obtain ⟨_, he⟩ := Xa7 he
      obtain ⟨_, he⟩ := Xa7 he
      obtain ⟨_, he⟩ := Xa7 he
      obtain ⟨_, he⟩ := Xa7 he
      cases he
      simp only [List.length_set]; exact hv
     ·
      cases he
    ·
     intro v o hv he
     unfold Xbz at he
     rcases Xrg he with ⟨_, he⟩ | ⟨_, he⟩
     ·
      obtain ⟨_, he⟩ := Xa7 he
      obtain ⟨_, he⟩ := Xa7 he
      obtain ⟨_, he⟩ := Xa7 he
      obtain ⟨_, he⟩ := Xa7 he
      obtain ⟨_, he⟩ := Xa7 he
      obtain ⟨_, he⟩ := Xa7 he
      obtain ⟨_, he⟩ := Xa7 he
      obtain ⟨_, he⟩ := Xa7 he
      cases he
     ·
      cases he; exact hv
   ·
    cases he
theorem Yqe {S O : Type} {f g : Int × S → Option (Lp (Int × S) O)} (n : Nat) (I : Nat → S → Prop) (h : ∀ (i : Nat) (s : S), i ≤ n → I i s → f ((i : Int), s) = g ((i : Int), s)) (hI : ∀ (i : Nat) (s : S) (v' : Int × S), i ≤ n → I i s → g ((i : Int), s) = some (.go v') → v'.1 = ((i + 1 : Nat) : Int) ∧ i + 1 ≤ n ∧ I (i + 1) v'.2) {s0 : S} (h0 : I 0 s0) : loop f (0, s0) = loop g (0, s0) := by
 refine Xzc (fun v => ∃ i : Nat, v.1 = (i : Int) ∧ i ≤ n ∧ I i v.2) ?_ ?_ ⟨0, rfl, by omega, h0⟩
 ·
  intro ⟨k, s⟩ ⟨i, e, hi, hs⟩
  simp only at e hs
  subst e
  exact h i s hi hs
 ·
  intro ⟨k, s⟩ v' ⟨i, e, hi, hs⟩ he
  simp only at e hs
  subst e
  obtain ⟨a, b, c⟩ := hI i s v' hi hs he
  exact ⟨i + 1, a, b, c⟩
theorem Ymi {p : Pic} (ok : Xcj p = true) (x y : Int) : Xeu p x y = Xh9 p x y := by rw [Yem ok, Xky ok]
theorem Xsi {p : Pic} (ok : Xcj p = true) {x y : Int} (hx : x.tmod 8 = 0) (hy : y.tmod 8 = 0) (h : Xmm p x y = true) : Xcz p x y = some true := Ybj ok x y hx hy h
theorem Yjl {p : Pic} (ok : Xcj p = true) {x y : Int} (hx : x.tmod 8 = 0) (hy : y.tmod 8 = 0) (h : Xmm p x y = true) : Xmo p x y = Xm1 p x y := by
 unfold Xmo Xm1
 rw [Xcq, ok, Xsi ok hx hy h, Xni ok hx hy h]
 have : Xke p x y = Xfk p x y := by
  funext v
  unfold Xke Xfk
  simp only [Ymi ok]
 simp only [Xab, Xap, Bool.not_true, Xal, this, Ymi ok]
theorem Yoh {e : Xm9} (h : Yac e) : Xmp e = some true := by
 obtain ⟨h1, h2, h3, h4, h5, h6⟩ := h
 have side : ∀ l : List Int, (l.length = 0 ∨ l.length = 8) → (∀ x ∈ l, 0 ≤ x ∧ x ≤ 255) → bnd (sel (decide ((l.length : Int) > 0)) (bnd (Xd7 l 8 0 255) fun q10 => some (!q10)) (some false)) (fun v9 => some v9) = some false := by
  intro l hl hb
  rcases hl with e | e
  ·
   rw [snA]; rfl
  ·
   rw [syA, Xnp l 8 0 255 (by omega)]
   have : (l.all fun x => decide (0 ≤ x ∧ x ≤ 255)) = true := List.all_eq_true.2 fun x hx => decide_eq_true (hb x hx)
   rw [this, e]; rfl
 have go : ∀ (i : Nat) (l : List Int), i < 2 → ([e.Above, e.Left]).getD i Xl7 = l → (l.length = 0 ∨ l.length = 8) → (∀ x ∈ l, 0 ≤ x ∧ x ≤ 255) → Xff e (i : Int) = some (.go ((i + 1 : Nat) : Int)) := by
  intro i l hi hg hl hb
  unfold Xff
  simp only [Int.toNat_natCast, hg]
  have hs := side l hl hb
  rw [Xbk (by simp only [List.length_cons, List.length_nil]; omega), Xay (by simp only [List.length_cons, List.length_nil]; omega), Xay (by simp only [List.length_cons, List.length_nil]; omega)]
  obtain ⟨a, ea, hs⟩ := Xb4 hs
  injection hs with hs
  subst hs
  rw [ea, Xab, Xal, wkA]
  rfl
 unfold Xmp
 have : loop (Xff e) 0 = some (.out ()) := by
  refine lgo (go 0 e.Above (by omega) rfl h1 h3) (lgo (go 1 e.Left (by omega) rfl h2 h4) (Xce ?_))
  unfold Xff
  rw [Xas (by simp)]
 rw [this, Xab, Xaj, Xab, decide_eq_true ⟨h5, h6⟩]
def Yqv (l : List Int) : Nat → Int
 | 0 => 0
 | n + 1 => Yqv l n + l.getD n 0
theorem Xts {l : List Int} (h : ∀ x ∈ l, 0 ≤ x ∧ x ≤ 255) : ∀ n : Nat, n ≤ l.length → 0 ≤ Yqv l n ∧ Yqv l n ≤ 255 * n
 | 0, _ => by simp [Yqv]
 | n + 1, hn => by
  have a := Xts h n (by omega)
  have b := h (l.getD n 0) (by rw [Xb3 l n (by omega)]; exact List.getElem_mem _)
  rw [Yqv]; omega
theorem Yls {f : Int × Int → Option (Lp (Int × Int) Int)} {l : List Int} (hl : l.length ≤ 64) (h : ∀ x ∈ l, 0 ≤ x ∧ x ≤ 255) (hf : ∀ v, f v = sel (decide (v.2 < (l.length : Int))) (req (0 ≤ v.2 ∧ v.2 < l.length) <| some (.go (Xaa .i64 (v.1 + (l.getD v.2.toNat 0)), Xaa .i64 (v.2 + 1)))) (some (.done v.1))) (a : Int) (ha : 0 ≤ a ∧ a ≤ 100000) : loop f (a, 0) = some (a + Yqv l l.length) := by
 obtain ⟨o, e, ho⟩ := Xox (f := f) l.length (fun i s => s = a + Yqv l i) (by
  intro i s hi g
  have r := Xts h i (by omega)
  have b := h (l.getD i 0) (by rw [Xb3 l i (by omega)]; exact List.getElem_mem _)
  rw [hf]
  simp only [Int.toNat_natCast]
  rw [syA, rqA, wkA (e := s + l.getD i 0), wkA (e := (i : Int) + 1)]
  exact ⟨_, rfl, by rw [Yqv]; omega⟩) (by intro s; rw [hf, Xas (by simp)]) a (by simp [Yqv])
 rw [e, ho]
theorem Xxg {l : List Int} (hl : l.length ≤ 64) (h : ∀ x ∈ l, 0 ≤ x ∧ x ≤ 255) : Xcm l = some (Yqv l l.length) := by
 unfold Xcm
 rw [Yls (f := Xdw l) hl h (fun _ => rfl) 0 (by omega), Xab, Int.zero_add]
theorem Ytd {e : Xm9} (h : Yac e) : (sel (decide ((Xaa .i64 ((e.Above.length : Int) + (e.Left.length : Int))) > 0)) (bnd (Xcm e.Above) fun q5 => bnd (Xcm e.Left) fun q6 => req ((2 : Int) ≠ 0) <| req ((Xaa .i64 ((e.Above.length : Int) + (e.Left.length : Int))) ≠ 0) <|
  some (Xaa .i64 ((Xaa .i64 ((Xaa .i64 (q5 + q6)) + (Xaa .i64 ((Xaa .i64 ((e.Above.length : Int) + (e.Left.length : Int))).tdiv 2)))).tdiv (Xaa .i64 ((e.Above.length : Int) + (e.Left.length : Int)))))) (some 128)) = Xor e := by
 obtain ⟨h1, h2, h3, h4, h5, h6⟩ := h
 unfold Xor
 have r1 := Xts h3 e.Above.length (Nat.le_refl _)
 have r2 := Xts h4 e.Left.length (Nat.le_refl _)
 rw [wkA (e := (e.Above.length : Int) + (e.Left.length : Int))]
 by_cases hz : (e.Above.length : Int) + (e.Left.length : Int) = 0
 ·
  rw [snA, Xbg (by simpa using hz)]
 ·
  rw [syA, Xa6 (by simpa using hz), Xxg (by omega) h3, Xab, Xxg (by omega) h4, Xab, rqA, Xay hz, rqA, Xbl (a := (e.Above.length : Int) + (e.Left.length : Int)) (by omega), wkA (e := ((e.Above.length : Int) + (e.Left.length : Int)) / 2),
   Yls (f := Xi1 e) (by omega) h3 (fun _ => rfl) _ (by omega), Xab, Yls (f := Xi2 e) (by omega) h4 (fun _ => rfl) _ (by omega), Xab, Xay hz, wkA (e := Yqv e.Above e.Above.length + Yqv e.Left e.Left.length), wkA (e := Yqv e.Above e.Above.length + Yqv e.Left e.Left.length + ((e.Above.length : Int) + (e.Left.length : Int)) / 2)]
  congr 3; omega
theorem Ynm (l : List Int) (hl : l.length = 0 ∨ l.length = 8) : ∃ g, Xlp l = some g ∧ g.length = 8 ∧ ∀ k : Nat, k < 8 → Xfa l k = some (g.getD k 0) := by
 unfold Xlp
 rcases hl with e | e
 ·
  refine ⟨_, Xbg (by rw [e]; rfl), rfl, fun k hk => ?_⟩
  unfold Xfa
  rw [Xbg (by rw [e]; rfl)]
  congr 1
  obtain rfl | rfl | rfl | rfl | rfl | rfl | rfl | rfl : k = 0 ∨ k = 1 ∨ k = 2 ∨ k = 3 ∨ k = 4 ∨ k = 5 ∨ k = 6 ∨ k = 7 := by omega
  all_goals rfl
 ·
  refine ⟨l, Xa6 (by rw [e]; rfl), e, fun k hk => ?_⟩
  unfold Xfa
  rw [Xa6 (by rw [e]; rfl), rqA, Int.toNat_natCast]
theorem Yj0 (n a b : Int) : Xep n a b = Xhm n a b := by rw [Xkd, Xfj]
def Xyn (m mid v : Int) (A B : List Int) (i : Nat) : Int := sel (m == 0) mid (sel (m == 1) (A.getD (i % 8) 0) (sel (m == 2) (B.getD (i / 8) 0) (Xde (Xaa .i64 (Xaa .i64 (B.getD (i / 8) 0 + A.getD (i % 8) 0) - v)) 0 255)))
theorem Yri {f1 : Int × List Int → Option (Lp (Int × List Int) (List Int))} {f2 : Int × List Int → Int × List Int → Option (Lp (Int × List Int) (List Int))} (g : Nat → Int)
  (h1 : ∀ v, f1 v = sel (decide (v.1 < 8)) (bnd (loop (f2 v) (0, v.2)) fun w => some (.go (Xaa .i64 (v.1 + 1), w))) (some (.done v.2)))
  (h2 : ∀ (r c : Nat) (a s : List Int), r < 8 → c < 8 → s.length = 8 * r + c → f2 ((r : Int), a) ((c : Int), s) = some (.go (((c + 1 : Nat) : Int), s ++ [g (8 * r + c)])))
  (h3 : ∀ (r : Nat) (a s : List Int), f2 ((r : Int), a) (8, s) = some (.done s)) : loop f1 (0, []) = some ((List.range 64).map g) := by
 obtain ⟨o, e, ho⟩ := Xfb (f := f1) 8 (fun r s => s = (List.range (8 * r)).map g) (by
  intro r s hr hs
  obtain ⟨q, eq, hq⟩ := Xii (f := f2 ((r : Int), s)) 8 (fun c s' => s' = (List.range (8 * r + c)).map g) (by
   intro c s' hc hs'
   exact ⟨_, h2 r c s s' hr hc (by rw [hs']; simp), by rw [hs', show 8 * r + (c + 1) = (8 * r + c) + 1 by omega, List.range_succ, List.map_append]; rfl⟩) (fun z _ => h3 r s z) s hs
  rw [h1]
  refine ⟨q, ?_, by rw [hq, show 8 * (r + 1) = 8 * r + 8 by omega]⟩
  simp only
  rw [syA, eq, Xab, wkA]
  rfl) (by intro s; rw [h1, Xas (by simp)]) [] rfl
 rw [e, ho]
theorem Yl2 (m : Int) (hm0 : 0 ≤ m ∧ m ≤ 3) {e : Xm9} (h : Yac e) : ∃ g, Xjp m e = some g ∧ Xjx m e = some g := by
 have hm : maxLen = 9223372036854775807 := rfl
 obtain ⟨mid, em, m1, m2⟩ := Xu3 h
 obtain ⟨A, eA, hA, fA⟩ := Ynm e.Above h.1
 obtain ⟨B, eB, hB, fB⟩ := Ynm e.Left h.2.1
 obtain ⟨v, ev⟩ : ∃ v, sel (decide (e.Corner < 0)) (some (128 : Int)) (some e.Corner) = some v := by rw [Ytx]; exact ⟨_, rfl⟩
 refine ⟨(List.range 64).map (Xyn m mid v A B), ?_, ?_⟩
 ·
  unfold Xjp
  rw [Yoh h, Xab, Xap, Xaj, Xab, decide_eq_true hm0, Bool.not_true, Xab, Xal, Ytd h, em, Xab, eA, Xab, eB, Xab, ev, Xab, Yri (f1 := Xnc m mid A B v) (f2 := Xgg m mid A B v) (Xyn m mid v A B) (fun _ => rfl) ?_ ?_, Xab]
  ·
   intro r c a s hr hc hs
   unfold Xgg Xyn
   simp only [Int.toNat_natCast, Xkd, Xab]
   rw [syA, wkA (e := (c : Int) + 1), show (8 * r + c) % 8 = c by omega, show (8 * r + c) / 8 = r by omega]
   cases (m == 0) with
   | true => rw [Xap, Xay (by simp only [List.length_singleton]; omega), Xab]; rfl
   | false =>
    rw [Xal]
    cases (m == 1) with
    | true => rw [Xap, rqA, Xay (by simp only [List.length_singleton]; omega), Xab]; rfl
    | false =>
     rw [Xal]
     cases (m == 2) with
     | true => rw [Xap, rqA, Xay (by simp only [List.length_singleton]; omega), Xab]; rfl
     | false => rw [Xal, rqA, rqA, Xay (by simp only [List.length_singleton]; omega), Xab]; rfl
  ·
   intro r a s
   unfold Xgg
   rw [Xas (by simp)]
 ·
  unfold Xjx
  rw [Xrv h, Xab, Xap, Xai, Xab, decide_eq_true hm0, Bool.not_true, Xab, Xal, ev, Xab]
  obtain ⟨o, eo, ho⟩ := Xfb (f := Xed m e v) 64 (fun i s => s = (List.range i).map (Xyn m mid v A B)) (by
   intro i s hi hs
   have hlen : s.length = i := by rw [hs]; simp
   refine ⟨s ++ [Xyn m mid v A B i], ?_, by rw [hs, List.range_succ, List.map_append]; rfl⟩
   unfold Xed Xyn
   simp only
   rw [syA, rqA, Xbm (by omega), show (i : Int) % 8 = ((i % 8 : Nat) : Int) by omega, fA _ (by omega), Xab, rqA, Xbl (by omega), wkA (e := (i : Int) / 8), show (i : Int) / 8 = ((i / 8 : Nat) : Int) by omega, fB _ (by omega), Xab, wkA (e := (i : Int) + 1), em]
   cases (m == 0) with
   | true => rw [Xap, Xab, Xay (by simp only [List.length_singleton]; omega), Xab]; rfl
   | false =>
    rw [Xal]
    cases (m == 1) with
    | true => rw [Xap, Xay (by simp only [List.length_singleton]; omega), Xab]; rfl
    | false =>
     rw [Xal]
     cases (m == 2) with
     | true => rw [Xap, Xay (by simp only [List.length_singleton]; omega), Xab]; rfl
     | false => rw [Xal, Xfj, Xab, Xay (by simp only [List.length_singleton]; omega), Xab]; rfl) (by intro s; unfold Xed; rw [Xas (by simp)]) [] rfl
  rw [eo, Xab, ho]
theorem Yjn (m : Int) (hm0 : 0 ≤ m ∧ m ≤ 3) {e : Xm9} (h : Yac e) : Xjp m e = Xjx m e := by
 obtain ⟨g, h1, h2⟩ := Yl2 m hm0 h
 rw [h1, h2]
theorem Xz6 (g b : List Int) (hg : Xn2 g = true) (hl : b.length = 64) (hb : inB 10000000 b) : Xli g b = Xlw g b := by
 obtain ⟨g1, g2⟩ := Xr9 hg
 unfold Xli Xlw
 rw [Xr1 g hg, Yek g (by omega), hg, Yde b 64 10000000 (by omega) (by omega) hb, Xju b 64 10000000 (by omega) (by omega) (by omega) hb]
 have : Xma g b = Xgv g b := by
  funext v
  unfold Xma Xgv
  simp only [Yj0, show ((g.length : Nat) : Int) = 64 by omega]
 simp only [Xab, Xap, Bool.not_true, Xal, this]
theorem Yn5 {s : Xao} (h : Xm7 s = true) (h1 : s.Kind = 0) : s.Dx = 0 ∧ s.Dy = 0 := by
 unfold Xm7 at h
 rw [h1] at h
 simp at h
 exact ⟨h.2.1, h.2.2.1⟩
theorem Yvp {s : Xao} (h : Xm7 s = true) : (-16 ≤ s.Dx ∧ s.Dx ≤ 16) ∧ (-16 ≤ s.Dy ∧ s.Dy ≤ 16) := by
 have hk := Xqr h
 obtain h1 | h1 | h1 : s.Kind = 0 ∨ s.Kind = 1 ∨ s.Kind = 2 := by omega
 ·
  obtain ⟨a, b⟩ := Yn5 h h1; omega
 ·
  obtain ⟨a, b, _⟩ := Xrj h h1; exact ⟨a, b⟩
 ·
  unfold Xm7 at h
  rw [h1] at h
  simp at h
  omega
theorem Yeu (s : Xao) (c : Xfc) : Xhc s c = some (Xhy s c) := by
 unfold Xhc Xhy
 cases c.Key <;> rfl
structure Ywn (now ref : Pic) (l t x y : Int) (c : Xfc) (q : Xao) : Prop where
 ok : Xcj now = true
 hx : x.tmod 8 = 0
 hy : y.tmod 8 = 0
 h0 : Xmm now x y = true
 hl : 0 ≤ l ∧ l ≤ 256
 ht : 0 ≤ t ∧ t ≤ 256
 hc : Xgf c = true
 hs : q.Levels.length ≤ 1048576
theorem Yjs {now ref : Pic} {l t x y : Int} {c : Xfc} {q : Xao} (h : Ywn now ref l t x y c q) (hq : (Xm7 q && Xhy q c) = false) : Xdj now ref l t c x y q = some ([], false) := by
 unfold Xdj
 rw [Xcq, Xab, h.ok, Xap, Xsi h.ok h.hx h.hy h.h0, Xab, Xap, Xaj, Xab, decide_eq_true h.hl, Xap, Xaj, Xab, decide_eq_true h.ht, Xap, Xem q (by have := h.hs; omega), Xab, Xc8, Xab, h.hc, Xap, Yeu, Xab]
 cases h1 : Xm7 q with
 | false => rfl
 | true =>
  rw [h1, Bool.true_and] at hq
  rw [hq]; rfl
theorem Yc9 {now ref : Pic} {l t x y : Int} {c : Xfc} {q : Xao} (h : Ywn now ref l t x y c q) (hq : Xm7 q = true) (hL : Xhy q c = true) (hr : c.Key = false → Xcj ref = true) : ∃ d, Xdj now ref l t c x y q = some (d, true) ∧ Xef now ref l t c x y q = some (d, true) ∧ Xn2 d = true := by
 obtain ⟨ok, hx, hy, h0, hl, ht, hc, hs⟩ := h
 obtain ⟨k1, k2, k3⟩ := Xbr ok
 have h0' := h0
 unfold Xmm at h0'
 rw [decide_eq_true_eq] at h0'
 have dxy := Yvp hq
 unfold Xef Xdj
 rw [Xni ok hx hy h0, Xab, Xap, Xai, Xab, decide_eq_true hl, Xap, Xai, Xab, decide_eq_true ht, Xap, Xjd, Xab, hq, Xap, Xe5, Xab, hc, Bool.not_true, Xab, Xal]
 rw [Xcq, Xab, ok, Xap, Xsi ok hx hy h0, Xab, Xap, Xaj, Xab, decide_eq_true hl, Xap, Xaj, Xab, decide_eq_true ht, Xap, Xem q (by omega), Xab, hq, Xap, Xc8, Xab, hc, Xap, Yeu, Xab, hL, Xap]
 by_cases h2 : q.Kind = 2
 ·
  obtain ⟨hm, hlv⟩ := Xtq hq h2
  obtain ⟨e, ee, he⟩ := Yfq ok hx hy h0
  obtain ⟨b, eb, b1, b2⟩ := Xo5 q.Levels c hc hlv
  obtain ⟨g, eg, hg⟩ := Yft q.Mode hm he
  obtain ⟨j, ej, hj⟩ := Xuw g b hg b1 b2
  refine ⟨j, ?_, ?_, hj⟩
  ·
   rw [Xa6 (b := q.Kind != 2) (by simpa using h2), Xab, Xal, Xa6 (by rw [h2]; rfl), Xrp q.Levels c hc hlv, eb, Xab, Xa6 (by rw [h2]; rfl), Yjl ok hx hy h0, ee, Xab, Yjn q.Mode hm he, eg, Xab, Xz6 g b hg b1 b2, ej, Xab]
  ·
   rw [Xbg (by simpa using h2), ee, Xab, eb, Xab, eg, Xab, ej, Xab]
 ·
  have hK : c.Key = false := by
   unfold Xhy at hL
   cases hk : c.Key with
   | false => rfl
   | true => rw [hk] at hL; simp at hL; exact absurd hL h2
  have rok := hr hK
  rw [Xbg (b := q.Kind != 2) (by simpa using h2), Xcq, Xab, rok, Bool.not_true, Xab, Xal]
  rw [Xa6 (b := q.Kind == 2) (by simpa using h2), hK, Xal, Xga, Xab, rok, Bool.not_true, Xab, Xal]
  rw [wkA (e := l + x), wkA (e := l + x + q.Dx), wkA (e := t + y), wkA (e := t + y + q.Dy), Yfp rok _ _ (by omega) (by omega), Xab, Xw9 rok _ _ (by omega) (by omega), Xab, Xw9 rok _ _ (by omega) (by omega)]
  by_cases h3 : q.Kind = 0
  ·
   obtain ⟨z1, z2⟩ := Yn5 hq h3
   rw [Xbg (b := q.Kind == 0) (by simpa using h3), Xbg (b := q.Kind == 0) (by simpa using h3), z1, z2, Int.add_zero, Int.add_zero]
   exact ⟨_, rfl, rfl, Ydg _ _ _⟩
  ·
   have h1 : q.Kind = 1 := by have := Xqr hq; omega
   obtain ⟨_, _, hlv⟩ := Xrj hq h1
   obtain ⟨b, eb, b1, b2⟩ := Xo5 q.Levels c hc hlv
   obtain ⟨j, ej, hj⟩ := Xuw _ b (Ydg ref (l + x + q.Dx) (t + y + q.Dy)) b1 b2
   rw [Xa6 (b := q.Kind == 0) (by simpa using h3), Xa6 (b := q.Kind == 0) (by simpa using h3), Xrp q.Levels c hc hlv, eb, Xab, Xab, Xbg (b := q.Kind == 1) (by simpa using h1), Xab, Xz6 _ b (Ydg _ _ _) b1 b2, ej, Xab]
   exact ⟨_, rfl, rfl, hj⟩
theorem Yvi {β : Type} {a b c : Prop} [Decidable a] [Decidable b] [Decidable c] (hb : b) (hc : c) (k : Option β) : req a (req b (req c k)) = req b (req c (req a k)) := by
 rw [Xay hb, Xay hc, Xay hb, Xay hc]
theorem Ypw {p : Pic} (ok : Xcj p = true) : p.Dots.size ≤ 65536 := by
 obtain ⟨k1, k2, k3⟩ := Xbr ok
 have := Xd6 k1 k2
 omega
theorem Ytl {p : Pic} {x y : Int} {d : List Int} (hd : Xn2 d = true) (hp : p.Dots.size ≤ maxLen) : Xtc p x y d = Xl4 p x y d := by
 obtain ⟨d1, d2⟩ := Xr9 hd
 unfold Xtc Xl4 Xp5
 rw [Xay hp, Xab, Xay hp]
 have : Xq4 p x y d = Xg1 p x y d := by
  funext v
  unfold Xq4 Xg1
  simp only [show ((d.length : Nat) : Int) = 64 by omega]
  exact Ypd (fun _ => Yvi (by omega) (by omega) _) fun _ => rfl
 rw [this]
theorem Yta (n : Nat) (x : Int) : ((List.range n).map fun _ => x) = List.replicate n x := by
 apply List.ext_getElem
 ·
  simp
 ·
  intro i h1 h2; simp
theorem Yaf (w h : Int) (hw : 1 ≤ w ∧ w ≤ 256) (hh : 1 ≤ h ∧ h ≤ 256) : Xn4 w h = some ⟨w, h, strOfNums (List.replicate (w * h).toNat 128)⟩ := by
 have ar := Xd6 hw hh
 unfold Xn4
 rw [Xaj, Xab, decide_eq_true hw, Xap, Xaj, Xab, decide_eq_true hh, Bool.not_true, Xab, Xal, wkA (e := w * h), rqA]
 rw [Yrn (f := Xmq w h) (w * h).toNat (fun _ => 128) (List.replicate (w * h).toNat 0) (by simp) ?_ ?_, Xab, Yta]
 ·
  intro i s hi hs _
  unfold Xmq
  simp only [List.length_replicate, Int.toNat_natCast]
  rw [wkA (e := w * h), syA, rqA, rqA, wkA]
  rfl
 ·
  intro s hs
  unfold Xmq
  simp only [List.length_replicate]
  rw [wkA (e := w * h), snA]
theorem Xso (w h : Int) (hw : 1 ≤ w ∧ w ≤ 256) (hh : 1 ≤ h ∧ h ≤ 256) : Xqi w h = some ⟨w, h, strOfNums (List.replicate (w * h).toNat 128)⟩ := by
 have ar := Xd6 hw hh
 unfold Xqi
 rw [Xai, Xab, decide_eq_true hw, Xap, Xai, Xab, decide_eq_true hh, Bool.not_true, Xab, Xal, wkA (e := w * h), show w * h = (((w * h).toNat : Nat) : Int) by omega, Xss _ _ (by omega), Xab, Int.toNat_natCast]
def Xmn (p : Pic) (r : Xpb) : Bool := decide (1 ≤ r.Wide ∧ r.Wide ≤ p.Wide) && (decide (1 ≤ r.High ∧ r.High ≤ p.High) && (decide (0 ≤ r.Left ∧ r.Left ≤ p.Wide - r.Wide) && decide (0 ≤ r.Top ∧ r.Top ≤ p.High - r.High)))
theorem Xq3 {p : Pic} (ok : Xcj p = true) (r : Xpb) : Xd2 p r = some (Xmn p r) := by
 obtain ⟨k1, k2, k3⟩ := Xbr ok
 unfold Xd2 Xmn
 rw [Xaj, Xaj, Xab, Xab]
 by_cases h1 : 1 ≤ r.Wide ∧ r.Wide ≤ p.Wide
 ·
  rw [decide_eq_true h1, Xap, Bool.true_and]
  by_cases h2 : 1 ≤ r.High ∧ r.High ≤ p.High
  ·
   rw [decide_eq_true h2, Xap, Bool.true_and, wkA (e := p.Wide - r.Wide), wkA (e := p.High - r.High), Xaj, Xaj, Xab, Xab, Xdx, Xab]
  ·
   rw [decide_eq_false h2, Xal, Bool.false_and]; rfl
 ·
  rw [decide_eq_false h1, Xal, Bool.false_and]; rfl
theorem Xl2 (p : Pic) (r : Xpb) : Xdc p r.Left r.Top r.Wide r.High = some (Xcj p && Xmn p r) := by
 unfold Xdc Xmn
 rw [Xga, Xab]
 cases ok : Xcj p with
 | false => rfl
 | true =>
  obtain ⟨k1, k2, k3⟩ := Xbr ok
  rw [Xap, Xai, Xai, Xab, Xab]
  by_cases h1 : 1 ≤ r.Wide ∧ r.Wide ≤ p.Wide
  ·
   rw [decide_eq_true h1, Xap, Bool.true_and, Bool.true_and]
   by_cases h2 : 1 ≤ r.High ∧ r.High ≤ p.High
   ·
    rw [decide_eq_true h2, Xap, Bool.true_and, wkA (e := p.Wide - r.Wide), wkA (e := p.High - r.High), Xai, Xai, Xab, Xab, Xdx, Xab]
   ·
    rw [decide_eq_false h2, Xal, Bool.false_and]; rfl
  ·
   rw [decide_eq_false h1, Xal, Bool.false_and]; rfl
theorem Xjo {p : Pic} {r : Xpb} (h : Xmn p r = true) : (1 ≤ r.Wide ∧ r.Wide ≤ p.Wide) ∧ (1 ≤ r.High ∧ r.High ≤ p.High) ∧ (0 ≤ r.Left ∧ r.Left ≤ p.Wide - r.Wide) ∧ (0 ≤ r.Top ∧ r.Top ≤ p.High - r.High) := by
 unfold Xmn at h
 simp only [Bool.and_eq_true, decide_eq_true_eq] at h
 exact h
def Xpc (p : Pic) (r : Xpb) : Nat → List Int
 | 0 => []
 | n + 1 => Xpc p r n ++ Xbu (p.Dots.extract ((r.Top + n) * p.Wide + r.Left).toNat ((r.Top + n) * p.Wide + r.Left + r.Wide).toNat)
theorem Ysm {p : Pic} {r : Xpb} (ok : Xcj p = true) (h : Xmn p r = true) (n : Nat) (hn : (n : Int) < r.High) : 0 ≤ (r.Top + n) * p.Wide ∧ (r.Top + n) * p.Wide + r.Left + r.Wide ≤ p.Dots.size ∧ (r.Top + n) * p.Wide ≤ 65536 ∧ (Xbu (p.Dots.extract ((r.Top + n) * p.Wide + r.Left).toNat ((r.Top + n) * p.Wide + r.Left + r.Wide).toNat)).length = r.Wide.toNat := by
 obtain ⟨k1, k2, k3⟩ := Xbr ok
 obtain ⟨a1, a2, a3, a4⟩ := Xjo h
 have ar := Xd6 k1 k2
 have b1 : 0 ≤ (r.Top + n) * p.Wide := Int.mul_nonneg (by omega) (by omega)
 have b2 : (r.Top + n) * p.Wide ≤ (p.High - 1) * p.Wide := Int.mul_le_mul_of_nonneg_right (by omega) (by omega)
 have b3 : (p.High - 1) * p.Wide = p.Wide * p.High - p.Wide := by rw [Int.sub_mul, Int.one_mul, Int.mul_comm]
 refine ⟨b1, by omega, by omega, ?_⟩
 rw [Xby, ByteArray.size_extract]
 omega
theorem Xvd {p : Pic} {r : Xpb} (ok : Xcj p = true) (h : Xmn p r = true) : ∀ n : Nat, (n : Int) ≤ r.High → ((Xpc p r n).length : Int) = n * r.Wide
 | 0, _ => by simp [Xpc]
 | n + 1, hn => by
  have a := Xjo h
  have b := Ysm ok h n (by omega)
  rw [Xpc, List.length_append, Int.natCast_add, Xvd ok h n (by omega), b.2.2.2, Int.natCast_add, Int.add_mul]
  simp only [Int.natCast_one, Int.one_mul]
  omega
theorem Ypv {p : Pic} {r : Xpb} {f : Int × List Int → Option (Lp (Int × List Int) (List Int))} (ok : Xcj p = true) (h : Xmn p r = true) (hf : f = Xkw p r) : loop f (r.Top, []) = some (Xpc p r r.High.toNat) := by
 have hm : maxLen = 9223372036854775807 := rfl
 obtain ⟨k1, k2, k3⟩ := Xbr ok
 obtain ⟨a1, a2, a3, a4⟩ := Xjo h
 subst hf
 have key : ∀ n : Nat, n ≤ r.High.toNat → loop (Xkw p r) (r.Top + n, Xpc p r n) = some (Xpc p r r.High.toNat) := by
  refine Xg2 _ ?_ ?_
  ·
   refine Xce ?_
   unfold Xkw
   rw [wkA (e := r.Top + r.High), Xas (by simp only; omega)]
  ·
   intro n hn ih
   refine lgo (y := (r.Top + ((n + 1 : Nat) : Int), Xpc p r (n + 1))) ?_ ih
   obtain ⟨b1, b2, b3, b4⟩ := Ysm ok h n (by omega)
   have cl := Xvd ok h n (by omega)
   have cw : (n : Int) * r.Wide ≤ 256 * r.Wide := Int.mul_le_mul_of_nonneg_right (by omega) (by omega)
   unfold Xkw
   simp only
   rw [wkA (e := r.Top + r.High), syA, wkA (e := (r.Top + n) * p.Wide), wkA (e := (r.Top + n) * p.Wide + r.Left), wkA (e := (r.Top + n) * p.Wide + r.Left + r.Wide), rqA, Xay (by rw [b4]; omega), wkA (e := r.Top + n + 1), show r.Top + ((n + 1 : Nat) : Int) = r.Top + n + 1 by omega]
   rfl
 have := key 0 (by omega)
 simpa [Xpc] using this
def Yx3 (p : Pic) (r : Xpb) : Pic := ⟨r.Wide, r.High, strOfNums (Xpc p r r.High.toNat)⟩
theorem Ywy {p : Pic} {r : Xpb} (ok : Xcj p = true) (h : Xmn p r = true) : Xcj (Yx3 p r) = true := by
 obtain ⟨k1, k2, k3⟩ := Xbr ok
 obtain ⟨a1, a2, a3, a4⟩ := Xjo h
 refine Xtj (by show 1 ≤ r.Wide ∧ r.Wide ≤ 256; omega) (by show 1 ≤ r.High ∧ r.High ≤ 256; omega) ?_
 show ((strOfNums _).size : Int) = r.Wide * r.High
 rw [strOfNums_size, Xvd ok h _ (by omega), Int.mul_comm]
 congr 1; omega
theorem Ylm {p : Pic} {r : Xpb} (ok : Xcj p = true) (h : Xmn p r = true) : Xtp p r = some (Yx3 p r, true) := by
 unfold Xtp
 rw [Xl2, ok, h, Xab]
 simp only [Bool.true_and, Bool.not_true, Xal]
 rw [Ypv ok h rfl, Xab]
 rfl
theorem Ykb {p : Pic} {r : Xpb} (ok : Xcj p = true) (h : Xmn p r = true) : Xn0 p r = some (Yx3 p r, true) := by
 obtain ⟨k1, k2, k3⟩ := Xbr ok
 obtain ⟨a1, a2, a3, a4⟩ := Xjo h
 have ar := Xd6 (w := r.Wide) (h := r.High) (by omega) (by omega)
 unfold Xn0
 rw [Xcq, Xab, ok, Xap, Xq3 ok, Xab, h, Bool.not_true, Xab, Xal, wkA (e := r.Wide * r.High), rqA]
 have := Ypv (f := Xq1 p r) ok h rfl
 rw [show List.replicate (0 : Int).toNat (0 : Int) = [] from rfl, this, Xab]
 rfl
def Xpa (l : List Xao) (c : Xfc) : Bool := l.all fun q => Xm7 q && Xhy q c
theorem Xup (n : Int) : Xlo n = some (Xrh n) := by
 unfold Xlo Xrh
 rw [rqA, Xaj, Xab, Xdx, Xab, Yjy]
theorem Ylp (l : List Xao) (c : Xfc) (hl : l.length ≤ 1048576) : Xzx l c = some (Xgf c && (decide (1 ≤ l.length ∧ l.length ≤ 64) && Xpa l c)) := by
 unfold Xzx
 rw [Xe5, Xab]
 cases hc : Xgf c with
 | false => rfl
 | true =>
  rw [Xap, Xai, Xab, Xab]
  by_cases h64 : 1 ≤ l.length ∧ l.length ≤ 64
  ·
   rw [decide_eq_true (show 1 ≤ (l.length : Int) ∧ (l.length : Int) ≤ 64 by omega), decide_eq_true h64, Bool.not_true, Xal, Bool.true_and, Bool.true_and]
   have key : ∀ (r a : List Xao), l = a ++ r → loop (Xih l c) (a.length : Int) = some (if Xpa r c = true then .out () else .ret false) := by
    intro r
    induction r with
    | nil =>
     intro a ha
     rw [List.append_nil] at ha
     exact Xce (by unfold Xih; rw [Xas (by rw [ha]; omega)]; rfl)
    | cons s r ih =>
     intro a ha
     have hlen : a.length < l.length := by rw [ha]; simp
     have hx : l.getD a.length Xbq = s := by rw [ha]; exact Xnn a s _ r
     have hn := ih (a ++ [s]) (by rw [ha]; simp)
     rw [List.length_append, List.length_singleton] at hn
     have hstep : Xih l c (a.length : Int) = sel (!(Xm7 s && Xhy s c)) (some (.done (.ret false))) (some (.go ((a.length + 1 : Nat) : Int))) := by
      unfold Xih
      simp only [Int.toNat_natCast, hx]
      rw [syA, rqA, show (⟨s.Kind, s.Mode, s.Dx, s.Dy, s.Levels⟩ : Xao) = s from rfl, Xjd, Xab, rqA, wkA]
      unfold Xhy
      cases Xm7 s with
      | false => rfl
      | true =>
       cases c.Key with
       | false => rfl
       | true => rw [Xap, Xap, Xab, Bool.true_and, Bool.not_true, Bool.false_or]; rfl
     unfold Xpa at hn ⊢
     rw [List.all_cons]
     cases hq : (Xm7 s && Xhy s c) with
     | true =>
      rw [hq] at hstep
      rw [Xg3 (hstep.trans (by rw [Bool.not_true, Xal])), hn, Bool.true_and]
     | false =>
      rw [hq] at hstep
      rw [Xcf (hstep.trans (by rw [Bool.not_false, Xap]))]
      simp
   have k0 : loop (Xih l c) 0 = some (if Xpa l c = true then .out () else .ret false) := key l [] rfl
   rw [k0, Xab]
   cases Xpa l c <;> rfl
  ·
   rw [decide_eq_false (show ¬ (1 ≤ (l.length : Int) ∧ (l.length : Int) ≤ 64) by omega), decide_eq_false h64]; rfl
theorem Yjg {w h : Int} (hw : Xrh w = true) (hh : Xrh h = true) (i : Nat) (hi : (i : Int) < w / 8 * (h / 8)) : (8 ≤ w ∧ w ≤ 64) ∧ (8 ≤ h ∧ h ≤ 64) ∧ 1 ≤ w / 8 ∧ w / 8 ≤ 8 ∧ 1 ≤ h / 8 ∧ h / 8 ≤ 8 ∧ 0 ≤ (i : Int) % (w / 8) * 8 ∧ (i : Int) % (w / 8) * 8 ≤ w - 8 ∧ 0 ≤ (i : Int) / (w / 8) * 8 ∧ (i : Int) / (w / 8) * 8 ≤ h - 8 := by
 unfold Xrh at hw hh
 rw [Bool.and_eq_true, decide_eq_true_eq, decide_eq_true_eq] at hw hh
 rw [Xbm (by omega)] at hw hh
 have h1 : 1 ≤ w / 8 ∧ w / 8 ≤ 8 := by omega
 have h2 : 1 ≤ h / 8 ∧ h / 8 ≤ 8 := by omega
 have m0 : 0 ≤ (i : Int) % (w / 8) := Int.emod_nonneg _ (by omega)
 have m1 : (i : Int) % (w / 8) < w / 8 := Int.emod_lt_of_pos _ (by omega)
 have d0 : 0 ≤ (i : Int) / (w / 8) := Int.ediv_nonneg (by omega) (by omega)
 have d1 : (i : Int) / (w / 8) < h / 8 := Int.ediv_lt_of_lt_mul (by omega) (by rw [Int.mul_comm]; exact hi)
 exact ⟨hw.2, hh.2, h1.1, h1.2, h2.1, h2.2, by omega, by omega, by omega, by omega⟩
theorem Xhi {w : Int} (hw : Xrh w = true) : w % 8 = 0 ∧ 8 ≤ w ∧ w ≤ 64 := by
 unfold Xrh at hw
 rw [Bool.and_eq_true, decide_eq_true_eq, decide_eq_true_eq] at hw
 rw [Xbm (by omega)] at hw
 exact ⟨hw.1, hw.2⟩
structure Yun (ref : Pic) (le tp : Int) (r : Xpb) (c : Xfc) (l : List Xao) : Prop where
 hw : Xrh r.Wide = true
 hh : Xrh r.High = true
 hl : 0 ≤ le ∧ le ≤ 256
 ht : 0 ≤ tp ∧ tp ≤ 256
 hc : Xgf c = true
 hn : (l.length : Int) = r.Wide / 8 * (r.High / 8)
 hs : ∀ q ∈ l, q.Levels.length ≤ 1048576
 hr : c.Key = false → Xcj ref = true
def tbI (r : Xpb) (v : Int × Int × ByteArray) : Prop := Xcj ⟨v.1, v.2.1, v.2.2⟩ = true ∧ v.1 = r.Wide ∧ v.2.1 = r.High
theorem Yt9 {ref : Pic} {le tp : Int} {r : Xpb} {c : Xfc} {l : List Xao} (H : Yun ref le tp r c l) (i : Nat) (hi : i < l.length) (s : Int × Int × ByteArray) (hs : tbI r s) :
  ((Xm7 (l.getD i Xbq) && Xhy (l.getD i Xbq) c) = false → Xb1 r c l (le, tp, ref.Wide, ref.High, ref.Dots) ((i : Int), s) = some (.done (.ret (⟨0, 0, ⟨#[]⟩⟩, false)))) ∧
  ((Xm7 (l.getD i Xbq) && Xhy (l.getD i Xbq) c) = true → ∃ s', Xb1 r c l (le, tp, ref.Wide, ref.High, ref.Dots) ((i : Int), s) = some (.go (((i + 1 : Nat) : Int), s')) ∧ Xbo r c l (le, tp, ref.Wide, ref.High, ref.Dots) ((i : Int), s) = some (.go (((i + 1 : Nat) : Int), s')) ∧ tbI r s') := by
 obtain ⟨hw, hh, hl, ht, hc, hn, hls, hr⟩ := H
 obtain ⟨w, h, dt⟩ := s
 obtain ⟨ok, e1, e2⟩ := hs
 simp only at ok e1 e2
 subst e1; subst e2
 obtain ⟨p1, p2, p3, p4, p5, p6, p7, p8, p9, p10⟩ := Yjg hw hh i (by omega)
 have hmem : l.getD i Xbq ∈ l := by rw [Xb3 l i hi]; exact List.getElem_mem _
 have held : Xmm (⟨r.Wide, r.High, dt⟩ : Pic) ((i : Int) % (r.Wide / 8) * 8) ((i : Int) / (r.Wide / 8) * 8) = true := by
  unfold Xmm; rw [decide_eq_true_eq]; exact ⟨p7, p8, p9, p10⟩
 have SD : Ywn (⟨r.Wide, r.High, dt⟩ : Pic) ref le tp ((i : Int) % (r.Wide / 8) * 8) ((i : Int) / (r.Wide / 8) * 8) c (l.getD i Xbq) :=
  ⟨ok, by rw [Xbm p7]; omega, by rw [Xbm p9]; omega, held, hl, ht, hc, hls _ hmem⟩
 have l64 : l.length ≤ 64 := by
  have : r.Wide / 8 * (r.High / 8) ≤ 8 * 8 := Int.mul_le_mul (by omega) (by omega) (by omega) (by omega)
  omega
 have eI : Xb1 r c l (le, tp, ref.Wide, ref.High, ref.Dots) ((i : Int), r.Wide, r.High, dt) = bnd (Xdj (⟨r.Wide, r.High, dt⟩ : Pic) ref le tp c ((i : Int) % (r.Wide / 8) * 8) ((i : Int) / (r.Wide / 8) * 8) (l.getD i Xbq)) fun q21 => sel (!q21.2) (some (.done (.ret (⟨0, 0, ⟨#[]⟩⟩, false)))) (bnd (Xtc (⟨r.Wide, r.High, dt⟩ : Pic) ((i : Int) % (r.Wide / 8) * 8) ((i : Int) / (r.Wide / 8) * 8) q21.1) fun q22 => some (.go (((i + 1 : Nat) : Int), q22.Wide, q22.High, q22.Dots))) := by
  unfold Xb1
  simp only [Int.toNat_natCast]
  rw [syA, rqA, rqA, Xbl (a := r.Wide) (by omega), wkA (e := r.Wide / 8), rqA, rqA, rqA, Xbm (a := (i : Int)) (by omega), Xbl (a := (i : Int)) (by omega), wkA (e := (i : Int) % (r.Wide / 8) * 8), wkA (e := (i : Int) / (r.Wide / 8)), wkA (e := (i : Int) / (r.Wide / 8) * 8), wkA (e := (i : Int) + 1)]
  rfl
 have eS : Xbo r c l (le, tp, ref.Wide, ref.High, ref.Dots) ((i : Int), r.Wide, r.High, dt) = bnd (Xef (⟨r.Wide, r.High, dt⟩ : Pic) ref le tp c ((i : Int) % (r.Wide / 8) * 8) ((i : Int) / (r.Wide / 8) * 8) (l.getD i Xbq)) fun q21 => bnd (Xl4 (⟨r.Wide, r.High, dt⟩ : Pic) ((i : Int) % (r.Wide / 8) * 8) ((i : Int) / (r.Wide / 8) * 8) q21.1) fun q22 => some (.go (((i + 1 : Nat) : Int), q22.Wide, q22.High, q22.Dots)) := by
  unfold Xbo
  simp only [Int.toNat_natCast]
  rw [syA, rqA, Xbl (a := r.Wide) (by omega), wkA (e := r.Wide / 8), rqA, rqA, rqA, rqA, Xbm (a := (i : Int)) (by omega), Xbl (a := (i : Int)) (by omega), Int.mul_comm 8 ((i : Int) % (r.Wide / 8)), wkA (e := (i : Int) / (r.Wide / 8)), Int.mul_comm 8 ((i : Int) / (r.Wide / 8)), wkA (e := (i : Int) % (r.Wide / 8) * 8), wkA (e := (i : Int) / (r.Wide / 8) * 8), wkA (e := (i : Int) + 1)]
  rfl
 refine ⟨fun hq => ?_, fun hq => ?_⟩
 ·
  rw [eI, Yjs SD hq, Xab]; rfl
 ·
  rw [Bool.and_eq_true] at hq
  obtain ⟨d, d1, d2, d3⟩ := Yc9 SD hq.1 hq.2 hr
  obtain ⟨p', ep, g1, g2, g3⟩ := Yin ok held d3
  refine ⟨(p'.Wide, p'.High, p'.Dots), ?_, ?_, g1, g2, g3⟩
  ·
   rw [eI, d1, Xab, Bool.not_true, Xal, Ytl d3 (by have := Ypw ok; have hm : maxLen = 9223372036854775807 := rfl; simp only at this ⊢; omega), ep, Xab]
  ·
   rw [eS, d2, Xab, ep, Xab]
theorem Yw4 {r : Xpb} (hw : Xrh r.Wide = true) (hh : Xrh r.High = true) : tbI r (r.Wide, r.High, strOfNums (List.replicate (r.Wide * r.High).toNat 128)) := by
 have a := Xhi hw
 have b := Xhi hh
 have ar := Xd6 (w := r.Wide) (h := r.High) (by omega) (by omega)
 refine ⟨Xtj (by simp only; omega) (by simp only; omega) ?_, rfl, rfl⟩
 simp only
 rw [strOfNums_size, List.length_replicate]; omega
theorem Yvu {ref : Pic} {le tp : Int} {r : Xpb} {c : Xfc} {l : List Xao} (H : Yun ref le tp r c l) (s0 : Int × Int × ByteArray) (h0 : tbI r s0) :
  (Xpa l c = false → loop (Xb1 r c l (le, tp, ref.Wide, ref.High, ref.Dots)) (0, s0) = some (.ret (⟨0, 0, ⟨#[]⟩⟩, false))) ∧
  (Xpa l c = true → ∃ s, loop (Xb1 r c l (le, tp, ref.Wide, ref.High, ref.Dots)) (0, s0) = some (.out s) ∧ loop (Xbo r c l (le, tp, ref.Wide, ref.High, ref.Dots)) (0, s0) = some s ∧ tbI r s) := by
 have key : ∀ i : Nat, i ≤ l.length → ∀ s, tbI r s →
  ((∃ j, i ≤ j ∧ j < l.length ∧ (Xm7 (l.getD j Xbq) && Xhy (l.getD j Xbq) c) = false) → loop (Xb1 r c l (le, tp, ref.Wide, ref.High, ref.Dots)) ((i : Int), s) = some (.ret (⟨0, 0, ⟨#[]⟩⟩, false))) ∧
  ((∀ j, i ≤ j → j < l.length → (Xm7 (l.getD j Xbq) && Xhy (l.getD j Xbq) c) = true) → ∃ s', loop (Xb1 r c l (le, tp, ref.Wide, ref.High, ref.Dots)) ((i : Int), s) = some (.out s') ∧ loop (Xbo r c l (le, tp, ref.Wide, ref.High, ref.Dots)) ((i : Int), s) = some s' ∧ tbI r s') := by
  refine Xg2 _ ?_ ?_
  ·
   intro s hs
   refine ⟨fun ⟨j, h1, h2, _⟩ => by omega, fun _ => ⟨s, Xce ?_, Xce ?_, hs⟩⟩
   ·
    unfold Xb1; rw [Xas (by simp)]
   ·
    unfold Xbo; rw [Xas (by simp)]
  ·
   intro i hi ih s hs
   obtain ⟨hno, hyes⟩ := Yt9 H i hi s hs
   cases hq : (Xm7 (l.getD i Xbq) && Xhy (l.getD i Xbq) c) with
   | false =>
    refine ⟨fun _ => Xce (hno hq), fun hall => ?_⟩
    have := hall i (Nat.le_refl _) hi
    rw [hq] at this; cases this
   | true =>
    obtain ⟨s', e1, e2, hs'⟩ := hyes hq
    obtain ⟨i1, i2⟩ := ih s' hs'
    refine ⟨fun ⟨j, h1, h2, h3⟩ => lgo e1 (i1 ⟨j, ?_, h2, h3⟩), fun hall => ?_⟩
    ·
     rcases Nat.lt_or_ge i j with h | h
     ·
      exact h
     ·
      have : j = i := by omega
      subst this
      rw [hq] at h3; cases h3
    ·
     obtain ⟨s2, k1, k2, k3⟩ := i2 fun j hj => hall j (by omega)
     exact ⟨s2, lgo e1 k1, lgo e2 k2, k3⟩
 obtain ⟨k1, k2⟩ := key 0 (by omega) s0 h0
 refine ⟨fun hf => k1 ?_, fun ht => k2 fun j _ hj => ?_⟩
 ·
  unfold Xpa at hf
  rw [List.all_eq_false] at hf
  obtain ⟨x, hx, hxf⟩ := hf
  obtain ⟨j, hj, rfl⟩ := List.getElem_of_mem hx
  exact ⟨j, by omega, hj, by rw [Xb3 l j hj]; simpa using hxf⟩
 ·
  unfold Xpa at ht
  rw [List.all_eq_true] at ht
  exact ht _ (by rw [Xb3 l j hj]; exact List.getElem_mem _)
theorem Yva {now ref ref' : Pic} {l l' t t' x y : Int} {c : Xfc} {q : Xao} (h : Ywn now ref l t x y c q) (h' : Ywn now ref' l' t' x y c q) (hq : Xm7 q = true) (hL : Xhy q c = true) (hK : c.Key = true) : Xef now ref l t c x y q = Xef now ref' l' t' c x y q := by
 have h2 : (q.Kind == 2) = true := by unfold Xhy at hL; rw [hK] at hL; simpa using hL
 unfold Xef
 rw [Xai, Xai, Xai, Xai, decide_eq_true h.hl, decide_eq_true h.ht, decide_eq_true h'.hl, decide_eq_true h'.ht, h2]
 simp only [Xap]
theorem Yvb {ref ref' : Pic} {le tp le' tp' : Int} {r : Xpb} {c : Xfc} {l : List Xao} (H : Yun ref le tp r c l) (H' : Yun ref' le' tp' r c l) (hK : c.Key = true) (ha : Xpa l c = true) (s0 : Int × Int × ByteArray) (h0 : tbI r s0) :
  loop (Xbo r c l (le, tp, ref.Wide, ref.High, ref.Dots)) (0, s0) = loop (Xbo r c l (le', tp', ref'.Wide, ref'.High, ref'.Dots)) (0, s0) := by
 have hall : ∀ i, i < l.length → (Xm7 (l.getD i Xbq) && Xhy (l.getD i Xbq) c) = true := fun i hi => by
  unfold Xpa at ha
  rw [List.all_eq_true] at ha
  exact ha _ (by rw [Xb3 l i hi]; exact List.getElem_mem _)
 refine Yqe l.length (fun _ s => tbI r s) ?_ ?_ h0
 ·
  intro i s hi hs
  rcases Nat.lt_or_ge i l.length with hlt | hge
  ·
   have hq := hall i hlt
   rw [Bool.and_eq_true] at hq
   obtain ⟨w, h, dt⟩ := s
   obtain ⟨ok, e1, e2⟩ := hs
   simp only at ok e1 e2
   subst e1; subst e2
   have hn := H.hn
   obtain ⟨p1, p2, p3, p4, p5, p6, p7, p8, p9, p10⟩ := Yjg H.hw H.hh i (by omega)
   have hmem : l.getD i Xbq ∈ l := by rw [Xb3 l i hlt]; exact List.getElem_mem _
   have held : Xmm (⟨r.Wide, r.High, dt⟩ : Pic) ((i : Int) % (r.Wide / 8) * 8) ((i : Int) / (r.Wide / 8) * 8) = true := by
    unfold Xmm; rw [decide_eq_true_eq]; exact ⟨p7, p8, p9, p10⟩
   have SD : Ywn (⟨r.Wide, r.High, dt⟩ : Pic) ref le tp ((i : Int) % (r.Wide / 8) * 8) ((i : Int) / (r.Wide / 8) * 8) c (l.getD i Xbq) :=
    ⟨ok, by rw [Xbm p7]; omega, by rw [Xbm p9]; omega, held, H.hl, H.ht, H.hc, H.hs _ hmem⟩
   have SD' : Ywn (⟨r.Wide, r.High, dt⟩ : Pic) ref' le' tp' ((i : Int) % (r.Wide / 8) * 8) ((i : Int) / (r.Wide / 8) * 8) c (l.getD i Xbq) :=
    ⟨ok, by rw [Xbm p7]; omega, by rw [Xbm p9]; omega, held, H'.hl, H'.ht, H'.hc, H'.hs _ hmem⟩
   have l64 : l.length ≤ 64 := by
    have : r.Wide / 8 * (r.High / 8) ≤ 8 * 8 := Int.mul_le_mul (by omega) (by omega) (by omega) (by omega)
    omega
   unfold Xbo
   simp only [Int.toNat_natCast]
   refine Ypd (fun _ => Yk6 fun _ => ?_) fun _ => rfl
   rw [Xbl (a := r.Wide) (by omega), wkA (e := r.Wide / 8), Xbm (a := (i : Int)) (by omega), Xbl (a := (i : Int)) (by omega), Int.mul_comm 8 ((i : Int) % (r.Wide / 8)), wkA (e := (i : Int) / (r.Wide / 8)), Int.mul_comm 8 ((i : Int) / (r.Wide / 8)), wkA (e := (i : Int) % (r.Wide / 8) * 8), wkA (e := (i : Int) / (r.Wide / 8) * 8)]
   refine Yk6 fun _ => Yk6 fun _ => Yk6 fun _ => Yk6 fun _ => Ywu ?_ fun _ _ => rfl
   exact Yva SD SD' hq.1 hq.2 hK
  ·
   unfold Xbo
   rw [Xas (by simp only; omega), Xas (by simp only; omega)]
 ·
  intro i s v' hi hs he
  rcases Nat.lt_or_ge i l.length with hlt | hge
  ·
   obtain ⟨s', _, e2, hs'⟩ := (Yt9 H' i hlt s hs).2 (hall i hlt)
   rw [e2] at he
   injection he with he
   injection he with he
   subst he
   exact ⟨rfl, by omega, hs'⟩
  ·
   unfold Xbo at he
   rw [Xas (by simp only; omega)] at he
   cases he
theorem Xwc (ref : Pic) (r : Xpb) (c : Xfc) (cf : Bool) (l : List Xao) (hll : l.length ≤ 1048576) (hs : ∀ q ∈ l, q.Levels.length ≤ 1048576) : ∃ x, Xkj ref r c cf l = some x ∧ Xk2 ref r c cf l = some x ∧ (x.2 = true → tbI r (x.1.Wide, x.1.High, x.1.Dots)) := by
 unfold Xkj Xk2
 rw [Xup, Xab, Xs3, Xab]
 cases hw : Xrh r.Wide with
 | false => exact ⟨_, rfl, rfl, fun h => by cases h⟩
 | true =>
  rw [Xap, Xap, Xup, Xab, Xs3, Xab]
  cases hh : Xrh r.High with
  | false => exact ⟨_, rfl, rfl, fun h => by cases h⟩
  | true =>
   rw [Xap, Xap, Xaj, Xab, Xai, Xab]
   by_cases hL : 0 ≤ r.Left ∧ r.Left ≤ 256
   ·
    rw [decide_eq_true hL, Xap, Xap, Xaj, Xab, Xai, Xab]
    by_cases hT : 0 ≤ r.Top ∧ r.Top ≤ 256
    ·
     rw [decide_eq_true hT, Xap, Xap, Xc8, Xab, Ylp l c hll, Xab]
     cases hc : Xgf c with
     | false => exact ⟨_, rfl, rfl, fun h => by cases h⟩
     | true =>
      have sw := Xhi hw
      have sh := Xhi hh
      have mb : r.Wide / 8 * (r.High / 8) ≤ 8 * 8 := Int.mul_le_mul (by omega) (by omega) (by omega) (by omega)
      have m0 : 1 * 1 ≤ r.Wide / 8 * (r.High / 8) := Int.mul_le_mul (by omega) (by omega) (by omega) (by omega)
      rw [Xap, rqA, rqA, Bool.true_and, Xbl (a := r.Wide) (by omega), Xbl (a := r.High) (by omega), wkA (e := r.Wide / 8), wkA (e := r.High / 8), wkA (e := r.Wide / 8 * (r.High / 8))]
      by_cases hn : (l.length : Int) = r.Wide / 8 * (r.High / 8)
      ·
       have hne : ((l.length : Int) != r.Wide / 8 * (r.High / 8)) = false := by simpa using hn
       rw [decide_eq_true (show 1 ≤ l.length ∧ l.length ≤ 64 by omega), Bool.true_and, hne]
       -- the picture before
       have ha : (sel c.Key (some false) (bnd (Xdl ref) fun q8 => sel q8 (bnd (Xd2 ref r) fun q9 => some (!q9)) (some true))) = some (!c.Key && !(Xcj ref && Xmn ref r)) := by
        cases c.Key with
        | true => rfl
        | false =>
         rw [Xal, Xcq, Xab]
         cases hp : Xcj ref with
         | false => rfl
         | true => rw [Xap, Xq3 hp, Xab]; rfl
       have hb : (sel c.Key (some false) (bnd (Xdc ref r.Left r.Top r.Wide r.High) fun q8 => some (!q8))) = some (!c.Key && !(Xcj ref && Xmn ref r)) := by
        cases c.Key with
        | true => rfl
        | false => rw [Xal, Xl2, Xab]; rfl
       have G := Yw4 hw hh
       have gI := Yaf r.Wide r.High (by omega) (by omega)
       have gS := Xso r.Wide r.High (by omega) (by omega)
       rw [ha, hb, gI, gS]
       simp only [Xab, Xal]
       cases hbad : (!c.Key && !(Xcj ref && Xmn ref r)) with
       | true => cases Xpa l c <;> exact ⟨_, rfl, rfl, fun h => by cases h⟩
       | false =>
        have hr : c.Key = false → Xcj ref = true ∧ Xmn ref r = true := by
         intro hk
         rw [hk] at hbad
         simp only [Bool.not_false, Bool.true_and, Bool.not_eq_false'] at hbad
         rwa [Bool.and_eq_true] at hbad
        have vI : ∃ (rI : Pic) (lI tI : Int), (sel cf (sel (!c.Key) (bnd (Xn0 ref r) fun q11 => some ((0 : Int), (0 : Int), q11.1.Wide, q11.1.High, q11.1.Dots)) (some (0, 0, ref.Wide, ref.High, ref.Dots))) (some (r.Left, r.Top, ref.Wide, ref.High, ref.Dots))) = some (lI, tI, rI.Wide, rI.High, rI.Dots) ∧ Yun rI lI tI r c l ∧
          ∃ (rS : Pic) (lS tS : Int), (bnd (sel c.Key (some false) (some cf)) fun v10 => sel v10 (bnd (Xtp ref r) fun q11 => some ((0 : Int), (0 : Int), q11.1.Wide, q11.1.High, q11.1.Dots)) (some (r.Left, r.Top, ref.Wide, ref.High, ref.Dots))) = some (lS, tS, rS.Wide, rS.High, rS.Dots) ∧ Yun rS lS tS r c l ∧ (c.Key = false → rI = rS ∧ lI = lS ∧ tI = tS) := by
         cases hK : c.Key with
         | true =>
          have TT : ∀ le tp : Int, (0 ≤ le ∧ le ≤ 256) → (0 ≤ tp ∧ tp ≤ 256) → Yun ref le tp r c l := fun le tp h1 h2 => ⟨hw, hh, h1, h2, hc, hn, hs, fun h => by rw [hK] at h; cases h⟩
          cases cf with
          | true => exact ⟨ref, 0, 0, rfl, TT 0 0 (by omega) (by omega), ref, r.Left, r.Top, rfl, TT _ _ hL hT, fun h => by cases h⟩
          | false => exact ⟨ref, r.Left, r.Top, rfl, TT _ _ hL hT, ref, r.Left, r.Top, rfl, TT _ _ hL hT, fun h => by cases h⟩
         | false =>
          obtain ⟨hp, ho⟩ := hr hK
          cases cf with
          | true =>
           rw [Xap, Bool.not_false, Xap, Ykb hp ho, Xab, Xal, Xab, Xap, Ylm hp ho, Xab]
           have TT : Yun (Yx3 ref r) 0 0 r c l := ⟨hw, hh, by omega, by omega, hc, hn, hs, fun _ => Ywy hp ho⟩
           exact ⟨Yx3 ref r, 0, 0, rfl, TT, Yx3 ref r, 0, 0, rfl, TT, fun _ => ⟨rfl, rfl, rfl⟩⟩
          | false =>
           have TT : Yun ref r.Left r.Top r c l := ⟨hw, hh, hL, hT, hc, hn, hs, fun _ => hp⟩
           exact ⟨ref, r.Left, r.Top, rfl, TT, ref, r.Left, r.Top, rfl, TT, fun _ => ⟨rfl, rfl, rfl⟩⟩
        obtain ⟨rI, lI, tI, eI, HI, rS, lS, tS, eS, HS, hk⟩ := vI
        rw [Xal, eI, eS]
        simp only [Xab, Xal]
        obtain ⟨n1, n2⟩ := Yvu HI _ G
        cases hall : Xpa l c with
        | false =>
         rw [n1 hall, Xab]
         exact ⟨_, rfl, rfl, fun h => by cases h⟩
        | true =>
         obtain ⟨s, e1, e2, e3⟩ := n2 hall
         have e4 : loop (Xbo r c l (lS, tS, rS.Wide, rS.High, rS.Dots)) (0, r.Wide, r.High, strOfNums (List.replicate (r.Wide * r.High).toNat 128)) = some s := by
          cases hK : c.Key with
          | true => rw [Yvb HS HI hK hall _ G]; exact e2
          | false =>
           obtain ⟨q1, q2, q3⟩ := hk hK
           subst q1; subst q2; subst q3
           exact e2
         rw [e1, Xab, Xap, Xab, Xal, e4, Xab]
         exact ⟨_, rfl, rfl, fun _ => e3⟩
      ·
       have hne : ((l.length : Int) != r.Wide / 8 * (r.High / 8)) = true := by simpa using hn
       rw [hne, Xab, Xap]
       refine ⟨_, rfl, ?_, fun h => by cases h⟩
       cases (decide (1 ≤ l.length ∧ l.length ≤ 64) && Xpa l c) <;> rfl
    ·
     rw [decide_eq_false hT]; exact ⟨_, rfl, rfl, fun h => by cases h⟩
   ·
    rw [decide_eq_false hL]; exact ⟨_, rfl, rfl, fun h => by cases h⟩
theorem Xkq (l : List Int) (hl : l.length ≤ 1000000000) : Xf9 l l = some true := by
 unfold Xf9
 rw [bne_self_eq_false, Xal, Xqg l.length (f := Xgj l l) (by
  intro i hi
  unfold Xgj
  rw [syA, rqA, rqA, bne_self_eq_false, Xal, wkA]
  rfl) (by unfold Xgj; rw [snA]), Xab]
theorem Yfa (s : ByteArray) (k : Nat) (hk : k < s.size) : (Xbu s).getD k 0 = Xlf s k := by
 have := Xr7 (Xbu s) (by intro x hx; obtain ⟨b, _, rfl⟩ := List.mem_map.1 hx; have := b.toNat_lt; omega) k (by rw [Xby]; exact hk)
 rw [Xtr] at this
 exact this.symm
theorem Ysw {w h : Int} (hw : 1 ≤ w ∧ w ≤ 256) (hh : 1 ≤ h ∧ h ≤ 256) : Xcj ⟨w, h, strOfNums (List.replicate (w * h).toNat 128)⟩ = true := by
 have ar := Xd6 hw hh
 refine Xtj hw hh ?_
 simp only
 rw [strOfNums_size, List.length_replicate]; omega
theorem Yi2 (a b : List Int) (i : Nat) : (a ++ b).getD (a.length + i) 0 = b.getD i 0 := by
 rw [List.getD_eq_getElem?_getD, List.getD_eq_getElem?_getD, List.getElem?_append_right (by omega)]
 congr 2; omega
theorem Yss (a b : List Int) (i : Nat) (hi : i < a.length) : (a ++ b).getD i 0 = a.getD i 0 := by
 rw [List.getD_eq_getElem?_getD, List.getD_eq_getElem?_getD, List.getElem?_append_left hi]
theorem Yyj (v x : Int) (h0 : 0 ≤ v) (h1 : v ≤ 1000000000000000000) (hx : x = 0 ∨ x = 1) : IntKind.wrap .i64 (BitVec.ofInt (IntKind.bits .i64) (v * 2) ||| BitVec.ofInt (IntKind.bits .i64) x).toNat = v * 2 + x := by
 obtain ⟨a, rfl⟩ : ∃ a : Nat, v = a := ⟨v.toNat, by omega⟩
 obtain ⟨b, rfl⟩ : ∃ b : Nat, x = b := ⟨x.toNat, by omega⟩
 have h : (BitVec.ofInt 64 ((a : Int) * 2) ||| BitVec.ofInt 64 (b : Int)).toNat = a * 2 + b := by
  rw [BitVec.toNat_or, BitVec.toNat_ofInt, BitVec.toNat_ofInt]
  have e1 : (((a : Int) * 2) % ((2 ^ 64 : Nat) : Int)).toNat = a * 2 := by omega
  have e2 : ((b : Int) % ((2 ^ 64 : Nat) : Int)).toNat = b := by omega
  rw [e1, e2]
  have := Nat.two_pow_add_eq_or_of_lt (i := 1) (b := b) (by omega) a
  rw [show 2 ^ 1 * a = a * 2 by omega] at this
  exact this.symm
 show IntKind.wrap .i64 ((BitVec.ofInt 64 ((a : Int) * 2) ||| BitVec.ofInt 64 (b : Int)).toNat : Int) = _
 rw [h, ← Xtt, wkA]
 omega
theorem Xxn {i : Nat} (h : i ≤ 40) : (2 : Int) ^ i ≤ 1099511627776 := by
 have h2 : (2 : Nat) ^ i ≤ 1099511627776 := Nat.pow_le_pow_right (n := 2) (by omega) h
 have := Int.ofNat_le.2 h2
 rw [Int.natCast_pow] at this
 exact this
theorem Xhh {L a f b : List Int} (hL : L = a ++ (f ++ b)) (hb : Xek L) (hl : L.length ≤ 400000) (hf : f.length ≤ 41) : Xaz ⟨strOfNums L, (a.length : Int), false⟩ (f.length : Int) = some (Xg7 f, ⟨strOfNums L, ((a.length + f.length : Nat) : Int), false⟩) := by
 have hLl : L.length = a.length + (f.length + b.length) := by rw [hL]; simp only [List.length_append]
 have hfb : Xek f := fun x hx => hb x (by rw [hL]; simp [hx])
 unfold Xaz
 simp only
 rw [Xal, strOfNums_size, wkA, Xab, snA]
 have key : ∀ i : Nat, i ≤ f.length → loop (Xgi ⟨strOfNums L, (a.length : Int), false⟩ (f.length : Int)) (Xg7 (f.take i), (i : Int)) = some (Xg7 f) := by
  refine Xg2 _ ?_ ?_
  ·
   refine Xce ?_
   unfold Xgi
   simp only
   rw [snA, List.take_length]
  ·
   intro i hi ih
   refine lgo ?_ ih
   have hx : L.getD (a.length + i) 0 = f.getD i 0 := by rw [hL, Yi2, Yss _ _ _ hi]
   have hbt : Xlf (strOfNums L) ((a.length : Int) + i) = f.getD i 0 := by
    rw [show (a.length : Int) + i = ((a.length + i : Nat) : Int) by omega, Xr7 L (Xka hb) _ (by omega), hx]
   have h2 : f.getD i 0 = 48 ∨ f.getD i 0 = 49 := hfb _ (by rw [Xb3 f i hi]; exact List.getElem_mem hi)
   have ht : Xek (f.take i) := fun x hx => hfb x (List.mem_of_mem_take hx)
   have hr := Xi5 ht
   have hp : (2 : Int) ^ (f.take i).length ≤ 1099511627776 := Xxn (by rw [List.length_take]; omega)
   have hv : Xg7 (f.take (i + 1)) = Xg7 (f.take i) * 2 + (f.getD i 0 - 48) := by
    rw [List.take_add_one, Xrn, Xb3 f i hi, List.getElem?_eq_getElem hi]
    simp [Xg7]
   unfold Xgi
   simp only
   rw [syA, rqA, wkA (e := (a.length : Int) + i), Xay (by rw [strOfNums_size]; omega), hbt, w8 (by omega) (by omega), wkA (e := f.getD i 0 - 48), show (2 : Int) ^ min (1 : Int).toNat (IntKind.bits .i64) = 2 from rfl, wkA (e := Xg7 (f.take i) * 2), Yyj _ _ (by omega) (by omega) (by omega), wkA, hv]
   rfl
 have := key 0 (by omega)
 rw [List.take_zero] at this
 refine (Xei this).trans ?_
 rw [wkA]
 rfl
theorem Ysh (m : Nat) (h : m ≠ 0) : ∃ r, Yoe m = 49 :: r := by
 induction m using Nat.strongRecOn with
 | _ m ih =>
  rw [Yoe, dif_neg h]
  by_cases h1 : m / 2 = 0
  ·
   have : m = 1 := by omega
   subst this
   rw [Yoe, dif_pos h1]
   exact ⟨[], rfl⟩
  ·
   obtain ⟨r, e⟩ := ih (m / 2) (by omega) h1
   rw [e]
   exact ⟨r ++ [48 + ((m % 2 : Nat) : Int)], rfl⟩
theorem Yx0 (m : Nat) : Xg7 (Yoe m) = m := by
 induction m using Nat.strongRecOn with
 | _ m ih =>
  rw [Yoe]
  by_cases h : m = 0
  ·
   rw [dif_pos h, h]; rfl
  ·
   rw [dif_neg h, Xrn, ih (m / 2) (by omega)]
   simp [Xg7]
   omega
theorem Xh8 {L a b : List Int} {n : Nat} (hL : L = a ++ (ueL n ++ b)) (hb : Xek L) (hl : L.length ≤ 400000) (hn : n ≤ 1000000) : Xbf ⟨strOfNums L, (a.length : Int), false⟩ = some ((n : Int), ⟨strOfNums L, ((a.length + (ueL n).length : Nat) : Int), false⟩) := by
 have hLl : L.length = a.length + ((ueL n).length + b.length) := by rw [hL]; simp only [List.length_append]
 have f1 := Yot (m := n + 1) (j := 20) (by omega)
 have f2 := Yj7 (m := n + 1) (by omega)
 have ul : (ueL n).length = Ygs (n + 1) - 1 + Ygs (n + 1) := by unfold ueL; rw [List.length_append, List.length_replicate, Yjz]
 obtain ⟨r, er⟩ := Ysh (n + 1) (by omega)
 have hc : ∀ i : Nat, i < (ueL n).length → L.getD (a.length + i) 0 = (ueL n).getD i 0 := fun i hi => by rw [hL, Yi2, Yss _ _ _ hi]
 have key : ∀ i : Nat, i ≤ Ygs (n + 1) - 1 → loop (Xcd ⟨strOfNums L, (a.length : Int), false⟩) (i : Int) = some ((Ygs (n + 1) - 1 : Nat) : Int) := by
  refine Xg2 _ ?_ ?_
  ·
   refine Xce ?_
   have hx : (ueL n).getD (Ygs (n + 1) - 1) 0 = 49 := by
    have := Yi2 (List.replicate (Ygs (n + 1) - 1) 48) (Yoe (n + 1)) 0
    rw [List.length_replicate] at this
    unfold ueL
    exact this.trans (by rw [er]; rfl)
   unfold Xcd
   simp only
   rw [Xal, wkA, strOfNums_size, syA, rqA, show (a.length : Int) + ((Ygs (n + 1) - 1 : Nat) : Int) = ((a.length + (Ygs (n + 1) - 1) : Nat) : Int) by omega, Xr7 L (Xka hb) _ (by omega), hc _ (by omega), hx, Xab]
   rfl
  ·
   intro i hi ih
   refine lgo ?_ ih
   have hx : (ueL n).getD i 0 = 48 := by
    unfold ueL
    rw [Yss _ _ _ (by rw [List.length_replicate]; exact hi), Xb3 _ i (by rw [List.length_replicate]; exact hi), List.getElem_replicate]
   unfold Xcd
   simp only
   rw [Xal, wkA (e := (a.length : Int) + i), strOfNums_size, syA, rqA, show (a.length : Int) + (i : Int) = ((a.length + i : Nat) : Int) by omega, Xr7 L (Xka hb) _ (by omega), hc _ (by omega), hx, Xab, wkA]
   rfl
 have hf := Xhh hL hb hl (by omega)
 have hv : Xg7 (ueL n) = (n : Int) + 1 := by unfold ueL; rw [Xrn, Yx1, Yx0, Int.zero_mul, Int.zero_add]; omega
 unfold Xbf
 refine (Xei (key 0 (by omega))).trans ?_
 simp only
 rw [snA, Xab, wkA (e := 2 * ((Ygs (n + 1) - 1 : Nat) : Int)), wkA (e := 2 * ((Ygs (n + 1) - 1 : Nat) : Int) + 1), show 2 * ((Ygs (n + 1) - 1 : Nat) : Int) + 1 = ((ueL n).length : Int) by omega, hf, Xab]
 simp only
 rw [Xal, hv, wkA, Xab, snA, show (n : Int) + 1 - 1 = n by omega]
theorem Xtn {L a b : List Int} {n : Int} (hL : L = a ++ (seL n ++ b)) (hb : Xek L) (hl : L.length ≤ 400000) (hn : -500000 ≤ n ∧ n ≤ 500000) : Xbt ⟨strOfNums L, (a.length : Int), false⟩ = some (n, ⟨strOfNums L, ((a.length + (seL n).length : Nat) : Int), false⟩) := by
 have hf := Yj8 n hn
 unfold Xbt
 rw [Xh8 hL hb hl hf, Xab]
 have ho : Xjk ((Yov n : Nat) : Int) = some (n, true) := by
  unfold Xjk
  rw [Xaj, Xab, decide_eq_true (by omega), Bool.not_true, Xal, rqA, Xbm (by omega)]
  unfold Yov
  split
  ·
   rw [Xbg (by rw [beq_iff_eq]; omega), rqA, wkA (e := (((2 * n - 1).toNat : Nat) : Int) + 1), Xbl (by omega), wkA]
   congr 2; omega
  ·
   rw [Xa6 (by rw [beq_eq_false_iff_ne]; omega), rqA, wkA (e := 0 - _)]
   have : (0 - (((-2 * n).toNat : Nat) : Int)).tdiv 2 = n := by
    rw [show (0 - (((-2 * n).toNat : Nat) : Int)) = n * 2 by omega]
    exact Int.mul_tdiv_cancel n (by omega)
   rw [this, wkA]
 simp only
 rw [ho, Xab]
 rfl
theorem Yxb (l : List Int) (hl : l.length ≤ 64) : nz l ≤ 64 := by have := Ytg l; omega
theorem Yap {L a b l : List Int} (hL : L = a ++ (Xlg l ++ b)) (hb : Xek L) (hl : L.length ≤ 400000) (hall : l.all Yhq = true) (h64 : l.length ≤ 64) : Xcc ⟨strOfNums L, (a.length : Int), false⟩ (l.length : Int) = some (l, ⟨strOfNums L, ((a.length + (Xlg l).length : Nat) : Int), false⟩) := by
 have key : ∀ (r pre : List Int) (g : Nat) (a' b' : List Int), l = pre ++ r → g ≤ pre.length → L = a' ++ (Xnr g r ++ b') → loop (Xbb (l.length : Int)) (((pre.length - g : Nat) : Int), (nz r : Int), strOfNums L, (a'.length : Int), false, pre ++ List.replicate r.length 0) = some (l, strOfNums L, ((a'.length + (Xnr g r).length : Nat) : Int), false) := by
  intro r
  induction r with
  | nil =>
   intro pre g a' b' h1 h2 h3
   refine Xce ?_
   unfold Xbb
   simp only
   rw [Xas (by rw [nz]; omega), Xab, Xal, h1]
   simp only [Xnr, List.length_nil, List.replicate_zero, Nat.add_zero]
  | cons x r ih =>
   intro pre g a' b' h1 h2 h3
   have hlen : l.length = pre.length + (r.length + 1) := by rw [h1]; simp
   have hx : -5000 ≤ x ∧ x ≤ 5000 := Ycz.1 (List.all_eq_true.1 hall x (by rw [h1]; simp))
   by_cases e : x = 0
   ·
    rw [Xnr, if_pos e] at h3
    have := ih (pre ++ [x]) (g + 1) a' b' (by rw [h1]; simp) (by simp; omega) h3
    rw [nz, if_pos e, Xnr, if_pos e, ← this, List.length_append, List.length_singleton, show pre.length + 1 - (g + 1) = pre.length - g by omega, List.append_assoc, List.length_cons, List.replicate_succ, e]
    rfl
   ·
    rw [Xnr, if_neg e] at h3
    have u1 := Xge g (by omega)
    have u2 := Xrf x (by omega)
    have u3 := Ytg r
    have e1 := Xh8 (L := L) (a := a') (b := seL x ++ Xnr 0 r ++ b') (n := g) (by rw [h3]; simp only [List.append_assoc]) hb hl (by omega)
    have e2 := Xtn (L := L) (a := a' ++ ueL g) (b := Xnr 0 r ++ b') (n := x) (by rw [h3]; simp only [List.append_assoc]) hb hl (by omega)
    have := ih (pre ++ [x]) 0 (a' ++ ueL g ++ seL x) b' (by rw [h1]; simp) (by simp) (by rw [h3]; simp only [List.append_assoc])
    rw [List.length_append] at e2
    simp only [List.length_append, List.length_singleton] at this
    rw [nz, if_neg e, Xnr, if_neg e]
    refine lgo ?_ (this.trans ?_)
    ·
     unfold Xbb
     simp only
     rw [syA, Bool.not_false, Xab, Xap, e1, Xab]
     simp only
     rw [e2, Xab]
     simp only
     have hp : ((pre.length - g : Nat) : Int) + (g : Int) = (pre.length : Int) := by omega
     rw [hp, wkA (e := (pre.length : Int)), snA, Xa6 (by rw [beq_eq_false_iff_ne]; exact e), Xaj, Xab, decide_eq_true (by omega), Bool.not_true, Xab, Xal, Int.toNat_natCast, Xay (by simp only [List.length_append, List.length_replicate, List.length_cons]; omega), Xay (by simp only [List.length_append, List.length_replicate, List.length_cons]; omega), wkA, wkA, List.length_cons, List.replicate_succ, Ype]
     rw [show ((nz r + 1 : Nat) : Int) - 1 = (nz r : Int) by omega, show pre ++ [x] ++ List.replicate r.length 0 = pre ++ x :: List.replicate r.length 0 by simp, show ((pre.length + 1 - 0 : Nat) : Int) = (pre.length : Int) + 1 by omega]
    ·
     simp only [List.length_append]
     rw [show a'.length + (ueL g).length + (seL x).length + (Xnr 0 r).length = a'.length + ((ueL g).length + (seL x).length + (Xnr 0 r).length) by omega]
 have hz := Yxb l h64
 have e0 := Xh8 (L := L) (a := a) (b := Xnr 0 l ++ b) (n := nz l) (by rw [hL]; unfold Xlg; simp only [List.append_assoc]) hb hl (by omega)
 have := key l [] 0 (a ++ ueL (nz l)) b rfl (by simp) (by rw [hL]; unfold Xlg; simp only [List.append_assoc])
 unfold Xcc
 rw [rqA, e0, Xab]
 simp only
 rw [List.length_append] at this
 simp only [List.nil_append, List.length_nil] at this
 rw [Int.toNat_natCast]
 refine (Xei this).trans ?_
 simp only
 unfold Xlg
 rw [List.length_append, Nat.add_assoc]
theorem Xuu {L a b l : List Int} {c : Xfc} (hL : L = a ++ (Yl0 l c ++ b)) (hb : Xek L) (hl : L.length ≤ 400000) (h : Ygu l = true) : Xbe ⟨strOfNums L, (a.length : Int), false⟩ c = some (l, ⟨strOfNums L, ((a.length + (Yl0 l c).length : Nat) : Int), false⟩) := by
 have hm : maxLen = 9223372036854775807 := rfl
 obtain ⟨h1, h2⟩ := Xjv h
 unfold Xbe
 rw [Yaq, Xab]
 unfold Yl0 at hL ⊢
 by_cases e : (c.Large || c.Exact) = true
 ·
  rw [if_pos e] at hL
  rw [Xbg e, if_pos e]
  have := Yap hL hb hl h2 (by omega)
  rw [h1] at this
  exact (Xei this).trans rfl
 ·
  rw [if_neg e] at hL
  rw [Xa6 (by simpa using e), if_neg e]
  have step : ∀ (n : Nat) (s q : List Int) (a' b' : List Int), n < 4 → q.length = 16 → q.all Yhq = true → s.length ≤ 64 → L = a' ++ (Xlg q ++ b') → Xa1 ((n : Int), strOfNums L, (a'.length : Int), false, s) = some (.go (((n + 1 : Nat) : Int), strOfNums L, (((a' ++ Xlg q).length : Nat) : Int), false, s ++ q)) := by
   intro n s q a' b' hn hq hqa hs hLL
   have := Yap hLL hb hl hqa (by omega)
   rw [hq] at this
   unfold Xa1
   simp only
   rw [syA]
   refine (Xei this).trans ?_
   simp only
   rw [rqA, wkA, List.length_append]
   rfl
  have q0 : (l.take 16).length = 16 := by rw [List.length_take]; omega
  have q1 : ((l.drop 16).take 16).length = 16 := by rw [List.length_take, List.length_drop]; omega
  have q2 : ((l.drop 32).take 16).length = 16 := by rw [List.length_take, List.length_drop]; omega
  have q3 : (l.drop 48).length = 16 := by rw [List.length_drop]; omega
  have hcat : l.take 16 ++ (l.drop 16).take 16 ++ (l.drop 32).take 16 ++ l.drop 48 = l := by
   have e1 : (l.drop 32).take 16 ++ l.drop 48 = l.drop 32 := by
    have := List.take_append_drop 16 (l.drop 32)
    rwa [List.drop_drop] at this
   have e2 : (l.drop 16).take 16 ++ l.drop 32 = l.drop 16 := by
    have := List.take_append_drop 16 (l.drop 16)
    rwa [List.drop_drop] at this
   rw [List.append_assoc, e1, List.append_assoc, e2, List.take_append_drop]
  have g0 := step 0 [] _ a (Xlg ((l.drop 16).take 16) ++ Xlg ((l.drop 32).take 16) ++ Xlg (l.drop 48) ++ b) (by omega) q0 (Xi8 h2 _) (by simp) (by rw [hL]; simp only [List.append_assoc])
  have g1 := step 1 ([] ++ l.take 16) _ (a ++ Xlg (l.take 16)) (Xlg ((l.drop 32).take 16) ++ Xlg (l.drop 48) ++ b) (by omega) q1 (Xi8 (Xi7 h2 _) _) (by simp only [List.length_append, List.length_nil]; omega) (by rw [hL]; simp only [List.append_assoc])
  have g2 := step 2 ([] ++ l.take 16 ++ (l.drop 16).take 16) _ (a ++ Xlg (l.take 16) ++ Xlg ((l.drop 16).take 16)) (Xlg (l.drop 48) ++ b) (by omega) q2 (Xi8 (Xi7 h2 _) _) (by simp only [List.length_append, List.length_nil]; omega) (by rw [hL]; simp only [List.append_assoc])
  have g3 := step 3 ([] ++ l.take 16 ++ (l.drop 16).take 16 ++ (l.drop 32).take 16) _ (a ++ Xlg (l.take 16) ++ Xlg ((l.drop 16).take 16) ++ Xlg ((l.drop 32).take 16)) b (by omega) q3 (Xi7 h2 _) (by simp only [List.length_append, List.length_nil]; omega) (by rw [hL]; simp only [List.append_assoc])
  have l4 : ∀ s, Xa1 (((4 : Nat) : Int), s) = some (.done (s.2.2.2, s.1, s.2.1, s.2.2.1)) := by intro s; unfold Xa1; simp only; rw [snA]
  have e : loop Xa1 (((0 : Nat) : Int), strOfNums L, (a.length : Int), false, []) = _ := (Xg3 g0).trans ((Xg3 g1).trans ((Xg3 g2).trans ((Xg3 g3).trans (Xcf (l4 _)))))
  refine (Xei e).trans ?_
  simp only [List.nil_append, hcat]
  simp only [List.length_append, Nat.add_assoc]
theorem Ypl {s : Xao} (h : Xm7 s = true) (h1 : s.Kind = 0) : s = ⟨0, 0, 0, 0, []⟩ := by
 unfold Xm7 at h
 rw [if_pos h1, decide_eq_true_eq] at h
 obtain ⟨k, m, x, y, l⟩ := s
 simp only at h h1
 obtain ⟨a, b, c, d⟩ := h
 rw [h1, a, b, c, List.length_eq_zero_iff.1 d]
theorem Yht {L a b : List Int} {s : Xao} {c : Xfc} (hL : L = a ++ (sqL s c ++ b)) (hb : Xek L) (hl : L.length ≤ 400000) (h : Xm7 s = true) (hlet : Xhy s c = true) : Xb8 ⟨strOfNums L, (a.length : Int), false⟩ c = some (s, ⟨strOfNums L, ((a.length + (sqL s c).length : Nat) : Int), false⟩) := by
 have hk := Xqr h
 have hl6 : s.Levels.length ≤ 64 := by
  by_cases h0 : s.Kind = 0
  ·
   rw [Ypl h h0]; simp
  ·
   by_cases h1 : s.Kind = 1
   ·
    have := Xjv (Xrj h h1).2.2; omega
   ·
    have := Xjv (Xtq h (by omega)).2; omega
 have hok := Xem s (by omega)
 rw [h] at hok
 unfold Xb8
 simp only
 obtain ⟨p, hp, hL2, e1⟩ : ∃ p : List Int, p = (if c.Key = true then [] else ueL s.Kind.toNat) ∧ L = (a ++ p) ++ ((if s.Kind = 1 then seL s.Dx ++ seL s.Dy ++ Yl0 s.Levels c else if s.Kind = 2 then ueL s.Mode.toNat ++ Yl0 s.Levels c else []) ++ b) ∧ (sel (!c.Key) (bnd (Xbf ⟨strOfNums L, (a.length : Int), false⟩) fun q2 => some (q2.2.row_, q2.2.at_, q2.2.bad_, q2.1)) (some (strOfNums L, (a.length : Int), false, 2))) = some (strOfNums L, (((a ++ p).length : Nat) : Int), false, s.Kind) := by
  refine ⟨_, rfl, by rw [hL]; unfold sqL; simp only [List.append_assoc], ?_⟩
  cases hK : c.Key with
  | true =>
   unfold Xhy at hlet
   rw [hK, Bool.not_true, Bool.false_or, beq_iff_eq] at hlet
   rw [Bool.not_true, Xal, if_pos rfl, List.append_nil, hlet]
  | false =>
   have := Xh8 (L := L) (a := a) (n := s.Kind.toNat) (b := (if s.Kind = 1 then seL s.Dx ++ seL s.Dy ++ Yl0 s.Levels c else if s.Kind = 2 then ueL s.Mode.toNat ++ Yl0 s.Levels c else []) ++ b) (by rw [hL]; unfold sqL; rw [hK, if_neg (by decide)]; simp only [List.append_assoc]) hb hl (by omega)
   rw [Bool.not_false, Xap, this, Xab, if_neg (by decide), List.length_append]
   simp only
   rw [show ((s.Kind.toNat : Nat) : Int) = s.Kind by omega]
 rw [e1, Xab]
 simp only
 have e2 : (sel false (some (strOfNums L, (((a ++ p).length : Nat) : Int), false, (0 : Int), (0 : Int), (0 : Int), ([] : List Int))) (
   sel (s.Kind == 1) (
   bnd (Xbt (⟨strOfNums L, (((a ++ p).length : Nat) : Int), false⟩ : Xj9)) fun q4 =>
   bnd (Xbt q4.2) fun q5 =>
   bnd (Xbe q5.2 c) fun q6 =>
   some (q6.2.row_, q6.2.at_, q6.2.bad_, 0, q4.1, q5.1, q6.1)) (
   sel (s.Kind == 2) (
   bnd (Xbf (⟨strOfNums L, (((a ++ p).length : Nat) : Int), false⟩ : Xj9)) fun q7 =>
   bnd (Xbe q7.2 c) fun q8 =>
   some (q8.2.row_, q8.2.at_, q8.2.bad_, q7.1, 0, 0, q8.1)) (
   some (strOfNums L, (((a ++ p).length : Nat) : Int), false, 0, 0, 0, []))))) = some (strOfNums L, ((a.length + (sqL s c).length : Nat) : Int), false, s.Mode, s.Dx, s.Dy, s.Levels) := by
  rw [Xal]
  unfold sqL
  rw [← hp]
  by_cases h1 : s.Kind = 1
  ·
   obtain ⟨x1, x2, x3⟩ := Xrj h h1
   have hm0 : s.Mode = 0 := by
    unfold Xm7 at h
    rw [if_neg (by omega), if_pos h1] at h
    simp only [Bool.and_eq_true, decide_eq_true_eq] at h
    exact h.1
   rw [if_pos h1] at hL2
   have y1 := Xtn (L := L) (a := a ++ p) (b := seL s.Dy ++ Yl0 s.Levels c ++ b) (n := s.Dx) (by rw [hL2]; simp only [List.append_assoc]) hb hl (by omega)
   have y2 := Xtn (L := L) (a := a ++ p ++ seL s.Dx) (b := Yl0 s.Levels c ++ b) (n := s.Dy) (by rw [hL2]; simp only [List.append_assoc]) hb hl (by omega)
   have y3 := Xuu (L := L) (a := a ++ p ++ seL s.Dx ++ seL s.Dy) (b := b) (l := s.Levels) (c := c) (by rw [hL2]; simp only [List.append_assoc]) hb hl x3
   rw [List.length_append (as := a ++ p)] at y2
   rw [List.length_append (as := a ++ p ++ seL s.Dx), List.length_append (as := a ++ p)] at y3
   rw [Xbg (by rw [beq_iff_eq]; exact h1), y1, Xab]
   simp only
   rw [y2, Xab]
   simp only
   rw [y3, Xab, if_pos h1, hm0]
   simp only [List.length_append, Nat.add_assoc]
  ·
   rw [Xa6 (by rw [beq_eq_false_iff_ne]; exact h1), if_neg h1]
   rw [if_neg h1] at hL2
   by_cases h2 : s.Kind = 2
   ·
    obtain ⟨x1, x3⟩ := Xtq h h2
    have hd0 : s.Dx = 0 ∧ s.Dy = 0 := by
     unfold Xm7 at h
     rw [if_neg (by omega), if_neg (by omega), if_pos h2] at h
     simp only [Bool.and_eq_true, decide_eq_true_eq] at h
     exact ⟨h.2.1, h.2.2.1⟩
    rw [if_pos h2] at hL2
    have y1 := Xh8 (L := L) (a := a ++ p) (b := Yl0 s.Levels c ++ b) (n := s.Mode.toNat) (by rw [hL2]; simp only [List.append_assoc]) hb hl (by omega)
    have y3 := Xuu (L := L) (a := a ++ p ++ ueL s.Mode.toNat) (b := b) (l := s.Levels) (c := c) (by rw [hL2]; simp only [List.append_assoc]) hb hl x3
    rw [List.length_append (as := a ++ p)] at y3
    rw [Xbg (by rw [beq_iff_eq]; exact h2), y1, Xab]
    simp only
    rw [y3, Xab, if_pos h2, hd0.1, hd0.2, show ((s.Mode.toNat : Nat) : Int) = s.Mode by omega]
    simp only [List.length_append, Nat.add_assoc]
   ·
    have h0 := Ypl h (by omega)
    rw [Xa6 (by rw [beq_eq_false_iff_ne]; exact h2), if_neg h2, List.append_nil, List.length_append]
    rw [h0]
 rw [e2, Xab]
 simp only
 rw [Xal, show (⟨s.Kind, s.Mode, s.Dx, s.Dy, s.Levels⟩ : Xao) = s from rfl, hok, Xab, Xab]
 rfl
def Yzp (t : Nat → Int) : Nat → Int
 | 0 => 0
 | k + 1 => Yzp t k + t k
def eT (f : Nat → Int) (u : Nat) : Int := Yzp (fun k => Xiv (u : Int) (k : Int) * f k) 8
def eS (X : Nat → Nat → Int) (u v : Nat) : Int := eT (fun i => eT (X i) v) u
theorem Yr2 {L : List Int} {i w : Nat} (h : i + w ≤ L.length) : L = L.take i ++ ((L.drop i).take w ++ L.drop (i + w)) ∧ (L.take i).length = i ∧ ((L.drop i).take w).length = w := by
 refine ⟨?_, by rw [List.length_take]; omega, by rw [List.length_take, List.length_drop]; omega⟩
 rw [← List.drop_drop, List.take_append_drop, List.take_append_drop]
theorem Yen {L : List Int} (hb : Xek L) (hl : L.length ≤ 400000) {i w : Nat} (h : i + w ≤ L.length) (hw : w ≤ 41) : Xaz ⟨strOfNums L, (i : Int), false⟩ (w : Int) = some (Xg7 ((L.drop i).take w), ⟨strOfNums L, ((i + w : Nat) : Int), false⟩) := by
 obtain ⟨h1, h2, h3⟩ := Yr2 h
 have := Xhh h1 hb hl (by omega)
 rw [h2, h3] at this
 exact this
theorem Xz9 {L : List Int} (hb : Xek L) {i : Nat} (h : i < L.length) : Xlf (strOfNums L) (i : Int) = L.getD i 0 ∧ (L.getD i 0 = 48 ∨ L.getD i 0 = 49) := ⟨Xr7 L (Xka hb) i h, hb _ (by rw [Xb3 L i h]; exact List.getElem_mem h)⟩
theorem Xro {L : List Int} {i k : Nat} (h : i + k < L.length) : Xg7 ((L.drop i).take (k + 1)) = 2 * Xg7 ((L.drop i).take k) + L.getD (i + k) 0 - 48 := by
 rw [List.take_add_one, Xrn, List.getElem?_eq_getElem (by rw [List.length_drop]; omega), List.getElem_drop, Xb3 L _ h]
 simp [Xg7]
 omega
theorem Xv5 {L : List Int} (hb : Xek L) (hl : L.length ≤ 400000) {i w : Nat} (hi : i ≤ L.length) (hw : w ≤ 41) : Xcx (strOfNums L) (i : Int) (w : Int) = some (if i + w ≤ L.length then (Xg7 ((L.drop i).take w), ((i + w : Nat) : Int), true) else (0, 0, false)) := by
 unfold Xcx
 rw [strOfNums_size, wkA (e := (L.length : Int) - i)]
 by_cases h : i + w ≤ L.length
 ·
  rw [snA, if_pos h]
  have key : ∀ k : Nat, k ≤ w → loop (Xk5 (strOfNums L) (i : Int) (w : Int)) (Xg7 ((L.drop i).take k), ((i + k : Nat) : Int)) = some (Xg7 ((L.drop i).take w)) := by
   refine Xg2 _ ?_ ?_
   ·
    refine Xce ?_
    unfold Xk5
    simp only
    rw [Xas (by rw [wkA]; omega)]
   ·
    intro k hk ih
    refine lgo ?_ ih
    obtain ⟨b1, b2⟩ := Xz9 hb (i := i + k) (by omega)
    have hr := Xi5 (l := (L.drop i).take k) (fun x hx => hb x (List.mem_of_mem_drop (List.mem_of_mem_take hx)))
    have hp : (2 : Int) ^ ((L.drop i).take k).length ≤ 1099511627776 := Xxn (by rw [List.length_take]; omega)
    have hv := Xro (L := L) (i := i) (k := k) (by omega)
    unfold Xk5
    simp only
    rw [Xbk (by rw [wkA]; omega), Xay (by rw [strOfNums_size]; omega), b1, wkA (e := 2 * Xg7 ((L.drop i).take k)), wkA (e := L.getD (i + k) 0), wkA (e := 2 * Xg7 ((L.drop i).take k) + L.getD (i + k) 0), wkA (e := 2 * Xg7 ((L.drop i).take k) + L.getD (i + k) 0 - 48), wkA (e := ((i + k : Nat) : Int) + 1), ← hv]
    rfl
  have := key 0 (by omega)
  refine (Xei this).trans ?_
  rw [wkA]
  rfl
 ·
  rw [syA, if_neg h]
theorem Yq1 {L : List Int} (hb : Xek L) : ∀ n i : Nat, i + n = L.length → ∃ z : Nat, i + z ≤ L.length ∧ (∀ k, k < z → L.getD (i + k) 0 = 48) ∧ (i + z < L.length → L.getD (i + z) 0 = 49)
 | 0, i, h => ⟨0, by omega, fun k hk => by omega, fun h2 => by omega⟩
 | n + 1, i, h => by
  rcases (Xz9 hb (i := i) (by omega)).2 with e | e
  ·
   obtain ⟨z, h1, h2, h3⟩ := Yq1 hb n (i + 1) (by omega)
   refine ⟨z + 1, by omega, fun k hk => ?_, fun hz => ?_⟩
   ·
    cases k with
    | zero => exact e
    | succ k => have := h2 k (by omega); rwa [show i + 1 + k = i + (k + 1) by omega] at this
   ·
    have := h3 (by omega)
    rwa [show i + 1 + z = i + (z + 1) by omega] at this
  ·
   exact ⟨0, by omega, fun k hk => by omega, fun _ => e⟩
theorem Yod {L : List Int} {i : Nat} : ∀ z : Nat, i + z ≤ L.length → (∀ k, k < z → L.getD (i + k) 0 = 48) → Xg7 ((L.drop i).take z) = 0
 | 0, _, _ => rfl
 | z + 1, h, hz => by rw [Xro (by omega), Yod z (by omega) (fun k hk => hz k (by omega)), hz z (by omega)]; rfl
theorem Yoc {L : List Int} {i z w : Nat} (h : i + z + w ≤ L.length) (hz : ∀ k, k < z → L.getD (i + k) 0 = 48) : Xg7 ((L.drop i).take (z + w)) = Xg7 ((L.drop (i + z)).take w) := by
 induction w with
 | zero => rw [Nat.add_zero, Yod z (by omega) hz]; rfl
 | succ w ih =>
  rw [← Nat.add_assoc, Xro (by omega), Xro (by omega), ih (by omega)]
  rw [Nat.add_assoc]
theorem Yud {L : List Int} (hb : Xek L) {i w : Nat} (h : i + (w + 1) ≤ L.length) (h1 : L.getD i 0 = 49) : (2 : Int) ^ w ≤ Xg7 ((L.drop i).take (w + 1)) := by
 induction w with
 | zero => rw [Xro (by omega)]; simp only [Nat.add_zero]; rw [h1, show Xg7 ((L.drop i).take 0) = 0 from rfl]; decide
 | succ w ih =>
  have := ih (by omega)
  have := (Xz9 hb (i := i + (w + 1)) (by omega)).2
  rw [Xro (by omega), Int.pow_succ]
  omega
theorem Ynr (z : Nat) (h : z ≤ 21) : 0 ≤ Xaa .u64 (z : Int) ∧ Xaa .i64 (1 * 2 ^ min (Xaa .u64 (z : Int)).toNat (IntKind.bits .i64)) = (2 : Int) ^ z := by
 have all : ∀ q : Fin 22, (0 ≤ Xaa .u64 (q.val : Int) ∧ Xaa .i64 (1 * 2 ^ min (Xaa .u64 (q.val : Int)).toNat (IntKind.bits .i64)) = (2 : Int) ^ q.val) := by decide +kernel
 exact all ⟨z, by omega⟩
theorem Yqx (s : ByteArray) (a : Int) : Xbf ⟨s, a, true⟩ = some (0, ⟨s, a, true⟩) := by
 have h : Xcd ⟨s, a, true⟩ 0 = some (.done 0) := rfl
 unfold Xbf
 rw [Xcf h, Xab]
 rfl
theorem Xrl {L : List Int} (hb : Xek L) (hl : L.length ≤ 400000) (i : Nat) (hi : i ≤ L.length) :
  (∃ v j : Nat, Xbn (strOfNums L) (i : Int) = some ((v : Int), (j : Int), true) ∧ Xbf ⟨strOfNums L, (i : Int), false⟩ = some ((v : Int), ⟨strOfNums L, (j : Int), false⟩) ∧ v ≤ 1000000 ∧ i < j ∧ j ≤ L.length) ∨ (Xbn (strOfNums L) (i : Int) = some (0, 0, false) ∧ ∃ a : Int, Xbf ⟨strOfNums L, (i : Int), false⟩ = some (0, ⟨strOfNums L, a, true⟩)) := by
 obtain ⟨z, h1, h2, h3⟩ := Yq1 hb (L.length - i) i (by omega)
 have lI : loop (Xcd ⟨strOfNums L, (i : Int), false⟩) 0 = some (z : Int) := by
  have key : ∀ k : Nat, k ≤ z → loop (Xcd ⟨strOfNums L, (i : Int), false⟩) (k : Int) = some (z : Int) := by
   refine Xg2 _ ?_ ?_
   ·
    refine Xce ?_
    unfold Xcd
    simp only
    rw [Xal, wkA (e := (i : Int) + (z : Int)), strOfNums_size]
    by_cases hlt : i + z < L.length
    ·
     rw [syA, rqA, show (i : Int) + (z : Int) = ((i + z : Nat) : Int) by omega, (Xz9 hb hlt).1, h3 hlt, Xab]; rfl
    ·
     rw [snA, Xab, Xal]
   ·
    intro k hk ih
    refine lgo ?_ ih
    unfold Xcd
    simp only
    rw [Xal, wkA (e := (i : Int) + (k : Int)), strOfNums_size, syA, rqA, show (i : Int) + (k : Int) = ((i + k : Nat) : Int) by omega, (Xz9 hb (by omega)).1, h2 k hk, Xab, wkA]
    rfl
  exact key 0 (by omega)
 have lS : ∀ m : Nat, m = min z 21 → loop (Xfr (strOfNums L) (i : Int)) 0 = some (m : Int) := by
  intro m hm
  have key : ∀ k : Nat, k ≤ m → loop (Xfr (strOfNums L) (i : Int)) (k : Int) = some (m : Int) := by
   refine Xg2 _ ?_ ?_
   ·
    refine Xce ?_
    unfold Xfr
    rw [wkA (e := (i : Int) + (m : Int)), strOfNums_size]
    by_cases hlt : i + m < L.length
    ·
     rw [syA, rqA, show (i : Int) + (m : Int) = ((i + m : Nat) : Int) by omega, (Xz9 hb hlt).1]
     by_cases hz : z ≤ 21
     ·
      have : m = z := by omega
      subst this
      rw [h3 hlt, Xa6 (by rfl), Xab, Xal]
     ·
      have : m = 21 := by omega
      subst this
      rw [h2 21 (by omega), Xbg (by rfl), decide_eq_false (by omega), Xab, Xal]
    ·
     rw [snA, Xab, Xal]
   ·
    intro k hk ih
    refine lgo ?_ ih
    unfold Xfr
    rw [wkA (e := (i : Int) + (k : Int)), strOfNums_size, syA, rqA, show (i : Int) + (k : Int) = ((i + k : Nat) : Int) by omega, (Xz9 hb (by omega)).1, h2 k (by omega), Xbg (by rfl), decide_eq_true (by omega), Xab, Xap, wkA]
    rfl
  exact key 0 (by omega)
 unfold Xbn Xbf
 rw [lI, Xab, lS _ rfl, Xab]
 simp only
 by_cases hz : z ≤ 20
 ·
  rw [show min z 21 = z by omega, snA, Xab, wkA (e := 2 * (z : Int)), wkA (e := 2 * (z : Int) + 1), wkA (e := (i : Int) + (z : Int)), wkA (e := (z : Int) + 1), show (i : Int) + (z : Int) = ((i + z : Nat) : Int) by omega, show (z : Int) + 1 = ((z + 1 : Nat) : Int) by omega, show 2 * (z : Int) + 1 = ((z + (z + 1) : Nat) : Int) by omega, Xv5 hb hl h1 (by omega), Xab]
  obtain ⟨p1, p2⟩ := Ynr z (by omega)
  by_cases hfit : i + z + (z + 1) ≤ L.length
  ·
   rw [if_pos hfit, Yen hb hl (by omega) (by omega), Xab, Yoc (by omega) h2]
   simp only
   have hge := Yud hb (i := i + z) (w := z) (by omega) (h3 (by omega))
   have hpp : (1 : Int) ≤ 2 ^ z := Int.pow_pos (by omega)
   have hr := Xi5 (l := (L.drop (i + z)).take (z + 1)) (fun x hx => hb x (List.mem_of_mem_drop (List.mem_of_mem_take hx)))
   have hp : (2 : Int) ^ ((L.drop (i + z)).take (z + 1)).length ≤ 1099511627776 := Xxn (by rw [List.length_take]; omega)
   generalize hq : Xg7 ((L.drop (i + z)).take (z + 1)) = q at *
   rw [Xap, Xay p1, p2, snA, wkA (e := q - 1), Xab, Xal, Xab]
   by_cases hbig : q - 1 > 1000000
   ·
    rw [Xbk hbig, Xbk hbig]
    exact .inr ⟨rfl, _, rfl⟩
   ·
    rw [Xas hbig, Xas hbig]
    exact .inl ⟨(q - 1).toNat, i + z + (z + 1), by rw [show (((q - 1).toNat : Nat) : Int) = q - 1 by omega], by rw [show (((q - 1).toNat : Nat) : Int) = q - 1 by omega, show i + (z + (z + 1)) = i + z + (z + 1) by omega], by omega, by omega, by omega⟩
  ·
   rw [if_neg hfit]
   simp only
   rw [Xal, Xab, Xap]
   refine .inr ⟨rfl, (i : Int), ?_⟩
   have : Xaz ⟨strOfNums L, (i : Int), false⟩ ((z + (z + 1) : Nat) : Int) = some (0, ⟨strOfNums L, (i : Int), true⟩) := by
    unfold Xaz
    simp only
    rw [Xal, strOfNums_size, wkA, Xab, syA]
   rw [this, Xab]
   rfl
 ·
  have hm : min z 21 = 21 := by omega
  rw [hm, syA, Xab]
  refine .inr ⟨?_, (i : Int), ?_⟩
  ·
   rw [wkA (e := (i : Int) + ((21 : Nat) : Int)), wkA (e := ((21 : Nat) : Int) + 1), show (i : Int) + ((21 : Nat) : Int) = ((i + 21 : Nat) : Int) by omega, show ((21 : Nat) : Int) + 1 = ((22 : Nat) : Int) by omega, Xv5 hb hl (by omega) (by omega), Xab]
   obtain ⟨p1, p2⟩ := Ynr 21 (by omega)
   by_cases hfit : i + 21 + 22 ≤ L.length
   ·
    rw [if_pos hfit]
    simp only
    rw [Xap, Xay p1, p2]
    by_cases h21 : z = 21
    ·
     subst h21
     have hge : (2 : Int) ^ 21 ≤ Xg7 ((L.drop (i + 21)).take 22) := Yud hb (i := i + 21) (w := 21) (by omega) (h3 (by omega))
     have hr := Xi5 (l := (L.drop (i + 21)).take 22) (fun x hx => hb x (List.mem_of_mem_drop (List.mem_of_mem_take hx)))
     have hp : (2 : Int) ^ ((L.drop (i + 21)).take 22).length ≤ 1099511627776 := Xxn (by rw [List.length_take]; omega)
     have e21 : (2 : Int) ^ 21 = 2097152 := by decide
     rw [e21] at hge ⊢
     rw [snA, wkA, decide_eq_true (by omega), Xab, Xap]
    ·
     have hlt : Xg7 ((L.drop (i + 21)).take 22) < 2 ^ 21 := by
      have a := Yoc (L := L) (i := i + 21) (z := 1) (w := 21) (by omega) (fun k hk => by
       have : k = 0 := by omega
       subst this
       exact h2 21 (by omega))
      rw [show (1 + 21 : Nat) = 22 from rfl] at a
      have hr := Xi5 (l := (L.drop (i + 21 + 1)).take 21) (fun x hx => hb x (List.mem_of_mem_drop (List.mem_of_mem_take hx)))
      rw [a]
      have : ((L.drop (i + 21 + 1)).take 21).length = 21 := by rw [List.length_take, List.length_drop]; omega
      rw [this] at hr
      exact hr.2
     rw [Xbk hlt, Xab, Xap]
   ·
    rw [if_neg hfit]
    simp only
    rw [Xal, Xab, Xap]
  ·
   have : ∀ w : Int, Xaz ⟨strOfNums L, (i : Int), true⟩ w = some (0, ⟨strOfNums L, (i : Int), true⟩) := fun w => rfl
   rw [this, Xab]
   rfl
theorem Yth (v : Nat) (hv : v ≤ 1000000) : ∃ n : Int, Xjk (v : Int) = some (n, true) ∧ Xv1 (v : Int) = some (n, true) ∧ -500000 ≤ n ∧ n ≤ 500000 := by
 unfold Xjk Xv1
 rw [Xaj, Xab, Xai, Xab, decide_eq_true (by omega), Bool.not_true, Xal, Xal, rqA, rqA, Xbm (by omega)]
 by_cases h : (v : Int) % 2 = 1
 ·
  rw [Xbg (by rw [beq_iff_eq]; exact h), Xbg (by rw [beq_iff_eq]; exact h), rqA, wkA (e := (v : Int) + 1), Xbl (by omega), wkA]
  exact ⟨_, rfl, rfl, by omega, by omega⟩
 ·
  rw [Xa6 (by rw [beq_eq_false_iff_ne]; exact h), Xa6 (by rw [beq_eq_false_iff_ne]; exact h), rqA, rqA, wkA (e := 0 - (v : Int))]
  have e1 : (0 - (v : Int)).tdiv 2 = -((v : Int) / 2) := by
   rw [show (0 - (v : Int)) = (-((v : Int) / 2)) * 2 by omega]
   exact Int.mul_tdiv_cancel _ (by omega)
  rw [e1, Xbl (a := (v : Int)) (by omega), wkA (e := (v : Int) / 2), wkA (e := 0 - (v : Int) / 2), wkA (e := -((v : Int) / 2)), show 0 - (v : Int) / 2 = -((v : Int) / 2) by omega]
  exact ⟨_, rfl, rfl, by omega, by omega⟩
theorem Yqp (s : ByteArray) (a : Int) : Xbt ⟨s, a, true⟩ = some (0, ⟨s, a, true⟩) := by
 unfold Xbt
 rw [Yqx, Xab]
 rfl
theorem Yfl {L : List Int} (hb : Xek L) (hl : L.length ≤ 400000) (i : Nat) (hi : i ≤ L.length) :
  (∃ (n : Int) (j : Nat), Xco (strOfNums L) (i : Int) = some (n, (j : Int), true) ∧ Xbt ⟨strOfNums L, (i : Int), false⟩ = some (n, ⟨strOfNums L, (j : Int), false⟩) ∧ (-500000 ≤ n ∧ n ≤ 500000) ∧ i < j ∧ j ≤ L.length) ∨ (Xco (strOfNums L) (i : Int) = some (0, 0, false) ∧ ∃ a : Int, Xbt ⟨strOfNums L, (i : Int), false⟩ = some (0, ⟨strOfNums L, a, true⟩)) := by
 unfold Xco Xbt
 rcases Xrl hb hl i hi with ⟨v, j, e1, e2, h1, h2, h3⟩ | ⟨e1, a, e2⟩
 ·
  obtain ⟨n, o1, o2, o3, o4⟩ := Yth v h1
  refine .inl ⟨n, j, ?_, ?_, ⟨o3, o4⟩, h2, h3⟩
  ·
   rw [e1, Xab]
   simp only
   rw [Bool.not_true, Xal, o2, Xab]
  ·
   rw [e2, Xab]
   simp only
   rw [o1, Xab]
   rfl
 ·
  refine .inr ⟨?_, a, ?_⟩
  ·
   rw [e1, Xab]; rfl
  ·
   rw [e2, Xab]; rfl
def Yr6 (L : List Int) (N n pos : Nat) : Prop := pos ≤ N → N ≤ pos + n → ∀ (i : Nat) (l : List Int) (rem : Nat), i ≤ L.length → l.length = N → rem ≤ 1000000 →
  (∃ (j : Nat) (l' : List Int), (∀ (k : Nat) (q1 : Int × Int × Bool), q1.1 = ((k + rem : Nat) : Int) → k + rem ≤ 1000000 → loop (Xcv (strOfNums L) (N : Int) q1) ((i : Int), (pos : Int), (k : Int), l) = some (.out ((j : Int), l'))) ∧ loop (Xbb (N : Int)) ((pos : Int), (rem : Int), strOfNums L, (i : Int), false, l) = some (l', strOfNums L, (j : Int), false) ∧ l'.length = N ∧ j ≤ L.length ∧ rem ≤ N - pos) ∨
  ((∀ (k : Nat) (q1 : Int × Int × Bool), q1.1 = ((k + rem : Nat) : Int) → k + rem ≤ 1000000 → loop (Xcv (strOfNums L) (N : Int) q1) ((i : Int), (pos : Int), (k : Int), l) = some (.ret ([], 0, false))) ∧ ∃ (l' : List Int) (a : Int), loop (Xbb (N : Int)) ((pos : Int), (rem : Int), strOfNums L, (i : Int), false, l) = some (l', strOfNums L, a, true) ∧ l'.length = N)
theorem Ynx {L : List Int} (hb : Xek L) (hl : L.length ≤ 400000) (N : Nat) (hN : N ≤ 64) (n : Nat) (ih : ∀ n', n' + 1 = n → ∀ pos, Yr6 L N n' pos) (pos : Nat) : Yr6 L N n pos := by
 intro hp hn i l rem hi hll hrem
 cases rem with
 | zero =>
  refine .inl ⟨i, l, fun k q1 hq hk => Xce ?_, Xce ?_, hll, hi, by omega⟩
  ·
   unfold Xcv
   simp only
   rw [snA]
  ·
   unfold Xbb
   simp only
   rw [snA, Xab, Xal]
 | succ r =>
  have sI : Xbb (N : Int) ((pos : Int), ((r + 1 : Nat) : Int), strOfNums L, (i : Int), false, l) = bnd (Xbf ⟨strOfNums L, (i : Int), false⟩) fun q17 => bnd (Xbt q17.2) fun q18 => bnd (sel (decide ((Xaa .i64 ((pos : Int) + q17.1)) ≥ (N : Int))) (some true) (sel (q18.1 == 0) (some true) (bnd (Xan q18.1 (-5000) 5000) fun q20 => some (!q20)))) fun v19 => sel v19 (some (.done (l, q18.2.row_, q18.2.at_, true))) (req (0 ≤ (Xaa .i64 ((pos : Int) + q17.1)) ∧ (Xaa .i64 ((pos : Int) + q17.1)) < l.length) <| req ((Xaa .i64 ((pos : Int) + q17.1)).toNat < l.length) <| some (.go (Xaa .i64 ((Xaa .i64 ((pos : Int) + q17.1)) + 1), Xaa .i64 (((r + 1 : Nat) : Int) - 1), q18.2.row_, q18.2.at_, q18.2.bad_, (l.set ((Xaa .i64 ((pos : Int) + q17.1)).toNat) q18.1)))) := by
   unfold Xbb
   simp only
   rw [syA, Bool.not_false, Xab, Xap]
  have sS : ∀ (k : Nat) (q1 : Int × Int × Bool), q1.1 = ((k + (r + 1) : Nat) : Int) → Xcv (strOfNums L) (N : Int) q1 ((i : Int), (pos : Int), (k : Int), l) = bnd (Xbn (strOfNums L) (i : Int)) fun q17 => bnd (sel q17.2.2 (some (decide (q17.1 > (Xaa .i64 ((Xaa .i64 ((N : Int) - 1)) - (pos : Int)))))) (some true)) fun v18 => sel v18 (some (.done (.ret (([] : List Int), 0, false)))) (bnd (Xco (strOfNums L) q17.2.1) fun q19 => bnd (sel q19.2.2 (sel (q19.1 == 0) (some true) (bnd (Xaq q19.1 (-5000) 5000) fun q21 => some (!q21))) (some true)) fun v20 => sel v20 (some (.done (.ret (([] : List Int), 0, false)))) (req (0 ≤ (Xaa .i64 ((pos : Int) + q17.1)) ∧ (Xaa .i64 ((pos : Int) + q17.1)) < l.length) <| req ((Xaa .i64 ((pos : Int) + q17.1)).toNat < l.length) <| some (.go (q19.2.1, Xaa .i64 ((Xaa .i64 ((pos : Int) + q17.1)) + 1), Xaa .i64 ((k : Int) + 1), (l.set ((Xaa .i64 ((pos : Int) + q17.1)).toNat) q19.1))))) := fun k q1 hq => by
   unfold Xcv
   simp only
   rw [syA]
  rcases Xrl hb hl i hi with ⟨v, j, e1, e2, h1, h2, h3⟩ | ⟨e1, a, e2⟩
  ·
   rw [e2, Xab] at sI
   simp only at sI
   have sS' := fun k q1 hq => (sS k q1 hq).trans (by rw [e1, Xab])
   simp only at sS'
   by_cases hge : pos + v ≥ N
   ·
    refine .inr ⟨fun k q1 hq hk => Xce ((sS' k q1 hq).trans ?_), ?_⟩
    ·
     rw [Xap, wkA (e := (N : Int) - 1), wkA (e := (N : Int) - 1 - pos), decide_eq_true (by omega), Xab, Xap]
    ·
     rcases Yfl hb hl j h3 with ⟨m, j2, _, f2, _⟩ | ⟨_, a, f2⟩
     ·
      refine ⟨l, (j2 : Int), Xce (sI.trans ?_), hll⟩
      rw [f2, Xab, wkA (e := (pos : Int) + v), syA, Xab, Xap]
     ·
      refine ⟨l, a, Xce (sI.trans ?_), hll⟩
      rw [f2, Xab, wkA (e := (pos : Int) + v), syA, Xab, Xap]
   ·
    have sS2 := fun k q1 hq => (sS' k q1 hq).trans (by rw [Xap, wkA (e := (N : Int) - 1), wkA (e := (N : Int) - 1 - pos), decide_eq_false (by omega), Xab, Xal])
    rw [wkA (e := (pos : Int) + v)] at sI
    rcases Yfl hb hl j h3 with ⟨m, j2, f1, f2, f3, f4, f5⟩ | ⟨f1, a, f2⟩
    ·
     rw [f2, Xab, snA] at sI
     have sS3 := fun k q1 hq => (sS2 k q1 hq).trans (by rw [f1, Xab])
     simp only at sS3 sI
     by_cases hm : m = 0 ∨ ¬ (-5000 ≤ m ∧ m ≤ 5000)
     ·
      have hv : (sel (m == 0) (some true) (bnd (Xan m (-5000) 5000) fun q20 => some (!q20))) = some true ∧ (sel true (sel (m == 0) (some true) (bnd (Xaq m (-5000) 5000) fun q20 => some (!q20))) (some true)) = some true := by
       rw [Xap, Xaj, Xai, Xab]
       rcases hm with h0 | h0
       ·
        rw [Xbg (by rw [beq_iff_eq]; exact h0)]; exact ⟨rfl, rfl⟩
       ·
        rw [decide_eq_false h0]
        cases (m == 0) <;> exact ⟨rfl, rfl⟩
      refine .inr ⟨fun k q1 hq hk => Xce ((sS3 k q1 hq).trans ?_), l, (j2 : Int), Xce (sI.trans ?_), hll⟩
      ·
       rw [hv.2, Xab, Xap]
      ·
       rw [hv.1, Xab, Xap]
     ·
      have hm0 : m ≠ 0 := fun h => hm (.inl h)
      have hm1 : -5000 ≤ m ∧ m ≤ 5000 := Classical.byContradiction fun h => hm (.inr h)
      have hv : (sel (m == 0) (some true) (bnd (Xan m (-5000) 5000) fun q20 => some (!q20))) = some false ∧ (sel true (sel (m == 0) (some true) (bnd (Xaq m (-5000) 5000) fun q20 => some (!q20))) (some true)) = some false := by
       rw [Xap, Xaj, Xai, Xab, Xa6 (by rw [beq_eq_false_iff_ne]; exact hm0), decide_eq_true hm1]
       exact ⟨rfl, rfl⟩
      have gI : Xbb (N : Int) ((pos : Int), ((r + 1 : Nat) : Int), strOfNums L, (i : Int), false, l) = some (.go (((pos + v + 1 : Nat) : Int), (r : Int), strOfNums L, (j2 : Int), false, l.set (pos + v) m)) := by
       rw [sI, hv.1, Xab, Xal, rqA, rqA, wkA, wkA, show ((r + 1 : Nat) : Int) - 1 = (r : Int) by omega, show ((pos : Int) + (v : Int)).toNat = pos + v by omega]
       rfl
      have gS : ∀ (k : Nat) (q1 : Int × Int × Bool), q1.1 = ((k + (r + 1) : Nat) : Int) → k + (r + 1) ≤ 1000000 → Xcv (strOfNums L) (N : Int) q1 ((i : Int), (pos : Int), (k : Int), l) = some (.go ((j2 : Int), ((pos + v + 1 : Nat) : Int), ((k + 1 : Nat) : Int), l.set (pos + v) m)) := fun k q1 hq hk => by
       refine (sS3 k q1 hq).trans ?_
       rw [hv.2, Xab, Xal, wkA (e := (pos : Int) + v), rqA, rqA, wkA, wkA, show ((pos : Int) + (v : Int)).toNat = pos + v by omega]
       rfl
      have hR := ih (n - 1) (by omega) (pos + v + 1) (by omega) (by omega) j2 (l.set (pos + v) m) r f5 (by rw [List.length_set]; exact hll) (by omega)
      rcases hR with ⟨j3, l', r1, r2, r3, r4, r5⟩ | ⟨r1, l', a, r2, r3⟩
      ·
       exact .inl ⟨j3, l', fun k q1 hq hk => lgo (gS k q1 hq hk) (r1 (k + 1) q1 (by rw [hq]; omega) (by omega)), lgo gI r2, r3, r4, by omega⟩
      ·
       exact .inr ⟨fun k q1 hq hk => lgo (gS k q1 hq hk) (r1 (k + 1) q1 (by rw [hq]; omega) (by omega)), l', a, lgo gI r2, r3⟩
    ·
     refine .inr ⟨fun k q1 hq hk => Xce ((sS2 k q1 hq).trans ?_), l, a, Xce (sI.trans ?_), hll⟩
     ·
      rw [f1, Xab]; rfl
     ·
      rw [f2, Xab, snA]; rfl
  ·
   refine .inr ⟨fun k q1 hq hk => Xce ((sS k q1 hq).trans ?_), l, a, Xce (sI.trans ?_), hll⟩
   ·
    rw [e1, Xab]; rfl
   ·
    rw [e2, Xab]
    simp only
    rw [Yqp, Xab]
    simp only
    cases decide ((Xaa .i64 ((pos : Int) + 0)) ≥ (N : Int)) <;> rfl
theorem Yxi {L : List Int} (hb : Xek L) (hl : L.length ≤ 400000) (N : Nat) (hN : N ≤ 64) : ∀ n pos : Nat, Yr6 L N n pos := by
 intro n
 induction n with
 | zero => exact fun pos => Ynx hb hl N hN 0 (fun n' h => by omega) pos
 | succ n ih => exact fun pos => Ynx hb hl N hN (n + 1) (fun n' h pos => by
   have : n' = n := by omega
   subst this
   exact ih pos) pos
theorem Yqo (s : ByteArray) (a : Int) (N : Nat) (hN : N ≤ 64) : Xcc ⟨s, a, true⟩ (N : Int) = some (List.replicate N 0, ⟨s, a, true⟩) := by
 unfold Xcc
 rw [rqA, Yqx, Xab]
 have h : ∀ l, Xbb (N : Int) (0, 0, s, a, true, l) = some (.done (l, s, a, true)) := fun l => rfl
 simp only
 rw [Xcf (h _), Xab, Int.toNat_natCast]
theorem Ynu {L : List Int} (hb : Xek L) (hl : L.length ≤ 400000) (N : Nat) (hN : N ≤ 64) (i : Nat) (hi : i ≤ L.length) :
  (∃ (l : List Int) (j : Nat), Xm6 (strOfNums L) (i : Int) (N : Int) = some (l, (j : Int), true) ∧ Xcc ⟨strOfNums L, (i : Int), false⟩ (N : Int) = some (l, ⟨strOfNums L, (j : Int), false⟩) ∧ l.length = N ∧ j ≤ L.length) ∨ (Xm6 (strOfNums L) (i : Int) (N : Int) = some ([], 0, false) ∧ ∃ (l : List Int) (a : Int), Xcc ⟨strOfNums L, (i : Int), false⟩ (N : Int) = some (l, ⟨strOfNums L, a, true⟩) ∧ l.length = N) := by
 unfold Xm6 Xcc
 rw [rqA, rqA]
 rcases Xrl hb hl i hi with ⟨v, j, e1, e2, h1, h2, h3⟩ | ⟨e1, a, e2⟩
 ·
  rw [e1, Xab, e2, Xab]
  simp only
  rw [Xap, Xab, Int.toNat_natCast]
  rcases Yxi hb hl N hN N 0 (by omega) (by omega) j (List.replicate N 0) v h3 (by simp) h1 with ⟨j3, l', r1, r2, r3, r4, r5⟩ | ⟨r1, l', a, r2, r3⟩
  ·
   have r1' := r1 0 ((v : Int), (j : Int), true) (by simp) (by omega)
   have r2' : loop (Xbb (N : Int)) (0, (v : Int), strOfNums L, (j : Int), false, List.replicate N 0) = some (l', strOfNums L, (j3 : Int), false) := r2
   have r3' : loop (Xcv (strOfNums L) (N : Int) ((v : Int), (j : Int), true)) ((j : Int), 0, 0, List.replicate N 0) = some (.out ((j3 : Int), l')) := r1'
   rw [snA, r2', r3', Xab, Xab]
   exact .inl ⟨l', j3, rfl, rfl, r3, r4⟩
  ·
   have r2' : loop (Xbb (N : Int)) (0, (v : Int), strOfNums L, (j : Int), false, List.replicate N 0) = some (l', strOfNums L, a, true) := r2
   refine .inr ⟨?_, l', a, ?_, r3⟩
   ·
    by_cases hbig : (v : Int) > N
    ·
     rw [Xbk hbig]
    ·
     have r3' : loop (Xcv (strOfNums L) (N : Int) ((v : Int), (j : Int), true)) ((j : Int), 0, 0, List.replicate N 0) = some (.ret ([], 0, false)) := r1 0 ((v : Int), (j : Int), true) (by simp) (by omega)
     rw [Xas hbig, r3', Xab]
   ·
    rw [r2', Xab]
 ·
  refine .inr ⟨?_, List.replicate N 0, a, ?_, by simp⟩
  ·
   rw [e1, Xab]; rfl
  ·
   rw [e2, Xab]
   have h : ∀ l, Xbb (N : Int) (0, 0, strOfNums L, a, true, l) = some (.done (l, strOfNums L, a, true)) := fun l => rfl
   simp only
   rw [Xcf (h _), Xab, Int.toNat_natCast]
theorem Yo4 (s : ByteArray) (a : Int) : ∀ n k : Nat, k + n = 4 → ∀ l : List Int, l.length = 16 * k → ∃ l' : List Int, loop Xa1 ((k : Int), s, a, true, l) = some (l', s, a, true) ∧ l'.length = 64
 | 0, k, hk, l, hl => ⟨l, Xce (by unfold Xa1; simp only; rw [snA]), by omega⟩
 | n + 1, k, hk, l, hl => by
  have hm : maxLen = 9223372036854775807 := rfl
  obtain ⟨l', e, h⟩ := Yo4 s a n (k + 1) (by omega) (l ++ List.replicate 16 0) (by rw [List.length_append, List.length_replicate]; omega)
  refine ⟨l', lgo ?_ e, h⟩
  have := Yqo s a 16 (by omega)
  unfold Xa1
  simp only
  rw [syA]
  refine (Xei this).trans ?_
  simp only
  rw [Xay (by simp only [List.length_replicate]; omega), wkA]
  rfl
theorem Xzb (s : ByteArray) (a : Int) (c : Xfc) : ∃ l : List Int, Xbe ⟨s, a, true⟩ c = some (l, ⟨s, a, true⟩) ∧ l.length = 64 := by
 unfold Xbe
 rw [Yaq, Xab]
 by_cases h : (c.Large || c.Exact) = true
 ·
  rw [Xbg h]
  have := Yqo s a 64 (by omega)
  exact ⟨_, (Xei this).trans rfl, by simp⟩
 ·
  rw [Xa6 (by simpa using h)]
  obtain ⟨l', e, hl⟩ := Yo4 s a 4 0 rfl [] rfl
  exact ⟨l', (Xei e).trans rfl, hl⟩
theorem Yp9 {L : List Int} (hb : Xek L) (hl : L.length ≤ 400000) : ∀ n k : Nat, k + n = 4 → ∀ (i : Nat) (l : List Int), i ≤ L.length → l.length = 16 * k →
  (∃ (l' : List Int) (j : Nat), loop (Xeh (strOfNums L)) ((i : Int), (k : Int), l) = some (.out ((j : Int), l')) ∧ loop Xa1 ((k : Int), strOfNums L, (i : Int), false, l) = some (l', strOfNums L, (j : Int), false) ∧ l'.length = 64 ∧ j ≤ L.length) ∨
  (loop (Xeh (strOfNums L)) ((i : Int), (k : Int), l) = some (.ret ([], 0, false)) ∧ ∃ (l' : List Int) (a : Int), loop Xa1 ((k : Int), strOfNums L, (i : Int), false, l) = some (l', strOfNums L, a, true) ∧ l'.length = 64)
 | 0, k, hk, i, l, hi, hll => .inl ⟨l, i, Xce (by unfold Xeh; simp only; rw [snA]), Xce (by unfold Xa1; simp only; rw [snA]), by omega, hi⟩
 | n + 1, k, hk, i, l, hi, hll => by
  have hm : maxLen = 9223372036854775807 := rfl
  rcases Ynu hb hl 16 (by omega) i hi with ⟨q, j, e1, e2, h1, h2⟩ | ⟨e1, q, a, e2, h1⟩
  ·
   have gI : Xa1 ((k : Int), strOfNums L, (i : Int), false, l) = some (.go (((k + 1 : Nat) : Int), strOfNums L, (j : Int), false, l ++ q)) := by
    unfold Xa1
    simp only
    rw [syA]
    refine (Xei e2).trans ?_
    simp only
    rw [rqA, wkA]
    rfl
   have gS : Xeh (strOfNums L) ((i : Int), (k : Int), l) = some (.go ((j : Int), ((k + 1 : Nat) : Int), l ++ q)) := by
    unfold Xeh
    simp only
    rw [syA]
    refine (Xei e1).trans ?_
    simp only
    rw [Bool.not_true, Xal, rqA, wkA]
    rfl
   rcases Yp9 hb hl n (k + 1) (by omega) j (l ++ q) h2 (by rw [List.length_append]; omega) with ⟨l', j', r1, r2, r3, r4⟩ | ⟨r1, l', a, r2, r3⟩
   ·
    exact .inl ⟨l', j', lgo gS r1, lgo gI r2, r3, r4⟩
   ·
    exact .inr ⟨lgo gS r1, l', a, lgo gI r2, r3⟩
  ·
   obtain ⟨l', r1, r2⟩ := Yo4 (strOfNums L) a n (k + 1) (by omega) (l ++ q) (by rw [List.length_append]; omega)
   refine .inr ⟨Xce ?_, l', a, lgo ?_ r1, r2⟩
   ·
    unfold Xeh
    simp only
    rw [syA]
    refine (Xei e1).trans ?_
    rfl
   ·
    unfold Xa1
    simp only
    rw [syA]
    refine (Xei e2).trans ?_
    simp only
    rw [rqA, wkA]
    rfl
theorem Ye6 {L : List Int} (hb : Xek L) (hl : L.length ≤ 400000) (i : Nat) (hi : i ≤ L.length) (c : Xfc) :
  (∃ (l : List Int) (j : Nat), Xj6 (strOfNums L) (i : Int) c = some (l, (j : Int), true) ∧ Xbe ⟨strOfNums L, (i : Int), false⟩ c = some (l, ⟨strOfNums L, (j : Int), false⟩) ∧ l.length = 64 ∧ j ≤ L.length) ∨
  (Xj6 (strOfNums L) (i : Int) c = some ([], 0, false) ∧ ∃ (l : List Int) (a : Int), Xbe ⟨strOfNums L, (i : Int), false⟩ c = some (l, ⟨strOfNums L, a, true⟩) ∧ l.length = 64) := by
 unfold Xj6 Xbe
 rw [Yaq, Xab, Xab]
 by_cases h : (c.Large || c.Exact) = true
 ·
  rw [Xbg h, Xbg h]
  rcases Ynu hb hl 64 (by omega) i hi with ⟨q, j, e1, e2, h1, h2⟩ | ⟨e1, q, a, e2, h1⟩
  ·
   exact .inl ⟨q, j, (Xei e1).trans rfl, (Xei e2).trans rfl, h1, h2⟩
  ·
   exact .inr ⟨(Xei e1).trans rfl, q, a, (Xei e2).trans rfl, h1⟩
 ·
  rw [Xa6 (by simpa using h), Xa6 (by simpa using h)]
  rcases Yp9 hb hl 4 0 rfl i [] hi rfl with ⟨l', j', r1, r2, r3, r4⟩ | ⟨r1, l', a, r2, r3⟩
  ·
   exact .inl ⟨l', j', (Xei r1).trans rfl, (Xei r2).trans rfl, r3, r4⟩
  ·
   exact .inr ⟨(Xei r1).trans rfl, l', a, (Xei r2).trans rfl, r3⟩
theorem Yje (s : ByteArray) (a : Int) (c : Xfc) : ∃ (q : Xao) (a' : Int), Xb8 ⟨s, a, true⟩ c = some (q, ⟨s, a', true⟩) := by
 unfold Xb8
 cases hK : c.Key with
 | true => exact ⟨_, _, rfl⟩
 | false =>
  simp only
  rw [Bool.not_false, Xap, Yqx, Xab, Xab]
  exact ⟨_, _, rfl⟩
theorem Ypm {L : List Int} (hb : Xek L) (hl : L.length ≤ 400000) (i : Nat) (hi : i ≤ L.length) (c : Xfc) :
  (∃ (q : Xao) (j : Nat), Xo8 (strOfNums L) (i : Int) c = some (q, (j : Int), true) ∧ Xb8 ⟨strOfNums L, (i : Int), false⟩ c = some (q, ⟨strOfNums L, (j : Int), false⟩) ∧ q.Levels.length ≤ 64 ∧ j ≤ L.length ∧ Xm7 q = true ∧ Xhy q c = true) ∨
  (Xo8 (strOfNums L) (i : Int) c = some (⟨0, 0, 0, 0, []⟩, 0, false) ∧ ∃ (q : Xao) (a : Int), Xb8 ⟨strOfNums L, (i : Int), false⟩ c = some (q, ⟨strOfNums L, a, true⟩)) := by
 -- the kind
 have tail : ∀ (kd : Int) (i1 : Nat), i1 ≤ L.length → (0 ≤ kd ∧ kd ≤ 2) → (c.Key = true → kd = 2) → ∀ (x y : Option (Xao × Int × Bool)) (z : Option (Xao × Xj9)),
   x = (sel (kd == 0) (some ((⟨kd, 0, 0, 0, []⟩ : Xao), (i1 : Int), true)) (sel (kd == 1) (bnd (Xco (strOfNums L) i1) fun q5 => sel (!q5.2.2) (some ((⟨0, 0, 0, 0, []⟩ : Xao), 0, false)) (bnd (Xco (strOfNums L) q5.2.1) fun q6 => (sel (!q6.2.2) (some ((⟨0, 0, 0, 0, []⟩ : Xao), 0, false)) (bnd (Xj6 (strOfNums L) q6.2.1 c) fun q8 => bnd (sel q8.2.2 (bnd (Xgb (⟨kd, 0, q5.1, q6.1, q8.1⟩ : Xao)) fun q10 => some (!q10)) (some true)) fun v9 => sel v9 (some ((⟨0, 0, 0, 0, []⟩ : Xao), 0, false)) (some ((⟨kd, 0, q5.1, q6.1, q8.1⟩ : Xao), q8.2.1, true)))))) (bnd (Xbn (strOfNums L) i1) fun q7 => (sel (!q7.2.2) (some ((⟨0, 0, 0, 0, []⟩ : Xao), 0, false)) (bnd (Xj6 (strOfNums L) q7.2.1 c) fun q8 => bnd (sel q8.2.2 (bnd (Xgb (⟨kd, q7.1, 0, 0, q8.1⟩ : Xao)) fun q10 => some (!q10)) (some true)) fun v9 => sel v9 (some ((⟨0, 0, 0, 0, []⟩ : Xao), 0, false)) (some ((⟨kd, q7.1, 0, 0, q8.1⟩ : Xao), q8.2.1, true))))))) →
   z = (bnd (sel (kd == 1) (bnd (Xbt (⟨strOfNums L, (i1 : Int), false⟩ : Xj9)) fun q4 => bnd (Xbt q4.2) fun q5 => bnd (Xbe q5.2 c) fun q6 => some (q6.2.row_, q6.2.at_, q6.2.bad_, (0 : Int), q4.1, q5.1, q6.1)) (sel (kd == 2) (bnd (Xbf (⟨strOfNums L, (i1 : Int), false⟩ : Xj9)) fun q7 => bnd (Xbe q7.2 c) fun q8 => some (q8.2.row_, q8.2.at_, q8.2.bad_, q7.1, 0, 0, q8.1)) (some (strOfNums L, (i1 : Int), false, 0, 0, 0, [])))) fun v3 => bnd (sel v3.2.2.1 (some true) (bnd (Xf7 (⟨kd, v3.2.2.2.1, v3.2.2.2.2.1, v3.2.2.2.2.2.1, v3.2.2.2.2.2.2⟩ : Xao)) fun q10 => some (!q10))) fun v9 => some ((⟨kd, v3.2.2.2.1, v3.2.2.2.2.1, v3.2.2.2.2.2.1, v3.2.2.2.2.2.2⟩ : Xao), (⟨v3.1, v3.2.1, v9⟩ : Xj9))) →
   (∃ (q : Xao) (j : Nat), x = some (q, (j : Int), true) ∧ z = some (q, ⟨strOfNums L, (j : Int), false⟩) ∧ q.Levels.length ≤ 64 ∧ j ≤ L.length ∧ Xm7 q = true ∧ Xhy q c = true) ∨ (x = some (⟨0, 0, 0, 0, []⟩, 0, false) ∧ ∃ (q : Xao) (a : Int), z = some (q, ⟨strOfNums L, a, true⟩)) := by
  intro kd i1 hi1 hkd hkey x _ z hx hz
  subst hx; subst hz
  obtain h0 | h1 | h2 : kd = 0 ∨ kd = 1 ∨ kd = 2 := by omega
  ·
   subst h0
   exact .inl ⟨⟨0, 0, 0, 0, []⟩, i1, rfl, rfl, by simp, hi1, rfl, by
    unfold Xhy
    cases hK : c.Key with
    | false => rfl
    | true => exact absurd (hkey hK) (by decide)⟩
  ·
   subst h1
   have hlet : ∀ q : Xao, q.Kind = 1 → Xhy q c = true := fun q hq => by
    unfold Xhy
    cases hK : c.Key with
    | false => rfl
    | true => exact absurd (hkey hK) (by decide)
   rw [Xa6 (b := ((1 : Int) == 0)) (by rfl), Xbg (b := ((1 : Int) == 1)) (by rfl), Xbg (b := ((1 : Int) == 1)) (by rfl)]
   rcases Yfl hb hl i1 hi1 with ⟨dx, j, e1, e2, h1, h2, h3⟩ | ⟨e1, a, e2⟩
   ·
    rw [e1, Xab, e2, Xab]
    simp only
    rw [Bool.not_true, Xal]
    rcases Yfl hb hl j h3 with ⟨dy, j2, f1, f2, g1, g2, g3⟩ | ⟨f1, a, f2⟩
    ·
     rw [f1, Xab, f2, Xab]
     simp only
     rw [Bool.not_true, Xal]
     rcases Ye6 hb hl j2 g3 c with ⟨lv, j3, k1, k2, k3, k4⟩ | ⟨k1, lv, a, k2, k3⟩
     ·
      rw [k1, Xab, k2, Xab, Xab]
      simp only
      rw [Xap, Xal, Xjd, Xab, Xem _ (by simp only; omega), Xab, Xab, Xab]
      cases hq : Xm7 ⟨1, 0, dx, dy, lv⟩ with
      | true => exact .inl ⟨_, j3, rfl, rfl, by simp only; omega, k4, hq, hlet _ rfl⟩
      | false => exact .inr ⟨rfl, _, _, rfl⟩
     ·
      rw [k1, Xab, k2, Xab, Xab]
      exact .inr ⟨rfl, _, _, rfl⟩
    ·
     rw [f1, Xab, f2, Xab]
     obtain ⟨lv, k2, _⟩ := Xzb (strOfNums L) a c
     simp only
     rw [k2, Xab, Xab]
     exact .inr ⟨rfl, _, _, rfl⟩
   ·
    rw [e1, Xab, e2, Xab]
    obtain ⟨lv, k2, _⟩ := Xzb (strOfNums L) a c
    simp only
    rw [Yqp, Xab]
    simp only
    rw [k2, Xab, Xab]
    exact .inr ⟨rfl, _, _, rfl⟩
  ·
   subst h2
   have hlet : ∀ q : Xao, q.Kind = 2 → Xhy q c = true := fun q hq => by
    unfold Xhy
    rw [hq]
    cases c.Key <;> rfl
   rw [Xa6 (b := ((2 : Int) == 0)) (by rfl), Xa6 (b := ((2 : Int) == 1)) (by rfl), Xa6 (b := ((2 : Int) == 1)) (by rfl), Xbg (b := ((2 : Int) == 2)) (by rfl)]
   rcases Xrl hb hl i1 hi1 with ⟨m, j2, f1, f2, g1, g2, g3⟩ | ⟨f1, a, f2⟩
   ·
    rw [f1, Xab, f2, Xab]
    simp only
    rw [Bool.not_true, Xal]
    rcases Ye6 hb hl j2 g3 c with ⟨lv, j3, k1, k2, k3, k4⟩ | ⟨k1, lv, a, k2, k3⟩
    ·
     rw [k1, Xab, k2, Xab, Xab]
     simp only
     rw [Xap, Xal, Xjd, Xab, Xem _ (by simp only; omega), Xab, Xab, Xab]
     cases hq : Xm7 ⟨2, (m : Int), 0, 0, lv⟩ with
     | true => exact .inl ⟨_, j3, rfl, rfl, by simp only; omega, k4, hq, hlet _ rfl⟩
     | false => exact .inr ⟨rfl, _, _, rfl⟩
    ·
     rw [k1, Xab, k2, Xab, Xab]
     exact .inr ⟨rfl, _, _, rfl⟩
   ·
    rw [f1, Xab, f2, Xab]
    obtain ⟨lv, k2, _⟩ := Xzb (strOfNums L) a c
    simp only
    rw [k2, Xab, Xab]
    exact .inr ⟨rfl, _, _, rfl⟩
 unfold Xo8 Xb8
 simp only [Yu9]
 cases hK : c.Key with
 | true =>
  rw [Bool.not_true, Xal, Xal, Xab]
  simp only
  rw [Xal]
  exact tail 2 i hi (by omega) (fun _ => rfl) _ none _ rfl rfl
 | false =>
  rw [Bool.not_false, Xap, Xap]
  rcases Xrl hb hl i hi with ⟨v, j, e1, e2, h1, h2, h3⟩ | ⟨e1, a, e2⟩
  ·
   rw [e1, Xab, e2, Xab, Xab]
   simp only
   rw [Xap, Xab]
   by_cases hv : (v : Int) > 2
   ·
    rw [Xbk hv]
    rw [Xal, Xa6 (b := (v : Int) == 1) (by rw [beq_eq_false_iff_ne]; omega), Xa6 (b := (v : Int) == 2) (by rw [beq_eq_false_iff_ne]; omega), Xab]
    simp only
    have hq : Xm7 ⟨(v : Int), 0, 0, 0, []⟩ = false := by
     unfold Xm7
     rw [if_neg (by simp only; omega), if_neg (by simp only; omega), if_neg (by simp only; omega)]
    rw [Xal, Xem _ (by simp), Xab, hq]
    exact .inr ⟨trivial, _, _, rfl⟩
   ·
    rw [Xas hv, Xal]
    exact tail v j h3 (by omega) (fun h => by rw [hK] at h; cases h) _ none _ rfl rfl
  ·
   rw [e1, Xab, e2, Xab, Xab]
   exact .inr ⟨rfl, _, _, rfl⟩
theorem Xqe (s : ByteArray) : (∃ L : List Int, s = strOfNums L ∧ Xek L ∧ L.length ≤ 400000 ∧ Xjr s = some true ∧ Xgw s = some true) ∨ (Xjr s = some false ∧ Xgw s = some false) := by
 have hf : Xh2 s = Xdb s := rfl
 unfold Xjr Xgw
 by_cases hs : s.size ≤ 400000
 ·
  rw [snA, syA, hf]
  unfold Xl0
  have hl := Yjv (fun x => x == 48 || x == 49) (Xbu s) (Xdb s) (by
   intro i hi
   rw [Xby] at hi
   unfold Xdb
   rw [syA, rqA, rqA, Yfa s i hi, wkA]
   generalize Xlf s i = x
   cases h1 : (x == 48) <;> cases h2 : (x == 49) <;> simp only [bne, h1, h2, sel, bnd, Bool.not_true, Bool.not_false, Bool.or_false, Bool.or_true, Bool.true_or] <;> rfl) (by
   rw [Xby]
   unfold Xdb
   rw [snA])
  rw [hl]
  by_cases hall : (Xbu s).all (fun x => x == 48 || x == 49) = true
  ·
   rw [if_pos hall]
   refine .inl ⟨Xbu s, (Xtr s).symm, fun x hx => ?_, by rw [Xby]; exact hs, rfl, rfl⟩
   have := List.all_eq_true.1 hall x hx
   simpa using this
  ·
   rw [if_neg hall]
   exact .inr ⟨rfl, rfl⟩
 ·
  rw [syA, snA]
  exact .inr ⟨rfl, rfl⟩
theorem Yn9 {L : List Int} (hb : Xek L) (hl : L.length ≤ 400000) (N : Nat) (hN : N ≤ 64) (c : Xfc) (hc : Xgf c = true) : ∀ n k : Nat, k + n = N → ∀ (i : Nat) (l : List Xao), i ≤ L.length → l.length = k → (∀ q ∈ l, q.Levels.length ≤ 64) → Ygm l c = true →
  (∃ (l' : List Xao) (j : Nat), loop (Xck (strOfNums L) (N : Int) c) ((i : Int), (k : Int), l) = some (.out ((j : Int), l')) ∧ loop (Xba (N : Int) c) ((k : Int), strOfNums L, (i : Int), false, l) = some (.out (strOfNums L, (j : Int), false, l')) ∧ l'.length = N ∧ (∀ q ∈ l', q.Levels.length ≤ 64) ∧ Ygm l' c = true) ∨
  (loop (Xck (strOfNums L) (N : Int) c) ((i : Int), (k : Int), l) = some (.ret ([], false)) ∧ loop (Xba (N : Int) c) ((k : Int), strOfNums L, (i : Int), false, l) = some (.ret ([], false)))
 | 0, k, hk, i, l, hi, hll, hq, hs => .inl ⟨l, i, Xce (by unfold Xck; simp only; rw [snA]), Xce (by unfold Xba; simp only; rw [snA]), by omega, hq, hs⟩
 | n + 1, k, hk, i, l, hi, hll, hq, hs => by
  have hm : maxLen = 9223372036854775807 := rfl
  rcases Ypm hb hl i hi c with ⟨q, j, e1, e2, h1, h2, h3, h4⟩ | ⟨e1, q, a, e2⟩
  ·
   have gI : Xba (N : Int) c ((k : Int), strOfNums L, (i : Int), false, l) = some (.go (((k + 1 : Nat) : Int), strOfNums L, (j : Int), false, l ++ [q])) := by
    unfold Xba
    simp only
    rw [syA, e2, Xab]
    simp only
    rw [Xay (by simp only [List.length_singleton]; omega), Xal, wkA]
    rfl
   have gS : Xck (strOfNums L) (N : Int) c ((i : Int), (k : Int), l) = some (.go ((j : Int), ((k + 1 : Nat) : Int), l ++ [q])) := by
    unfold Xck
    simp only
    rw [syA, e1, Xab]
    simp only
    rw [Bool.not_true, Xal, Xay (by simp only [List.length_singleton]; omega), wkA]
    rfl
   have hq' : ∀ x ∈ l ++ [q], x.Levels.length ≤ 64 := fun x hx => by
    rcases List.mem_append.1 hx with h | h
    ·
     exact hq x h
    ·
     rw [List.mem_singleton.1 h]; exact h1
   have hs' : Ygm (l ++ [q]) c = true := by
    unfold Ygm at hs ⊢
    rw [List.all_append, hs, Bool.true_and, List.all_cons, h3, hc, h4]; rfl
   rcases Yn9 hb hl N hN c hc n (k + 1) (by omega) j (l ++ [q]) h2 (by rw [List.length_append, hll]; rfl) hq' hs' with ⟨l', j', r1, r2, r3⟩ | ⟨r1, r2⟩
   ·
    exact .inl ⟨l', j', lgo gS r1, lgo gI r2, r3⟩
   ·
    exact .inr ⟨lgo gS r1, lgo gI r2⟩
  ·
   refine .inr ⟨Xce ?_, Xce ?_⟩
   ·
    unfold Xck
    simp only
    rw [syA, e1, Xab]
    rfl
   ·
    unfold Xba
    simp only
    rw [syA, e2, Xab]
    simp only
    rw [Xay (by simp only [List.length_singleton]; omega), Xap]
def Yx5 (n : Int) (c : Xfc) (l : List Xao) : Prop := Xgf c = true ∧ (1 ≤ n ∧ n ≤ 64) ∧ (l.length : Int) = n ∧ Ygm l c = true
theorem Xqt (s : ByteArray) (a n : Int) (c : Xfc) : ∃ (l : List Xao) (b : Bool), Xev s a n c = some (l, b) ∧ Xk1 s a n c = some (l, b) ∧ l.length ≤ 64 ∧ (∀ q ∈ l, q.Levels.length ≤ 64) ∧ (b = true → Yx5 n c l) := by
 have hm : maxLen = 9223372036854775807 := rfl
 have fin : ∀ {x y : Option (List Xao × Bool)}, x = some ([], false) → y = some ([], false) → ∃ (l : List Xao) (b : Bool), x = some (l, b) ∧ y = some (l, b) ∧ l.length ≤ 64 ∧ (∀ q ∈ l, q.Levels.length ≤ 64) ∧ (b = true → Yx5 n c l) := fun h1 h2 => ⟨[], false, h1, h2, by simp, fun q hq => by simp at hq, fun h => by cases h⟩
 unfold Xev Xk1 Xe4
 by_cases hn : 1 ≤ n ∧ n ≤ 64
 ·
  by_cases hc : Xgf c = true
  case neg =>
   have hc : Xgf c = false := by simpa using hc
   refine fin ?_ ?_
   ·
    rcases Xqe s with ⟨L, _, _, _, r1, _⟩ | ⟨r1, _⟩
    ·
     rw [r1, Xab, Xap, Xaj, Xab, Xab, Xab, Xaj, Xab, decide_eq_true hn, Xap, Xc8, Xab, hc, Xab]; rfl
    ·
     rw [r1, Xab, Xal, Xab, Xab, Xaj, Xab, decide_eq_true hn, Xap, Xc8, Xab, hc, Xab]; rfl
   ·
    rcases Xqe s with ⟨L, _, _, _, _, r1⟩ | ⟨_, r1⟩
    ·
     rw [r1, Xab, Xap, Xai, Xab, Xe5, Xab, hc, Xal]
     cases decide (0 ≤ a ∧ a ≤ (s.size : Int)) <;> rfl
    ·
     rw [r1, Xab, Xal, Xab, Xap]
  case pos =>
   rcases Xqe s with ⟨L, hL, hb, hl, r1, r2⟩ | ⟨r1, r2⟩
   ·
    rw [r1, r2, Xab, Xab, Xap, Xap, Xaj, Xab, Xai, Xab, Xab, Xab, Xaj, Xab, decide_eq_true hn, Xap, Xc8, Xab, hc, Xab, Xe5, Xab, hc, Xap, Xai, Xab, decide_eq_true hn]
    by_cases ha : 0 ≤ a ∧ a ≤ (s.size : Int)
    ·
     rw [decide_eq_true ha]
     simp only [Bool.not_true, Xal, Xap, Xab]
     subst hL
     rw [strOfNums_size] at ha ⊢
     obtain ⟨i, rfl⟩ : ∃ i : Nat, a = i := ⟨a.toNat, by omega⟩
     obtain ⟨N, rfl⟩ : ∃ N : Nat, n = N := ⟨n.toNat, by omega⟩
     rcases Yn9 hb hl N (by omega) c hc N 0 (by omega) i [] (by omega) rfl (fun q hq => by simp at hq) rfl with ⟨l', j, k1, k2, k3, k4, k5⟩ | ⟨k1, k2⟩
     ·
      have k1' : loop (Xck (strOfNums L) (N : Int) c) ((i : Int), 0, []) = some (.out ((j : Int), l')) := k1
      have k2' : loop (Xba (N : Int) c) (0, strOfNums L, (i : Int), false, []) = some (.out (strOfNums L, (j : Int), false, l')) := k2
      rw [k1', k2', Xab, Xab]
      simp only
      by_cases hj : (j : Int) = (L.length : Int)
      ·
       rw [Xa6 (by rw [bne_eq_false_iff_eq]; exact hj)]
       exact ⟨l', true, rfl, rfl, by omega, k4, fun _ => ⟨hc, hn, by omega, k5⟩⟩
      ·
       rw [Xbg (by rw [bne_iff_ne]; exact hj)]
       exact fin rfl rfl
     ·
      have k1' : loop (Xck (strOfNums L) (N : Int) c) ((i : Int), 0, []) = some (.ret ([], false)) := k1
      have k2' : loop (Xba (N : Int) c) (0, strOfNums L, (i : Int), false, []) = some (.ret ([], false)) := k2
      rw [k1', k2', Xab, Xab]
      exact fin rfl rfl
    ·
     rw [decide_eq_false ha]
     simp only [Bool.not_true, Bool.not_false, Xal, Xap, Xab]
     obtain ⟨q, a', eq⟩ := Yje s a c
     have hd : Xba n c (0, s, a, true, []) = some (.done (.ret ([], false))) := by
      unfold Xba
      simp only
      rw [syA, eq, Xab]
      simp only
      rw [Xay (by simp only [List.length_singleton, List.length_nil]; omega), Xap]
     rw [Xcf hd, Xab]
     exact fin rfl rfl
   ·
    refine fin ?_ ?_
    ·
     rw [r1, Xab, Xal, Xab, Xab, Xaj, Xab, decide_eq_true hn, Xap, Xc8, Xab, hc, Xab, Bool.not_true, Xal]
     simp only
     obtain ⟨q, a', eq⟩ := Yje s a c
     have hd : Xba n c (0, s, a, true, []) = some (.done (.ret ([], false))) := by
      unfold Xba
      simp only
      rw [syA, eq, Xab]
      simp only
      rw [Xay (by simp only [List.length_singleton, List.length_nil]; omega), Xap]
     rw [Xcf hd, Xab]
    ·
     rw [r2, Xab, Xal, Xab, Xap]
 ·
  refine fin ?_ ?_
  ·
   rcases Xqe s with ⟨L, _, _, _, r1, _⟩ | ⟨r1, _⟩
   ·
    rw [r1, Xab, Xap, Xaj, Xab, Xab, Xab, Xaj, Xab, decide_eq_false hn, Xal, Xab, Xap]
   ·
    rw [r1, Xab, Xal, Xab, Xab, Xaj, Xab, decide_eq_false hn, Xal, Xab, Xap]
  ·
   rcases Xqe s with ⟨L, _, _, _, _, r1⟩ | ⟨_, r1⟩
   ·
    rw [r1, Xab, Xap, Xai, Xab, Xe5, Xab, Xai, Xab, decide_eq_false hn]
    cases decide (0 ≤ a ∧ a ≤ (s.size : Int)) <;> cases Xgf c <;> rfl
   ·
    rw [r1, Xab, Xal, Xab, Xap]
def Yu6 (w h : Int) : Pic := ⟨w, h, strOfNums (List.replicate (w * h).toNat 128)⟩
def Xyi (s : ByteArray) (i : Nat) : Int := 48 + (Xlf s ((i / 8 : Nat) : Int) / 2 ^ (7 - i % 8)) % 2
end Go.Proofs.YtnhflbeahbcklaaGreat.A.Pure
