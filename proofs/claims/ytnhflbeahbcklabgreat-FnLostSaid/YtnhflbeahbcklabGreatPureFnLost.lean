/- The pure statement of the law FnLost, part 2: over numbers, texts and lists alone, what the law computes is true. Conditions: the sizes of what a machine holds. -/
import Derived.Test.YtnhflbeahbcklabGreatPureFnLostx0
namespace Go.Proofs.YtnhflbeahbcklabGreat.A.Pure
open Go Go.Proofs Go.Proofs.YtnhflbeahbcklabGreatAL Go.RowKit
set_option linter.unusedVariables false
set_option linter.unusedSimpArgs false
set_option maxHeartbeats 1000000
theorem Yv9 : ∀ c r b : Int, (c = 1 ∨ c = 2) → (r = 1 ∨ r = 2) → (b = 3 ∨ b = 4 ∨ b = 5) → Xb5 ⟨Xvc [c] [r], b, [c], [r]⟩ = 1 ∧ Xjz ⟨Xvc [c] [r], b, [c], [r]⟩ = (8 * c, 8 * r) := by
 intro c r b hc hr hb
 rcases hc with rfl | rfl <;> rcases hr with rfl | rfl <;> rcases hb with rfl | rfl | rfl <;> decide +kernel
theorem Xz2 (c r b : Int) (p : Par) (t : Rate) (e n : Int) (hc : c = 1 ∨ c = 2) (hr : r = 1 ∨ r = 2) (hb : b = 3 ∨ b = 4 ∨ b = 5) (hp : Xkq p = true) (ht : Xkj t = true) (he : 1 ≤ e ∧ e ≤ 5) (hn : 0 ≤ n ∧ n ≤ 2) : Xba (Xox c r b p t e n) = true := by
 have hm := (Yv9 c r b hc hr hb).1
 have hpow : (0 : Int) < 2 ^ b.toNat := by rcases hb with rfl | rfl | rfl <;> decide
 unfold Xba Xox
 simp only
 rw [decide_eq_true hm, hp, ht, decide_eq_true ⟨by omega, hpow⟩, decide_eq_true (by omega)]
 rfl
theorem Yb9 (c r b : Int) (p : Par) (t : Rate) (e n : Int) (hc : c = 1 ∨ c = 2) (hr : r = 1 ∨ r = 2) (hb : b = 3 ∨ b = 4 ∨ b = 5) (hp : Xkq p = true) (ht : Xkj t = true) (he : 1 ≤ e ∧ e ≤ 5) (hn : 0 ≤ n ∧ n ≤ 2) : Xje c r b p t e n = some (Xox c r b p t e n, true) := by
 have hs := Xz2 c r b p t e n hc hr hb hp ht he hn
 have hw : (Lit.int .i64 b).wf = true := by rcases hb with rfl | rfl | rfl <;> decide
 unfold Xje
 rw [Ye3, Xab]
 have := Ye5 (Xox c r b p t e n) hw
 unfold Xox at this hs ⊢
 rw [this, hs, Xab]
 rfl
theorem Ynf {V O : Type} {f g : V → Option (Lp V O)} (I : V → Prop) (h : ∀ v, I v → f v = g v) (hI : ∀ v v', I v → g v = some (.go v') → I v') : ∀ (k : Nat) (v : V), I v → it f k v = it g k v
 | 0, _, _ => rfl
 | k + 1, v, hv => by
  rw [it, it, h v hv]
  cases e : g v with
  | none => rfl
  | some s =>
   cases s with
   | go y => exact Ynf I h hI k y (hI v y hv e)
   | done o => rfl
theorem Xml {V O : Type} {f g : V → Option (Lp V O)} (I : V → Prop) (h : ∀ v, I v → f v = g v) (hI : ∀ v v', I v → g v = some (.go v') → I v') {v : V} (hv : I v) : loop f v = loop g v := by
 apply Option.ext
 intro o
 rw [Xiu, Xiu]
 exact ⟨fun ⟨k, hk⟩ => ⟨k, by rw [← Ynf I h hI k v hv]; exact hk⟩, fun ⟨k, hk⟩ => ⟨k, by rw [Ynf I h hI k v hv]; exact hk⟩⟩
theorem Yrp {V O : Type} {f : V → Option (Lp V O)} {v : V} {o : O} (k : Nat) (h : it f k v = some o) : loop f v = some o := Xiu.2 ⟨k, h⟩
theorem Yb0 {a b : List Int} {n : Nat} (ha : a.length = n) (hb : b.length = n) (h : ∀ i : Nat, i < n → a.getD i 0 = b.getD i 0) : a = b := by
 apply List.ext_getElem (by omega)
 intro i h1 h2
 have := h i (by omega)
 rwa [Xcd a i h1, Xcd b i h2] at this
theorem Xha {n : Nat} (g : Nat → Int) {i : Nat} (h : i < n) : ((List.range n).map g).getD i 0 = g i := by
 rw [Xcd _ i (by simpa using h)]; simp
theorem Ysb {α : Type} {f : Int × List α → Option (Lp (Int × List α) (List α))} (n : Nat) (g : Nat → α) (a : List α) (hs : ∀ i : Nat, i < n → f ((i : Int), a ++ (List.range i).map g) = some (.go (((i + 1 : Nat) : Int), a ++ (List.range i).map g ++ [g i]))) (he : f ((n : Int), a ++ (List.range n).map g) = some (.done (a ++ (List.range n).map g))) : loop f (0, a) = some (a ++ (List.range n).map g) := by
 have key : ∀ i : Nat, i ≤ n → loop f ((i : Int), a ++ (List.range i).map g) = some (a ++ (List.range n).map g) := by
  refine Xhg _ (Xg8 he) ?_
  intro i hi ih
  refine lgo (hs i hi) ?_
  rw [List.append_assoc, show (List.range i).map g ++ [g i] = (List.range (i + 1)).map g by simp [List.range_succ]]
  exact ih
 have := key 0 (by omega)
 simpa using this
theorem Xne {S : Type} {f : Int × S → Option (Lp (Int × S) S)} (n : Nat) (I : Nat → S → Prop) (hs : ∀ (i : Nat) (l : S), i < n → I i l → ∃ l', f ((i : Int), l) = some (.go (((i + 1 : Nat) : Int), l')) ∧ I (i + 1) l') (he : ∀ l, I n l → f ((n : Int), l) = some (.done l)) (l0 : S) (h0 : I 0 l0) : ∃ o, loop f (0, l0) = some o ∧ I n o := by
 have key : ∀ i : Nat, i ≤ n → ∀ l, I i l → ∃ o, loop f ((i : Int), l) = some o ∧ I n o := by
  refine Xhg _ ?_ ?_
  ·
   intro l h; exact ⟨l, Xg8 (he l h), h⟩
  ·
   intro i hi ih l h
   obtain ⟨l', e, h'⟩ := hs i l hi h
   obtain ⟨o, e2, h2⟩ := ih l' h'
   exact ⟨o, lgo e e2, h2⟩
 exact key 0 (by omega) l0 h0
theorem Yuh {f : Int × List Int → Option (Lp (Int × List Int) (List Int))} (n : Nat) (g : Nat → Int) (l : List Int) (hl : l.length = n) (hs : ∀ (i : Nat) (s : List Int), i < n → s.length = n → s.getD i 0 = l.getD i 0 → f ((i : Int), s) = some (.go (((i + 1 : Nat) : Int), s.set i (g i)))) (he : ∀ s : List Int, s.length = n → f ((n : Int), s) = some (.done s)) : loop f (0, l) = some ((List.range n).map g) := by
 obtain ⟨o, e, h1, h2, _⟩ := Xne (f := f) n (fun i s => s.length = n ∧ (∀ j, j < i → s.getD j 0 = g j) ∧ ∀ j, i ≤ j → s.getD j 0 = l.getD j 0) (by
  intro i s hi ⟨g1, g2, g3⟩
  refine ⟨_, hs i s hi g1 (g3 i (Nat.le_refl _)), by rw [List.length_set]; exact g1, fun j hj => ?_, fun j hj => ?_⟩
  ·
   rw [Xex s i j _ (by omega)]
   by_cases h : i = j
   ·
    rw [if_pos h, h]
   ·
    rw [if_neg h]; exact g2 j (by omega)
  ·
   rw [Xex s i j _ (by omega), if_neg (by omega)]; exact g3 j (by omega)) (fun s hs => he s hs.1) l ⟨hl, fun j hj => by omega, fun _ _ => rfl⟩
 rw [e]
 congr 1
 exact Yb0 h1 (by simp) fun i hi => by rw [h2 i hi, Xha g hi]
theorem Yrd : Xou = Xdx := rfl
theorem Yk9 (qp : Int) (h0 : 0 ≤ qp ∧ qp ≤ 40) : Xj0 qp = some (Xpr qp) := by
 have h := Yw3 ⟨qp.toNat, by omega⟩
 simp only at h
 rw [show ((qp.toNat : Nat) : Int) = qp by omega] at h
 unfold Xj0
 rw [Xal, Xab, decide_eq_true (by omega), Bool.not_true, Xap, rqA]
 have hb : (sel ((qp.tmod 6) == 0) (some (10 : Int)) (sel ((qp.tmod 6) == 1) (some 11) (sel ((qp.tmod 6) == 2) (some 13) (sel ((qp.tmod 6) == 3) (some 14) (sel ((qp.tmod 6) == 4) (some 16) (some 18)))))) = some (Xs0 qp) := by
  unfold Xs0
  simp only [Yis, beq_iff_eq]
  repeat' split
  all_goals rfl
 rw [hb, Xab]
 unfold Xpr at h ⊢
 cases e : it (Xm9 qp) 10 (Xs0 qp, 0) with
 | none => rw [e] at h; simp only at h; omega
 | some q => rw [Xiu.2 ⟨10, e⟩, Xab]
theorem Ynb : ∀ q : Fin 41, Xjw (q.val : Int) = some (Xpr (q.val : Int)) := by decide +kernel
theorem Ykf (qp : Int) (h0 : 0 ≤ qp ∧ qp ≤ 40) : Xjw qp = some (Xpr qp) := by
 have := Ynb ⟨qp.toNat, by omega⟩
 simp only at this
 rwa [show ((qp.toNat : Nat) : Int) = qp by omega] at this
theorem Ycs (qp : Int) (h0 : 0 ≤ qp ∧ qp ≤ 40) : Xjw qp = Xj0 qp := by rw [Ykf qp h0, Yk9 qp h0]
theorem Xws (u v : Nat) (hu : u < 8) (hv : v < 8) : Xmu u v = some (Xi8 u v) := by
 have h := Ywv ⟨u, hu⟩ ⟨v, hv⟩
 simp only at h
 unfold Xmu
 rw [Xal, Xab, decide_eq_true (by omega), Xaw, Xal, Xab, decide_eq_true (by omega), Bool.not_true, Xab, Xap]
 unfold Xi8 at h ⊢
 cases e : it Xm7 10 (1, (IntKind.wrap .i64 (BitVec.ofInt (IntKind.bits .i64) (u : Int) &&& BitVec.ofInt (IntKind.bits .i64) (v : Int)).toNat)) with
 | none => rw [e] at h; simp only at h; omega
 | some q => rw [Xiu.2 ⟨10, e⟩, Xab]
theorem Ym6 : ∀ u v : Fin 8, Xl9 (u.val : Int) (v.val : Int) = some (Xi8 (u.val : Int) (v.val : Int)) := by decide +kernel
theorem Ycr (u v : Nat) (hu : u < 8) (hv : v < 8) : Xl9 u v = some (Xi8 u v) := Ym6 ⟨u, hu⟩ ⟨v, hv⟩
def Yn0 (qp p : Int) : Option Int :=
 bnd (Xpi p) fun q1 => bnd (Xbc q1 10 16 13) fun a1 => bnd (Xbc q1 11 18 14) fun a2 => bnd (Xbc q1 13 20 16) fun a3 => bnd (Xbc q1 14 23 18) fun a4 => bnd (Xbc q1 16 25 20) fun a5 => bnd (Xbc q1 18 29 23) fun a6 =>
 it (Xfv qp) 10 ((sel (qp.tmod 6 == 0) a1 (sel (qp.tmod 6 == 1) a2 (sel (qp.tmod 6 == 2) a3 (sel (qp.tmod 6 == 3) a4 (sel (qp.tmod 6 == 4) a5 (sel (qp.tmod 6 == 5) a6 0)))))), 0)
theorem Ywr : ∀ q : Fin 41, ∀ p : Fin 16, (Yn0 (q.val : Int) (p.val : Int)).isSome = true ∧ Xnk (q.val : Int) (p.val : Int) = Yn0 (q.val : Int) (p.val : Int) := by decide +kernel
theorem Ymc (qp p : Int) (h0 : 0 ≤ qp ∧ qp ≤ 40) (hp : 0 ≤ p ∧ p ≤ 15) : Xnk qp p = Xnt qp p := by
 have := Ywr ⟨qp.toNat, by omega⟩ ⟨p.toNat, by omega⟩
 simp only at this
 rw [show ((qp.toNat : Nat) : Int) = qp by omega, show ((p.toNat : Nat) : Int) = p by omega] at this
 obtain ⟨h1, h2⟩ := this
 rw [h2]
 cases e : Yn0 qp p with
 | none => rw [e] at h1; cases h1
 | some o =>
  unfold Yn0 at e
  unfold Xnt
  obtain ⟨k, ek, k0, k1⟩ := Xqs p hp
  rw [ek, Xab] at e ⊢
  rw [Xal, Xab, decide_eq_true h0, Xaw, decide_eq_false (by omega), Xab, Xap, rqA]
  obtain ⟨a1, e1, b1⟩ := Xa4 k 10 16 13
  obtain ⟨a2, e2, b2⟩ := Xa4 k 11 18 14
  obtain ⟨a3, e3, b3⟩ := Xa4 k 13 20 16
  obtain ⟨a4, e4, b4⟩ := Xa4 k 14 23 18
  obtain ⟨a5, e5, b5⟩ := Xa4 k 16 25 20
  obtain ⟨a6, e6, b6⟩ := Xa4 k 18 29 23
  rw [e1, e2, e3, e4, e5, e6] at e ⊢
  simp only [Xab, Yte] at e ⊢
  rw [Yrp 10 e, Xab]
def Xrq (n : Int) (v16 : Int × List Int) : Option (Lp (Int × List Int) (List Int)) :=
 sel (decide (v16.1 ≤ (Xaa .i64 ((Xaa .i64 (2 * n)) - 2)))) (
 bnd (it (Xk8 n v16) 20 (0, v16.2)) fun v42 =>
 some (.go (Xaa .i64 (v16.1 + 1), v42))) (
 some (.done v16.2))
theorem Yqq {n : Int} {v : Int × List Int} {x : Lp (Int × List Int) (List Int)} (h : Xrq n v = some x) : Xhb n v = some x := by
 unfold Xrq at h
 unfold Xhb
 rcases Xjn h with ⟨hb, h⟩ | ⟨hb, h⟩
 ·
  rw [hb, Xaw]
  obtain ⟨a, h1, h2⟩ := Xa8 h
  rw [Xiu.2 ⟨20, h1⟩, Xab]
  exact h2
 ·
  rw [hb, Xap]; exact h
def Yir (n : Int) : List Int := (it (Xrq n) 20 (0, [])).getD []
theorem Zaq : (it (Xrq 4) 20 (0, [])).isSome = true ∧ (Yir 4).length = 16 := by decide +kernel
theorem Zar : (it (Xrq 8) 20 (0, [])).isSome = true ∧ (Yir 8).length = 64 := by decide +kernel
theorem Yws : ∀ i : Fin 16, (Yir 4).getD i.val 0 = Xgq 4 (i.val : Int) := by decide +kernel
theorem Ywt : ∀ i : Fin 64, (Yir 8).getD i.val 0 = Xgq 8 (i.val : Int) := by decide +kernel
theorem Xrg (n : Int) (hn : n = 4 ∨ n = 8) : Xg0 n = some (Yir n) ∧ ((Yir n).length : Int) = n * n ∧ ∀ i : Nat, (i : Int) < n * n → (Yir n).getD i 0 = Xgq n i := by
 have h : (it (Xrq n) 20 (0, [])).isSome = true ∧ ((Yir n).length : Int) = n * n := by
  rcases hn with rfl | rfl
  ·
   have := Zaq; exact ⟨this.1, by omega⟩
  ·
   have := Zar; exact ⟨this.1, by omega⟩
 refine ⟨?_, h.2, fun i hi => ?_⟩
 ·
  obtain ⟨o, ho⟩ := Option.isSome_iff_exists.1 h.1
  have hl := Yrp 20 (Yx7 (fun v y => Yqq (n := n)) 20 _ ho)
  unfold Xg0
  rw [hl, Xab]
  unfold Yir; rw [ho]; rfl
 ·
  rcases hn with rfl | rfl
  ·
   exact Yws ⟨i, by omega⟩
  ·
   exact Ywt ⟨i, by omega⟩
theorem Xtq (n : Int) (hn : n = 4 ∨ n = 8) (l : List Int) (hl : (l.length : Int) = n * n) : Xe1 n l = Xe3 n l := by
 obtain ⟨e, h1, h2⟩ := Xrg n hn
 have hw : Xaa .i64 (n * n) = n * n := by rcases hn with rfl | rfl <;> exact wkA
 have hn2 : n * n ≤ 64 := by rcases hn with rfl | rfl <;> omega
 unfold Xe1 Xe3
 rw [e]
 have : loop (Xie l (Yir n)) (0, List.replicate (l.length : Int).toNat 0) = loop (Xc2 n l) (0, List.replicate (l.length : Int).toNat 0) := by
  refine Xml (fun v => (∃ i : Nat, v.1 = (i : Int) ∧ i ≤ l.length) ∧ v.2.length = l.length) ?_ ?_ ⟨⟨0, rfl, by omega⟩, by simp⟩
  ·
   intro ⟨i, s⟩ ⟨⟨k, ek, hk⟩, hs⟩
   simp only at hs ek
   subst ek
   unfold Xie Xc2
   simp only [Int.toNat_natCast]
   rw [hw]
   by_cases hi : (k : Int) < n * n
   ·
    have hp := Xhy n hn k hi
    have h3 := h2 k hi
    simp only [h3]
    rw [syA, Xbk hi, Xg6 n hn k hi, Xab, rqA, rqA]
   ·
    rw [snA, Xar hi]
  ·
   intro ⟨i, s⟩ v' ⟨⟨k, ek, hk⟩, hs⟩ he
   simp only at hs ek
   subst ek
   unfold Xc2 at he
   simp only [Int.toNat_natCast] at he
   rw [hw] at he
   by_cases hi : (k : Int) < n * n
   ·
    have hp := Xhy n hn k hi
    rw [Xbk hi, Xg6 n hn k hi, Xab, rqA, rqA, rqA, wkA] at he
    cases he
    exact ⟨⟨k + 1, rfl, by omega⟩, by rw [List.length_set]; exact hs⟩
   ·
    rw [Xar hi] at he; cases he
 simp only [Xab, this]
theorem Xr1 (n : Int) (hn : n = 4 ∨ n = 8) (l : List Int) (hl : (l.length : Int) = n * n) : Xhl n l = Xh2 n l := by
 have hm : maxLen = 9223372036854775807 := rfl
 obtain ⟨e, h1, h2⟩ := Xrg n hn
 have hw : Xaa .i64 (n * n) = n * n := by rcases hn with rfl | rfl <;> exact wkA
 have hn2 : n * n ≤ 64 := by rcases hn with rfl | rfl <;> omega
 unfold Xhl Xh2
 rw [e]
 have : loop (Xk1 l (Yir n)) (0, ([] : List Int)) = loop (Xeb n l) (0, ([] : List Int)) := by
  refine Xml (fun v => ∃ i : Nat, v.1 = (i : Int) ∧ i ≤ l.length) ?_ ?_ ⟨0, rfl, by omega⟩
  ·
   intro ⟨i, s⟩ ⟨k, ek, hk⟩
   simp only at ek
   subst ek
   unfold Xk1 Xeb
   simp only [Int.toNat_natCast]
   rw [hw]
   by_cases hi : (k : Int) < n * n
   ·
    have hp := Xhy n hn k hi
    have h3 := h2 k hi
    simp only [h3]
    rw [syA, Xbk hi, Xg6 n hn k hi, Xab, rqA, rqA]
   ·
    rw [snA, Xar hi]
  ·
   intro ⟨i, s⟩ v' ⟨k, ek, hk⟩ he
   simp only at ek
   subst ek
   unfold Xeb at he
   simp only [Int.toNat_natCast] at he
   rw [hw] at he
   by_cases hi : (k : Int) < n * n
   ·
    have hp := Xhy n hn k hi
    rw [Xbk hi, Xg6 n hn k hi, Xab, rqA] at he
    obtain ⟨_, he⟩ := Xau he
    rw [wkA] at he
    cases he
    exact ⟨k + 1, rfl, by omega⟩
   ·
    rw [Xar hi] at he; cases he
 simp only [Xab, this]
def Yol (t : Nat → Int) : Nat → Int
 | 0 => 0
 | k + 1 => Xaa .i64 (Yol t k + t k)
def Zan (p : List Int) (i v k : Nat) : Int := Xaa .i64 (Xi8 v k * p.getD (8 * i + k) 0)
def Yz6 (p : List Int) (u v k : Nat) : Int := Xaa .i64 (Xi8 u k * p.getD (8 * k + v) 0)
def Xtw (p : List Int) : List Int := (List.range 64).map fun j => Yol (Zan p (j / 8) (j % 8)) 8
def Yuw (p : List Int) : List Int := (List.range 64).map fun j => Yol (Yz6 (Xtw p) (j / 8) (j % 8)) 8
theorem Ypi (p : List Int) : (Xtw p).length = 64 := by simp [Xtw]
theorem Yw5 (p : List Int) : (Yuw p).length = 64 := by simp [Yuw]
theorem Yqx {f1 : Int × List Int → Option (Lp (Int × List Int) (List Int))} {f2 : Int × List Int → Int × List Int → Option (Lp (Int × List Int) (List Int))} {f3 : Int × List Int → Int × List Int → Int × List Int → Option (Lp (Int × List Int) (List Int))} (t : Nat → Nat → Nat → Int)
  (h1 : ∀ v, f1 v = sel (decide (v.1 < 8)) (bnd (loop (f2 v) (0, v.2)) fun w => some (.go (Xaa .i64 (v.1 + 1), w))) (some (.done v.2)))
  (h2 : ∀ v w, f2 v w = sel (decide (w.1 < 8)) (bnd (loop (f3 v w) (0, w.2)) fun x => some (.go (Xaa .i64 (w.1 + 1), x))) (some (.done w.2)))
  (h3 : ∀ (i v k : Nat) (a b s : List Int), i < 8 → v < 8 → k < 8 → s.length = 64 → f3 ((i : Int), a) ((v : Int), b) ((k : Int), s) = some (.go (((k + 1 : Nat) : Int), s.set (8 * i + v) (Xaa .i64 (s.getD (8 * i + v) 0 + t i v k)))))
  (h4 : ∀ (i v : Nat) (a b s : List Int), f3 ((i : Int), a) ((v : Int), b) (8, s) = some (.done s)) : loop f1 (0, List.replicate 64 0) = some ((List.range 64).map fun j => Yol (t (j / 8) (j % 8)) 8) := by
 obtain ⟨o, e, o1, o2, _⟩ := Xne (f := f1) 8 (fun i s => s.length = 64 ∧ (∀ j, j < 8 * i → s.getD j 0 = Yol (t (j / 8) (j % 8)) 8) ∧ ∀ j, 8 * i ≤ j → s.getD j 0 = 0) (by
  intro i s hi ⟨g1, g2, g3⟩
  obtain ⟨r, er, r1, r2, r3⟩ := Xne (f := f2 ((i : Int), s)) 8 (fun v s => s.length = 64 ∧ (∀ j, j < 8 * i + v → s.getD j 0 = Yol (t (j / 8) (j % 8)) 8) ∧ ∀ j, 8 * i + v ≤ j → s.getD j 0 = 0) (by
   intro v s' hv ⟨k1, k2, k3⟩
   obtain ⟨q, eq, q1, q2, q3⟩ := Xne (f := f3 ((i : Int), s) ((v : Int), s')) 8 (fun k s => s.length = 64 ∧ (∀ j, j ≠ 8 * i + v → s.getD j 0 = s'.getD j 0) ∧ s.getD (8 * i + v) 0 = Yol (t i v) k) (by
    intro k s'' hk ⟨m1, m2, m3⟩
    refine ⟨_, h3 i v k s s' s'' hi hv hk m1, by rw [List.length_set]; exact m1, fun j hj => ?_, ?_⟩
    ·
     rw [Xex _ _ _ _ (by omega), if_neg (fun h => hj h.symm)]; exact m2 j hj
    ·
     rw [Xex _ _ _ _ (by omega), if_pos rfl, m3]; rfl) (fun z _ => h4 i v s s' z) s' ⟨k1, fun _ _ => rfl, by rw [k3 _ (Nat.le_refl _)]; rfl⟩
   refine ⟨q, by rw [h2, Xbk (by simp only; omega), eq, Xab, wk (by simp only; omega) (by simp only; omega)]; rfl, q1, fun j hj => ?_, fun j hj => ?_⟩
   ·
    by_cases h : j = 8 * i + v
    ·
     rw [h, q3, show (8 * i + v) / 8 = i by omega, show (8 * i + v) % 8 = v by omega]
    ·
     rw [q2 j h]; exact k2 j (by omega)
   ·
    rw [q2 j (by omega)]; exact k3 j (by omega)) (fun z _ => by rw [h2, Xar (by simp)]) s ⟨g1, g2, g3⟩
  refine ⟨r, by rw [h1, Xbk (by simp only; omega), er, Xab, wk (by simp only; omega) (by simp only; omega)]; rfl, r1, fun j hj => r2 j (by omega), fun j hj => r3 j (by omega)⟩) (fun z _ => by rw [h1, Xar (by simp)]) (List.replicate 64 0) ⟨by simp, fun j hj => by omega, fun j _ => by
   by_cases h : j < 64
   ·
    rw [Xcd _ _ (by rw [List.length_replicate]; exact h)]; exact List.getElem_replicate ..
   ·
    rw [List.getD_eq_getElem?_getD, List.getElem?_eq_none (by rw [List.length_replicate]; omega)]; rfl⟩
 rw [e]
 congr 1
 exact Yb0 o1 (by simp) fun j hj => by rw [o2 j (by omega), Xha (fun j => Yol (t (j / 8) (j % 8)) 8) hj]
theorem Yc1 (p : List Int) (hp : p.length = 64) : Xrk p = some (Yuw p) := by
 unfold Xrk
 rw [rqA]
 have e1 : loop (Xse p) (0, List.replicate (64 : Int).toNat 0) = some (Xtw p) :=
  Yqx (f2 := Xsf p) (f3 := Xlb p) (fun i v k => Zan p i v k) (fun _ => rfl) (fun _ _ => rfl) (fun i v k a b s hi hv hk hs => by
   unfold Xlb
   simp only
   rw [syA, wkA (e := 8 * (i : Int)), wkA (e := 8 * (i : Int) + (v : Int)), wkA (e := 8 * (i : Int) + (k : Int)), rqA, rqA, Ycr v k hv hk, Xab, rqA, rqA, rqA, wkA (e := (k : Int) + 1), show (8 * (i : Int) + (v : Int)).toNat = 8 * i + v by omega, show (8 * (i : Int) + (k : Int)).toNat = 8 * i + k by omega]
   rfl) (fun i v a b s => by unfold Xlb; rw [Xar (by simp)])
 have e2 : loop (Xqm (Xtw p)) (0, List.replicate (64 : Int).toNat 0) = some (Yuw p) :=
  Yqx (f2 := Xqn (Xtw p)) (f3 := Xi7 (Xtw p)) (fun i v k => Yz6 (Xtw p) i v k) (fun _ => rfl) (fun _ _ => rfl) (fun i v k a b s hi hv hk hs => by
   have hl := Ypi p
   unfold Xi7
   simp only
   rw [syA, wkA (e := 8 * (i : Int)), wkA (e := 8 * (i : Int) + (v : Int)), wkA (e := 8 * (k : Int)), wkA (e := 8 * (k : Int) + (v : Int)), rqA, rqA, Ycr i k hi hk, Xab, rqA, rqA, rqA, rqA, wkA (e := (k : Int) + 1), show (8 * (i : Int) + (v : Int)).toNat = 8 * i + v by omega, show (8 * (k : Int) + (v : Int)).toNat = 8 * k + v by omega]
   rfl) (fun i v a b s => by unfold Xi7; rw [Xar (by simp)])
 rw [e1, Xab, rqA, e2, Xab]
theorem Ylg (p : List Int) (hp : p.length = 64) (i v : Nat) (hi : i < 8) (hv : v < 8) : Xpn p i v = some (Yol (Zan p i v) 8) := by
 obtain ⟨o, e, h⟩ := Xpx (f := Xe5 p i v) 8 (fun k s => s = Yol (Zan p i v) k) (by
  intro k s hk g
  subst g
  unfold Xe5
  simp only
  rw [syA, wkA (e := 8 * (i : Int)), wkA (e := 8 * (i : Int) + (k : Int)), rqA, Xws v k hv hk, Xab, wkA (e := (k : Int) + 1), show (8 * (i : Int) + (k : Int)).toNat = 8 * i + k by omega, Int.mul_comm (p.getD _ _)]
  exact ⟨_, rfl, rfl⟩) (by intro s; unfold Xe5; rw [Xar (by simp)]) 0 rfl
 unfold Xpn
 rw [e, Xab, h]
theorem Xuw (p : List Int) (hp : p.length = 64) : Xkn p = some (Yuw p) := by
 have hm : maxLen = 9223372036854775807 := rfl
 unfold Xkn
 obtain ⟨o, e, ho⟩ := Xdt (f := Xdj p) 8 (fun i s => s = (List.range (8 * i)).map fun j => Yol (Zan p (j / 8) (j % 8)) 8) (by
  intro i s hi g
  subst g
  obtain ⟨r, er, hr⟩ := Xdt (f := Xdk p ((i : Int), (List.range (8 * i)).map fun j => Yol (Zan p (j / 8) (j % 8)) 8)) 8 (fun v s => s = (List.range (8 * i + v)).map fun j => Yol (Zan p (j / 8) (j % 8)) 8) (by
   intro v s hv g
   subst g
   unfold Xdk
   simp only
   rw [syA, Ylg p hp i v hi hv, Xab, Xa0 (by simp only [List.length_singleton, List.length_map, List.length_range]; omega), wkA (e := (v : Int) + 1)]
   refine ⟨_, rfl, ?_⟩
   rw [show 8 * i + (v + 1) = (8 * i + v) + 1 by omega, List.range_succ, List.map_append, List.map_singleton, show (8 * i + v) / 8 = i by omega, show (8 * i + v) % 8 = v by omega]) (by intro s; unfold Xdk; rw [Xar (by simp)]) _ rfl
  rw [Nat.add_zero] at er
  unfold Xdj
  simp only
  rw [syA, er, Xab, wkA (e := (i : Int) + 1)]
  exact ⟨_, rfl, by rw [hr, show 8 * (i + 1) = 8 * i + 8 by omega]⟩) (by intro s; unfold Xdj; rw [Xar (by simp)]) [] rfl
 have ho' : o = Xtw p := by rw [ho]; rfl
 rw [e, Xab, ho']
 obtain ⟨o2, e2, ho2⟩ := Xdt (f := Xc3 (Xtw p)) 8 (fun i s => s = (List.range (8 * i)).map fun j => Yol (Yz6 (Xtw p) (j / 8) (j % 8)) 8) (by
  intro i s hi g
  subst g
  obtain ⟨r, er, hr⟩ := Xdt (f := Xc4 (Xtw p) ((i : Int), (List.range (8 * i)).map fun j => Yol (Yz6 (Xtw p) (j / 8) (j % 8)) 8)) 8 (fun v s => s = (List.range (8 * i + v)).map fun j => Yol (Yz6 (Xtw p) (j / 8) (j % 8)) 8) (by
   intro v s hv g
   obtain ⟨c, ec, hc⟩ := Xpx (f := Xc5 (Xtw p) ((i : Int), (List.range (8 * i)).map fun j => Yol (Yz6 (Xtw p) (j / 8) (j % 8)) 8) ((v : Int), s)) 8 (fun k x => x = Yol (Yz6 (Xtw p) i v) k) (by
    intro k x hk g
    subst g
    have hl := Ypi p
    unfold Xc5
    simp only
    rw [syA, Xws i k hi hk, Xab, wkA (e := 8 * (k : Int)), wkA (e := 8 * (k : Int) + (v : Int)), rqA, rqA, wkA (e := (k : Int) + 1), show (8 * (k : Int) + (v : Int)).toNat = 8 * k + v by omega]
    exact ⟨_, rfl, rfl⟩) (by intro s; unfold Xc5; rw [Xar (by simp)]) 0 rfl
   subst g
   unfold Xc4
   simp only
   rw [syA, ec, Xab, Xa0 (by simp only [List.length_singleton, List.length_map, List.length_range]; omega), wkA (e := (v : Int) + 1)]
   refine ⟨_, rfl, ?_⟩
   rw [hc, show 8 * i + (v + 1) = (8 * i + v) + 1 by omega, List.range_succ, List.map_append, List.map_singleton, show (8 * i + v) / 8 = i by omega, show (8 * i + v) % 8 = v by omega]) (by intro s; unfold Xc4; rw [Xar (by simp)]) _ rfl
  rw [Nat.add_zero] at er
  unfold Xc3
  simp only
  rw [syA, er, Xab, wkA (e := (i : Int) + 1)]
  exact ⟨_, rfl, by rw [hr, show 8 * (i + 1) = 8 * i + 8 by omega]⟩) (by intro s; unfold Xc3; rw [Xar (by simp)]) [] rfl
 rw [e2, Xab, ho2]
 rfl
theorem Xqx (l : List Int) (n B : Int) (hn : (l.length : Int) = n) (hn2 : n ≤ 1000000) (h : inB B l) : Xbi l n (-B) B = some true := by
 rw [Xk5 l n (-B) B (by omega), hn, beq_self_eq_true, Bool.and_true]
 congr 1
 rw [List.all_eq_true]
 intro x hx
 rw [decide_eq_true_eq]; exact h x hx
theorem Yaf (o : List Int) {f : Int × List Int → Option (Lp (Int × List Int) (List Int))} (n : Nat) (hn : n ≤ 64) (hl : o.length = n) (hf : ∀ v : Int × List Int, f v = sel (decide (v.1 < (n : Int))) (req (0 ≤ v.1 ∧ v.1 < v.2.length) <| req (v.1.toNat < v.2.length) <| bnd (Xdx (Xaa .i64 ((v.2.getD v.1.toNat 0) + 32)) 64) fun q => req (0 ≤ v.1 ∧ v.1 < v.2.length) <| req (v.1.toNat < v.2.length) <| some (.go (Xaa .i64 (v.1 + 1), (v.2.set v.1.toNat q)))) (some (.done v.2))) : bnd (Xkf o) (fun q => some q.2) = bnd (loop f (0, o)) fun q => some q := by
 unfold Xkf
 have : Xpd o = f := by
  funext v
  rw [hf, ← hl]; rfl
 rw [this]
 cases loop f (0, o) <;> rfl
theorem Yf0 (p : List Int) (hl : p.length = 64) (hb : inB 10000000 p) : Xi2 p = Xjb p := by
 unfold Xi2 Xjb
 rw [Xqx p 64 10000000 (by omega) (by omega) hb, Xcl p 64 10000000 (by omega) (by omega) (by omega) hb, Xab, Xab, Bool.not_true, Xap, Xap, Yc1 p hl, Xuw p hl, Xab, Xab]
 exact Yaf (Yuw p) 64 (by omega) (Yw5 p) (fun _ => rfl)
theorem Yqz (p : List Int) (hl : p.length = 64) (hb : inB 1000 p) : Xq3 p = Xrr p := by
 unfold Xq3 Xrr
 rw [Xqx p 64 1000 (by omega) (by omega) hb, Xcl p 64 1000 (by omega) (by omega) (by omega) hb, Xab, Xab, Bool.not_true, Xap, Xap, Yc1 p hl, Xuw p hl, Xab]
def tgA (q : Int → Int → Int → Int → Option (Int × Int × Int × Int)) (v4 : (Int × (List Int))) : Option (Lp (Int × (List Int)) (List Int)) :=
 sel (decide (v4.1 < 16)) (
 req (0 ≤ v4.1 ∧ v4.1 < v4.2.length) <|
 req (v4.1.toNat < v4.2.length) <|
 req (0 ≤ (Xaa .i64 (v4.1 + 1)) ∧ (Xaa .i64 (v4.1 + 1)) < v4.2.length) <|
 req ((Xaa .i64 (v4.1 + 1)).toNat < v4.2.length) <|
 req (0 ≤ (Xaa .i64 (v4.1 + 2)) ∧ (Xaa .i64 (v4.1 + 2)) < v4.2.length) <|
 req ((Xaa .i64 (v4.1 + 2)).toNat < v4.2.length) <|
 req (0 ≤ (Xaa .i64 (v4.1 + 3)) ∧ (Xaa .i64 (v4.1 + 3)) < v4.2.length) <|
 req ((Xaa .i64 (v4.1 + 3)).toNat < v4.2.length) <|
 bnd (q (v4.2.getD v4.1.toNat 0) (v4.2.getD ((Xaa .i64 (v4.1 + 1)).toNat) 0) (v4.2.getD ((Xaa .i64 (v4.1 + 2)).toNat) 0) (v4.2.getD ((Xaa .i64 (v4.1 + 3)).toNat) 0)) fun q8 =>
 req (0 ≤ v4.1 ∧ v4.1 ≤ (Xaa .i64 (v4.1 + 4)) ∧ (Xaa .i64 (v4.1 + 4)) ≤ (v4.2.length : Int)) <|
 req ((v4.1.toNat + ((Xaa .i64 (v4.1 + 4)).toNat - v4.1.toNat) ≤ v4.2.length ∧ ([q8.1, q8.2.1, q8.2.2.1, q8.2.2.2]).length ≤ ((Xaa .i64 (v4.1 + 4)).toNat - v4.1.toNat))) <|
 some (.go (Xaa .i64 (v4.1 + 4), (over v4.2 v4.1.toNat ([q8.1, q8.2.1, q8.2.2.1, q8.2.2.2]))))) (
 some (.done v4.2))
def tgB (v17 : (Int × (List Int))) (q26 : (Int × Int × Int × Int)) (v28 : (Int × (List Int))) : Option (Lp (Int × (List Int)) (List Int)) :=
 sel (decide (v28.1 < 4)) (
 req (0 ≤ v28.1 ∧ v28.1 < ([q26.1, q26.2.1, q26.2.2.1, q26.2.2.2] : List Int).length) <|
 req (0 ≤ (Xaa .i64 (v17.1 + (Xaa .i64 (4 * v28.1)))) ∧ (Xaa .i64 (v17.1 + (Xaa .i64 (4 * v28.1)))) < v28.2.length) <|
 req ((Xaa .i64 (v17.1 + (Xaa .i64 (4 * v28.1)))).toNat < v28.2.length) <|
 some (.go (Xaa .i64 (v28.1 + 1), (v28.2.set ((Xaa .i64 (v17.1 + (Xaa .i64 (4 * v28.1)))).toNat) (([q26.1, q26.2.1, q26.2.2.1, q26.2.2.2] : List Int).getD v28.1.toNat 0))))) (
 some (.done v28.2))
noncomputable def tgC (q : Int → Int → Int → Int → Option (Int × Int × Int × Int)) (v17 : (Int × (List Int))) : Option (Lp (Int × (List Int)) (List Int)) :=
 sel (decide (v17.1 < 4)) (
 req (0 ≤ v17.1 ∧ v17.1 < v17.2.length) <|
 req (v17.1.toNat < v17.2.length) <|
 req (0 ≤ (Xaa .i64 (v17.1 + 4)) ∧ (Xaa .i64 (v17.1 + 4)) < v17.2.length) <|
 req ((Xaa .i64 (v17.1 + 4)).toNat < v17.2.length) <|
 req (0 ≤ (Xaa .i64 (v17.1 + 8)) ∧ (Xaa .i64 (v17.1 + 8)) < v17.2.length) <|
 req ((Xaa .i64 (v17.1 + 8)).toNat < v17.2.length) <|
 req (0 ≤ (Xaa .i64 (v17.1 + 12)) ∧ (Xaa .i64 (v17.1 + 12)) < v17.2.length) <|
 req ((Xaa .i64 (v17.1 + 12)).toNat < v17.2.length) <|
 bnd (q (v17.2.getD v17.1.toNat 0) (v17.2.getD ((Xaa .i64 (v17.1 + 4)).toNat) 0) (v17.2.getD ((Xaa .i64 (v17.1 + 8)).toNat) 0) (v17.2.getD ((Xaa .i64 (v17.1 + 12)).toNat) 0)) fun q26 =>
 bnd (loop (tgB v17 q26) (0, v17.2)) fun v30 =>
 some (.go (Xaa .i64 (v17.1 + 1), v30))) (
 some (.done v17.2))
noncomputable def Yy8 (q : Int → Int → Int → Int → Option (Int × Int × Int × Int)) (p0 : (List Int)) : Option (List Int) :=
 bnd (Xdo p0) fun q1 =>
 bnd (loop (tgA q) (0, q1)) fun v7 =>
 bnd (loop (tgC q) (0, v7)) fun v25 =>
 some v25
theorem Yw7 : Xch = Yy8 Xd3 := rfl
theorem Yw8 : Xdq = Yy8 Xl3 := rfl
abbrev Q4 := Int × Int × Int × Int
def Yqg (q : Q4) (i : Nat) : Int := [q.1, q.2.1, q.2.2.1, q.2.2.2].getD i 0
def Xvv (t : Int → Int → Int → Int → Q4) (p : List Int) : List Int := (List.range 16).map fun j => Yqg (t (p.getD (4 * (j / 4)) 0) (p.getD (4 * (j / 4) + 1) 0) (p.getD (4 * (j / 4) + 2) 0) (p.getD (4 * (j / 4) + 3) 0)) (j % 4)
def Xyi (p : List Int) : List Int := (List.range 16).map fun j => p.getD (j % 4 * 4 + j / 4) 0
theorem Xrp (t : Int → Int → Int → Int → Q4) (p : List Int) : (Xvv t p).length = 16 := by simp [Xvv]
theorem Xtv (p : List Int) : (Xyi p).length = 16 := by simp [Xyi]
theorem Yqe {l m : List Int} {i : Nat} (h : i + m.length ≤ l.length) (j : Nat) : (over l i m).getD j 0 = if i ≤ j ∧ j < i + m.length then m.getD (j - i) 0 else l.getD j 0 := by
 rw [List.getD_eq_getElem?_getD, Ys6 h]
 split <;> rw [List.getD_eq_getElem?_getD]
theorem Ytn {q : Int → Int → Int → Int → Option Q4} {t : Int → Int → Int → Int → Q4} (hq : ∀ a b c d, q a b c d = some (t a b c d)) (p : List Int) (hp : p.length = 16) : Yy8 q p = some (Xyi (Xvv t (Xyi (Xvv t p)))) := by
 have hm : maxLen = 9223372036854775807 := rfl
 unfold Yy8 Xdo
 rw [Xa0 (by simp only [List.length_nil]; omega), Xab, List.nil_append]
 have hA : loop (tgA q) (0, p) = some (Xvv t p) := by
  have key : ∀ r : Nat, r ≤ 4 → ∀ s : List Int, s.length = 16 → (∀ j, j < 4 * r → s.getD j 0 = (Xvv t p).getD j 0) → (∀ j, 4 * r ≤ j → s.getD j 0 = p.getD j 0) → loop (tgA q) (((4 * r : Nat) : Int), s) = some (Xvv t p) := by
   refine Xhg _ ?_ ?_
   ·
    intro s h1 h2 _
    refine Xg8 ?_
    unfold tgA
    rw [Xar (by simp), Yb0 h1 (Xrp t p) h2]
   ·
    intro r hr ih s h1 h2 h3
    refine lgo (y := (((4 * (r + 1) : Nat) : Int), over s (4 * r) [Yqg (t (p.getD (4 * r) 0) (p.getD (4 * r + 1) 0) (p.getD (4 * r + 2) 0) (p.getD (4 * r + 3) 0)) 0, Yqg (t (p.getD (4 * r) 0) (p.getD (4 * r + 1) 0) (p.getD (4 * r + 2) 0) (p.getD (4 * r + 3) 0)) 1, Yqg (t (p.getD (4 * r) 0) (p.getD (4 * r + 1) 0) (p.getD (4 * r + 2) 0) (p.getD (4 * r + 3) 0)) 2, Yqg (t (p.getD (4 * r) 0) (p.getD (4 * r + 1) 0) (p.getD (4 * r + 2) 0) (p.getD (4 * r + 3) 0)) 3])) ?_ (ih _ ?_ ?_ ?_)
    ·
     unfold tgA
     simp only
     rw [syA, wkA (e := ((4 * r : Nat) : Int) + 1), wkA (e := ((4 * r : Nat) : Int) + 2), wkA (e := ((4 * r : Nat) : Int) + 3), wkA (e := ((4 * r : Nat) : Int) + 4)]
     rw [rqA, rqA, rqA, rqA, rqA, rqA, rqA, rqA, hq, Xab, rqA, Xa0 (by simp only [List.length_cons, List.length_nil]; omega)]
     rw [show (((4 * r : Nat) : Int) + 1).toNat = 4 * r + 1 by omega, show (((4 * r : Nat) : Int) + 2).toNat = 4 * r + 2 by omega, show (((4 * r : Nat) : Int) + 3).toNat = 4 * r + 3 by omega, Int.toNat_natCast, h3 _ (by omega), h3 _ (by omega), h3 _ (by omega), h3 _ (by omega)]
     rfl
    ·
     rw [Yig (by simp only [List.length_cons, List.length_nil]; omega)]; exact h1
    ·
     intro j hj
     rw [Yqe (by simp only [List.length_cons, List.length_nil]; omega)]
     simp only [List.length_cons, List.length_nil]
     by_cases h : 4 * r ≤ j
     ·
      rw [if_pos (by omega)]
      unfold Xvv
      rw [Xha _ (by omega), show 4 * (j / 4) = 4 * r by omega]
      obtain h | h | h | h : j = 4 * r ∨ j = 4 * r + 1 ∨ j = 4 * r + 2 ∨ j = 4 * r + 3 := by omega
      ·
       rw [h, show 4 * r - 4 * r = 0 by omega, show (4 * r) % 4 = 0 by omega]; rfl
      ·
       rw [h, show 4 * r + 1 - 4 * r = 1 by omega, show (4 * r + 1) % 4 = 1 by omega]; rfl
      ·
       rw [h, show 4 * r + 2 - 4 * r = 2 by omega, show (4 * r + 2) % 4 = 2 by omega]; rfl
      ·
       rw [h, show 4 * r + 3 - 4 * r = 3 by omega, show (4 * r + 3) % 4 = 3 by omega]; rfl
     ·
      rw [if_neg (by omega)]; exact h2 j (by omega)
    ·
     intro j hj
     rw [Yqe (by simp only [List.length_cons, List.length_nil]; omega), if_neg (by simp only [List.length_cons, List.length_nil]; omega)]
     exact h3 j (by omega)
  exact key 0 (by omega) p hp (fun j hj => by omega) fun _ _ => rfl
 rw [hA, Xab]
 generalize hR : Xvv t p = R
 have hl : R.length = 16 := by rw [← hR]; exact Xrp t p
 have hC : loop (tgC q) (0, R) = some (Xyi (Xvv t (Xyi R))) := by
  have at4 : ∀ j : Nat, j < 16 → (Xyi (Xvv t (Xyi R))).getD j 0 = Yqg (t (R.getD (j % 4) 0) (R.getD (j % 4 + 4) 0) (R.getD (j % 4 + 8) 0) (R.getD (j % 4 + 12) 0)) (j / 4) := by
   intro j hj
   rw [Xyi, Xha _ hj, Xvv, Xha _ (by omega), Xyi, Xha _ (by omega), Xha _ (by omega), Xha _ (by omega), Xha _ (by omega)]
   rw [show (j % 4 * 4 + j / 4) / 4 = j % 4 by omega, show (j % 4 * 4 + j / 4) % 4 = j / 4 by omega, show 4 * (j % 4) % 4 * 4 + 4 * (j % 4) / 4 = j % 4 by omega, show (4 * (j % 4) + 1) % 4 * 4 + (4 * (j % 4) + 1) / 4 = j % 4 + 4 by omega, show (4 * (j % 4) + 2) % 4 * 4 + (4 * (j % 4) + 2) / 4 = j % 4 + 8 by omega, show (4 * (j % 4) + 3) % 4 * 4 + (4 * (j % 4) + 3) / 4 = j % 4 + 12 by omega]
  obtain ⟨o, e, o1, o2, _⟩ := Xne (f := tgC q) 4 (fun c s => s.length = 16 ∧ (∀ j, j < 16 → j % 4 < c → s.getD j 0 = (Xyi (Xvv t (Xyi R))).getD j 0) ∧ ∀ j, j < 16 → c ≤ j % 4 → s.getD j 0 = R.getD j 0) (by
   intro c s hc ⟨g1, g2, g3⟩
   obtain ⟨r, er, r1, r2, r3⟩ := Xne (f := tgB ((c : Int), s) (t (R.getD c 0) (R.getD (c + 4) 0) (R.getD (c + 8) 0) (R.getD (c + 12) 0))) 4 (fun i s' => s'.length = 16 ∧ (∀ j, j < 16 → j % 4 ≠ c → s'.getD j 0 = s.getD j 0) ∧ ∀ j, j < 16 → j % 4 = c → j / 4 < i → s'.getD j 0 = Yqg (t (R.getD c 0) (R.getD (c + 4) 0) (R.getD (c + 8) 0) (R.getD (c + 12) 0)) (j / 4)) (by
    intro i s' hi ⟨k1, k2, k3⟩
    unfold tgB
    simp only
    rw [syA, Xa0 (by simp only [List.length_cons, List.length_nil]; omega), wkA (e := 4 * (i : Int)), wkA (e := (c : Int) + 4 * (i : Int)), rqA, rqA, wkA (e := (i : Int) + 1), show ((c : Int) + 4 * (i : Int)).toNat = c + 4 * i by omega, Int.toNat_natCast]
    refine ⟨_, rfl, by rw [List.length_set]; exact k1, fun j hj hjc => ?_, fun j hj hjc hji => ?_⟩
    ·
     rw [Xex _ _ _ _ (by omega), if_neg (by omega)]; exact k2 j hj hjc
    ·
     rw [Xex _ _ _ _ (by omega)]
     by_cases h : c + 4 * i = j
     ·
      rw [if_pos h, show j / 4 = i by omega]; rfl
     ·
      rw [if_neg h]; exact k3 j hj hjc (by omega)) (fun z _ => by unfold tgB; rw [Xar (by simp)]) s ⟨g1, fun _ _ _ => rfl, fun j hj hjc hji => by omega⟩
   unfold tgC
   simp only
   rw [syA, wkA (e := (c : Int) + 4), wkA (e := (c : Int) + 8), wkA (e := (c : Int) + 12), rqA, rqA, rqA, rqA, rqA, rqA, rqA, rqA, hq, Xab, show ((c : Int) + 4).toNat = c + 4 by omega, show ((c : Int) + 8).toNat = c + 8 by omega, show ((c : Int) + 12).toNat = c + 12 by omega, Int.toNat_natCast, g3 c (by omega) (by omega), g3 (c + 4) (by omega) (by omega), g3 (c + 8) (by omega) (by omega), g3 (c + 12) (by omega) (by omega), er, Xab, wkA (e := (c : Int) + 1)]
   refine ⟨r, rfl, r1, fun j hj hjc => ?_, fun j hj hjc => ?_⟩
   ·
    by_cases h : j % 4 = c
    ·
     rw [r3 j hj h (by omega), at4 j hj, h]
    ·
     rw [r2 j hj h]; exact g2 j hj (by omega)
   ·
    rw [r2 j hj (by omega)]; exact g3 j hj (by omega)) (fun z _ => by unfold tgC; rw [Xar (by simp)]) R ⟨hl, fun j hj hjc => by omega, fun _ _ _ => rfl⟩
  rw [e]
  congr 1
  exact Yb0 o1 (Xtv _) fun j hj => o2 j hj (by omega)
 rw [hC, Xab]
theorem Xlr (p : List Int) (hl : p.length = 16) : Xf3 p = some (Xyi p) := by
 unfold Xf3
 rw [rqA]
 obtain ⟨o, e, o1, o2⟩ := Xne (f := Xed p) 16 (fun i s => s.length = 16 ∧ ∀ j, j < 16 → j % 4 * 4 + j / 4 < i → s.getD j 0 = p.getD (j % 4 * 4 + j / 4) 0) (by
  intro i s hi ⟨g1, g2⟩
  unfold Xed
  simp only
  rw [syA, rqA, rqA, rqA, Xb2 (by omega), Xbq (by omega), wkA (e := (i : Int) / 4), wkA (e := (i : Int) % 4 * 4), wkA (e := (i : Int) % 4 * 4 + (i : Int) / 4), rqA, rqA, wkA (e := (i : Int) + 1), Int.toNat_natCast, show ((i : Int) % 4 * 4 + (i : Int) / 4).toNat = i % 4 * 4 + i / 4 by omega]
  refine ⟨_, rfl, by rw [List.length_set]; exact g1, fun j hj hji => ?_⟩
  rw [Xex _ _ _ _ (by omega)]
  by_cases h : i % 4 * 4 + i / 4 = j
  ·
   rw [if_pos h, show j % 4 * 4 + j / 4 = i by omega]
  ·
   rw [if_neg h]; exact g2 j hj (by omega)) (fun z _ => by unfold Xed; rw [Xar (by simp)]) (List.replicate (16 : Int).toNat 0) ⟨by simp, fun j hj h => by omega⟩
 rw [e, Xab]
 congr 1
 exact Yb0 o1 (Xtv p) fun j hj => by rw [o2 j hj (by omega), Xyi, Xha _ hj]
theorem Yqk {f : Int × List Int → Option (Lp (Int × List Int) (List Int))} {t : Int → Int → Int → Int → Q4} (p : List Int) (h : ∀ (i : Nat) (s : List Int), i < 4 → s.length = 4 * i → f ((i : Int), s) = some (.go (((i + 1 : Nat) : Int), s ++ [(t (p.getD (4 * i) 0) (p.getD (4 * i + 1) 0) (p.getD (4 * i + 2) 0) (p.getD (4 * i + 3) 0)).1, (t (p.getD (4 * i) 0) (p.getD (4 * i + 1) 0) (p.getD (4 * i + 2) 0) (p.getD (4 * i + 3) 0)).2.1, (t (p.getD (4 * i) 0) (p.getD (4 * i + 1) 0) (p.getD (4 * i + 2) 0) (p.getD (4 * i + 3) 0)).2.2.1, (t (p.getD (4 * i) 0) (p.getD (4 * i + 1) 0) (p.getD (4 * i + 2) 0) (p.getD (4 * i + 3) 0)).2.2.2]))) (he : ∀ s, f (4, s) = some (.done s)) : loop f (0, []) = some (Xvv t p) := by
 obtain ⟨o, e, ho⟩ := Xne (f := f) 4 (fun i s => s = (List.range (4 * i)).map fun j => Yqg (t (p.getD (4 * (j / 4)) 0) (p.getD (4 * (j / 4) + 1) 0) (p.getD (4 * (j / 4) + 2) 0) (p.getD (4 * (j / 4) + 3) 0)) (j % 4)) (by
  intro i s hi g
  refine ⟨_, h i s hi (by rw [g]; simp), ?_⟩
  rw [g, show 4 * (i + 1) = 4 * i + 1 + 1 + 1 + 1 by omega]
  simp only [List.range_succ, List.map_append, List.map_singleton, List.append_assoc]
  rw [show (4 * i + 1 + 1 + 1) / 4 = i by omega, show (4 * i + 1 + 1) / 4 = i by omega, show (4 * i + 1) / 4 = i by omega, show 4 * i / 4 = i by omega, show (4 * i + 1 + 1 + 1) % 4 = 3 by omega, show (4 * i + 1 + 1) % 4 = 2 by omega, show (4 * i + 1) % 4 = 1 by omega, show 4 * i % 4 = 0 by omega]
  rfl) (fun z _ => he z) [] rfl
 rw [e, ho]; rfl
def t4F (a b c d : Int) : Q4 := (Xaa .i64 ((Xaa .i64 ((Xaa .i64 (a + b)) + c)) + d), Xaa .i64 ((Xaa .i64 ((Xaa .i64 ((Xaa .i64 (2 * a)) + b)) - c)) - (Xaa .i64 (2 * d))), Xaa .i64 ((Xaa .i64 ((Xaa .i64 (a - b)) - c)) + d), Xaa .i64 ((Xaa .i64 ((Xaa .i64 (a - (Xaa .i64 (2 * b)))) + (Xaa .i64 (2 * c)))) - d))
theorem Yju (a b c d : Int) : Xl3 a b c d = some (t4F a b c d) := rfl
def Ylr (a b : Int) : Int := Xaa .i64 (if a.tmod b < 0 then Xaa .i64 (a.tdiv b) - 1 else a.tdiv b)
theorem Xvb (a b : Int) (hb : b ≠ 0) : Xdx a b = some (Ylr a b) := by
 unfold Xdx Ylr
 rw [Xa0 hb, Xa0 hb, Yrx]
 split <;> rfl
def t4B (a b c d : Int) : Q4 := (Xaa .i64 ((Xaa .i64 (a + c)) + (Xaa .i64 (b + Ylr d 2))), Xaa .i64 ((Xaa .i64 (a - c)) + (Xaa .i64 (Ylr b 2 - d))), Xaa .i64 ((Xaa .i64 (a - c)) - (Xaa .i64 (Ylr b 2 - d))), Xaa .i64 ((Xaa .i64 (a + c)) - (Xaa .i64 (b + Ylr d 2))))
theorem Xyt (a b c d : Int) : Xd3 a b c d = some (t4B a b c d) := by
 unfold Xd3
 rw [Yrd, Xvb b 2 (by omega), Xvb d 2 (by omega), Xab, Xab]; rfl
theorem Xte (p : List Int) (hl : p.length = 16) : Xio p = some (Xvv t4B p) := by
 have hm : maxLen = 9223372036854775807 := rfl
 unfold Xio
 rw [Yqk (f := Xdi p) (t := t4B) p (by
  intro i s hi hs
  unfold Xdi
  simp only
  rw [syA, wkA (e := 4 * (i : Int)), wkA (e := 4 * (i : Int) + 1), wkA (e := 4 * (i : Int) + 2), wkA (e := 4 * (i : Int) + 3), rqA, rqA, rqA, rqA, show (4 * (i : Int)).toNat = 4 * i by omega, show (4 * (i : Int) + 1).toNat = 4 * i + 1 by omega, show (4 * (i : Int) + 2).toNat = 4 * i + 2 by omega, show (4 * (i : Int) + 3).toNat = 4 * i + 3 by omega, Xvb _ 2 (by omega), Xab, Xvb _ 2 (by omega), Xab, wkA (e := (i : Int) + 1), Xa0 (by simp only [List.length_cons, List.length_nil]; omega)]
  rfl) (by intro s; unfold Xdi; rw [Xar (by simp)]), Xab]
theorem Xuu (p : List Int) (hl : p.length = 16) : Xkm p = some (Xvv t4F p) := by
 have hm : maxLen = 9223372036854775807 := rfl
 unfold Xkm
 rw [Yqk (f := Xee p) (t := t4F) p (by
  intro i s hi hs
  unfold Xee
  simp only
  rw [syA, wkA (e := 4 * (i : Int)), wkA (e := 4 * (i : Int) + 1), wkA (e := 4 * (i : Int) + 2), wkA (e := 4 * (i : Int) + 3), rqA, rqA, rqA, rqA, show (4 * (i : Int)).toNat = 4 * i by omega, show (4 * (i : Int) + 1).toNat = 4 * i + 1 by omega, show (4 * (i : Int) + 2).toNat = 4 * i + 2 by omega, show (4 * (i : Int) + 3).toNat = 4 * i + 3 by omega, wkA (e := (i : Int) + 1), Xa0 (by simp only [List.length_cons, List.length_nil]; omega)]
  rfl) (by intro s; unfold Xee; rw [Xar (by simp)]), Xab]
theorem Yjl (p : List Int) (hl : p.length = 16) (hb : inB 10000000 p) : Xkw p = Xli p := by
 unfold Xkw Xli
 rw [Xqx p 16 10000000 (by omega) (by omega) hb, Xcl p 16 10000000 (by omega) (by omega) (by omega) hb, Xab, Xab, Bool.not_true, Xap, Xap, Yw7, Ytn Xyt p hl, Xte p hl, Xab, Xab, Xlr _ (Xrp _ _), Xab, Xte _ (Xtv _), Xab, Xlr _ (Xrp _ _), Xab]
 exact Yaf _ 16 (by omega) (Xtv _) (fun _ => rfl)
theorem Yts (p : List Int) (hl : p.length = 16) (hb : inB 1000 p) : Xt1 p = Xum p := by
 unfold Xt1 Xum
 rw [Xqx p 16 1000 (by omega) (by omega) hb, Xcl p 16 1000 (by omega) (by omega) (by omega) hb, Xab, Xab, Bool.not_true, Xap, Xap, Yw8, Ytn Yju p hl, Xuu p hl, Xab, Xab, Xlr _ (Xrp _ _), Xab, Xuu _ (Xtv _), Xab, Xlr _ (Xrp _ _), Xab]
theorem Yui {β : Type} {c : Prop} [Decidable c] {k k' : Option β} (h : c → k = k') : req c k = req c k' := by
 by_cases hc : c
 ·
  rw [Xa0 hc, Xa0 hc, h hc]
 ·
  unfold req; rw [if_neg hc, if_neg hc]
theorem Xl1 {β : Type} {c : Prop} [Decidable c] {k k' : Option β} (h0 : c) (h : k = k') : req c k = k' := by rw [Xa0 h0, h]
theorem Yae {β : Type} {b : Bool} {x x' y y' : β} (h : b = true → x = x') (h2 : b = false → y = y') : sel b x y = sel b x' y' := by
 cases b
 ·
  exact h2 rfl
 ·
  exact h rfl
theorem Ytz {α β : Type} {x x' : Option α} {f f' : α → Option β} (h : x = x') (h2 : ∀ a, x' = some a → f a = f' a) : bnd x f = bnd x' f' := by
 subst h
 cases x with
 | none => rfl
 | some a => exact h2 a rfl
theorem Yv7 {V O : Type} {f : V → Option (Lp V O)} (I : V → Prop) (J : O → Prop) (h1 : ∀ v v', I v → f v = some (.go v') → I v') (h2 : ∀ v o, I v → f v = some (.done o) → J o) {v : V} {o : O} (h : loop f v = some o) (hv : I v) : J o := by
 obtain ⟨k, hk⟩ := Xiu.1 h
 clear h
 induction k generalizing v with
 | zero => cases hk
 | succ k ih =>
  rw [it] at hk
  cases e : f v with
  | none => rw [e] at hk; cases hk
  | some s =>
   rw [e] at hk
   cases s with
   | go y => exact ih (h1 v y hv e) hk
   | done o' => cases hk; exact h2 v o hv e
theorem Yf2 (l qp p : Int) (h0 : 0 ≤ qp ∧ qp ≤ 40) (hp : 0 ≤ p ∧ p ≤ 15) : Xi5 l qp p = Xjd l qp p := by
 unfold Xi5 Xjd
 rw [Xak, Xal, Ymc qp p h0 hp]
theorem Yf1 (l qp : Int) (h0 : 0 ≤ qp ∧ qp ≤ 40) : Xi3 l qp = Xjc l qp := by
 unfold Xi3 Xjc
 rw [Xak, Xal, Ycs qp h0]
theorem Yiu (x : Int) (h : -1000000000000 ≤ x ∧ x ≤ 1000000000000) : Xnn x = Xgg x := by
 unfold Xnn Xgg
 rw [wkA]
 by_cases hx : x < 0
 ·
  rw [Xbk hx, if_pos (by omega)]
 ·
  rw [Xar hx, if_neg (by omega)]
theorem Ywu : ∀ q : Fin 41, ∀ p : Fin 16, Xnl (q.val : Int) (p.val : Int) = Xnu (q.val : Int) (p.val : Int) := by decide +kernel
theorem Ymd (qp p : Int) (h0 : 0 ≤ qp ∧ qp ≤ 40) (hp : 0 ≤ p ∧ p ≤ 15) : Xnl qp p = Xnu qp p := by
 have := Ywu ⟨qp.toNat, by omega⟩ ⟨p.toNat, by omega⟩
 simp only at this
 rwa [show ((qp.toNat : Nat) : Int) = qp by omega, show ((p.toNat : Nat) : Int) = p by omega] at this
theorem Yqr (x w : Int) : Xpe x w = Xjg w x := rfl
theorem Ydf (w qp : Int) (h0 : 0 ≤ qp ∧ qp ≤ 40) : Xhj w qp = Xh1 w qp := by
 unfold Xhj Xh1
 rw [Xak, Xal, Xak, Xal, Ycs qp h0]
 by_cases hw : -20000 ≤ w ∧ w ≤ 20000
 ·
  rw [Yiu w (by omega)]; rfl
 ·
  rw [decide_eq_false hw]; rfl
theorem Zdk (qp : Int) (h0 : 0 ≤ qp ∧ qp ≤ 40) : Xaa .u64 (Xaa .i64 (15 + (Xaa .i64 (qp.tdiv 6)))) = Xaa .i64 (15 + (Xaa .i64 (qp.tdiv 6))) := by
 have h : ∀ q : Fin 41, Xaa .u64 (Xaa .i64 (15 + (Xaa .i64 ((q.val : Int).tdiv 6)))) = Xaa .i64 (15 + (Xaa .i64 ((q.val : Int).tdiv 6))) := by decide +kernel
 have := h ⟨qp.toNat, by omega⟩
 simp only at this
 rwa [show ((qp.toNat : Nat) : Int) = qp by omega] at this
theorem Ydg (w qp p : Int) (h0 : 0 ≤ qp ∧ qp ≤ 40) (hp : 0 ≤ p ∧ p ≤ 15) : Xhn w qp p = Xh3 w qp p := by
 unfold Xhn Xh3
 have h15 := Zdk qp h0
 simp only [Xak, Xal, Ymd qp p h0 hp, h15, Yqr]
 by_cases hw : -20000 ≤ w ∧ w ≤ 20000
 ·
  simp only [Yiu w (by omega)]
 ·
  simp only [decide_eq_false hw, Xab, Xap, Xaw]
def Xz9 (k : Int) (v7 : Int × List Int) : Option (Lp (Int × List Int) (List Int)) :=
 sel (decide (v7.1 < 4)) (
 bnd (it (Xoa k v7) 10 (0, v7.2)) fun v18 =>
 some (.go (Xaa .i64 (v7.1 + 1), v18))) (
 some (.done v7.2))
theorem Yqi {k : Int} {v : Int × List Int} {x : Lp (Int × List Int) (List Int)} (h : Xz9 k v = some x) : Xjm k v = some x := by
 unfold Xz9 at h
 unfold Xjm
 rcases Xjn h with ⟨hb, h⟩ | ⟨hb, h⟩
 ·
  rw [hb, Xaw]
  obtain ⟨a, h1, h2⟩ := Xa8 h
  rw [Xiu.2 ⟨10, h1⟩, Xab]
  exact h2
 ·
  rw [hb, Xap]; exact h
def Xle (k : Int) : List Int := (it (Xz9 k) 10 (0, [])).getD []
def Xnr (k i : Int) : Int := (Xaa .i64 ((Xaa .i64 ((Xaa .i64 (8 * (Xaa .i64 ((Xaa .i64 ((Xaa .i64 (k.tdiv 2)) * 4)) + (Xaa .i64 (i.tdiv 4)))))) + (Xaa .i64 ((k.tmod 2) * 4)))) + (i.tmod 4)))
theorem Yrt : ∀ k : Fin 4, (it (Xz9 (k.val : Int)) 10 (0, [])).isSome = true ∧ (Xle (k.val : Int)).length = 16 ∧ ∀ i : Fin 16, (Xle (k.val : Int)).getD i.val 0 = Xnr (k.val : Int) (i.val : Int) ∧ 0 ≤ Xnr (k.val : Int) (i.val : Int) ∧ Xnr (k.val : Int) (i.val : Int) < 64 := by decide +kernel
theorem Xpb (k : Nat) (hk : k < 4) : Xkc k = some (Xle k) ∧ (Xle k).length = 16 ∧ ∀ i : Nat, i < 16 → (Xle k).getD i 0 = Xnr k i ∧ 0 ≤ Xnr k i ∧ Xnr k i < 64 := by
 obtain ⟨h1, h2, h3⟩ := Yrt ⟨k, hk⟩
 refine ⟨?_, h2, fun i hi => h3 ⟨i, hi⟩⟩
 obtain ⟨o, ho⟩ := Option.isSome_iff_exists.1 h1
 have hl := Yrp 10 (Yx7 (fun v y => Yqi (k := (k : Int))) 10 _ ho)
 unfold Xkc
 rw [hl, Xab]
 unfold Xle; simp only at ho; rw [ho]; rfl
theorem Xs2 (p : List Int) (c : Xe9) (hc : Xiq c = true) (hp : Yft p = true) : Xhk p c = Xft p c := by
 have hq := Xye hc
 obtain ⟨hl, hb⟩ := Yic hp
 unfold Xhk Xft
 rw [Xg4, Xez, Xq9 p (by omega), hp, hc, Xcl p 64 5000 (by omega) (by omega) (by omega) hb]
 simp only [Xab, Xaw, Bool.not_true, Xap]
 rw [Xtq 8 (Or.inr rfl) p (by omega)]
 refine Yae (fun _ => rfl) fun _ => Yae (fun _ => ?_) fun _ => ?_
 ·
  obtain ⟨w, ew, w1, w2⟩ := Xfx 8 (Or.inr rfl) p 5000 (by omega) (by omega) hb
  rw [ew, Xab, Xab]
  have hloop : loop (Xeq c (w, true)) (0, (w, true).1) = loop (Xbh c) (0, (w, true).1) := by
   have : Xeq c (w, true) = Xbh c := by
    funext v
    unfold Xeq Xbh
    simp only [Yf1 _ _ hq, w1, hl]
    rfl
   rw [this]
  rw [hloop]
  obtain ⟨l, el, l1, l2⟩ := Xm3 (f := Xbh c) 64 (fun x => -5000 ≤ x ∧ x ≤ 5000) (fun x => -5760000 ≤ x ∧ x ≤ 5760000) (by
   intro i l hi hll hx
   obtain ⟨d, ed, d1, d2⟩ := Xrs (l.getD i 0) c.Qp hx hq
   unfold Xbh
   simp only [Int.toNat_natCast]
   rw [syA, rqA, rqA, ed, Xab, rqA, rqA, wkA (e := (i : Int) + 1)]
   exact ⟨d, rfl, d1, d2⟩) (by intro s; unfold Xbh; rw [Xar (by simp)]) w (by omega) w2
  simp only [el, Xab]
  rw [Yf0 l l1 (Xp4 l2 (by omega))]
 ·
  refine Yui fun _ => Ytz ?_ fun _ _ => rfl
  refine Xml (fun v => (∃ k : Nat, v.1 = (k : Int) ∧ k ≤ 4) ∧ v.2.length = 64) ?_ ?_ ⟨⟨0, rfl, by omega⟩, by simp⟩
  ·
   intro ⟨k0, s⟩ ⟨⟨k, ek, hk⟩, hs⟩
   simp only at ek hs
   subst ek
   unfold Xju Xc1
   simp only
   refine Yae (fun hk4 => ?_) fun _ => rfl
   have hk4 : k < 4 := by have := of_decide_eq_true hk4; omega
   rw [wkA (e := 16 * (k : Int)), wkA (e := 16 * (k : Int) + 16)]
   refine Yui fun _ => ?_
   rw [show (16 * (k : Int)).toNat = 16 * k by omega, show (16 * (k : Int) + 16).toNat - 16 * k = 16 by omega]
   have hcut : ((p.drop (16 * k)).take 16).length = 16 := by rw [List.length_take, List.length_drop]; omega
   obtain ⟨a, ea, a1, a2⟩ := Xfx 4 (Or.inl rfl) ((p.drop (16 * k)).take 16) 5000 (by omega) (by omega) (Ysq (Yso hb _) _)
   rw [Xtq 4 (Or.inl rfl) _ (by omega), ea, Xab, Xab]
   have hloop : loop (Xd4 c (a, true)) (0, (a, true).1) = loop (Xbf c) (0, (a, true).1) := by
    have : Xd4 c (a, true) = Xbf c := by
     funext v
     unfold Xd4 Xbf
     simp only [show ((a.length : Nat) : Int) = 16 by omega]
     refine Yae (fun h16 => ?_) fun _ => rfl
     have := of_decide_eq_true h16
     refine Yui fun h0 => Yui fun _ => ?_
     rw [Yf2 _ _ _ hq (by omega)]
    rw [this]
   rw [hloop]
   obtain ⟨l, el, l1, l2⟩ := Xm3 (f := Xbf c) 16 (fun x => -5000 ≤ x ∧ x ≤ 5000) (fun x => -10000000 ≤ x ∧ x ≤ 10000000) (by
    intro i l hi hll hx
    obtain ⟨d, ed, d1, d2⟩ := Xrw (l.getD i 0) c.Qp i hx hq (by omega)
    unfold Xbf
    simp only [Int.toNat_natCast]
    rw [syA, rqA, rqA, ed, Xab, rqA, rqA, wkA (e := (i : Int) + 1)]
    exact ⟨d, rfl, d1, d2⟩) (by intro s; unfold Xbf; rw [Xar (by simp)]) a (by omega) a2
   obtain ⟨b, eb, b1, b2⟩ := Xtc l l1 l2
   obtain ⟨q1, q2, q3⟩ := Xpb k hk4
   simp only [el, Xab]
   rw [Yjl l l1 l2, eb, Xab, Xab, q1, Xab]
   refine Ytz ?_ fun _ _ => rfl
   have : Xf7 b (Xle k) = Xbl ((k : Int), s) b := by
    funext v
    unfold Xf7 Xbl
    simp only [show (((Xle k).length : Nat) : Int) = 16 by omega]
    refine Yae (fun h16 => ?_) fun _ => rfl
    have h16 := of_decide_eq_true h16
    by_cases h0 : 0 ≤ v.1
    ·
     obtain ⟨i, hi⟩ : ∃ i : Nat, v.1 = (i : Int) := ⟨v.1.toNat, by omega⟩
     obtain ⟨v1, v2⟩ := v
     simp only at hi h0 h16
     subst hi
     obtain ⟨r1, r2, r3⟩ := q3 i (by omega)
     have e1 : (Xaa .i64 ((Xaa .i64 ((Xaa .i64 (8 * (Xaa .i64 ((Xaa .i64 ((Xaa .i64 ((k : Int).tdiv 2)) * 4)) + (Xaa .i64 ((i : Int).tdiv 4)))))) + (Xaa .i64 (((k : Int).tmod 2) * 4)))) + ((i : Int).tmod 4))) = Xnr k i := rfl
     simp only [Int.toNat_natCast, r1, e1]
     refine Xl1 (by omega) (Xl1 (by omega) (Xl1 (by omega) (Xl1 (by omega) ?_)))
     refine (Xl1 (by omega) (Xl1 (by omega) (Xl1 (by omega) (Xl1 (by omega) (Xl1 (by omega) (Xl1 (by omega) ?_)))))).symm
     rfl
    ·
     unfold req
     rw [if_neg (by omega), if_pos (by omega), if_pos (by omega), if_pos (by omega), if_pos (by omega), if_neg (by omega)]
   rw [this]
  ·
   intro ⟨k0, s⟩ v' ⟨⟨k, ek, hk⟩, hs⟩ he
   simp only at ek hs
   subst ek
   unfold Xc1 at he
   simp only at he
   rcases Xjn he with ⟨hb4, he⟩ | ⟨_, he⟩
   ·
    have hk4 : k < 4 := by have := of_decide_eq_true hb4; omega
    obtain ⟨_, he⟩ := Xau he
    obtain ⟨a, _, he⟩ := Xa8 he
    obtain ⟨l, _, he⟩ := Xa8 he
    obtain ⟨b, _, he⟩ := Xa8 he
    obtain ⟨r, hr, he⟩ := Xa8 he
    rw [wkA (e := (k : Int) + 1)] at he
    cases he
    refine ⟨⟨k + 1, rfl, by omega⟩, ?_⟩
    refine Yv7 (f := Xbl ((k : Int), s) b) (fun v => v.2.length = 64) (fun o => o.length = 64) ?_ ?_ hr hs
    ·
     intro v v' hv he
     unfold Xbl at he
     rcases Xjn he with ⟨_, he⟩ | ⟨_, he⟩
     ·
      obtain ⟨_, he⟩ := Xau he
      obtain ⟨_, he⟩ := Xau he
      obtain ⟨_, he⟩ := Xau he
      obtain ⟨_, he⟩ := Xau he
      obtain ⟨_, he⟩ := Xau he
      obtain ⟨_, he⟩ := Xau he
      obtain ⟨_, he⟩ := Xau he
      obtain ⟨_, he⟩ := Xau he
      cases he
      simp only [List.length_set]; exact hv
     ·
      cases he
    ·
     intro v o hv he
     unfold Xbl at he
     rcases Xjn he with ⟨_, he⟩ | ⟨_, he⟩
     ·
      obtain ⟨_, he⟩ := Xau he
      obtain ⟨_, he⟩ := Xau he
      obtain ⟨_, he⟩ := Xau he
      obtain ⟨_, he⟩ := Xau he
      obtain ⟨_, he⟩ := Xau he
      obtain ⟨_, he⟩ := Xau he
      obtain ⟨_, he⟩ := Xau he
      obtain ⟨_, he⟩ := Xau he
      cases he
     ·
      cases he; exact hv
   ·
    cases he
theorem Ys1 {S O : Type} {f g : Int × S → Option (Lp (Int × S) O)} (n : Nat) (I : Nat → S → Prop) (h : ∀ (i : Nat) (s : S), i ≤ n → I i s → f ((i : Int), s) = g ((i : Int), s)) (hI : ∀ (i : Nat) (s : S) (v' : Int × S), i ≤ n → I i s → g ((i : Int), s) = some (.go v') → v'.1 = ((i + 1 : Nat) : Int) ∧ i + 1 ≤ n ∧ I (i + 1) v'.2) {s0 : S} (h0 : I 0 s0) : loop f (0, s0) = loop g (0, s0) := by
 refine Xml (fun v => ∃ i : Nat, v.1 = (i : Int) ∧ i ≤ n ∧ I i v.2) ?_ ?_ ⟨0, rfl, by omega, h0⟩
 ·
  intro ⟨k, s⟩ ⟨i, e, hi, hs⟩
  simp only at e hs
  subst e
  exact h i s hi hs
 ·
  intro ⟨k, s⟩ v' ⟨i, e, hi, hs⟩ he
  simp only at e hs
  subst e
  obtain ⟨a, b, c⟩ := hI i s v' hi hs he
  exact ⟨i + 1, a, b, c⟩
theorem Yqj (p : List Int) (hl : p.length = 64) (k : Nat) (hk : k < 4) : loop (Xfi p (Xle k)) (0, ([] : List Int)) = Xh5 p k := by
 obtain ⟨q1, q2, q3⟩ := Xpb k hk
 unfold Xh5
 rw [Ys1 (f := Xfi p (Xle k)) (g := Xb3 p k) 16 (fun _ _ => True) ?_ ?_ trivial]
 ·
  cases loop (Xb3 p k) (0, ([] : List Int)) <;> rfl
 ·
  intro i s hi _
  unfold Xfi Xb3
  simp only [show (((Xle k).length : Nat) : Int) = 16 by omega]
  refine Yae (fun h16 => ?_) fun _ => rfl
  have h16 := of_decide_eq_true h16
  obtain ⟨r1, r2, r3⟩ := q3 i (by omega)
  have e1 : (Xaa .i64 ((Xaa .i64 ((Xaa .i64 (8 * (Xaa .i64 ((Xaa .i64 ((Xaa .i64 ((k : Int).tdiv 2)) * 4)) + (Xaa .i64 ((i : Int).tdiv 4)))))) + (Xaa .i64 (((k : Int).tmod 2) * 4)))) + ((i : Int).tmod 4))) = Xnr k i := rfl
  simp only [Int.toNat_natCast, r1, e1]
  refine Xl1 (by omega) (Xl1 (by omega) (Xl1 (by omega) ?_))
  refine (Xl1 (by omega) (Xl1 (by omega) (Xl1 (by omega) (Xl1 (by omega) (Xl1 (by omega) ?_))))).symm
  rfl
 ·
  intro i s v' hi _ he
  unfold Xb3 at he
  rcases Xjn he with ⟨hb, he⟩ | ⟨_, he⟩
  ·
   have h16 := of_decide_eq_true hb
   simp only at h16 he
   obtain ⟨_, he⟩ := Xau he
   obtain ⟨_, he⟩ := Xau he
   obtain ⟨_, he⟩ := Xau he
   obtain ⟨_, he⟩ := Xau he
   obtain ⟨_, he⟩ := Xau he
   obtain ⟨_, he⟩ := Xau he
   injection he with he
   injection he with he
   subst he
   exact ⟨wkA, by omega, trivial⟩
  ·
   cases he
theorem Xv1 (p : List Int) (c : Xe9) (hc : Xiq c = true) (hl : p.length = 64) (hb : inB 255 p) : Xf8 p c = Xds p c := by
 have hq := Xye hc
 unfold Xf8 Xds
 rw [Xg4, Xez, Xqx p 64 255 (by omega) (by omega) hb, hc, Xcl p 64 255 (by omega) (by omega) (by omega) hb]
 simp only [Xab, Xaw, Bool.not_true, Xap]
 rw [Xr1 8 (Or.inr rfl) p (by omega)]
 refine Yae (fun _ => rfl) fun _ => Yae (fun _ => ?_) fun _ => ?_
 ·
  obtain ⟨w, ew, w1⟩ := Yai p hl hb
  rw [Yqz p hl (Xp4 hb (by omega)), ew, Xab, Xab]
  have : Xjj c w = Xb6 c := by
   funext v
   unfold Xjj Xb6
   simp only [Ydf _ _ hq, w1]
   rfl
  rw [this]
  obtain ⟨l, el, l1, l2⟩ := Xm3 (f := Xb6 c) 64 (fun _ => True) (fun x => -5000 ≤ x ∧ x ≤ 5000) (by
   intro i l hi hll _
   obtain ⟨d, ed, d1, d2⟩ := Xqa (l.getD i 0) c.Qp hq
   unfold Xb6
   simp only [Int.toNat_natCast]
   rw [syA, rqA, rqA, ed, Xab, rqA, rqA, wkA (e := (i : Int) + 1)]
   exact ⟨d, rfl, d1, d2⟩) (by intro s; unfold Xb6; rw [Xar (by simp)]) w w1 (fun _ _ => trivial)
  rw [el, Xab, Xab, Xr1 8 (Or.inr rfl) l (by omega)]
 ·
  refine Ytz ?_ fun _ _ => rfl
  refine Ys1 4 (fun _ _ => True) ?_ ?_ trivial
  ·
   intro k s hk _
   unfold Xl6 Xd0
   refine Yae (fun h4 => ?_) fun _ => rfl
   have hk4 : k < 4 := by have := of_decide_eq_true h4; simp only at this; omega
   obtain ⟨q1, q2, q3⟩ := Xpb k hk4
   simp only [q1, Xab]
   rw [Yqj p hl k hk4]
   obtain ⟨a, ea, a1, a2⟩ := Xqe p k hk4 255 hl hb
   obtain ⟨b, eb, b1, b2⟩ := Ydc a a1 a2
   rw [ea, Xab, Xab, Yts a a1 (Xp4 a2 (by omega)), eb, Xab, Xab]
   have : Xia c b = Xb1 c := by
    funext v
    unfold Xia Xb1
    simp only [show ((b.length : Nat) : Int) = 16 by omega]
    refine Yae (fun h16 => ?_) fun _ => rfl
    have := of_decide_eq_true h16
    refine Yui fun h0 => Yui fun _ => ?_
    rw [Ydg _ _ _ hq (by omega)]
   rw [this]
   obtain ⟨l, el, l1, l2⟩ := Xm3 (f := Xb1 c) 16 (fun x => -9180 ≤ x ∧ x ≤ 9180) (fun x => -5000 ≤ x ∧ x ≤ 5000) (by
    intro i l hi hll hx
    obtain ⟨d, ed, d1, d2⟩ := Xqc (l.getD i 0) c.Qp i hx hq (by omega)
    unfold Xb1
    simp only [Int.toNat_natCast]
    rw [syA, rqA, rqA, ed, Xab, rqA, rqA, wkA (e := (i : Int) + 1)]
    exact ⟨d, rfl, d1, d2⟩) (by intro s; unfold Xb1; rw [Xar (by simp)]) b b1 b2
   rw [el, Xab, Xab, Xr1 4 (Or.inl rfl) l (by omega)]
  ·
   intro k s v' hk _ he
   unfold Xd0 at he
   rcases Xjn he with ⟨hb4, he⟩ | ⟨_, he⟩
   ·
    have hk4 := of_decide_eq_true hb4
    simp only at hk4 he
    obtain ⟨a, _, he⟩ := Xa8 he
    obtain ⟨l, _, he⟩ := Xa8 he
    obtain ⟨b, _, he⟩ := Xa8 he
    obtain ⟨r, _, he⟩ := Xa8 he
    obtain ⟨_, he⟩ := Xau he
    injection he with he
    injection he with he
    subst he
    exact ⟨wkA, by omega, trivial⟩
   ·
    cases he
theorem Yo7 {p : Pic} (ok : Xc0 p = true) (x y : Int) : Xeu p x y = Xeo p x y := by rw [Yht ok, Xik ok]
theorem Xue {p : Pic} (ok : Xc0 p = true) {x y : Int} (hx : x.tmod 8 = 0) (hy : y.tmod 8 = 0) (h : Xdb p x y = true) : Xbz p x y = some true := Xn9 ok x y hx hy h
theorem Xx6 {p : Pic} (ok : Xc0 p = true) {x y : Int} (hx : x.tmod 8 = 0) (hy : y.tmod 8 = 0) (h : Xdb p x y = true) : Xj4 p x y = Xh0 p x y := by
 unfold Xj4 Xh0
 rw [Xc6, ok, Xue ok hx hy h, Xgu ok hx hy h]
 have : Xkv p x y = Xfr p x y := by
  funext v
  unfold Xkv Xfr
  simp only [Yo7 ok]
 simp only [Xab, Xaw, Bool.not_true, Xap, this, Yo7 ok]
theorem Yfz {e : Xiz} (h : Xtt e) : Xj5 e = some true := by
 obtain ⟨h1, h2, h3, h4, h5, h6⟩ := h
 have side : ∀ l : List Int, (l.length = 0 ∨ l.length = 8) → (∀ x ∈ l, 0 ≤ x ∧ x ≤ 255) → bnd (sel (decide ((l.length : Int) > 0)) (bnd (Xbi l 8 0 255) fun q10 => some (!q10)) (some false)) (fun v9 => some v9) = some false := by
  intro l hl hb
  rcases hl with e | e
  ·
   rw [snA]; rfl
  ·
   rw [syA, Xk5 l 8 0 255 (by omega)]
   have : (l.all fun x => decide (0 ≤ x ∧ x ≤ 255)) = true := List.all_eq_true.2 fun x hx => decide_eq_true (hb x hx)
   rw [this, e]; rfl
 have go : ∀ (i : Nat) (l : List Int), i < 2 → ([e.Above, e.Left]).getD i Xf6 = l → (l.length = 0 ∨ l.length = 8) → (∀ x ∈ l, 0 ≤ x ∧ x ≤ 255) → Xfg e (i : Int) = some (.go ((i + 1 : Nat) : Int)) := by
  intro i l hi hg hl hb
  unfold Xfg
  simp only [Int.toNat_natCast, hg]
  have hs := side l hl hb
  rw [Xbk (by simp only [List.length_cons, List.length_nil]; omega), Xa0 (by simp only [List.length_cons, List.length_nil]; omega), Xa0 (by simp only [List.length_cons, List.length_nil]; omega)]
  obtain ⟨a, ea, hs⟩ := Xa8 hs
  injection hs with hs
  subst hs
  rw [ea, Xab, Xap, wkA]
  rfl
 unfold Xj5
 have : loop (Xfg e) 0 = some (.out ()) := by
  refine lgo (go 0 e.Above (by omega) rfl h1 h3) (lgo (go 1 e.Left (by omega) rfl h2 h4) (Xg8 ?_))
  unfold Xfg
  rw [Xar (by simp)]
 rw [this, Xab, Xak, Xab, decide_eq_true ⟨h5, h6⟩]
def Ytk (l : List Int) : Nat → Int
 | 0 => 0
 | n + 1 => Ytk l n + l.getD n 0
theorem Xvm {l : List Int} (h : ∀ x ∈ l, 0 ≤ x ∧ x ≤ 255) : ∀ n : Nat, n ≤ l.length → 0 ≤ Ytk l n ∧ Ytk l n ≤ 255 * n
 | 0, _ => by simp [Ytk]
 | n + 1, hn => by
  have a := Xvm h n (by omega)
  have b := h (l.getD n 0) (by rw [Xcd l n (by omega)]; exact List.getElem_mem _)
  rw [Ytk]; omega
theorem Yod {f : Int × Int → Option (Lp (Int × Int) Int)} {l : List Int} (hl : l.length ≤ 64) (h : ∀ x ∈ l, 0 ≤ x ∧ x ≤ 255) (hf : ∀ v, f v = sel (decide (v.2 < (l.length : Int))) (req (0 ≤ v.2 ∧ v.2 < l.length) <| some (.go (Xaa .i64 (v.1 + (l.getD v.2.toNat 0)), Xaa .i64 (v.2 + 1)))) (some (.done v.1))) (a : Int) (ha : 0 ≤ a ∧ a ≤ 100000) : loop f (a, 0) = some (a + Ytk l l.length) := by
 obtain ⟨o, e, ho⟩ := Xpx (f := f) l.length (fun i s => s = a + Ytk l i) (by
  intro i s hi g
  have r := Xvm h i (by omega)
  have b := h (l.getD i 0) (by rw [Xcd l i (by omega)]; exact List.getElem_mem _)
  rw [hf]
  simp only [Int.toNat_natCast]
  rw [syA, rqA, wkA (e := s + l.getD i 0), wkA (e := (i : Int) + 1)]
  exact ⟨_, rfl, by rw [Ytk]; omega⟩) (by intro s; rw [hf, Xar (by simp)]) a (by simp [Ytk])
 rw [e, ho]
theorem Xzy {l : List Int} (hl : l.length ≤ 64) (h : ∀ x ∈ l, 0 ≤ x ∧ x ≤ 255) : Xcb l = some (Ytk l l.length) := by
 unfold Xcb
 rw [Yod (f := Xdp l) hl h (fun _ => rfl) 0 (by omega), Xab, Int.zero_add]
theorem Ywc {e : Xiz} (h : Xtt e) : (sel (decide ((Xaa .i64 ((e.Above.length : Int) + (e.Left.length : Int))) > 0)) (bnd (Xcb e.Above) fun q5 => bnd (Xcb e.Left) fun q6 => req ((2 : Int) ≠ 0) <| req ((Xaa .i64 ((e.Above.length : Int) + (e.Left.length : Int))) ≠ 0) <|
  some (Xaa .i64 ((Xaa .i64 ((Xaa .i64 (q5 + q6)) + (Xaa .i64 ((Xaa .i64 ((e.Above.length : Int) + (e.Left.length : Int))).tdiv 2)))).tdiv (Xaa .i64 ((e.Above.length : Int) + (e.Left.length : Int)))))) (some 128)) = Xpo e := by
 obtain ⟨h1, h2, h3, h4, h5, h6⟩ := h
 unfold Xpo
 have r1 := Xvm h3 e.Above.length (Nat.le_refl _)
 have r2 := Xvm h4 e.Left.length (Nat.le_refl _)
 rw [wkA (e := (e.Above.length : Int) + (e.Left.length : Int))]
 by_cases hz : (e.Above.length : Int) + (e.Left.length : Int) = 0
 ·
  rw [snA, Xbu (by simpa using hz)]
 ·
  rw [syA, Xbg (by simpa using hz), Xzy (by omega) h3, Xab, Xzy (by omega) h4, Xab, rqA, Xa0 hz, rqA, Xbq (a := (e.Above.length : Int) + (e.Left.length : Int)) (by omega), wkA (e := ((e.Above.length : Int) + (e.Left.length : Int)) / 2),
   Yod (f := Xjh e) (by omega) h3 (fun _ => rfl) _ (by omega), Xab, Yod (f := Xji e) (by omega) h4 (fun _ => rfl) _ (by omega), Xab, Xa0 hz, wkA (e := Ytk e.Above e.Above.length + Ytk e.Left e.Left.length), wkA (e := Ytk e.Above e.Above.length + Ytk e.Left e.Left.length + ((e.Above.length : Int) + (e.Left.length : Int)) / 2)]
  congr 3; omega
theorem Yqd (l : List Int) (hl : l.length = 0 ∨ l.length = 8) : ∃ g, Xmh l = some g ∧ g.length = 8 ∧ ∀ k : Nat, k < 8 → Xe6 l k = some (g.getD k 0) := by
 unfold Xmh
 rcases hl with e | e
 ·
  refine ⟨_, Xbu (by rw [e]; rfl), rfl, fun k hk => ?_⟩
  unfold Xe6
  rw [Xbu (by rw [e]; rfl)]
  congr 1
  obtain rfl | rfl | rfl | rfl | rfl | rfl | rfl | rfl : k = 0 ∨ k = 1 ∨ k = 2 ∨ k = 3 ∨ k = 4 ∨ k = 5 ∨ k = 6 ∨ k = 7 := by omega
  all_goals rfl
 ·
  refine ⟨l, Xbg (by rw [e]; rfl), e, fun k hk => ?_⟩
  unfold Xe6
  rw [Xbg (by rw [e]; rfl), rqA, Int.toNat_natCast]
theorem Ymk (n a b : Int) : Xcm n a b = Xev n a b := by rw [Xhi, Xfq]
def Ya0 (m mid v : Int) (A B : List Int) (i : Nat) : Int := sel (m == 0) mid (sel (m == 1) (A.getD (i % 8) 0) (sel (m == 2) (B.getD (i / 8) 0) (Xbn (Xaa .i64 (Xaa .i64 (B.getD (i / 8) 0 + A.getD (i % 8) 0) - v)) 0 255)))
theorem Yua {f1 : Int × List Int → Option (Lp (Int × List Int) (List Int))} {f2 : Int × List Int → Int × List Int → Option (Lp (Int × List Int) (List Int))} (g : Nat → Int)
  (h1 : ∀ v, f1 v = sel (decide (v.1 < 8)) (bnd (loop (f2 v) (0, v.2)) fun w => some (.go (Xaa .i64 (v.1 + 1), w))) (some (.done v.2)))
  (h2 : ∀ (r c : Nat) (a s : List Int), r < 8 → c < 8 → s.length = 8 * r + c → f2 ((r : Int), a) ((c : Int), s) = some (.go (((c + 1 : Nat) : Int), s ++ [g (8 * r + c)])))
  (h3 : ∀ (r : Nat) (a s : List Int), f2 ((r : Int), a) (8, s) = some (.done s)) : loop f1 (0, []) = some ((List.range 64).map g) := by
 obtain ⟨o, e, ho⟩ := Xdt (f := f1) 8 (fun r s => s = (List.range (8 * r)).map g) (by
  intro r s hr hs
  obtain ⟨q, eq, hq⟩ := Xne (f := f2 ((r : Int), s)) 8 (fun c s' => s' = (List.range (8 * r + c)).map g) (by
   intro c s' hc hs'
   exact ⟨_, h2 r c s s' hr hc (by rw [hs']; simp), by rw [hs', show 8 * r + (c + 1) = (8 * r + c) + 1 by omega, List.range_succ, List.map_append]; rfl⟩) (fun z _ => h3 r s z) s hs
  rw [h1]
  refine ⟨q, ?_, by rw [hq, show 8 * (r + 1) = 8 * r + 8 by omega]⟩
  simp only
  rw [syA, eq, Xab, wkA]
  rfl) (by intro s; rw [h1, Xar (by simp)]) [] rfl
 rw [e, ho]
theorem Yoq (m : Int) (hm0 : 0 ≤ m ∧ m ≤ 3) {e : Xiz} (h : Xtt e) : ∃ g, Xf0 m e = some g ∧ Xew m e = some g := by
 have hm : maxLen = 9223372036854775807 := rfl
 obtain ⟨mid, em, m1, m2⟩ := Xwx h
 obtain ⟨A, eA, hA, fA⟩ := Yqd e.Above h.1
 obtain ⟨B, eB, hB, fB⟩ := Yqd e.Left h.2.1
 obtain ⟨v, ev⟩ : ∃ v, sel (decide (e.Corner < 0)) (some (128 : Int)) (some e.Corner) = some v := by rw [Yte]; exact ⟨_, rfl⟩
 refine ⟨(List.range 64).map (Ya0 m mid v A B), ?_, ?_⟩
 ·
  unfold Xf0
  rw [Yfz h, Xab, Xaw, Xak, Xab, decide_eq_true hm0, Bool.not_true, Xab, Xap, Ywc h, em, Xab, eA, Xab, eB, Xab, ev, Xab, Yua (f1 := Xn2 m mid A B v) (f2 := Xgk m mid A B v) (Ya0 m mid v A B) (fun _ => rfl) ?_ ?_, Xab]
  ·
   intro r c a s hr hc hs
   unfold Xgk Ya0
   simp only [Int.toNat_natCast, Xhi, Xab]
   rw [syA, wkA (e := (c : Int) + 1), show (8 * r + c) % 8 = c by omega, show (8 * r + c) / 8 = r by omega]
   cases (m == 0) with
   | true => rw [Xaw, Xa0 (by simp only [List.length_singleton]; omega), Xab]; rfl
   | false =>
    rw [Xap]
    cases (m == 1) with
    | true => rw [Xaw, rqA, Xa0 (by simp only [List.length_singleton]; omega), Xab]; rfl
    | false =>
     rw [Xap]
     cases (m == 2) with
     | true => rw [Xaw, rqA, Xa0 (by simp only [List.length_singleton]; omega), Xab]; rfl
     | false => rw [Xap, rqA, rqA, Xa0 (by simp only [List.length_singleton]; omega), Xab]; rfl
  ·
   intro r a s
   unfold Xgk
   rw [Xar (by simp)]
 ·
  unfold Xew
  rw [Xjo h, Xab, Xaw, Xal, Xab, decide_eq_true hm0, Bool.not_true, Xab, Xap, ev, Xab]
  obtain ⟨o, eo, ho⟩ := Xdt (f := Xea m e v) 64 (fun i s => s = (List.range i).map (Ya0 m mid v A B)) (by
   intro i s hi hs
   have hlen : s.length = i := by rw [hs]; simp
   refine ⟨s ++ [Ya0 m mid v A B i], ?_, by rw [hs, List.range_succ, List.map_append]; rfl⟩
   unfold Xea Ya0
   simp only
   rw [syA, rqA, Xb2 (by omega), show (i : Int) % 8 = ((i % 8 : Nat) : Int) by omega, fA _ (by omega), Xab, rqA, Xbq (by omega), wkA (e := (i : Int) / 8), show (i : Int) / 8 = ((i / 8 : Nat) : Int) by omega, fB _ (by omega), Xab, wkA (e := (i : Int) + 1), em]
   cases (m == 0) with
   | true => rw [Xaw, Xab, Xa0 (by simp only [List.length_singleton]; omega), Xab]; rfl
   | false =>
    rw [Xap]
    cases (m == 1) with
    | true => rw [Xaw, Xa0 (by simp only [List.length_singleton]; omega), Xab]; rfl
    | false =>
     rw [Xap]
     cases (m == 2) with
     | true => rw [Xaw, Xa0 (by simp only [List.length_singleton]; omega), Xab]; rfl
     | false => rw [Xap, Xfq, Xab, Xa0 (by simp only [List.length_singleton]; omega), Xab]; rfl) (by intro s; unfold Xea; rw [Xar (by simp)]) [] rfl
  rw [eo, Xab, ho]
theorem Xr0 (m : Int) (hm0 : 0 ≤ m ∧ m ≤ 3) {e : Xiz} (h : Xtt e) : Xf0 m e = Xew m e := by
 obtain ⟨g, h1, h2⟩ := Yoq m hm0 h
 rw [h1, h2]
theorem Ycp (g b : List Int) (hg : Xbr g = true) (hl : b.length = 64) (hb : inB 10000000 b) : Xl5 g b = Xms g b := by
 obtain ⟨g1, g2⟩ := Xbo hg
 unfold Xl5 Xms
 rw [Xgt g hg, Xhq g (by omega), hg, Xqx b 64 10000000 (by omega) (by omega) hb, Xcl b 64 10000000 (by omega) (by omega) (by omega) hb]
 have : Xmz g b = Xg5 g b := by
  funext v
  unfold Xmz Xg5
  simp only [Ymk, show ((g.length : Nat) : Int) = 64 by omega]
 simp only [Xab, Xaw, Bool.not_true, Xap, this]
theorem Yqt {s : Xam} (h : Xuz s = true) (h1 : s.Kind = 0) : s.Dx = 0 ∧ s.Dy = 0 := by
 unfold Xuz at h
 rw [h1] at h
 simp at h
 exact ⟨h.2.1, h.2.2.1⟩
theorem Yyr {s : Xam} (h : Xuz s = true) : (-16 ≤ s.Dx ∧ s.Dx ≤ 16) ∧ (-16 ≤ s.Dy ∧ s.Dy ≤ 16) := by
 have hk := Xu0 h
 obtain h1 | h1 | h1 : s.Kind = 0 ∨ s.Kind = 1 ∨ s.Kind = 2 := by omega
 ·
  obtain ⟨a, b⟩ := Yqt h h1; omega
 ·
  obtain ⟨a, b, _⟩ := Xvl h h1; exact ⟨a, b⟩
 ·
  unfold Xuz at h
  rw [h1] at h
  simp at h
  omega
theorem Yre (s : Xam) (c : Xe9) : Xd7 s c = some (Xsz s c) := by
 unfold Xd7 Xsz
 cases c.Key <;> rfl
structure Zdh (now ref : Pic) (l t x y : Int) (c : Xe9) (q : Xam) : Prop where
 ok : Xc0 now = true
 hx : x.tmod 8 = 0
 hy : y.tmod 8 = 0
 h0 : Xdb now x y = true
 hl : 0 ≤ l ∧ l ≤ 256
 ht : 0 ≤ t ∧ t ≤ 256
 hc : Xiq c = true
 hs : q.Levels.length ≤ 1048576
theorem Xto {now ref : Pic} {l t x y : Int} {c : Xe9} {q : Xam} (h : Zdh now ref l t x y c q) (hq : Xuz q = true) (hL : Xsz q c = true) (hr : c.Key = false → Xc0 ref = true) : ∃ d, Xd6 now ref l t c x y q = some (d, true) ∧ Xfw now ref l t c x y q = some (d, true) ∧ Xbr d = true := by
 obtain ⟨ok, hx, hy, h0, hl, ht, hc, hs⟩ := h
 obtain ⟨k1, k2, k3⟩ := Xbj ok
 have h0' := h0
 unfold Xdb at h0'
 rw [decide_eq_true_eq] at h0'
 have dxy := Yyr hq
 unfold Xfw Xd6
 rw [Xgu ok hx hy h0, Xab, Xaw, Xal, Xab, decide_eq_true hl, Xaw, Xal, Xab, decide_eq_true ht, Xaw, Ye6, Xab, hq, Xaw, Xg4, Xab, hc, Bool.not_true, Xab, Xap]
 rw [Xc6, Xab, ok, Xaw, Xue ok hx hy h0, Xab, Xaw, Xak, Xab, decide_eq_true hl, Xaw, Xak, Xab, decide_eq_true ht, Xaw, Xn6 q (by omega), Xab, hq, Xaw, Xez, Xab, hc, Xaw, Yre, Xab, hL, Xaw]
 by_cases h2 : q.Kind = 2
 ·
  obtain ⟨hm, hlv⟩ := Yao hq h2
  obtain ⟨e, ee, he⟩ := Xul ok hx hy h0
  obtain ⟨b, eb, b1, b2⟩ := Xqb q.Levels c hc hlv
  obtain ⟨g, eg, hg⟩ := Xlj q.Mode hm he
  obtain ⟨j, ej, hj⟩ := Xwq g b hg b1 b2
  refine ⟨j, ?_, ?_, hj⟩
  ·
   rw [Xbg (b := q.Kind != 2) (by simpa using h2), Xab, Xap, Xbg (by rw [h2]; rfl), Xs2 q.Levels c hc hlv, eb, Xab, Xbg (by rw [h2]; rfl), Xx6 ok hx hy h0, ee, Xab, Xr0 q.Mode hm he, eg, Xab, Ycp g b hg b1 b2, ej, Xab]
  ·
   rw [Xbu (by simpa using h2), ee, Xab, eb, Xab, eg, Xab, ej, Xab]
 ·
  have hK : c.Key = false := by
   unfold Xsz at hL
   cases hk : c.Key with
   | false => rfl
   | true => rw [hk] at hL; simp at hL; exact absurd hL h2
  have rok := hr hK
  rw [Xbu (b := q.Kind != 2) (by simpa using h2), Xc6, Xab, rok, Bool.not_true, Xab, Xap]
  rw [Xbg (b := q.Kind == 2) (by simpa using h2), hK, Xap, Xgf, Xab, rok, Bool.not_true, Xab, Xap]
  rw [wkA (e := l + x), wkA (e := l + x + q.Dx), wkA (e := t + y), wkA (e := t + y + q.Dy), Xlg rok _ _ (by omega) (by omega), Xab, Xgc rok _ _ (by omega) (by omega), Xab, Xgc rok _ _ (by omega) (by omega)]
  by_cases h3 : q.Kind = 0
  ·
   obtain ⟨z1, z2⟩ := Yqt hq h3
   rw [Xbu (b := q.Kind == 0) (by simpa using h3), Xbu (b := q.Kind == 0) (by simpa using h3), z1, z2, Int.add_zero, Int.add_zero]
   exact ⟨_, rfl, rfl, Xkt _ _ _⟩
  ·
   have h1 : q.Kind = 1 := by have := Xu0 hq; omega
   obtain ⟨_, _, hlv⟩ := Xvl hq h1
   obtain ⟨b, eb, b1, b2⟩ := Xqb q.Levels c hc hlv
   obtain ⟨j, ej, hj⟩ := Xwq _ b (Xkt ref (l + x + q.Dx) (t + y + q.Dy)) b1 b2
   rw [Xbg (b := q.Kind == 0) (by simpa using h3), Xbg (b := q.Kind == 0) (by simpa using h3), Xs2 q.Levels c hc hlv, eb, Xab, Xab, Xbu (b := q.Kind == 1) (by simpa using h1), Xab, Ycp _ b (Xkt _ _ _) b1 b2, ej, Xab]
   exact ⟨_, rfl, rfl, hj⟩
theorem Yyg {β : Type} {a b c : Prop} [Decidable a] [Decidable b] [Decidable c] (hb : b) (hc : c) (k : Option β) : req a (req b (req c k)) = req b (req c (req a k)) := by
 rw [Xa0 hb, Xa0 hc, Xa0 hb, Xa0 hc]
theorem Yxy {p : Pic} (ok : Xc0 p = true) : p.Dots.size ≤ 65536 := by
 obtain ⟨k1, k2, k3⟩ := Xbj ok
 have := Xgv k1 k2
 omega
theorem Ywj {p : Pic} {x y : Int} {d : List Int} (hd : Xbr d = true) (hp : p.Dots.size ≤ maxLen) : Xzr p x y d = Xh6 p x y d := by
 obtain ⟨d1, d2⟩ := Xbo hd
 unfold Xzr Xh6 Xzm
 rw [Xa0 hp, Xab, Xa0 hp]
 have : Xsd p x y d = Xc7 p x y d := by
  funext v
  unfold Xsd Xc7
  simp only [show ((d.length : Nat) : Int) = 64 by omega]
  exact Yae (fun _ => Yyg (by omega) (by omega) _) fun _ => rfl
 rw [this]
theorem Ywa (n : Nat) (x : Int) : ((List.range n).map fun _ => x) = List.replicate n x := by
 apply List.ext_getElem
 ·
  simp
 ·
  intro i h1 h2; simp
theorem Ypq (w h : Int) (hw : 1 ≤ w ∧ w ≤ 256) (hh : 1 ≤ h ∧ h ≤ 256) : Xt2 w h = some ⟨w, h, strOfNums (List.replicate (w * h).toNat 128)⟩ := by
 have ar := Xgv hw hh
 unfold Xt2
 rw [Xak, Xab, decide_eq_true hw, Xaw, Xak, Xab, decide_eq_true hh, Bool.not_true, Xab, Xap, wkA (e := w * h), rqA]
 rw [Yuh (f := Xni w h) (w * h).toNat (fun _ => 128) (List.replicate (w * h).toNat 0) (by simp) ?_ ?_, Xab, Ywa]
 ·
  intro i s hi hs _
  unfold Xni
  simp only [List.length_replicate, Int.toNat_natCast]
  rw [wkA (e := w * h), syA, rqA, rqA, wkA]
  rfl
 ·
  intro s hs
  unfold Xni
  simp only [List.length_replicate]
  rw [wkA (e := w * h), snA]
theorem Xwj (n : Int) : Xmg n = some (Xx1 n) := by
 unfold Xmg Xx1
 rw [rqA, Xak, Xab, Xdh, Xab, Yq7]
theorem Yuz {w h : Int} (hw : Xx1 w = true) (hh : Xx1 h = true) (i : Nat) (hi : (i : Int) < w / 8 * (h / 8)) : (8 ≤ w ∧ w ≤ 64) ∧ (8 ≤ h ∧ h ≤ 64) ∧ 1 ≤ w / 8 ∧ w / 8 ≤ 8 ∧ 1 ≤ h / 8 ∧ h / 8 ≤ 8 ∧ 0 ≤ (i : Int) % (w / 8) * 8 ∧ (i : Int) % (w / 8) * 8 ≤ w - 8 ∧ 0 ≤ (i : Int) / (w / 8) * 8 ∧ (i : Int) / (w / 8) * 8 ≤ h - 8 := by
 unfold Xx1 at hw hh
 rw [Bool.and_eq_true, decide_eq_true_eq, decide_eq_true_eq] at hw hh
 rw [Xb2 (by omega)] at hw hh
 have h1 : 1 ≤ w / 8 ∧ w / 8 ≤ 8 := by omega
 have h2 : 1 ≤ h / 8 ∧ h / 8 ≤ 8 := by omega
 have m0 : 0 ≤ (i : Int) % (w / 8) := Int.emod_nonneg _ (by omega)
 have m1 : (i : Int) % (w / 8) < w / 8 := Int.emod_lt_of_pos _ (by omega)
 have d0 : 0 ≤ (i : Int) / (w / 8) := Int.ediv_nonneg (by omega) (by omega)
 have d1 : (i : Int) / (w / 8) < h / 8 := Int.ediv_lt_of_lt_mul (by omega) (by rw [Int.mul_comm]; exact hi)
 exact ⟨hw.2, hh.2, h1.1, h1.2, h2.1, h2.2, by omega, by omega, by omega, by omega⟩
theorem Xge {w : Int} (hw : Xx1 w = true) : w % 8 = 0 ∧ 8 ≤ w ∧ w ≤ 64 := by
 unfold Xx1 at hw
 rw [Bool.and_eq_true, decide_eq_true_eq, decide_eq_true_eq] at hw
 rw [Xb2 (by omega)] at hw
 exact ⟨hw.1, hw.2⟩
theorem Yi9 (l : List Int) : Xf4 l = some (Xbr l) := by
 unfold Xf4 Xbr
 by_cases h : l.length = 64
 ·
  rw [Xbg (by simp only [bne_eq_false_iff_eq]; omega), Yfj Yrb l (Xef l) (by
   intro i hi
   unfold Xef
   rw [syA, rqA, Xal, Xab, wkA, Int.toNat_natCast]
   rfl) (by unfold Xef; rw [snA]), Xab, decide_eq_true h, Bool.true_and]
  cases l.all Yrb <;> rfl
 ·
  rw [Xbu (by simp only [bne_iff_ne, ne_eq]; omega), decide_eq_false h, Bool.false_and]
theorem Yy9 (m : Int) (h : 0 ≤ m ∧ m ≤ 3) : ∃ s, Xma m = some s ∧ Xmw m = some s := by
 have e1 : Xmw m = some (((strOfNums (ueL m.toNat)).size : Nat) : Int) := by
  unfold Xmw Yce
  rw [Xal, Xab, decide_eq_true (by omega), Bool.not_true, Xap]
  have : Xrx m = some (strOfNums (ueL m.toNat)) := by
   have := Xsy m.toNat (by omega)
   rwa [show ((m.toNat : Nat) : Int) = m by omega] at this
  rw [this, Xab, Xab]
 have e2 : Xma m = some (((strOfNums (ueL m.toNat)).size : Nat) : Int) := by
  unfold Xma Xos
  rw [Xak, Xab, decide_eq_true (by omega), Bool.not_true, Xap]
  have : Xit m = some (strOfNums (ueL m.toNat)) := by
   have := Xfp m.toNat (by omega)
   rwa [show ((m.toNat : Nat) : Int) = m by omega] at this
  rw [this, Xab, Xab]
 exact ⟨_, e2, e1⟩
theorem Yfy {w : List Int} (hw : Xbr w = true) {e : Xiz} (h : Xtt e) : Xi1 w e = Xi9 w e := by
 have hwl := (Xbo hw).1
 unfold Xi1 Xi9
 rw [Yfz h, Xjo h, Xhq w (by omega), Yi9, hw]
 have : loop (Xh9 w e) (0, -1, 0) = loop (Xdz w e) (0, -1, 0) := by
  refine Xml (fun v => 0 ≤ v.2.2 ∧ v.2.2 ≤ 4) ?_ ?_ (by simp)
  ·
   intro ⟨m, c, i⟩ ⟨h1, h2⟩
   simp only at h1 h2
   unfold Xh9 Xdz
   simp only
   by_cases hi : i < 4
   ·
    obtain ⟨g, eg, hg⟩ := Xlj i ⟨h1, by omega⟩ h
    obtain ⟨s, e1, e2⟩ := Yy9 i ⟨h1, by omega⟩
    rw [Xbk (show i ≤ 3 by omega), Xbk hi, Xr0 i ⟨h1, by omega⟩ h, eg, Xab, Xab, Xsc hw hg, Xsr hw hg, Xab, Xab, e1, e2]
   ·
    rw [Xar (show ¬ i ≤ 3 by omega), Xar hi]
  ·
   intro ⟨m, c, i⟩ v' ⟨h1, h2⟩ he
   simp only at h1 h2
   unfold Xdz at he
   rcases Xjn he with ⟨hb, he⟩ | ⟨_, he⟩
   ·
    have hi := of_decide_eq_true hb
    simp only at hi
    obtain ⟨q, _, he⟩ := Xa8 he
    injection he with he
    injection he with he
    subst he
    simp only
    rw [wkA]; omega
   ·
    cases he
 simp only [Xab, Xaw, Bool.not_true, Xap, this]
theorem Yjk {p : Pic} {w : List Int} {x y r : Int} (ok : Xc0 p = true) (hw : Xbr w = true) (hr : 0 ≤ r ∧ r ≤ 4) (hx : x.tmod 8 = 0) (hy : y.tmod 8 = 0) (h0 : Xdb p x y = true) : Xdl p w x y r = Xoo p w x y r := by
 obtain ⟨k1, k2, k3⟩ := Xbj ok
 have hwl := (Xbo hw).1
 have h0' := h0
 unfold Xdb at h0'
 rw [decide_eq_true_eq] at h0'
 unfold Xdl Xoo
 rw [Xc6, Xab, ok, Xaw, Xhq w (by omega), Xab, hw, Xaw, Xak, Xab, decide_eq_true hr, Xaw, Xn9 ok x y hx hy h0, Xab, Bool.not_true, Xab, Xap]
 rw [Xgt w hw, Xab, Xaw, Xal, Xab, decide_eq_true hr, Xaw, Xgu ok hx hy h0, Xab, Bool.not_true, Xab, Xap, wkA (e := 0 - r)]
 refine Ytz ?_ fun _ _ => rfl
 refine Xml (fun s => -r ≤ s.2.2.2 ∧ s.2.2.2 ≤ r + 1) ?_ ?_ (by simp only; omega)
 ·
  intro s ⟨g1, g2⟩
  unfold Xff Xmp
  refine Yae (fun hs => ?_) fun _ => rfl
  have hs := of_decide_eq_true hs
  rw [wkA (e := 0 - r)]
  refine Ytz ?_ fun _ _ => rfl
  refine Xml (fun v => -r ≤ v.2.2.2 ∧ v.2.2.2 ≤ r + 1) ?_ ?_ (by simp only; omega)
  ·
   intro v ⟨f1, f2⟩
   unfold Xcv Xmq
   refine Yae (fun hv => ?_) fun _ => rfl
   have hv := of_decide_eq_true hv
   rw [wkA (e := x + v.2.2.2), wkA (e := y + s.2.2.2), Ycx ok, Xti ok, Xab, Xab]
   refine Ytz ?_ fun _ _ => rfl
   refine Yae (fun _ => rfl) fun _ => ?_
   have hb := Xkt p (x + v.2.2.2) (y + s.2.2.2)
   rw [Xlg ok _ _ (by omega) (by omega), Xgc ok _ _ (by omega) (by omega), Xab, Xab, Xsr hw hb, Xsc hw hb, Xab, Xab, Xwr _ (by omega), Xm0 _ (by omega), Xab, Xab, Xwr _ (by omega), Xm0 _ (by omega), Xab]
  ·
   intro v v' ⟨f1, f2⟩ he
   unfold Xmq at he
   rcases Xjn he with ⟨hb, he⟩ | ⟨_, he⟩
   ·
    have hi := of_decide_eq_true hb
    obtain ⟨q, _, he⟩ := Xa8 he
    injection he with he
    injection he with he
    subst he
    simp only
    rw [wkA]; omega
   ·
    cases he
 ·
  intro s v' ⟨g1, g2⟩ he
  unfold Xmp at he
  rcases Xjn he with ⟨hb, he⟩ | ⟨_, he⟩
  ·
   have hi := of_decide_eq_true hb
   obtain ⟨q, _, he⟩ := Xa8 he
   injection he with he
   injection he with he
   subst he
   simp only
   rw [wkA]; omega
  ·
   cases he
def Xxv (a b : List Int) : List Int := (List.range 64).map fun i => a.getD i 0 - b.getD i 0
theorem Xph (a b : List Int) : (Xxv a b).length = 64 := by simp [Xxv]
theorem Ynk (a b : List Int) {i : Nat} (hi : i < 64) : (Xxv a b).getD i 0 = a.getD i 0 - b.getD i 0 := Xha _ hi
theorem Yfr {a b : List Int} (ha : Xbr a = true) (hb : Xbr b = true) : inB 255 (Xxv a b) := by
 intro x hx
 obtain ⟨i, hi, rfl⟩ := List.mem_map.1 hx
 rw [List.mem_range] at hi
 have p := (Xbo ha).2 i hi
 have q := (Xbo hb).2 i hi
 omega
theorem Yp5 {a b : List Int} (ha : Xbr a = true) (hb : Xbr b = true) {f : Int × List Int → Option (Lp (Int × List Int) (List Int))} (hf : ∀ v, f v = sel (decide (v.1 < 64)) (req (0 ≤ v.1 ∧ v.1 < a.length) <| req (0 ≤ v.1 ∧ v.1 < b.length) <| req ((v.2.length + ([Xaa .i64 ((a.getD v.1.toNat 0) - (b.getD v.1.toNat 0))]).length) * 8 ≤ 140737488355328 ∧ v.2.length + ([Xaa .i64 ((a.getD v.1.toNat 0) - (b.getD v.1.toNat 0))]).length ≤ maxLen) <| some (.go (Xaa .i64 (v.1 + 1), (v.2 ++ ([Xaa .i64 ((a.getD v.1.toNat 0) - (b.getD v.1.toNat 0))]))))) (some (.done v.2))) : loop f (0, []) = some (Xxv a b) := by
 have hm : maxLen = 9223372036854775807 := rfl
 obtain ⟨a1, a2⟩ := Xbo ha
 obtain ⟨b1, b2⟩ := Xbo hb
 have := Ysb (f := f) 64 (fun i => a.getD i 0 - b.getD i 0) [] (by
  intro i hi
  have x := a2 i hi
  have y := b2 i hi
  rw [hf]
  simp only [Int.toNat_natCast]
  rw [syA, rqA, rqA, Xa0 (by simp only [List.length_append, List.length_nil, List.length_map, List.length_range, List.length_singleton]; omega), wkA (e := a.getD i 0 - b.getD i 0), wkA (e := (i : Int) + 1)]
  rfl) (by rw [hf, Xar (by simp)])
 rw [List.nil_append] at this
 exact this
theorem Xta {a b : List Int} (ha : Xbr a = true) (hb : Xbr b = true) : Xgd a b = some (Xxv a b) := by
 have a1 := (Xbo ha).1
 unfold Xgd
 rw [Yp5 ha hb (f := Xjl a b) (fun v => by unfold Xjl; rw [show ((a.length : Nat) : Int) = 64 by omega]), Xab]
theorem Xlv {a b : List Int} (ha : Xbr a = true) (hb : Xbr b = true) : Xnw a b = some (Xxv a b) := by
 have a1 := (Xbo ha).1
 unfold Xnw
 rw [Yp5 ha hb (f := Xpp a b) (fun v => by unfold Xpp; rw [show ((a.length : Nat) : Int) = 64 by omega]), Xab]
theorem Xuy (l : List Int) (hl : l.length ≤ 1000000) : Xqg l = some (l.all fun x => x == 0) := by
 unfold Xqg
 rw [Yfj (fun x => x == 0) l (Xly l) (by
  intro i hi
  unfold Xly
  rw [syA, rqA, Int.toNat_natCast, wkA]
  rfl) (by unfold Xly; rw [snA]), Xab]
 cases l.all (fun x => x == 0) <;> rfl
theorem Yx6 {a b : List Int} (ha : Xbr a = true) (hb : Xbr b = true) : (Xo0 a b 64 == 0) = ((Xxv a b).all fun x => x == 0) := by
 have key : ∀ n : Nat, n ≤ 64 → (Xo0 a b n = 0 ↔ ∀ i, i < n → a.getD i 0 - b.getD i 0 = 0) := by
  intro n
  induction n with
  | zero => intro _; exact ⟨fun _ i hi => by omega, fun _ => rfl⟩
  | succ n ih =>
   intro hn
   have g := Xj2 ha hb n (by omega)
   have e : Xo0 a b (n + 1) = Xo0 a b n + Yct (a.getD n 0 - b.getD n 0) := rfl
   have ab : 0 ≤ Yct (a.getD n 0 - b.getD n 0) ∧ (Yct (a.getD n 0 - b.getD n 0) = 0 ↔ a.getD n 0 - b.getD n 0 = 0) := by unfold Yct; split <;> omega
   rw [e]
   constructor
   ·
    intro h i hi
    rcases Nat.lt_or_ge i n with h1 | h1
    ·
     exact (ih (by omega)).1 (by omega) i h1
    ·
     have : i = n := by omega
     subst this
     exact ab.2.1 (by omega)
   ·
    intro h
    have h1 := (ih (by omega)).2 fun i hi => h i (by omega)
    have h2 := ab.2.2 (h n (by omega))
    omega
 rw [Bool.eq_iff_iff, beq_iff_eq, List.all_eq_true, key 64 (by omega)]
 constructor
 ·
  intro h x hx
  obtain ⟨i, hi, rfl⟩ := List.mem_map.1 hx
  rw [List.mem_range] at hi
  rw [beq_iff_eq]; exact h i hi
 ·
  intro h i hi
  have := h ((Xxv a b).getD i 0) (by rw [Xcd _ i (by rw [Xph]; exact hi)]; exact List.getElem_mem _)
  rw [beq_iff_eq, Ynk a b hi] at this
  exact this
theorem Ytu (l : List Int) (hl : l.length = 64) : Xbi l 64 0 0 = some (l.all fun x => x == 0) := by
 rw [Xk5 l 64 0 0 (by omega), show ((l.length : Int) == 64) = true by rw [beq_iff_eq]; omega, Bool.and_true]
 congr 2
 funext x
 rw [Bool.eq_iff_iff, decide_eq_true_eq, beq_iff_eq]; omega
structure Zbc (now ref : Pic) (w : List Int) (x y : Int) (c : Xe9) (r : Int) : Prop where
 ok : Xc0 now = true
 hx : x.tmod 8 = 0
 hy : y.tmod 8 = 0
 h0 : Xdb now x y = true
 hw : Xbr w = true
 hc : Xiq c = true
 hr : 0 ≤ r ∧ r ≤ 4
 hk : c.Key = false → Xc0 ref = true ∧ ref.Wide = now.Wide ∧ ref.High = now.High
inductive Xs1 (now ref : Pic) (w : List Int) (x y : Int) (c : Xe9) (r : Int) : Xam → Prop
 | same (hK : c.Key = false) (h : ∀ i : Nat, i < 64 → w.getD i 0 = (Xqw ref x y 64).getD i 0) : Xs1 now ref w x y c r ⟨0, 0, 0, 0, []⟩
 | still (hK : c.Key = false) (l : List Int) (h : Xds (Xxv w (Xqw ref x y 64)) c = some (l, true)) (hl : Yft l = true) (hz : ∀ i : Nat, i < 64 → l.getD i 0 = 0) : Xs1 now ref w x y c r ⟨0, 0, 0, 0, []⟩
 | move (hK : c.Key = false) (dx dy : Int) (hdx : -r ≤ dx ∧ dx ≤ r) (hdy : -r ≤ dy ∧ dy ≤ r) (hh : Xdb ref (x + dx) (y + dy) = true) (l : List Int) (h : Xds (Xxv w (Xqw ref (x + dx) (y + dy) 64)) c = some (l, true)) (hl : Yft l = true) (hn : ¬ ∀ i : Nat, i < 64 → w.getD i 0 = (Xqw ref x y 64).getD i 0) : Xs1 now ref w x y c r ⟨1, 0, dx, dy, l⟩
 | guess (e : Xiz) (he : Xh0 now x y = some (e, true)) (hp : Xtt e) (m : Int) (hm : 0 ≤ m ∧ m ≤ 3) (g : List Int) (hg : Xew m e = some g) (hd : Xbr g = true) (l : List Int) (h : Xds (Xxv w g) c = some (l, true)) (hl : Yft l = true) (hn : c.Key = false → ¬ ∀ i : Nat, i < 64 → w.getD i 0 = (Xqw ref x y 64).getD i 0) : Xs1 now ref w x y c r ⟨2, m, 0, 0, l⟩
theorem Xs1.ok {now ref : Pic} {w : List Int} {x y : Int} {c : Xe9} {r : Int} {q : Xam} (hr : 0 ≤ r ∧ r ≤ 4) (h : Xs1 now ref w x y c r q) : Xuz q = true ∧ Xsz q c = true ∧ q.Levels.length ≤ 64 := by
 cases h with
 | same hK _ => exact ⟨rfl, by unfold Xsz; rw [hK]; rfl, by simp⟩
 | still hK l _ _ _ => exact ⟨rfl, by unfold Xsz; rw [hK]; rfl, by simp⟩
 | move hK dx dy hdx hdy hh l h hl hn => exact ⟨Yw2 (by omega) (by omega) hl, by unfold Xsz; rw [hK]; rfl, by simp only; have := (Yic hl).1; omega⟩
 | guess e he hp m hm g hg hd l h hl hn => exact ⟨Yut hm hl, by unfold Xsz; simp, by simp only; have := (Yic hl).1; omega⟩
theorem Ytr {l : List Int} (hl : l.length = 64) : (l.all fun x => x == 0) = true ↔ ∀ i : Nat, i < 64 → l.getD i 0 = 0 := by
 rw [List.all_eq_true]
 constructor
 ·
  intro h i hi
  have := h (l.getD i 0) (by rw [Xcd l i (by omega)]; exact List.getElem_mem _)
  rwa [beq_iff_eq] at this
 ·
  intro h x hx
  obtain ⟨i, hi, rfl⟩ := List.getElem_of_mem hx
  rw [beq_iff_eq, ← Xcd l i hi 0]
  exact h i (by omega)
theorem Yl8 {p : Pic} {w : List Int} {x y r : Int} (ok : Xc0 p = true) (hw : Xbr w = true) (hr : 0 ≤ r ∧ r ≤ 4) (hx : x.tmod 8 = 0) (hy : y.tmod 8 = 0) (h0 : Xdb p x y = true) :
  ∃ b, Xdl p w x y r = some b ∧ Xoo p w x y r = some b ∧ (-r ≤ b.1 ∧ b.1 ≤ r) ∧ (-r ≤ b.2.1 ∧ b.2.1 ≤ r) ∧ Xdb p (x + b.1) (y + b.2.1) = true := by
 obtain ⟨b, e, h1, h2, h3, _⟩ := Ydk ok hw hr hx hy h0
 exact ⟨b, e, by rw [← Yjk ok hw hr hx hy h0]; exact e, h1, h2, h3⟩
theorem Xr2 {now ref : Pic} {w : List Int} {x y : Int} {c : Xe9} {r : Int} (H : Zbc now ref w x y c r) : ∃ q d, Xe0 now ref w x y c r = some (q, d, true) ∧ Xm8 now ref w x y c r = some (q, d, true) ∧ Xs1 now ref w x y c r q ∧ Xd6 now ref 0 0 c x y q = some (d, true) ∧ Xbr d = true := by
 obtain ⟨ok, hx, hy, h0, hw, hc, hr, hk⟩ := H
 have hwl := (Xbo hw).1
 obtain ⟨e, ee, he⟩ := Xul ok hx hy h0
 obtain ⟨m, co, eb, hm⟩ := Yb4 hw he
 obtain ⟨g, eg, hg⟩ := Xlj m hm he
 obtain ⟨l, el, hl⟩ := Xtd (Xxv w g) c hc (Xph w g) (Yfr hw hg)
 have hh := h0
 unfold Xdb at hh
 rw [decide_eq_true_eq] at hh
 obtain ⟨k1, k2, k3⟩ := Xbj ok
 -- the square
 have main : ∃ q, Xs1 now ref w x y c r q ∧ Xqu now ref w x y c r = some q ∧
   (sel (!c.Key) (bnd (Xbw ref x y) fun q15 => bnd (Xp3 w q15) fun q16 => sel (q16 == 0) (some ((0 : Int), (0 : Int), (0 : Int), (0 : Int), ([] : List Int))) (bnd (Xdl ref w x y r) fun q17 => sel (decide (q17.2.2 ≤ co)) (bnd (Xbw ref (Xaa .i64 (x + q17.1)) (Xaa .i64 (y + q17.2.1))) fun q18 => bnd (Xgd w q18) fun q19 => bnd (Xf8 q19 c) fun q20 =>
    bnd (sel (q17.1 == 0) (sel (q17.2.1 == 0) (bnd (Xbi q20.1 64 0 0) fun q22 => some q22) (some false)) (some false)) fun v21 => sel v21 (some (0, 0, 0, 0, [])) (some (1, 0, q17.1, q17.2.1, q20.1))) (some (2, m, 0, 0, l)))) (some (2, m, 0, 0, l))) = some (q.Kind, q.Mode, q.Dx, q.Dy, q.Levels) := by
  unfold Xqu
  cases hK : c.Key with
  | true =>
   refine ⟨⟨2, m, 0, 0, l⟩, .guess e ee he m hm g eg hg l el hl (fun h => by rw [hK] at h; cases h), ?_, rfl⟩
   rw [Xaw, Xab, Xap, ee, Xab, eb, Xab, Bool.not_true]
   simp only [Yp0, Xap, eg, Xab, Xlv hw hg, el]
  | false =>
   obtain ⟨rok, rw', rh⟩ := hk hK
   have hb := Xkt ref x y
   have r0 : Xdb ref x y = true := by unfold Xdb; rw [decide_eq_true_eq, rw', rh]; exact hh
   have gz := Yx6 hw hb
   have lz := Ytr (Xph w (Xqw ref x y 64))
   rw [Bool.not_false, Xaw, Xap, Xgc rok x y (by omega) (by omega), Xab, Xsc hw hb, Xab, Xlg rok x y (by omega) (by omega), Xab, Xlv hw hb, Xab, Xuy _ (by rw [Xph]; omega), Xab, Xab, gz]
   cases hz : ((Xxv w (Xqw ref x y 64)).all fun x => x == 0) with
   | true =>
    refine ⟨⟨0, 0, 0, 0, []⟩, .same hK fun i hi => ?_, rfl, rfl⟩
    have := lz.1 hz i hi
    rw [Ynk _ _ hi] at this; omega
   | false =>
    have hne : ¬ ∀ i : Nat, i < 64 → w.getD i 0 = (Xqw ref x y 64).getD i 0 := fun hall => by
     have := lz.2 fun i hi => by rw [Ynk _ _ hi, hall i hi]; omega
     rw [hz] at this; cases this
    obtain ⟨b, bi, bs, b1, b2, b3⟩ := Yl8 rok hw hr hx hy r0
    rw [Xap, Xap, ee, Xab, eb, Xab, bi, Xab]
    simp only [Yp0, Xaw, bs, Xab]
    by_cases hco : b.2.2 ≤ co
    ·
     have hb2 := Xkt ref (x + b.1) (y + b.2.1)
     obtain ⟨l2, el2, hl2⟩ := Xtd (Xxv w (Xqw ref (x + b.1) (y + b.2.1) 64)) c hc (Xph _ _) (Yfr hw hb2)
     have hl2n := (Yic hl2).1
     rw [Xbk hco, Xbk hco, wkA (e := x + b.1), wkA (e := y + b.2.1), Xlg rok _ _ (by omega) (by omega), Xgc rok _ _ (by omega) (by omega), Xab, Xab, Xta hw hb2, Xlv hw hb2, Xab, Xab, Xv1 _ c hc (Xph _ _) (Yfr hw hb2), el2, Xab, Xab, Ytu l2 hl2n, Xab, Xuy l2 (by omega), Xab]
     simp only [Xdh, Xab]
     cases hst : (b.1 == 0 && (b.2.1 == 0 && l2.all fun x => x == 0)) with
     | true =>
      simp only [Bool.and_eq_true, beq_iff_eq] at hst
      obtain ⟨z1, z2, z3⟩ := hst
      rw [z1, z2, Int.add_zero, Int.add_zero] at el2
      exact ⟨⟨0, 0, 0, 0, []⟩, .still hK l2 el2 hl2 ((Ytr hl2n).1 z3), rfl, rfl⟩
     | false => exact ⟨⟨1, 0, b.1, b.2.1, l2⟩, .move hK b.1 b.2.1 b1 b2 b3 l2 el2 hl2 hne, rfl, rfl⟩
    ·
     rw [Xar hco, Xar hco]
     refine ⟨⟨2, m, 0, 0, l⟩, .guess e ee he m hm g eg hg l el hl (fun _ => hne), ?_, rfl⟩
     simp only [eg, Xab, Xlv hw hg, el]
 obtain ⟨q, hq, es, ei⟩ := main
 obtain ⟨q1, q2, q3⟩ := hq.ok hr
 obtain ⟨d, di, ds, hd⟩ := Xto (now := now) (ref := ref) (l := 0) (t := 0) (x := x) (y := y) (c := c) (q := q) ⟨ok, hx, hy, h0, by omega, by omega, hc, by omega⟩ q1 q2 (fun h => (hk h).1)
 refine ⟨q, d, ?_, ?_, hq, di, hd⟩
 ·
  unfold Xe0
  have hl7 : (sel c.Key (some false) (bnd (Xcw ref) fun q8 => sel q8 (sel (ref.Wide != now.Wide) (some true) (some (ref.High != now.High))) (some true))) = some false := by
   cases hK : c.Key with
   | true => rfl
   | false =>
    obtain ⟨a1, a2, a3⟩ := hk hK
    rw [Xap, Xc6, Xab, a1, a2, a3, Xaw, bne_self_eq_false, Xap, bne_self_eq_false]
  rw [Xc6, Xab, ok, Xaw, Xue ok hx hy h0, Xab, Xaw, Xhq w (by omega), Xab, hw, Xaw, Xez, Xab, hc, Xaw, Xak, Xab, decide_eq_true hr, Bool.not_true, Xab, Xap, hl7, Xab, Xap, Xx6 ok hx hy h0, ee, Xab, Yfy hw he, eb, Xab, Xr0 m hm he, eg, Xab, Xta hw hg, Xab, Xv1 _ c hc (Xph _ _) (Yfr hw hg), el, Xab]
  simp only
  rw [ei, Xab]
  simp only
  rw [show (⟨q.Kind, q.Mode, q.Dx, q.Dy, q.Levels⟩ : Xam) = q from rfl, di, Xab]
  rfl
 ·
  unfold Xm8
  have hl7 : (sel c.Key (some false) (bnd (Xqf now ref) fun q6 => some (!q6))) = some false := by
   cases hK : c.Key with
   | true => rfl
   | false =>
    obtain ⟨a1, a2, a3⟩ := hk hK
    rw [Xap, Yja, Xab, Yx9 ok a1 a2 a3]; rfl
  rw [Xgu ok hx hy h0, Xab, Xaw, Xgt w hw, Xab, Xaw, Xg4, Xab, hc, Xaw, Xal, Xab, decide_eq_true hr, Xaw, hl7, Xab, Xap, es, Xab, ds, Xab]
theorem Xp6 (l : List Int) (hl : l.length ≤ 1000000000) : Xig l l = some true := by
 unfold Xig
 rw [bne_self_eq_false, Xap, Xuj l.length (f := Xgp l l) (by
  intro i hi
  unfold Xgp
  rw [syA, rqA, rqA, bne_self_eq_false, Xap, wkA]
  rfl) (by unfold Xgp; rw [snA]), Xab]
theorem Xz7 {W x y : Int} (hx : 0 ≤ x ∧ x < W) : (y * W + x) / W = y ∧ (y * W + x) % W = x := by
 have hW : 0 < W := by omega
 constructor
 ·
  rw [Int.add_comm, Int.add_mul_ediv_right _ _ (by omega), Int.ediv_eq_zero_of_lt hx.1 hx.2, Int.zero_add]
 ·
  rw [Int.add_comm, Int.add_mul_emod_self_right, Int.emod_eq_of_lt hx.1 hx.2]
theorem Xz8 {W H x y : Int} (hx : 0 ≤ x ∧ x < W) (hy : 0 ≤ y ∧ y < H) : 0 ≤ y * W + x ∧ y * W + x < W * H := by
 have a : 0 ≤ y * W := Int.mul_nonneg hy.1 (by omega)
 have b : y * W ≤ (H - 1) * W := Int.mul_le_mul_of_nonneg_right (by omega) (by omega)
 have c : (H - 1) * W = W * H - W := by rw [Int.sub_mul, Int.one_mul, Int.mul_comm]
 omega
theorem Ylq {n m : Int} (h : 0 ≤ n ∧ n ≤ m) : Xbn n 0 m = n := by
 unfold Xbn
 repeat' split
 all_goals omega
theorem Yfl {p : Pic} {x y : Int} (hx : 0 ≤ x ∧ x < p.Wide) (hy : 0 ≤ y ∧ y < p.High) : Xr5 p x y = Xx5 p.Dots (y * p.Wide + x) := by
 unfold Xr5
 rw [Ylq (by omega), Ylq (by omega)]
theorem Xxw (s : ByteArray) (k : Nat) (hk : k < s.size) : (Xa9 s).getD k 0 = Xx5 s k := by
 have := Xyc (Xa9 s) (by intro x hx; obtain ⟨b, _, rfl⟩ := List.mem_map.1 hx; have := b.toNat_lt; omega) k (by rw [Xdr]; exact hk)
 rw [Ycm] at this
 exact this.symm
theorem Yt0 (s : ByteArray) : Yml (Xa9 s) := fun x hx => by
 obtain ⟨b, _, rfl⟩ := List.mem_map.1 hx
 have := b.toNat_lt
 omega
theorem Yvf {l : List Int} (h : Yml l) (i : Nat) {y : Int} (hy : 0 ≤ y ∧ y ≤ 255) : Yml (l.set i y) := fun x hx => by
 rcases List.mem_or_eq_of_mem_set hx with hx | hx
 ·
  exact h x hx
 ·
  rw [hx]; exact hy
theorem Zbv {p q : Pic} (hp : Xc0 p = true) (hq : Xc0 q = true) (hw : p.Wide = q.Wide) (hh : p.High = q.High) (h : ∀ x y : Int, 0 ≤ x ∧ x < p.Wide → 0 ≤ y ∧ y < p.High → Xr5 p x y = Xr5 q x y) : p = q := by
 obtain ⟨p1, p2, p3⟩ := Xbj hp
 obtain ⟨q1, q2, q3⟩ := Xbj hq
 have hd : p.Dots = q.Dots := by
  rw [← Ycm p.Dots, ← Ycm q.Dots]
  congr 1
  have hsz : p.Dots.size = q.Dots.size := by
   have : (p.Dots.size : Int) = q.Dots.size := by rw [p3, q3, hw, hh]
   omega
  refine Yb0 (n := p.Dots.size) (Xdr _) ((Xdr _).trans hsz.symm) fun k hk => ?_
  have hkW : (k : Int) < p.Wide * p.High := by omega
  have m0 := Int.emod_nonneg (k : Int) (show p.Wide ≠ 0 by omega)
  have m1 := Int.emod_lt_of_pos (k : Int) (show 0 < p.Wide by omega)
  have d0 : 0 ≤ (k : Int) / p.Wide := Int.ediv_nonneg (by omega) (by omega)
  have d1 : (k : Int) / p.Wide < p.High := Int.ediv_lt_of_lt_mul (by omega) (by rw [Int.mul_comm]; exact hkW)
  have e := h ((k : Int) % p.Wide) ((k : Int) / p.Wide) ⟨m0, m1⟩ ⟨d0, d1⟩
  rw [Yfl ⟨m0, m1⟩ ⟨d0, d1⟩, Yfl (by rw [← hw]; exact ⟨m0, m1⟩) (by rw [← hh]; exact ⟨d0, d1⟩), ← hw, Int.ediv_mul_add_emod] at e
  rw [Xxw _ k hk, Xxw _ k (by omega)]
  exact e
 cases p; cases q
 simp only at hw hh hd
 rw [hw, hh, hd]
def Yvx (x y X Y : Int) : Bool := decide (x ≤ X ∧ X < x + 8 ∧ y ≤ Y ∧ Y < y + 8)
theorem Yye {p : Pic} {x y : Int} {d : List Int} (ok : Xc0 p = true) (h0 : Xdb p x y = true) (hd : Xbr d = true) : ∃ p', Xh6 p x y d = some p' ∧ Xc0 p' = true ∧ p'.Wide = p.Wide ∧ p'.High = p.High ∧ ∀ X Y : Int, 0 ≤ X ∧ X < p.Wide → 0 ≤ Y ∧ Y < p.High → Xr5 p' X Y = if Yvx x y X Y = true then d.getD ((Y - y) * 8 + (X - x)).toNat 0 else Xr5 p X Y := by
 obtain ⟨k1, k2, k3⟩ := Xbj ok
 have ar := Xgv k1 k2
 have hm : maxLen = 9223372036854775807 := rfl
 obtain ⟨d1, d2⟩ := Xbo hd
 have h0' := h0
 unfold Xdb at h0'
 rw [decide_eq_true_eq] at h0'
 have hn := Xdr p.Dots
 unfold Xh6
 rw [rqA]
 obtain ⟨o, e, o1, o2, o3⟩ := Xne (f := Xc7 p x y d) 64 (fun i s => s.length = p.Dots.size ∧ Yml s ∧ ∀ X Y : Int, 0 ≤ X ∧ X < p.Wide → 0 ≤ Y ∧ Y < p.High → s.getD (Y * p.Wide + X).toNat 0 = if Yvx x y X Y = true ∧ ((Y - y) * 8 + (X - x)).toNat < i then d.getD ((Y - y) * 8 + (X - x)).toNat 0 else (Xa9 p.Dots).getD (Y * p.Wide + X).toNat 0) (by
  intro i s hi ⟨g1, g2, g3⟩
  have di := d2 i hi
  have hxx : 0 ≤ x + (i : Int) % 8 ∧ x + (i : Int) % 8 < p.Wide := by omega
  have hyy : 0 ≤ y + (i : Int) / 8 ∧ y + (i : Int) / 8 < p.High := by omega
  have pin := Xz8 hxx hyy
  have b1 : 0 ≤ (y + (i : Int) / 8) * p.Wide := Int.mul_nonneg (by omega) (by omega)
  have b2 : (y + (i : Int) / 8) * p.Wide ≤ (p.High - 1) * p.Wide := Int.mul_le_mul_of_nonneg_right (by omega) (by omega)
  have b3 : (p.High - 1) * p.Wide = p.Wide * p.High - p.Wide := by rw [Int.sub_mul, Int.one_mul, Int.mul_comm]
  unfold Xc7
  simp only
  rw [syA, rqA, rqA, rqA, Xbq (by omega), Xb2 (by omega), wkA (e := (i : Int) / 8), wkA (e := y + (i : Int) / 8), wkA (e := (y + (i : Int) / 8) * p.Wide), wkA (e := (y + (i : Int) / 8) * p.Wide + x), wkA (e := (y + (i : Int) / 8) * p.Wide + x + (i : Int) % 8), rqA, rqA, wkA (e := (i : Int) + 1), Int.toNat_natCast, w8 di.1 di.2]
  refine ⟨_, rfl, by rw [List.length_set]; exact g1, Yvf g2 _ di, fun X Y hX hY => ?_⟩
  have pXY := Xz8 hX hY
  rw [Xex _ _ _ _ (by omega)]
  by_cases heq : ((y + (i : Int) / 8) * p.Wide + x + (i : Int) % 8).toNat = (Y * p.Wide + X).toNat
  ·
   rw [if_pos heq]
   have heq' : (y + (i : Int) / 8) * p.Wide + (x + (i : Int) % 8) = Y * p.Wide + X := by omega
   have q1 := Xz7 (y := y + (i : Int) / 8) hxx
   have q2 := Xz7 (y := Y) hX
   rw [heq'] at q1
   have eY : Y = y + (i : Int) / 8 := q2.1.symm.trans q1.1
   have eX : X = x + (i : Int) % 8 := q2.2.symm.trans q1.2
   have hin : Yvx x y X Y = true := by unfold Yvx; rw [decide_eq_true_eq]; omega
   have hpl : ((Y - y) * 8 + (X - x)).toNat = i := by omega
   rw [if_pos ⟨hin, by omega⟩, hpl]
  ·
   rw [if_neg heq, g3 X Y hX hY]
   by_cases hin : Yvx x y X Y = true
   ·
    have hin' := hin
    unfold Yvx at hin'
    rw [decide_eq_true_eq] at hin'
    by_cases hlt : ((Y - y) * 8 + (X - x)).toNat < i
    ·
     rw [if_pos ⟨hin, hlt⟩, if_pos ⟨hin, by omega⟩]
    ·
     have hne : ((Y - y) * 8 + (X - x)).toNat ≠ i := fun h => heq (by
      have eY : Y = y + (i : Int) / 8 := by omega
      have eX : X = x + (i : Int) % 8 := by omega
      rw [eY, eX]; congr 1; omega)
     rw [if_neg (fun h => hlt h.2), if_neg (fun h => by omega)]
   ·
    rw [if_neg (fun h => hin h.1), if_neg (fun h => hin h.1)]) (fun s _ => by unfold Xc7; rw [Xar (by simp)]) (Xa9 p.Dots) ⟨hn, Yt0 _, fun X Y hX hY => by rw [if_neg (fun h => by omega)]⟩
 refine ⟨_, (Xgi e).trans rfl, Xz6 k1 k2 (by simp only; rw [strOfNums_size]; omega), rfl, rfl, fun X Y hX hY => ?_⟩
 have pXY := Xz8 hX hY
 rw [Yfl (p := ⟨p.Wide, p.High, strOfNums o⟩) hX hY, Yfl hX hY]
 simp only
 have e1 : Xx5 (strOfNums o) (Y * p.Wide + X) = o.getD (Y * p.Wide + X).toNat 0 := by
  have := Xyc o o2 (Y * p.Wide + X).toNat (by omega)
  rwa [show (((Y * p.Wide + X).toNat : Nat) : Int) = Y * p.Wide + X by omega] at this
 have e2 : Xx5 p.Dots (Y * p.Wide + X) = (Xa9 p.Dots).getD (Y * p.Wide + X).toNat 0 := by
  rw [Xxw _ _ (by omega), show (((Y * p.Wide + X).toNat : Nat) : Int) = Y * p.Wide + X by omega]
 rw [e1, e2, o3 X Y hX hY]
 by_cases hin : Yvx x y X Y = true
 ·
  have hin' := hin
  unfold Yvx at hin'
  rw [decide_eq_true_eq] at hin'
  rw [if_pos ⟨hin, by omega⟩, if_pos hin]
 ·
  rw [if_neg (fun h => hin h.1), if_neg hin]
def tX (W : Int) (i : Nat) : Int := (i : Int) % (W / 8) * 8
def tY (W : Int) (i : Nat) : Int := (i : Int) / (W / 8) * 8
structure Yxm (src ref : Pic) (c : Xe9) (r : Int) : Prop where
 ok : Xc0 src = true
 hw : Xx1 src.Wide = true
 hh : Xx1 src.High = true
 hc : Xiq c = true
 hr : 0 ≤ r ∧ r ≤ 4
 hk : c.Key = false → Xc0 ref = true ∧ ref.Wide = src.Wide ∧ ref.High = src.High
inductive Xn0 (src ref : Pic) (c : Xe9) (r : Int) : Nat → List Xam → Pic → Prop
 | zero : Xn0 src ref c r 0 [] ⟨src.Wide, src.High, strOfNums (List.replicate (src.Wide * src.High).toNat 128)⟩
 | succ {n : Nat} {l : List Xam} {now : Pic} (h : Xn0 src ref c r n l now) (hn : (n : Int) < src.Wide / 8 * (src.High / 8)) (q : Xam) (d : List Int) (now' : Pic)
   (hi : Xe0 now ref (Xqw src (tX src.Wide n) (tY src.Wide n) 64) (tX src.Wide n) (tY src.Wide n) c r = some (q, d, true)) (hs : Xm8 now ref (Xqw src (tX src.Wide n) (tY src.Wide n) 64) (tX src.Wide n) (tY src.Wide n) c r = some (q, d, true)) (hq : Xs1 now ref (Xqw src (tX src.Wide n) (tY src.Wide n) 64) (tX src.Wide n) (tY src.Wide n) c r q)
   (hd : Xd6 now ref 0 0 c (tX src.Wide n) (tY src.Wide n) q = some (d, true)) (hp : Xh6 now (tX src.Wide n) (tY src.Wide n) d = some now') : Xn0 src ref c r (n + 1) (l ++ [q]) now'
theorem Zaa {w h : Int} (hw : 1 ≤ w ∧ w ≤ 256) (hh : 1 ≤ h ∧ h ≤ 256) : Xc0 ⟨w, h, strOfNums (List.replicate (w * h).toNat 128)⟩ = true := by
 have ar := Xgv hw hh
 refine Xz6 hw hh ?_
 simp only
 rw [strOfNums_size, List.length_replicate]; omega
theorem Yrz {src ref now : Pic} {c : Xe9} {r : Int} (H : Yxm src ref c r) {n : Nat} (hn : (n : Int) < src.Wide / 8 * (src.High / 8)) (ok : Xc0 now = true) (hw : now.Wide = src.Wide) (hh : now.High = src.High) : Zbc now ref (Xqw src (tX src.Wide n) (tY src.Wide n) 64) (tX src.Wide n) (tY src.Wide n) c r := by
 obtain ⟨p1, p2, p3, p4, p5, p6, p7, p8, p9, p10⟩ := Yuz H.hw H.hh n hn
 refine ⟨ok, by unfold tX; rw [Xb2 p7]; omega, by unfold tY; rw [Xb2 p9]; omega, by unfold Xdb tX tY; rw [decide_eq_true_eq, hw, hh]; exact ⟨p7, p8, p9, p10⟩, Xkt _ _ _, H.hc, H.hr, fun hK => ?_⟩
 obtain ⟨a, b, c⟩ := H.hk hK
 exact ⟨a, by rw [b, hw], by rw [c, hh]⟩
theorem Xn0.pic {src ref : Pic} {c : Xe9} {r : Int} (H : Yxm src ref c r) {n : Nat} {l : List Xam} {now : Pic} (h : Xn0 src ref c r n l now) : Xc0 now = true ∧ now.Wide = src.Wide ∧ now.High = src.High ∧ l.length = n ∧ (∀ q ∈ l, Xuz q = true ∧ Xsz q c = true ∧ q.Levels.length ≤ 64) := by
 induction h with
 | zero =>
  obtain ⟨k1, k2, k3⟩ := Xbj H.ok
  exact ⟨Zaa k1 k2, rfl, rfl, rfl, fun q hq => by simp at hq⟩
 | succ h hn q d now' hi hs hq hd hp ih =>
  obtain ⟨ok, w, hh, hl, hall⟩ := ih
  have SF := Yrz H hn ok w hh
  obtain ⟨q2, d2, e2, _, _, _, hd64⟩ := Xr2 SF
  rw [hi] at e2
  injection e2 with e2
  injection e2 with e2 e3
  injection e3 with e3 _
  subst e2; subst e3
  obtain ⟨p', ep, p1, p2, p3⟩ := Xwy ok SF.h0 hd64
  rw [hp] at ep
  injection ep with ep
  subst ep
  refine ⟨p1, by rw [p2, w], by rw [p3, hh], by rw [List.length_append, hl]; rfl, fun x hx => ?_⟩
  rcases List.mem_append.1 hx with hx | hx
  ·
   exact hall x hx
  ·
   rw [List.mem_singleton.1 hx]; exact hq.ok H.hr
theorem Xn0.step {src ref : Pic} {c : Xe9} {r : Int} (H : Yxm src ref c r) {n : Nat} {l : List Xam} {now : Pic} (h : Xn0 src ref c r n l now) (hn : (n : Int) < src.Wide / 8 * (src.High / 8)) : ∃ q d now', Xe0 now ref (Xqw src (tX src.Wide n) (tY src.Wide n) 64) (tX src.Wide n) (tY src.Wide n) c r = some (q, d, true) ∧ Xm8 now ref (Xqw src (tX src.Wide n) (tY src.Wide n) 64) (tX src.Wide n) (tY src.Wide n) c r = some (q, d, true) ∧ Xbr d = true ∧ Xh6 now (tX src.Wide n) (tY src.Wide n) d = some now' ∧ Xn0 src ref c r (n + 1) (l ++ [q]) now' := by
 obtain ⟨ok, w, hh, hl, _⟩ := h.pic H
 have SF := Yrz H hn ok w hh
 obtain ⟨q, d, e1, e2, hq, ed, hd64⟩ := Xr2 SF
 obtain ⟨p', ep, p1, p2, p3⟩ := Xwy ok SF.h0 hd64
 exact ⟨q, d, p', e1, e2, hd64, ep, .succ h hn q d p' e1 e2 hq ed ep⟩
theorem Zcf {W : Int} (hW : Xx1 W = true) (a b : Nat) (hb : (b : Int) < W / 8) : tX W ((W / 8).toNat * a + b) = 8 * b ∧ tY W ((W / 8).toNat * a + b) = 8 * a := by
 have s := Xge hW
 have e : (((W / 8).toNat * a + b : Nat) : Int) = (a : Int) * (W / 8) + b := by
  rw [Int.natCast_add, Int.natCast_mul, show (((W / 8).toNat : Nat) : Int) = W / 8 by omega, Int.mul_comm]
 have d := Xz7 (W := W / 8) (x := b) (y := a) ⟨by omega, hb⟩
 unfold tX tY
 rw [e, d.1, d.2]
 omega
theorem Yzs {W H : Int} (hW : Xx1 W = true) (a b : Nat) (hb : (b : Int) < W / 8) (ha : (a : Int) < H / 8) : (((W / 8).toNat * a + b : Nat) : Int) < W / 8 * (H / 8) := by
 have s := Xge hW
 have p := Xz8 (W := W / 8) (H := H / 8) (x := b) (y := a) ⟨by omega, hb⟩ ⟨by omega, ha⟩
 rw [Int.natCast_add, Int.natCast_mul, show (((W / 8).toNat : Nat) : Int) = W / 8 by omega, Int.mul_comm (W / 8)]
 exact p.2
theorem Yef {src ref : Pic} {c : Xe9} {r : Int} (H : Yxm src ref c r) : ∃ l now, Xj9 src ref c r = some (l, now, true) ∧ Xn0 src ref c r ((src.Wide / 8).toNat * (src.High / 8).toNat) l now := by
 have hm : maxLen = 9223372036854775807 := rfl
 have sw := Xge H.hw
 have sh := Xge H.hh
 obtain ⟨k1, k2, k3⟩ := Xbj H.ok
 -- one row
 have row : ∀ a : Nat, (a : Int) < src.High / 8 → ∀ (l : List Xam) (now : Pic), Xn0 src ref c r ((src.Wide / 8).toNat * a) l now → ∃ l' now', loop (Xen src ref c r ((8 * a : Nat), l, now.Wide, now.High, now.Dots)) (0, l, now.Wide, now.High, now.Dots) = some (.out (l', now'.Wide, now'.High, now'.Dots)) ∧ Xn0 src ref c r ((src.Wide / 8).toNat * (a + 1)) l' now' := by
  intro a ha l now hT
  have key : ∀ b : Nat, b ≤ (src.Wide / 8).toNat → ∀ (l2 : List Xam) (now2 : Pic), Xn0 src ref c r ((src.Wide / 8).toNat * a + b) l2 now2 → ∃ l' now', loop (Xen src ref c r ((8 * a : Nat), l, now.Wide, now.High, now.Dots)) (((8 * b : Nat) : Int), l2, now2.Wide, now2.High, now2.Dots) = some (.out (l', now'.Wide, now'.High, now'.Dots)) ∧ Xn0 src ref c r ((src.Wide / 8).toNat * (a + 1)) l' now' := by
   refine Xhg _ ?_ ?_
   ·
    intro l2 now2 h2
    refine ⟨l2, now2, Xg8 ?_, by rw [Nat.mul_add, Nat.mul_one]; exact h2⟩
    unfold Xen
    rw [Xar (by simp only; omega)]
   ·
    intro b hb ih l2 now2 h2
    have hbI : (b : Int) < src.Wide / 8 := by omega
    obtain ⟨eX, eY⟩ := Zcf H.hw a b hbI
    obtain ⟨q, d, now', e1, _, hd, ep, hT'⟩ := h2.step H (Yzs H.hw a b hbI ha)
    rw [eX, eY] at e1 ep
    obtain ⟨ok2, w2, hh2, hl2, _⟩ := h2.pic H
    obtain ⟨l', n', el, hT2⟩ := ih (l2 ++ [q]) now' hT'
    refine ⟨l', n', lgo (y := (((8 * (b + 1) : Nat) : Int), l2 ++ [q], now'.Wide, now'.High, now'.Dots)) ?_ el, hT2⟩
    have lb : l2.length ≤ 1000 := by
     have := Yzs H.hw a b hbI ha
     have : src.Wide / 8 * (src.High / 8) ≤ 8 * 8 := Int.mul_le_mul (by omega) (by omega) (by omega) (by omega)
     omega
    unfold Xen
    simp only
    rw [show ((8 * a : Nat) : Int) = 8 * (a : Int) by omega, show ((8 * b : Nat) : Int) = 8 * (b : Int) by omega, syA, Xgc H.ok _ _ (by omega) (by omega), Xab, show (⟨now2.Wide, now2.High, now2.Dots⟩ : Pic) = now2 from rfl, e1, Xab]
    simp only
    rw [Bool.not_true, Xap, Xa0 (by simp only [List.length_singleton]; omega), Ywj hd (by have := Yxy ok2; omega), ep, Xab, wkA, show ((8 * (b + 1) : Nat) : Int) = 8 * (b : Int) + 8 by omega]
  exact key 0 (by omega) l now hT
 have rows : ∀ a : Nat, a ≤ (src.High / 8).toNat → ∀ (l : List Xam) (now : Pic), Xn0 src ref c r ((src.Wide / 8).toNat * a) l now → ∃ l' now', loop (Xem src ref c r) (((8 * a : Nat) : Int), l, now.Wide, now.High, now.Dots) = some (.out (l', now'.Wide, now'.High, now'.Dots)) ∧ Xn0 src ref c r ((src.Wide / 8).toNat * (src.High / 8).toNat) l' now' := by
  refine Xhg _ ?_ ?_
  ·
   intro l now h
   refine ⟨l, now, Xg8 ?_, h⟩
   unfold Xem
   rw [Xar (by simp only; omega)]
  ·
   intro a ha ih l now h
   obtain ⟨l', n', el, hT⟩ := row a (by omega) l now h
   obtain ⟨l2, n2, el2, hT2⟩ := ih l' n' hT
   refine ⟨l2, n2, lgo (y := (((8 * (a + 1) : Nat) : Int), l', n'.Wide, n'.High, n'.Dots)) ?_ el2, hT2⟩
   unfold Xem
   rw [Xbk (by simp only; omega)]
   simp only
   rw [el, Xab]
   simp only
   rw [wkA, show ((8 * (a + 1) : Nat) : Int) = ((8 * a : Nat) : Int) + 8 by omega]
 obtain ⟨l, now, e, hT⟩ := rows 0 (by omega) [] ⟨src.Wide, src.High, strOfNums (List.replicate (src.Wide * src.High).toNat 128)⟩ (by rw [Nat.mul_zero]; exact .zero)
 refine ⟨l, now, ?_, hT⟩
 unfold Xj9
 have hl7 : (sel c.Key (some false) (bnd (Xcw ref) fun q8 => sel q8 (sel (ref.Wide != src.Wide) (some true) (some (ref.High != src.High))) (some true))) = some false := by
  cases hK : c.Key with
  | true => rfl
  | false =>
   obtain ⟨a1, a2, a3⟩ := H.hk hK
   rw [Xap, Xc6, Xab, a1, a2, a3, Xaw, bne_self_eq_false, Xap, bne_self_eq_false]
 rw [Xc6, Xab, H.ok, Xaw, Xwj, Xab, H.hw, Xaw, Xwj, Xab, H.hh, Xaw, Xez, Xab, H.hc, Xaw, Xak, Xab, decide_eq_true H.hr, Bool.not_true, Xab, Xap, hl7, Xab, Xap, Ypq _ _ k1 k2, Xab]
 have e' : loop (Xem src ref c r) (0, [], src.Wide, src.High, strOfNums (List.replicate (src.Wide * src.High).toNat 128)) = some (.out (l, now.Wide, now.High, now.Dots)) := e
 rw [e', Xab]
theorem Xn0.dots {src ref : Pic} {c : Xe9} {r : Int} (H : Yxm src ref c r) (P : Int → Int → Int → Prop)
  (hP : ∀ (n : Nat) (now : Pic) (q : Xam) (d : List Int), (n : Int) < src.Wide / 8 * (src.High / 8) → Zbc now ref (Xqw src (tX src.Wide n) (tY src.Wide n) 64) (tX src.Wide n) (tY src.Wide n) c r → Xs1 now ref (Xqw src (tX src.Wide n) (tY src.Wide n) 64) (tX src.Wide n) (tY src.Wide n) c r q → Xfw now ref 0 0 c (tX src.Wide n) (tY src.Wide n) q = some (d, true) → ∀ i : Nat, i < 64 → P (tX src.Wide n + ((i % 8 : Nat) : Int)) (tY src.Wide n + ((i / 8 : Nat) : Int)) (d.getD i 0))
  {n : Nat} {l : List Xam} {now : Pic} (h : Xn0 src ref c r n l now) : ∀ X Y : Int, 0 ≤ X ∧ X < src.Wide → 0 ≤ Y ∧ Y < src.High → Y / 8 * (src.Wide / 8) + X / 8 < n → P X Y (Xr5 now X Y) := by
 induction h with
 | zero =>
  intro X Y hX hY hlt
  have := Int.mul_nonneg (show 0 ≤ Y / 8 by omega) (show 0 ≤ src.Wide / 8 by omega)
  omega
 | succ h hn q d now' hi hs hq hd hp ih =>
  rename_i n0 l0 now0
  obtain ⟨ok, w, hh, hl, hall⟩ := h.pic H
  have SF := Yrz H hn ok w hh
  obtain ⟨q2, d2, e2, _, _, _, hd64⟩ := Xr2 SF
  rw [hi] at e2
  injection e2 with e2
  injection e2 with e2 e3
  injection e3 with e3 _
  subst e2; subst e3
  obtain ⟨p', ep, p1, p2, p3, p4⟩ := Yye ok SF.h0 hd64
  rw [hp] at ep
  injection ep with ep
  subst ep
  obtain ⟨q1, q2', q3⟩ := hq.ok H.hr
  obtain ⟨d', ei', es', _⟩ := Xto (now := now0) (ref := ref) (l := 0) (t := 0) (x := tX src.Wide n0) (y := tY src.Wide n0) (c := c) (q := q) ⟨ok, SF.hx, SF.hy, SF.h0, by omega, by omega, H.hc, by omega⟩ q1 q2' (fun hK => (H.hk hK).1)
  rw [hd] at ei'
  injection ei' with ei'
  injection ei' with ei' _
  subst ei'
  have hPd := hP n0 now0 q d hn SF hq es'
  intro X Y hX hY hlt
  rw [p4 X Y (by rw [w]; exact hX) (by rw [hh]; exact hY)]
  have sw := Xge H.hw
  have dv := Xz7 (W := src.Wide / 8) (x := X / 8) (y := Y / 8) ⟨by omega, by omega⟩
  by_cases hin : Yvx (tX src.Wide n0) (tY src.Wide n0) X Y = true
  ·
   rw [if_pos hin]
   unfold Yvx at hin
   rw [decide_eq_true_eq] at hin
   have := hPd ((Y - tY src.Wide n0) * 8 + (X - tX src.Wide n0)).toNat (by omega)
   have e1 : tX src.Wide n0 + (((((Y - tY src.Wide n0) * 8 + (X - tX src.Wide n0)).toNat % 8 : Nat)) : Int) = X := by omega
   have e2 : tY src.Wide n0 + (((((Y - tY src.Wide n0) * 8 + (X - tX src.Wide n0)).toNat / 8 : Nat)) : Int) = Y := by omega
   rw [e1, e2] at this
   exact this
  ·
   rw [if_neg hin]
   refine ih X Y hX hY ?_
   have hne : Y / 8 * (src.Wide / 8) + X / 8 ≠ n0 := fun e => hin (by
    rw [e] at dv
    unfold Yvx tX tY
    rw [dv.1, dv.2, decide_eq_true_eq]
    omega)
   omega
theorem Xn0.all {src ref : Pic} {c : Xe9} {r : Int} (H : Yxm src ref c r) (P : Int → Int → Int → Prop)
  (hP : ∀ (n : Nat) (now : Pic) (q : Xam) (d : List Int), (n : Int) < src.Wide / 8 * (src.High / 8) → Zbc now ref (Xqw src (tX src.Wide n) (tY src.Wide n) 64) (tX src.Wide n) (tY src.Wide n) c r → Xs1 now ref (Xqw src (tX src.Wide n) (tY src.Wide n) 64) (tX src.Wide n) (tY src.Wide n) c r q → Xfw now ref 0 0 c (tX src.Wide n) (tY src.Wide n) q = some (d, true) → ∀ i : Nat, i < 64 → P (tX src.Wide n + ((i % 8 : Nat) : Int)) (tY src.Wide n + ((i / 8 : Nat) : Int)) (d.getD i 0))
  {l : List Xam} {now : Pic} (h : Xn0 src ref c r ((src.Wide / 8).toNat * (src.High / 8).toNat) l now) : ∀ X Y : Int, 0 ≤ X ∧ X < src.Wide → 0 ≤ Y ∧ Y < src.High → P X Y (Xr5 now X Y) := by
 intro X Y hX hY
 refine h.dots H P hP X Y hX hY ?_
 have sw := Xge H.hw
 have sh := Xge H.hh
 have p := Xz8 (W := src.Wide / 8) (H := src.High / 8) (x := X / 8) (y := Y / 8) ⟨by omega, by omega⟩ ⟨by omega, by omega⟩
 rw [Int.natCast_mul, show (((src.Wide / 8).toNat : Nat) : Int) = src.Wide / 8 by omega, show (((src.High / 8).toNat : Nat) : Int) = src.High / 8 by omega]
 exact p.2
theorem Yz2 (p : Pic) (x y : Int) {i : Nat} (hi : i < 64) : (Xqw p x y 64).getD i 0 = Xr5 p (x + ((i % 8 : Nat) : Int)) (y + ((i / 8 : Nat) : Int)) := Xha _ hi
theorem Xn0.same {src ref : Pic} {c : Xe9} {r : Int} (H : Yxm src ref c r) (hd : ∀ (now : Pic) (w : List Int) (x y : Int) (q : Xam) (d : List Int), Zbc now ref w x y c r → w = Xqw src x y 64 → Xs1 now ref w x y c r q → Xfw now ref 0 0 c x y q = some (d, true) → d = w) {l : List Xam} {now : Pic} (h : Xn0 src ref c r ((src.Wide / 8).toNat * (src.High / 8).toNat) l now) : now = src := by
 obtain ⟨ok, w, hh, _, _⟩ := h.pic H
 refine Zbv ok H.ok w hh fun X Y hX hY => ?_
 rw [w] at hX
 rw [hh] at hY
 refine h.all H (fun X Y v => v = Xr5 src X Y) (fun n now q d hn SF hq hs i hi => ?_) X Y hX hY
 rw [hd now _ _ _ q d SF rfl hq hs]
 exact Yz2 _ _ _ hi
theorem Yuy {src : Pic} (hw : Xx1 src.Wide = true) (hh : Xx1 src.High = true) : (((src.Wide / 8).toNat * (src.High / 8).toNat : Nat) : Int) = src.Wide / 8 * (src.High / 8) ∧ 1 ≤ src.Wide / 8 * (src.High / 8) ∧ src.Wide / 8 * (src.High / 8) ≤ 64 := by
 have a := Xge hw
 have b := Xge hh
 have m1 : src.Wide / 8 * (src.High / 8) ≤ 8 * 8 := Int.mul_le_mul (by omega) (by omega) (by omega) (by omega)
 have m2 : 1 * 1 ≤ src.Wide / 8 * (src.High / 8) := Int.mul_le_mul (by omega) (by omega) (by omega) (by omega)
 rw [Int.natCast_mul, show (((src.Wide / 8).toNat : Nat) : Int) = src.Wide / 8 by omega, show (((src.High / 8).toNat : Nat) : Int) = src.High / 8 by omega]
 exact ⟨rfl, by omega, by omega⟩
theorem Xn0.still {src : Pic} {c : Xe9} {r : Int} (H : Yxm src src c r) (hK : c.Key = false) {n : Nat} {l : List Xam} {now : Pic} (h : Xn0 src src c r n l now) : l = List.replicate n ⟨0, 0, 0, 0, []⟩ := by
 induction h with
 | zero => rfl
 | succ h hn q d now' hi hs hq hd hp ih =>
  have : q = ⟨0, 0, 0, 0, []⟩ := by
   cases hq with
   | same => rfl
   | still => rfl
   | move _ _ _ _ _ _ _ _ _ hn => exact absurd (fun _ _ => rfl) hn
   | guess _ _ _ _ _ _ _ _ _ _ _ hn => exact absurd (fun _ _ => rfl) (hn hK)
  rw [ih, this, List.replicate_succ']
theorem Ypg (a b : List Int) (i : Nat) : (a ++ b).getD (a.length + i) 0 = b.getD i 0 := by
 rw [List.getD_eq_getElem?_getD, List.getD_eq_getElem?_getD, List.getElem?_append_right (by omega)]
 congr 2; omega
theorem Yvq (a b : List Int) (i : Nat) (hi : i < a.length) : (a ++ b).getD i 0 = a.getD i 0 := by
 rw [List.getD_eq_getElem?_getD, List.getD_eq_getElem?_getD, List.getElem?_append_left hi]
theorem Zbt (v x : Int) (h0 : 0 ≤ v) (h1 : v ≤ 1000000000000000000) (hx : x = 0 ∨ x = 1) : IntKind.wrap .i64 (BitVec.ofInt (IntKind.bits .i64) (v * 2) ||| BitVec.ofInt (IntKind.bits .i64) x).toNat = v * 2 + x := by
 obtain ⟨a, rfl⟩ : ∃ a : Nat, v = a := ⟨v.toNat, by omega⟩
 obtain ⟨b, rfl⟩ : ∃ b : Nat, x = b := ⟨x.toNat, by omega⟩
 have h : (BitVec.ofInt 64 ((a : Int) * 2) ||| BitVec.ofInt 64 (b : Int)).toNat = a * 2 + b := by
  rw [BitVec.toNat_or, BitVec.toNat_ofInt, BitVec.toNat_ofInt]
  have e1 : (((a : Int) * 2) % ((2 ^ 64 : Nat) : Int)).toNat = a * 2 := by omega
  have e2 : ((b : Int) % ((2 ^ 64 : Nat) : Int)).toNat = b := by omega
  rw [e1, e2]
  have := Nat.two_pow_add_eq_or_of_lt (i := 1) (b := b) (by omega) a
  rw [show 2 ^ 1 * a = a * 2 by omega] at this
  exact this.symm
 show IntKind.wrap .i64 ((BitVec.ofInt 64 ((a : Int) * 2) ||| BitVec.ofInt 64 (b : Int)).toNat : Int) = _
 rw [h, ← Xqh, wkA]
 omega
theorem Ywi {i : Nat} (h : i ≤ 40) : (2 : Int) ^ i ≤ 1099511627776 := by
 have h2 : (2 : Nat) ^ i ≤ 1099511627776 := Nat.pow_le_pow_right (n := 2) (by omega) h
 have := Int.ofNat_le.2 h2
 rw [Int.natCast_pow] at this
 exact this
theorem Xjy {L a f b : List Int} (hL : L = a ++ (f ++ b)) (hb : Xoe L) (hl : L.length ≤ 400000) (hf : f.length ≤ 41) : Xcf ⟨strOfNums L, (a.length : Int), false⟩ (f.length : Int) = some (Xpt f, ⟨strOfNums L, ((a.length + f.length : Nat) : Int), false⟩) := by
 have hLl : L.length = a.length + (f.length + b.length) := by rw [hL]; simp only [List.length_append]
 have hfb : Xoe f := fun x hx => hb x (by rw [hL]; simp [hx])
 unfold Xcf
 simp only
 rw [Xap, strOfNums_size, wkA, Xab, snA]
 have key : ∀ i : Nat, i ≤ f.length → loop (Xgn ⟨strOfNums L, (a.length : Int), false⟩ (f.length : Int)) (Xpt (f.take i), (i : Int)) = some (Xpt f) := by
  refine Xhg _ ?_ ?_
  ·
   refine Xg8 ?_
   unfold Xgn
   simp only
   rw [snA, List.take_length]
  ·
   intro i hi ih
   refine lgo ?_ ih
   have hx : L.getD (a.length + i) 0 = f.getD i 0 := by rw [hL, Ypg, Yvq _ _ _ hi]
   have hbt : Xx5 (strOfNums L) ((a.length : Int) + i) = f.getD i 0 := by
    rw [show (a.length : Int) + i = ((a.length + i : Nat) : Int) by omega, Xyc L (Xfd hb) _ (by omega), hx]
   have h2 : f.getD i 0 = 48 ∨ f.getD i 0 = 49 := hfb _ (by rw [Xcd f i hi]; exact List.getElem_mem hi)
   have ht : Xoe (f.take i) := fun x hx => hfb x (List.mem_of_mem_take hx)
   have hr := Yar ht
   have hp : (2 : Int) ^ (f.take i).length ≤ 1099511627776 := Ywi (by rw [List.length_take]; omega)
   have hv : Xpt (f.take (i + 1)) = Xpt (f.take i) * 2 + (f.getD i 0 - 48) := by
    rw [List.take_add_one, Xqv, Xcd f i hi, List.getElem?_eq_getElem hi]
    simp [Xpt]
   unfold Xgn
   simp only
   rw [syA, rqA, wkA (e := (a.length : Int) + i), Xa0 (by rw [strOfNums_size]; omega), hbt, w8 (by omega) (by omega), wkA (e := f.getD i 0 - 48), show (2 : Int) ^ min (1 : Int).toNat (IntKind.bits .i64) = 2 from rfl, wkA (e := Xpt (f.take i) * 2), Zbt _ _ (by omega) (by omega) (by omega), wkA, hv]
   rfl
 have := key 0 (by omega)
 rw [List.take_zero] at this
 refine (Xgi this).trans ?_
 rw [wkA]
 rfl
theorem Yvd (m : Nat) (h : m ≠ 0) : ∃ r, Yom m = 49 :: r := by
 induction m using Nat.strongRecOn with
 | _ m ih =>
  rw [Yom, dif_neg h]
  by_cases h1 : m / 2 = 0
  ·
   have : m = 1 := by omega
   subst this
   rw [Yom, dif_pos h1]
   exact ⟨[], rfl⟩
  ·
   obtain ⟨r, e⟩ := ih (m / 2) (by omega) h1
   rw [e]
   exact ⟨r ++ [48 + ((m % 2 : Nat) : Int)], rfl⟩
theorem Za9 (m : Nat) : Xpt (Yom m) = m := by
 induction m using Nat.strongRecOn with
 | _ m ih =>
  rw [Yom]
  by_cases h : m = 0
  ·
   rw [dif_pos h, h]; rfl
  ·
   rw [dif_neg h, Xqv, ih (m / 2) (by omega)]
   simp [Xpt]
   omega
theorem Xij {L a b : List Int} {n : Nat} (hL : L = a ++ (ueL n ++ b)) (hb : Xoe L) (hl : L.length ≤ 400000) (hn : n ≤ 1000000) : Xbs ⟨strOfNums L, (a.length : Int), false⟩ = some ((n : Int), ⟨strOfNums L, ((a.length + (ueL n).length : Nat) : Int), false⟩) := by
 have hLl : L.length = a.length + ((ueL n).length + b.length) := by rw [hL]; simp only [List.length_append]
 have f1 := Ymq (m := n + 1) (j := 20) (by omega)
 have f2 := Yfm (m := n + 1) (by omega)
 have ul : (ueL n).length = Xtu (n + 1) - 1 + Xtu (n + 1) := by unfold ueL; rw [List.length_append, List.length_replicate, Ymi]
 obtain ⟨r, er⟩ := Yvd (n + 1) (by omega)
 have hc : ∀ i : Nat, i < (ueL n).length → L.getD (a.length + i) 0 = (ueL n).getD i 0 := fun i hi => by rw [hL, Ypg, Yvq _ _ _ hi]
 have key : ∀ i : Nat, i ≤ Xtu (n + 1) - 1 → loop (Xht ⟨strOfNums L, (a.length : Int), false⟩) (i : Int) = some ((Xtu (n + 1) - 1 : Nat) : Int) := by
  refine Xhg _ ?_ ?_
  ·
   refine Xg8 ?_
   have hx : (ueL n).getD (Xtu (n + 1) - 1) 0 = 49 := by
    have := Ypg (List.replicate (Xtu (n + 1) - 1) 48) (Yom (n + 1)) 0
    rw [List.length_replicate] at this
    unfold ueL
    exact this.trans (by rw [er]; rfl)
   unfold Xht
   simp only
   rw [Xap, wkA, strOfNums_size, syA, rqA, show (a.length : Int) + ((Xtu (n + 1) - 1 : Nat) : Int) = ((a.length + (Xtu (n + 1) - 1) : Nat) : Int) by omega, Xyc L (Xfd hb) _ (by omega), hc _ (by omega), hx, Xab]
   rfl
  ·
   intro i hi ih
   refine lgo ?_ ih
   have hx : (ueL n).getD i 0 = 48 := by
    unfold ueL
    rw [Yvq _ _ _ (by rw [List.length_replicate]; exact hi), Xcd _ i (by rw [List.length_replicate]; exact hi), List.getElem_replicate]
   unfold Xht
   simp only
   rw [Xap, wkA (e := (a.length : Int) + i), strOfNums_size, syA, rqA, show (a.length : Int) + (i : Int) = ((a.length + i : Nat) : Int) by omega, Xyc L (Xfd hb) _ (by omega), hc _ (by omega), hx, Xab, wkA]
   rfl
 have hf := Xjy hL hb hl (by omega)
 have hv : Xpt (ueL n) = (n : Int) + 1 := by unfold ueL; rw [Xqv, Yoh, Za9, Int.zero_mul, Int.zero_add]; omega
 unfold Xbs
 refine (Xgi (key 0 (by omega))).trans ?_
 simp only
 rw [snA, Xab, wkA (e := 2 * ((Xtu (n + 1) - 1 : Nat) : Int)), wkA (e := 2 * ((Xtu (n + 1) - 1 : Nat) : Int) + 1), show 2 * ((Xtu (n + 1) - 1 : Nat) : Int) + 1 = ((ueL n).length : Int) by omega, hf, Xab]
 simp only
 rw [Xap, hv, wkA, Xab, snA, show (n : Int) + 1 - 1 = n by omega]
theorem Xvh {L a b : List Int} {n : Int} (hL : L = a ++ (seL n ++ b)) (hb : Xoe L) (hl : L.length ≤ 400000) (hn : -500000 ≤ n ∧ n ≤ 500000) : Xdw ⟨strOfNums L, (a.length : Int), false⟩ = some (n, ⟨strOfNums L, ((a.length + (seL n).length : Nat) : Int), false⟩) := by
 have hf := Xu7 n hn
 unfold Xdw
 rw [Xij hL hb hl hf, Xab]
 have ho : Xo4 ((Ygc n : Nat) : Int) = some (n, true) := by
  unfold Xo4
  rw [Xak, Xab, decide_eq_true (by omega), Bool.not_true, Xap, rqA, Xb2 (by omega)]
  unfold Ygc
  split
  ·
   rw [Xbu (by rw [beq_iff_eq]; omega), rqA, wkA (e := (((2 * n - 1).toNat : Nat) : Int) + 1), Xbq (by omega), wkA]
   congr 2; omega
  ·
   rw [Xbg (by rw [beq_eq_false_iff_ne]; omega), rqA, wkA (e := 0 - _)]
   have : (0 - (((-2 * n).toNat : Nat) : Int)).tdiv 2 = n := by
    rw [show (0 - (((-2 * n).toNat : Nat) : Int)) = n * 2 by omega]
    exact Int.mul_tdiv_cancel n (by omega)
   rw [this, wkA]
 simp only
 rw [ho, Xab]
 rfl
theorem Zah (l : List Int) (hl : l.length ≤ 64) : nz l ≤ 64 := by have := Ywg l; omega
theorem Yda {L a b l : List Int} (hL : L = a ++ (Xiv l ++ b)) (hb : Xoe L) (hl : L.length ≤ 400000) (hall : l.all Yoo = true) (h64 : l.length ≤ 64) : Xg2 ⟨strOfNums L, (a.length : Int), false⟩ (l.length : Int) = some (l, ⟨strOfNums L, ((a.length + (Xiv l).length : Nat) : Int), false⟩) := by
 have key : ∀ (r pre : List Int) (g : Nat) (a' b' : List Int), l = pre ++ r → g ≤ pre.length → L = a' ++ (Xon g r ++ b') → loop (Xfm (l.length : Int)) (((pre.length - g : Nat) : Int), (nz r : Int), strOfNums L, (a'.length : Int), false, pre ++ List.replicate r.length 0) = some (l, strOfNums L, ((a'.length + (Xon g r).length : Nat) : Int), false) := by
  intro r
  induction r with
  | nil =>
   intro pre g a' b' h1 h2 h3
   refine Xg8 ?_
   unfold Xfm
   simp only
   rw [Xar (by rw [nz]; omega), Xab, Xap, h1]
   simp only [Xon, List.length_nil, List.replicate_zero, Nat.add_zero]
  | cons x r ih =>
   intro pre g a' b' h1 h2 h3
   have hlen : l.length = pre.length + (r.length + 1) := by rw [h1]; simp
   have hx : -5000 ≤ x ∧ x ≤ 5000 := Yno.1 (List.all_eq_true.1 hall x (by rw [h1]; simp))
   by_cases e : x = 0
   ·
    rw [Xon, if_pos e] at h3
    have := ih (pre ++ [x]) (g + 1) a' b' (by rw [h1]; simp) (by simp; omega) h3
    rw [nz, if_pos e, Xon, if_pos e, ← this, List.length_append, List.length_singleton, show pre.length + 1 - (g + 1) = pre.length - g by omega, List.append_assoc, List.length_cons, List.replicate_succ, e]
    rfl
   ·
    rw [Xon, if_neg e] at h3
    have u1 := Xe7 g (by omega)
    have u2 := Xsp x (by omega)
    have u3 := Ywg r
    have e1 := Xij (L := L) (a := a') (b := seL x ++ Xon 0 r ++ b') (n := g) (by rw [h3]; simp only [List.append_assoc]) hb hl (by omega)
    have e2 := Xvh (L := L) (a := a' ++ ueL g) (b := Xon 0 r ++ b') (n := x) (by rw [h3]; simp only [List.append_assoc]) hb hl (by omega)
    have := ih (pre ++ [x]) 0 (a' ++ ueL g ++ seL x) b' (by rw [h1]; simp) (by simp) (by rw [h3]; simp only [List.append_assoc])
    rw [List.length_append] at e2
    simp only [List.length_append, List.length_singleton] at this
    rw [nz, if_neg e, Xon, if_neg e]
    refine lgo ?_ (this.trans ?_)
    ·
     unfold Xfm
     simp only
     rw [syA, Bool.not_false, Xab, Xaw, e1, Xab]
     simp only
     rw [e2, Xab]
     simp only
     have hp : ((pre.length - g : Nat) : Int) + (g : Int) = (pre.length : Int) := by omega
     rw [hp, wkA (e := (pre.length : Int)), snA, Xbg (by rw [beq_eq_false_iff_ne]; exact e), Xak, Xab, decide_eq_true (by omega), Bool.not_true, Xab, Xap, Int.toNat_natCast, Xa0 (by simp only [List.length_append, List.length_replicate, List.length_cons]; omega), Xa0 (by simp only [List.length_append, List.length_replicate, List.length_cons]; omega), wkA, wkA, List.length_cons, List.replicate_succ, Yry]
     rw [show ((nz r + 1 : Nat) : Int) - 1 = (nz r : Int) by omega, show pre ++ [x] ++ List.replicate r.length 0 = pre ++ x :: List.replicate r.length 0 by simp, show ((pre.length + 1 - 0 : Nat) : Int) = (pre.length : Int) + 1 by omega]
    ·
     simp only [List.length_append]
     rw [show a'.length + (ueL g).length + (seL x).length + (Xon 0 r).length = a'.length + ((ueL g).length + (seL x).length + (Xon 0 r).length) by omega]
 have hz := Zah l h64
 have e0 := Xij (L := L) (a := a) (b := Xon 0 l ++ b) (n := nz l) (by rw [hL]; unfold Xiv; simp only [List.append_assoc]) hb hl (by omega)
 have := key l [] 0 (a ++ ueL (nz l)) b rfl (by simp) (by rw [hL]; unfold Xiv; simp only [List.append_assoc])
 unfold Xg2
 rw [rqA, e0, Xab]
 simp only
 rw [List.length_append] at this
 simp only [List.nil_append, List.length_nil] at this
 rw [Int.toNat_natCast]
 refine (Xgi this).trans ?_
 simp only
 unfold Xiv
 rw [List.length_append, Nat.add_assoc]
theorem Xwp {L a b l : List Int} {c : Xe9} (hL : L = a ++ (Yon l c ++ b)) (hb : Xoe L) (hl : L.length ≤ 400000) (h : Yft l = true) : Xcn ⟨strOfNums L, (a.length : Int), false⟩ c = some (l, ⟨strOfNums L, ((a.length + (Yon l c).length : Nat) : Int), false⟩) := by
 have hm : maxLen = 9223372036854775807 := rfl
 obtain ⟨h1, h2⟩ := Xow h
 unfold Xcn
 rw [Ydb, Xab]
 unfold Yon at hL ⊢
 by_cases e : (c.Large || c.Exact) = true
 ·
  rw [if_pos e] at hL
  rw [Xbu e, if_pos e]
  have := Yda hL hb hl h2 (by omega)
  rw [h1] at this
  exact (Xgi this).trans rfl
 ·
  rw [if_neg e] at hL
  rw [Xbg (by simpa using e), if_neg e]
  have step : ∀ (n : Nat) (s q : List Int) (a' b' : List Int), n < 4 → q.length = 16 → q.all Yoo = true → s.length ≤ 64 → L = a' ++ (Xiv q ++ b') → Xb9 ((n : Int), strOfNums L, (a'.length : Int), false, s) = some (.go (((n + 1 : Nat) : Int), strOfNums L, (((a' ++ Xiv q).length : Nat) : Int), false, s ++ q)) := by
   intro n s q a' b' hn hq hqa hs hLL
   have := Yda hLL hb hl hqa (by omega)
   rw [hq] at this
   unfold Xb9
   simp only
   rw [syA]
   refine (Xgi this).trans ?_
   simp only
   rw [rqA, wkA, List.length_append]
   rfl
  have q0 : (l.take 16).length = 16 := by rw [List.length_take]; omega
  have q1 : ((l.drop 16).take 16).length = 16 := by rw [List.length_take, List.length_drop]; omega
  have q2 : ((l.drop 32).take 16).length = 16 := by rw [List.length_take, List.length_drop]; omega
  have q3 : (l.drop 48).length = 16 := by rw [List.length_drop]; omega
  have hcat : l.take 16 ++ (l.drop 16).take 16 ++ (l.drop 32).take 16 ++ l.drop 48 = l := by
   have e1 : (l.drop 32).take 16 ++ l.drop 48 = l.drop 32 := by
    have := List.take_append_drop 16 (l.drop 32)
    rwa [List.drop_drop] at this
   have e2 : (l.drop 16).take 16 ++ l.drop 32 = l.drop 16 := by
    have := List.take_append_drop 16 (l.drop 16)
    rwa [List.drop_drop] at this
   rw [List.append_assoc, e1, List.append_assoc, e2, List.take_append_drop]
  have g0 := step 0 [] _ a (Xiv ((l.drop 16).take 16) ++ Xiv ((l.drop 32).take 16) ++ Xiv (l.drop 48) ++ b) (by omega) q0 (Xks h2 _) (by simp) (by rw [hL]; simp only [List.append_assoc])
  have g1 := step 1 ([] ++ l.take 16) _ (a ++ Xiv (l.take 16)) (Xiv ((l.drop 32).take 16) ++ Xiv (l.drop 48) ++ b) (by omega) q1 (Xks (Xkr h2 _) _) (by simp only [List.length_append, List.length_nil]; omega) (by rw [hL]; simp only [List.append_assoc])
  have g2 := step 2 ([] ++ l.take 16 ++ (l.drop 16).take 16) _ (a ++ Xiv (l.take 16) ++ Xiv ((l.drop 16).take 16)) (Xiv (l.drop 48) ++ b) (by omega) q2 (Xks (Xkr h2 _) _) (by simp only [List.length_append, List.length_nil]; omega) (by rw [hL]; simp only [List.append_assoc])
  have g3 := step 3 ([] ++ l.take 16 ++ (l.drop 16).take 16 ++ (l.drop 32).take 16) _ (a ++ Xiv (l.take 16) ++ Xiv ((l.drop 16).take 16) ++ Xiv ((l.drop 32).take 16)) b (by omega) q3 (Xkr h2 _) (by simp only [List.length_append, List.length_nil]; omega) (by rw [hL]; simp only [List.append_assoc])
  have l4 : ∀ s, Xb9 (((4 : Nat) : Int), s) = some (.done (s.2.2.2, s.1, s.2.1, s.2.2.1)) := by intro s; unfold Xb9; simp only; rw [snA]
  have e : loop Xb9 (((0 : Nat) : Int), strOfNums L, (a.length : Int), false, []) = _ := (Xcp g0).trans ((Xcp g1).trans ((Xcp g2).trans ((Xcp g3).trans (Xcu (l4 _)))))
  refine (Xgi e).trans ?_
  simp only [List.nil_append, hcat]
  simp only [List.length_append, Nat.add_assoc]
theorem Yw1 {s : Xam} (h : Xuz s = true) (h1 : s.Kind = 0) : s = ⟨0, 0, 0, 0, []⟩ := by
 unfold Xuz at h
 rw [if_pos h1, decide_eq_true_eq] at h
 obtain ⟨k, m, x, y, l⟩ := s
 simp only at h h1
 obtain ⟨a, b, c, d⟩ := h
 rw [h1, a, b, c, List.length_eq_zero_iff.1 d]
theorem Yku {L a b : List Int} {s : Xam} {c : Xe9} (hL : L = a ++ (sqL s c ++ b)) (hb : Xoe L) (hl : L.length ≤ 400000) (h : Xuz s = true) (hlet : Xsz s c = true) : Xgo ⟨strOfNums L, (a.length : Int), false⟩ c = some (s, ⟨strOfNums L, ((a.length + (sqL s c).length : Nat) : Int), false⟩) := by
 have hk := Xu0 h
 have hl6 : s.Levels.length ≤ 64 := by
  by_cases h0 : s.Kind = 0
  ·
   rw [Yw1 h h0]; simp
  ·
   by_cases h1 : s.Kind = 1
   ·
    have := Xow (Xvl h h1).2.2; omega
   ·
    have := Xow (Yao h (by omega)).2; omega
 have hok := Xn6 s (by omega)
 rw [h] at hok
 unfold Xgo
 simp only
 obtain ⟨p, hp, hL2, e1⟩ : ∃ p : List Int, p = (if c.Key = true then [] else ueL s.Kind.toNat) ∧ L = (a ++ p) ++ ((if s.Kind = 1 then seL s.Dx ++ seL s.Dy ++ Yon s.Levels c else if s.Kind = 2 then ueL s.Mode.toNat ++ Yon s.Levels c else []) ++ b) ∧ (sel (!c.Key) (bnd (Xbs ⟨strOfNums L, (a.length : Int), false⟩) fun q2 => some (q2.2.row_, q2.2.at_, q2.2.bad_, q2.1)) (some (strOfNums L, (a.length : Int), false, 2))) = some (strOfNums L, (((a ++ p).length : Nat) : Int), false, s.Kind) := by
  refine ⟨_, rfl, by rw [hL]; unfold sqL; simp only [List.append_assoc], ?_⟩
  cases hK : c.Key with
  | true =>
   unfold Xsz at hlet
   rw [hK, Bool.not_true, Bool.false_or, beq_iff_eq] at hlet
   rw [Bool.not_true, Xap, if_pos rfl, List.append_nil, hlet]
  | false =>
   have := Xij (L := L) (a := a) (n := s.Kind.toNat) (b := (if s.Kind = 1 then seL s.Dx ++ seL s.Dy ++ Yon s.Levels c else if s.Kind = 2 then ueL s.Mode.toNat ++ Yon s.Levels c else []) ++ b) (by rw [hL]; unfold sqL; rw [hK, if_neg (by decide)]; simp only [List.append_assoc]) hb hl (by omega)
   rw [Bool.not_false, Xaw, this, Xab, if_neg (by decide), List.length_append]
   simp only
   rw [show ((s.Kind.toNat : Nat) : Int) = s.Kind by omega]
 rw [e1, Xab]
 simp only
 have e2 : (sel false (some (strOfNums L, (((a ++ p).length : Nat) : Int), false, (0 : Int), (0 : Int), (0 : Int), ([] : List Int))) (
   sel (s.Kind == 1) (
   bnd (Xdw (⟨strOfNums L, (((a ++ p).length : Nat) : Int), false⟩ : Xnf)) fun q4 =>
   bnd (Xdw q4.2) fun q5 =>
   bnd (Xcn q5.2 c) fun q6 =>
   some (q6.2.row_, q6.2.at_, q6.2.bad_, 0, q4.1, q5.1, q6.1)) (
   sel (s.Kind == 2) (
   bnd (Xbs (⟨strOfNums L, (((a ++ p).length : Nat) : Int), false⟩ : Xnf)) fun q7 =>
   bnd (Xcn q7.2 c) fun q8 =>
   some (q8.2.row_, q8.2.at_, q8.2.bad_, q7.1, 0, 0, q8.1)) (
   some (strOfNums L, (((a ++ p).length : Nat) : Int), false, 0, 0, 0, []))))) = some (strOfNums L, ((a.length + (sqL s c).length : Nat) : Int), false, s.Mode, s.Dx, s.Dy, s.Levels) := by
  rw [Xap]
  unfold sqL
  rw [← hp]
  by_cases h1 : s.Kind = 1
  ·
   obtain ⟨x1, x2, x3⟩ := Xvl h h1
   have hm0 : s.Mode = 0 := by
    unfold Xuz at h
    rw [if_neg (by omega), if_pos h1] at h
    simp only [Bool.and_eq_true, decide_eq_true_eq] at h
    exact h.1
   rw [if_pos h1] at hL2
   have y1 := Xvh (L := L) (a := a ++ p) (b := seL s.Dy ++ Yon s.Levels c ++ b) (n := s.Dx) (by rw [hL2]; simp only [List.append_assoc]) hb hl (by omega)
   have y2 := Xvh (L := L) (a := a ++ p ++ seL s.Dx) (b := Yon s.Levels c ++ b) (n := s.Dy) (by rw [hL2]; simp only [List.append_assoc]) hb hl (by omega)
   have y3 := Xwp (L := L) (a := a ++ p ++ seL s.Dx ++ seL s.Dy) (b := b) (l := s.Levels) (c := c) (by rw [hL2]; simp only [List.append_assoc]) hb hl x3
   rw [List.length_append (as := a ++ p)] at y2
   rw [List.length_append (as := a ++ p ++ seL s.Dx), List.length_append (as := a ++ p)] at y3
   rw [Xbu (by rw [beq_iff_eq]; exact h1), y1, Xab]
   simp only
   rw [y2, Xab]
   simp only
   rw [y3, Xab, if_pos h1, hm0]
   simp only [List.length_append, Nat.add_assoc]
  ·
   rw [Xbg (by rw [beq_eq_false_iff_ne]; exact h1), if_neg h1]
   rw [if_neg h1] at hL2
   by_cases h2 : s.Kind = 2
   ·
    obtain ⟨x1, x3⟩ := Yao h h2
    have hd0 : s.Dx = 0 ∧ s.Dy = 0 := by
     unfold Xuz at h
     rw [if_neg (by omega), if_neg (by omega), if_pos h2] at h
     simp only [Bool.and_eq_true, decide_eq_true_eq] at h
     exact ⟨h.2.1, h.2.2.1⟩
    rw [if_pos h2] at hL2
    have y1 := Xij (L := L) (a := a ++ p) (b := Yon s.Levels c ++ b) (n := s.Mode.toNat) (by rw [hL2]; simp only [List.append_assoc]) hb hl (by omega)
    have y3 := Xwp (L := L) (a := a ++ p ++ ueL s.Mode.toNat) (b := b) (l := s.Levels) (c := c) (by rw [hL2]; simp only [List.append_assoc]) hb hl x3
    rw [List.length_append (as := a ++ p)] at y3
    rw [Xbu (by rw [beq_iff_eq]; exact h2), y1, Xab]
    simp only
    rw [y3, Xab, if_pos h2, hd0.1, hd0.2, show ((s.Mode.toNat : Nat) : Int) = s.Mode by omega]
    simp only [List.length_append, Nat.add_assoc]
   ·
    have h0 := Yw1 h (by omega)
    rw [Xbg (by rw [beq_eq_false_iff_ne]; exact h2), if_neg h2, List.append_nil, List.length_append]
    rw [h0]
 rw [e2, Xab]
 simp only
 rw [Xap, show (⟨s.Kind, s.Mode, s.Dx, s.Dy, s.Levels⟩ : Xam) = s from rfl, hok, Xab, Xab]
 rfl
def Zc3 (t : Nat → Int) : Nat → Int
 | 0 => 0
 | k + 1 => Zc3 t k + t k
def eT (f : Nat → Int) (u : Nat) : Int := Zc3 (fun k => Xi8 (u : Int) (k : Int) * f k) 8
def eS (X : Nat → Nat → Int) (u v : Nat) : Int := eT (fun i => eT (X i) v) u
def Ytw (s : ByteArray) (i : Nat) : Int := 48 + (Xx5 s ((i / 8 : Nat) : Int) / 2 ^ (7 - i % 8)) % 2
def Xs3 (s : ByteArray) : List Int := (List.range (8 * s.size)).map (Ytw s)
theorem Yx0 : ∀ b : Fin 256, Xu6 8 (b.val : Int) = (List.range 8).map fun k => 48 + ((b.val : Int) / 2 ^ (7 - k)) % 2 := by decide +kernel
theorem Zdi (b : Int) (h : 0 ≤ b ∧ b ≤ 255) : Xu6 8 b = (List.range 8).map fun k => 48 + (b / 2 ^ (7 - k)) % 2 := by
 have := Yx0 ⟨b.toNat, by omega⟩
 simp only at this
 rwa [show ((b.toNat : Nat) : Int) = b by omega] at this
theorem Xu4 (s : ByteArray) : (Xs3 s).length = 8 * s.size := by simp [Xs3]
theorem Yo2 (s : ByteArray) {i : Nat} (h : i < 8 * s.size) : (Xs3 s).getD i 0 = Ytw s i := Xha _ h
theorem Ytx : ∀ b : Fin 256, ∀ k : Fin 8, Xaa .u8 (48 + (IntKind.wrap .u8 (BitVec.ofInt (IntKind.bits .u8) ((b.val : Int) / 2 ^ min (k.val) (IntKind.bits .u8)) &&& BitVec.ofInt (IntKind.bits .u8) 1).toNat)) = 48 + ((b.val : Int) / 2 ^ k.val) % 2 := by decide +kernel
theorem Zbh (b : Int) (h : 0 ≤ b ∧ b ≤ 255) (k : Nat) (hk : k < 8) : Xaa .u8 (48 + (IntKind.wrap .u8 (BitVec.ofInt (IntKind.bits .u8) (b / 2 ^ min k (IntKind.bits .u8)) &&& BitVec.ofInt (IntKind.bits .u8) 1).toNat)) = 48 + (b / 2 ^ k) % 2 := by
 have := Ytx ⟨b.toNat, by omega⟩ ⟨k, hk⟩
 simp only at this
 rwa [show ((b.toNat : Nat) : Int) = b by omega] at this
theorem Xyd (s : ByteArray) (hs : s.size ≤ 50001) : loop (Xej s) (0, []) = some (Xs3 s) := by
 have hm : maxLen = 9223372036854775807 := rfl
 have := Ysb (f := Xej s) (8 * s.size) (Ytw s) [] (by
  intro i hi
  have hb := Xyb s ((i / 8 : Nat) : Int)
  unfold Xej
  simp only
  rw [wkA (e := 8 * (s.size : Int)), syA, rqA, Xbq (by omega), wkA (e := (i : Int) / 8), rqA, rqA, Xb2 (by omega), wkA (e := 7 - (i : Int) % 8), rqA, show (7 - (i : Int) % 8).toNat = 7 - i % 8 by omega, show (i : Int) / 8 = ((i / 8 : Nat) : Int) by omega, Zbh _ hb (7 - i % 8) (by omega), Xa0 (by simp only [List.length_append, List.length_nil, List.length_map, List.length_range, List.length_singleton]; omega), wkA (e := (i : Int) + 1)]
  rfl) (by unfold Xej; rw [wkA (e := 8 * (s.size : Int)), Xar (by simp)])
 rw [List.nil_append] at this
 exact this
theorem Xz4 {L : List Int} (hb : Xoe L) (hl : L.length ≤ 400000) (i : Nat) (hi : i ≤ L.length) : Xhs (strOfNums L) (i : Int) = some ⟨strOfNums L, (i : Int), false⟩ := by
 unfold Xhs
 rw [Xy3 L hb hl, Xab, Xaw, Xak, Xab, strOfNums_size, decide_eq_true (by omega), Xab]
 rfl
theorem Xj1 (b : Int) (h : 3 ≤ b ∧ b ≤ 8) : 0 ≤ Xaa .u64 b ∧ Xaa .i64 (1 * 2 ^ min (Xaa .u64 b).toNat (IntKind.bits .i64)) = 2 ^ b.toNat ∧ Xaa .i64 (1 * 2 ^ min b.toNat (IntKind.bits .i64)) = 2 ^ b.toNat ∧ (2 : Int) ^ b.toNat ≤ 256 ∧ 8 ≤ (2 : Int) ^ b.toNat := by
 obtain h | h | h | h | h | h : b = 3 ∨ b = 4 ∨ b = 5 ∨ b = 6 ∨ b = 7 ∨ b = 8 := by omega
 all_goals (subst h; decide +kernel)
def Xyk (q : Seq) (p : Par) (h : Xu1) : Bool := Xhe q && (Xkq p && (decide (0 ≤ h.Tile ∧ h.Tile < Xb5 q) && (decide (0 ≤ h.Frame ∧ h.Frame < 2 ^ q.Bits.toNat) && decide (0 ≤ h.Qp ∧ h.Qp ≤ 40))))
theorem Xl0 {q : Seq} (h : Xhe q = true) : 0 ≤ Xb5 q ∧ Xb5 q ≤ 1000000 := by
 obtain ⟨h1, h2, _⟩ := Xbb h
 unfold Xb5
 rw [if_pos h]
 have a := Xbe h1
 have b := Xbe h2
 have : (q.Cols.length : Int) * q.Rows.length ≤ 4 * 4 := Int.mul_le_mul (by omega) (by omega) (by omega) (by omega)
 exact ⟨Int.mul_nonneg (by omega) (by omega), by omega⟩
theorem Xv6 (q : Seq) (p : Par) (h : Xu1) (h1 : q.Cols.length ≤ maxLen) (h2 : q.Rows.length ≤ maxLen) : Xl4 q p h = some (Xyk q p h) := by
 unfold Xl4 Xyk
 rw [Xid q h1 h2, Xab]
 cases hs : Xhe q with
 | false => rfl
 | true =>
  rw [Xaw, Xdm, Xab, Bool.true_and]
  cases hp : Xkq p with
  | false => rfl
  | true =>
   obtain ⟨_, _, b1, b2⟩ := Xbb hs
   obtain ⟨s1, s2, s3, s4, s5⟩ := Xj1 q.Bits ⟨b1, b2⟩
   have ht := Xl0 hs
   rw [Xaw, Xhp q h1 h2, Xab, Xak, Xab, wkA (e := Xb5 q - 1), Bool.true_and, rqA, s3, wkA (e := (2 : Int) ^ q.Bits.toNat - 1), Xak, Xab, Xak, Xab]
   have e1 : decide (0 ≤ h.Tile ∧ h.Tile ≤ Xb5 q - 1) = decide (0 ≤ h.Tile ∧ h.Tile < Xb5 q) := by rw [decide_eq_decide]; omega
   have e2 : decide (0 ≤ h.Frame ∧ h.Frame ≤ 2 ^ q.Bits.toNat - 1) = decide (0 ≤ h.Frame ∧ h.Frame < 2 ^ q.Bits.toNat) := by rw [decide_eq_decide]; omega
   rw [e1, e2, Xdh, Xdh, Xab]
theorem Ypy : ∀ (a : List Int) (x : Int), Xov (a ++ [x]) = Xov a + x
 | [], x => by simp [Xov]
 | y :: a, x => by rw [List.cons_append, Xov, Xov, Ypy a x, Int.add_assoc]
theorem Ypz {l : List Int} : ∀ k : Nat, k < l.length → Xov (l.take (k + 1)) = Xov (l.take k) + l.getD k 0 := by
 intro k hk
 rw [List.take_add_one, List.getElem?_eq_getElem hk, Xcd l k hk]
 exact Ypy _ _
theorem Xu3 {l : List Int} (h : l.all Xeh = true) {i : Nat} (hi : i < l.length) : 1 ≤ l.getD i 0 ∧ l.getD i 0 ≤ 8 := by
 have := List.all_eq_true.1 h (l.getD i 0) (by rw [Xcd l i hi]; exact List.getElem_mem _)
 unfold Xeh at this
 rwa [decide_eq_true_eq] at this
theorem Xp5 {l : List Int} (h : l.all Xeh = true) (hl : l.length ≤ 4) (i : Nat) : 0 ≤ Xov (l.take i) ∧ Xov (l.take i) ≤ 32 := by
 have := Xsh (l := l.take i) (List.all_eq_true.2 fun x hx => List.all_eq_true.1 h x (List.mem_of_mem_take hx))
 rw [List.length_take] at this
 omega
theorem Yo1 {l : List Int} (h : l.all Xeh = true) (hl : l.length ≤ 4) (k : Nat) (hk : k ≤ l.length) : Xqt l (k : Int) = some (Xov (l.take k)) := by
 have key : ∀ i : Nat, i ≤ k → loop (Xin l (k : Int)) (Xov (l.take i), (i : Int)) = some (Xov (l.take k)) := by
  refine Xhg _ (Xg8 (by unfold Xin; rw [Xar (by simp)])) ?_
  intro i hi ih
  refine lgo ?_ ih
  have a := Xu3 h (i := i) (by omega)
  have b := Xp5 h hl i
  unfold Xin
  simp only [Int.toNat_natCast]
  rw [syA, rqA, wkA (e := Xov (l.take i) + l.getD i 0), wkA (e := (i : Int) + 1), Ypz i (by omega)]
  rfl
 exact Xgi (key 0 (by omega))
theorem Ytl {l : List Int} (h : l.all Xeh = true) (hl : l.length ≤ 4) : Xcb l = some (Xov l) := by
 have key : ∀ i : Nat, i ≤ l.length → loop (Xdp l) (Xov (l.take i), (i : Int)) = some (Xov l) := by
  refine Xhg _ (Xg8 (by unfold Xdp; rw [Xar (by simp), List.take_length])) ?_
  intro i hi ih
  refine lgo ?_ ih
  have a := Xu3 h (i := i) (by omega)
  have b := Xp5 h hl i
  unfold Xdp
  simp only [Int.toNat_natCast]
  rw [syA, rqA, wkA (e := Xov (l.take i) + l.getD i 0), wkA (e := (i : Int) + 1), Ypz i (by omega)]
  rfl
 exact Xgi (key 0 (by omega))
def Ys5 (s : Seq) : Bool := (s.Level == 0) && ((s.Bits == 0) && (((s.Cols.length : Int) == 0) && ((s.Rows.length : Int) == 0)))
theorem Yhx (s : Seq) : Xnm s = some (Ys5 s) := by
 unfold Xnm Ys5
 cases (s.Level == 0) with
 | false => rfl
 | true =>
  cases (s.Bits == 0) with
  | false => rfl
  | true => cases ((s.Cols.length : Int) == 0) <;> rfl
def Ywe (p : Par) : Bool := (p.Qp == 0) && ((p.Large == false) && ((p.Exact == false) && (p.Confined == false)))
theorem Ymo (s : Seq) (h1 : s.Cols.length ≤ 1048576) (h2 : s.Rows.length ≤ 1048576) : Ydd s = some s ∧ Xhr s = some s := by
 have hm : maxLen = 9223372036854775807 := rfl
 constructor
 ·
  unfold Ydd
  rw [Xa0 (by simp only [List.length_nil]; omega), Xa0 (by simp only [List.length_nil]; omega)]
  rfl
 ·
  unfold Xhr Xdo
  rw [Xa0 (by simp only [List.length_nil]; omega), Xa0 (by simp only [List.length_nil]; omega), Xab, Xab]
  rfl
theorem Yvp : ∀ n : Nat, ∀ c : List Int, c.length = n → Xoe c → Xu6 n (Xpt c) = c
 | 0, c, h, _ => by rw [List.length_eq_zero_iff.1 h]; rfl
 | n + 1, c, h, hb => by
  have hne : c ≠ [] := fun e => by rw [e] at h; simp at h
  have hc := (List.dropLast_concat_getLast hne).symm
  have hl : c.dropLast.length = n := by rw [List.length_dropLast]; omega
  have ih := Yvp n c.dropLast hl (fun x hx => hb x (List.dropLast_subset c hx))
  have hx := hb _ (List.getLast_mem hne)
  generalize c.getLast hne = x at hc hx
  have hv : Xpt c = Xpt c.dropLast * 2 + (x - 48) := by
   rw [hc, Xqv, ← hc]
   show Xpt c.dropLast * 2 ^ 1 + Xpt [x] = _
   rw [show Xpt [x] = x - 48 by simp [Xpt], show (2 : Int) ^ 1 = 2 from rfl]
  rw [Xu6, hv, show (Xpt c.dropLast * 2 + (x - 48)) / 2 = Xpt c.dropLast by omega, show (48 : Int) + (Xpt c.dropLast * 2 + (x - 48)) % 2 = x by omega, ih]
  exact hc.symm
theorem Yo6 : ∀ (m : Nat) (V : List Int) (q : Nat), q < m → (Xgj m V).getD q 0 = Xpt ((V.drop (8 * q)).take 8)
 | 0, _, _, h => by omega
 | m + 1, V, 0, _ => rfl
 | m + 1, V, q + 1, h => by
  rw [Xgj, List.getD_cons_succ, Yo6 m (V.drop 8) q (by omega), List.drop_drop, show 8 + 8 * q = 8 * (q + 1) by omega]
theorem Xw3 : ∀ (m : Nat) (V : List Int), Xoe V → Yml (Xgj m V)
 | 0, _, _ => fun x hx => by simp [Xgj] at hx
 | m + 1, V, h => fun x hx => by
  rw [Xgj] at hx
  rcases List.mem_cons.1 hx with rfl | hx
  ·
   have r := Yar (l := V.take 8) (fun x hx => h x (List.mem_of_mem_take hx))
   have h8 : (V.take 8).length ≤ 8 := by rw [List.length_take]; omega
   have hp : (2 : Int) ^ (V.take 8).length ≤ 2 ^ 8 := by
    have : ∀ k : Fin 9, (2 : Int) ^ k.val ≤ 2 ^ 8 := by decide
    exact this ⟨(V.take 8).length, by omega⟩
   have e8 : (2 : Int) ^ 8 = 256 := rfl
   omega
  ·
   exact Xw3 m (V.drop 8) (fun x hx => h x (List.mem_of_mem_drop hx)) x hx
theorem Yz8 (V : List Int) (a n k : Nat) (h : k < n) : ((V.drop a).take n).getD k 0 = V.getD (a + k) 0 := by
 rw [List.getD_eq_getElem?_getD, List.getD_eq_getElem?_getD, List.getElem?_take_of_lt h, List.getElem?_drop]
theorem Yxs (V : List Int) (hb : Xoe V) (m : Nat) (hV : V.length = 8 * m) (i : Nat) (hi : i < 8 * m) : Ytw (strOfNums (Xgj m V)) i = V.getD i 0 := by
 have hc := Xw3 m V hb
 unfold Ytw
 rw [Xyc _ hc (i / 8) (by rw [Xqy]; omega), Yo6 m V (i / 8) (by omega)]
 have h8 : ((V.drop (8 * (i / 8))).take 8).length = 8 := by rw [List.length_take, List.length_drop]; omega
 have hcb : Xoe ((V.drop (8 * (i / 8))).take 8) := fun x hx => hb x (List.mem_of_mem_drop (List.mem_of_mem_take hx))
 have hr := Yar hcb
 rw [h8] at hr
 have e8 : (2 : Int) ^ 8 = 256 := rfl
 have f1 := Yvp 8 _ h8 hcb
 rw [Zdi _ ⟨hr.1, by omega⟩] at f1
 have f2 : (_ : Int) = _ := congrArg (fun l => List.getD l (i % 8) 0) f1
 rw [Xha _ (by omega), Yz8 V _ _ _ (by omega), show 8 * (i / 8) + i % 8 = i by omega] at f2
 exact f2
theorem Yzn (L : List Int) : ∃ z, L ++ 49 :: List.replicate (8 * (L.length / 8 + 1) - L.length - 1) 48 = L ++ 49 :: List.replicate z 48 ∧ z ≤ 7 ∧ L.length + 1 + z = 8 * (L.length / 8 + 1) := ⟨_, rfl, by omega, by omega⟩
theorem Yve (L : List Int) (hb : Xoe L) : ∃ z, Xs3 (strOfNums (Xsl L)) = L ++ 49 :: List.replicate z 48 ∧ L.length + 1 + z = 8 * (L.length / 8 + 1) := by
 obtain ⟨z, h1, h2, h3⟩ := Yzn L
 refine ⟨z, ?_, h3⟩
 have hV : Xoe (L ++ 49 :: List.replicate z 48) := Xa5 hb (fun x hx => by
  rcases List.mem_cons.1 hx with rfl | hx
  ·
   exact .inr rfl
  ·
   exact Ymj z x hx)
 have hl : (L ++ 49 :: List.replicate z 48).length = 8 * (L.length / 8 + 1) := by
  rw [List.length_append, List.length_cons, List.length_replicate]; omega
 refine List.ext_getElem (by rw [Xu4, strOfNums_size, Xsm, hl]) fun i i1 i2 => ?_
 rw [Xu4, strOfNums_size, Xsm] at i1
 have e1 : (Xs3 (strOfNums (Xsl L)))[i] = (Xs3 (strOfNums (Xsl L))).getD i 0 := (Xcd _ _ (by rw [Xu4, strOfNums_size, Xsm]; exact i1) 0).symm
 have e2 : (L ++ 49 :: List.replicate z 48)[i] = (L ++ 49 :: List.replicate z 48).getD i 0 := (Xcd _ _ i2 0).symm
 rw [e1, e2, Yo2 _ (by rw [strOfNums_size, Xsm]; exact i1)]
 unfold Xsl
 rw [h1]
 exact Yxs _ hV _ hl i i1
theorem Yxu : ∀ b : Fin 256, ∀ k : Fin 8, 48 + ((b.val : Int) / 2 ^ (7 - k.val)) % 2 = 49 → b.val ≠ 0 := by decide +kernel
theorem Yl9 (L : List Int) (hb : Xoe L) (hl : L.length ≤ 400000) : Xku (strOfNums (Xsl L)) = some (strOfNums L, true) := by
 obtain ⟨z, h1, h3⟩ := Yve L hb
 have hs : (strOfNums (Xsl L)).size = L.length / 8 + 1 := by rw [strOfNums_size, Xsm]
 generalize hS : strOfNums (Xsl L) = s at h1 hs
 have k2 : (Xs3 s).getD L.length 0 = 49 := by
  rw [h1]
  have := Ypg L (49 :: List.replicate z 48) 0
  rw [Nat.add_zero] at this
  rw [this]; rfl
 have k3 : ∀ j, L.length + 1 ≤ j → j < 8 * s.size → (Xs3 s).getD j 0 = 48 := fun j j1 j2 => by
  rw [h1]
  have := Ypg L (49 :: List.replicate z 48) (j - L.length)
  rw [show L.length + (j - L.length) = j by omega] at this
  rw [this, show j - L.length = (j - L.length - 1) + 1 by omega, List.getD_cons_succ, Xcd _ _ (by rw [List.length_replicate]; omega) 0, List.getElem_replicate]
 have hb0 := Xyb s ((s.size : Int) - 1)
 have hz : (Xx5 s ((s.size : Int) - 1) == 0) = false := by
  rw [beq_eq_false_iff_ne]
  intro h0
  have hk := k2
  rw [Yo2 s (by omega)] at hk
  unfold Ytw at hk
  rw [show L.length / 8 = s.size - 1 by omega, show (((s.size - 1 : Nat)) : Int) = (s.size : Int) - 1 by omega, h0] at hk
  exact Yxu ⟨0, by omega⟩ ⟨L.length % 8, by omega⟩ hk rfl
 unfold Xku
 rw [wkA (e := 8 * (s.size : Int)), Xbg (b := (8 * (s.size : Int)) == 0) (by rw [beq_eq_false_iff_ne]; omega), wkA (e := (s.size : Int) - 1), Xa0 (show 0 ≤ (s.size : Int) - 1 ∧ (s.size : Int) - 1 < s.size by omega), hz, Xap, decide_eq_false (by omega), Xab, Xap, Xa0 (show 0 ≤ (0 : Int) ∧ (0 : Int) ≤ 8 * (s.size : Int) ∧ 8 * (s.size : Int) * 1 ≤ 281474976710656 by omega), show (List.replicate (0 : Int).toNat (0 : Int)) = [] from rfl, Xyd s (by omega), Xab]
 have hbl := Xu4 s
 have lI : loop (Xek (Xs3 s)) (8 * (s.size : Int)) = some ((L.length + 1 : Nat) : Int) := by
  have key : ∀ m : Nat, L.length + 1 + m ≤ 8 * s.size → loop (Xek (Xs3 s)) ((L.length + 1 + m : Nat) : Int) = some ((L.length + 1 : Nat) : Int) := by
   intro m
   induction m with
   | zero =>
    intro _
    refine Xg8 ?_
    unfold Xek
    rw [wkA, rqA, rqA, show (((L.length + 1 + 0 : Nat) : Int) - 1).toNat = L.length by omega, k2]
    rfl
   | succ m ih =>
    intro hm
    refine lgo ?_ (ih (by omega))
    unfold Xek
    rw [wkA, rqA, rqA, show (((L.length + 1 + (m + 1) : Nat) : Int) - 1).toNat = L.length + 1 + m by omega, k3 _ (by omega) (by omega), show ((L.length + 1 + (m + 1) : Nat) : Int) - 1 = ((L.length + 1 + m : Nat) : Int) by omega]
    rfl
  have := key (8 * s.size - (L.length + 1)) (by omega)
  rwa [show ((L.length + 1 + (8 * s.size - (L.length + 1)) : Nat) : Int) = 8 * (s.size : Int) by omega] at this
 rw [lI, Xab, wkA (e := ((L.length + 1 : Nat) : Int) - 1), show ((L.length + 1 : Nat) : Int) - 1 = (L.length : Int) by omega, snA, rqA, rqA]
 have ht : (Xs3 s).take L.length = L := by rw [h1, List.take_left]
 simp only [Int.toNat_natCast, Int.toNat_zero, Nat.sub_zero, List.drop_zero]
 rw [ht]
theorem Yw9 {k : Int} (hk : Yc3 k = true) (L : List Int) (hb : Xoe L) : Yml (k :: Xsl L) := fun x hx => by
 have hi := Yh8 hk
 rcases List.mem_cons.1 hx with rfl | hx
 ·
  omega
 ·
  obtain ⟨z, h1, _, h3⟩ := Yzn L
  unfold Xsl at hx
  rw [h1] at hx
  exact Xw3 _ _ (Xa5 hb (fun y hy => by
   rcases List.mem_cons.1 hy with rfl | hy
   ·
    exact .inr rfl
   ·
    exact Ymj z y hy)) x hx
theorem Xpw {k : Int} (hk : Yc3 k = true) (L : List Int) (hb : Xoe L) (hl : L.length ≤ 400000) : Xmb (strOfNums (k :: Xsl L)) = some (k, strOfNums L, true) := by
 have hby := Yw9 hk L hb
 have hsz : (strOfNums (k :: Xsl L)).size = L.length / 8 + 2 := by rw [strOfNums_size, List.length_cons, Xsm]
 have hne : ((strOfNums (k :: Xsl L)).toList == (⟨#[]⟩ : ByteArray).toList) = false := by
  rw [beq_eq_false_iff_ne]
  intro h
  rw [Yu0.1 h] at hsz
  have : (⟨#[]⟩ : ByteArray).size = 0 := rfl
  omega
 have b0 : Xx5 (strOfNums (k :: Xsl L)) 0 = k := Xyc _ hby 0 (by simp)
 have hi := Yh8 hk
 have hx : (strOfNums (k :: Xsl L)).extract (1 : Int).toNat (((strOfNums (k :: Xsl L)).size : Int)).toNat = strOfNums (Xsl L) := by
  rw [show k :: Xsl L = [k] ++ Xsl L from rfl, ← Xdd]
  have h1 : (strOfNums [k]).size = 1 := by rw [strOfNums_size]; rfl
  rw [ByteArray.size_append, h1]
  have : (1 : Int).toNat = (strOfNums [k]).size := by rw [h1]; rfl
  rw [this, show (((1 + (strOfNums (Xsl L)).size : Nat)) : Int).toNat = (strOfNums [k]).size + (strOfNums (Xsl L)).size by rw [h1]; omega]
  exact ByteArray.extract_append_eq_right rfl rfl
 have hiw : Xaa .i64 k = k := wkA
 have r0 : ∀ {β : Type} (x : Option β), req (0 ≤ (0 : Int) ∧ (0 : Int) < ((strOfNums (k :: Xsl L)).size : Int)) x = x := fun x => rqA
 have r1 : ∀ {β : Type} (x : Option β), req (0 ≤ (1 : Int) ∧ (1 : Int) ≤ ((strOfNums (k :: Xsl L)).size : Int) ∧ ((strOfNums (k :: Xsl L)).size : Int) ≤ ((strOfNums (k :: Xsl L)).size : Int)) x = x := fun x => rqA
 unfold Xmb
 rw [hne, Xap]
 simp only [r0, r1, b0, hiw, Xwh, hk, Xab, Bool.not_true, Xap, hx, Yl9 L hb hl]
theorem Yog : ∀ (w : Nat) (n : Int), 0 ≤ n → n < 2 ^ w → Xpt (Xu6 w n) = n
 | 0, n, h0, h1 => by
  have : (2 : Int) ^ 0 = 1 := rfl
  rw [show n = 0 by omega]; rfl
 | w + 1, n, h0, h1 => by
  rw [Int.pow_succ] at h1
  rw [Xu6, Xqv, Yog w (n / 2) (by omega) (by omega)]
  show n / 2 * 2 ^ 1 + Xpt [48 + n % 2] = n
  rw [show Xpt [48 + n % 2] = n % 2 from (by simp only [Xpt, List.foldl_cons, List.foldl_nil]; omega), show (2 : Int) ^ 1 = 2 from rfl]
  omega
theorem Ysx {L : List Int} (hb : Xoe L) (hl : L.length ≤ 400000) (q1 : Int × Xnf) (l : List Int) (ha : l.all Xeh = true) (h4 : l.length ≤ 4) (hq : q1.1 = (l.length : Int)) (b : List Int) : ∀ (r pre a : List Int), l = pre ++ r → L = a ++ (Yto r ++ b) → loop (Xfl q1) ((pre.length : Int), strOfNums L, (a.length : Int), false, pre) = some (l, strOfNums L, ((a.length + (Yto r).length : Nat) : Int), false)
 | [], pre, a, h1, h2 => by
  refine Xg8 ?_
  rw [List.append_nil] at h1
  unfold Xfl
  simp only
  rw [hq, h1, snA, Xab, Xap]
  rfl
 | x :: r, pre, a, h1, h2 => by
  have hm : maxLen = 9223372036854775807 := rfl
  have hlen : l.length = pre.length + (r.length + 1) := by rw [h1]; simp
  have hx : Xeh x = true := List.all_eq_true.1 ha x (by rw [h1]; simp)
  have hx : 1 ≤ x ∧ x ≤ 8 := by simpa [Xeh] using hx
  rw [Yto, List.append_assoc] at h2
  have e := Xij h2 hb hl (by omega)
  have ih := Ysx hb hl q1 l ha h4 hq b r (pre ++ [x]) (a ++ ueL x.toNat) (by rw [h1]; simp) (by rw [h2]; simp only [List.append_assoc])
  refine lgo ?_ (ih.trans ?_)
  ·
   unfold Xfl
   simp only
   rw [hq, syA, Bool.not_false, Xab, Xaw, e, Xab]
   simp only
   rw [Xa0 (by simp only [List.length_singleton]; omega), wkA, List.length_append, List.length_append, List.length_singleton, show ((x.toNat : Nat) : Int) = x by omega]
   rfl
  ·
   rw [Yto, List.length_append, List.length_append, Nat.add_assoc]
theorem Yc9 {L a b l : List Int} (hL : L = a ++ (Xro l ++ b)) (hb : Xoe L) (hl : L.length ≤ 400000) (ho : Xd9 l = true) : Xg1 ⟨strOfNums L, (a.length : Int), false⟩ = some (l, ⟨strOfNums L, ((a.length + (Xro l).length : Nat) : Int), false⟩) := by
 have h4 := Xbe ho
 unfold Xd9 at ho
 rw [Bool.and_eq_true] at ho
 unfold Xro at hL ⊢
 rw [List.append_assoc] at hL
 have e := Xij hL hb hl (by omega)
 unfold Xg1
 rw [e, Xab]
 simp only
 rw [snA, Xab]
 have := Ysx hb hl ((l.length : Int), ⟨strOfNums L, ((a.length + (ueL l.length).length : Nat) : Int), false⟩) l ho.2 h4.2 rfl b l [] (a ++ ueL l.length) rfl (by rw [hL]; simp only [List.append_assoc])
 rw [List.length_append] at this
 refine (Xgi this).trans ?_
 rw [List.length_append, Nat.add_assoc]
theorem Yl3 {s : Seq} (h : Xhe s = true) : (Xxz s).length ≤ 400000 := by have := Ytf h; omega
theorem Ymb {s : Seq} (h : Xhe s = true) : Xj7 (strOfNums (Xxz s)) 0 = some (s, ((Xxz s).length : Int), true) := by
 have hm : maxLen = 9223372036854775807 := rfl
 have hb := Yn1 s
 have hl := Yl3 h
 obtain ⟨s1, s2, b1, b2⟩ := Xbb h
 have lv := Xx0 h
 have c1 := Xbe s1
 have c2 := Xbe s2
 have p1 : Xxz s = [] ++ (ueL s.Level.toNat ++ (Xu6 4 s.Bits ++ Xro s.Cols ++ Xro s.Rows)) := by unfold Xxz; simp only [List.nil_append, List.append_assoc]
 have p2 : Xxz s = ueL s.Level.toNat ++ (Xu6 4 s.Bits ++ (Xro s.Cols ++ Xro s.Rows)) := by unfold Xxz; simp only [List.append_assoc]
 have p3 : Xxz s = (ueL s.Level.toNat ++ Xu6 4 s.Bits) ++ (Xro s.Cols ++ Xro s.Rows) := by unfold Xxz; simp only [List.append_assoc]
 have p4 : Xxz s = (ueL s.Level.toNat ++ Xu6 4 s.Bits ++ Xro s.Cols) ++ (Xro s.Rows ++ []) := by unfold Xxz; simp only [List.append_assoc, List.append_nil]
 have hlen : (Xxz s).length = (ueL s.Level.toNat).length + 4 + (Xro s.Cols).length + (Xro s.Rows).length := by unfold Xxz; simp only [List.length_append, Xcr]
 generalize Xxz s = L at *
 have e1 := Xij p1 hb hl (by omega)
 have e2 := Xjy p2 hb hl (by rw [Xcr]; omega)
 have e3 := Yc9 p3 hb hl s1
 have e4 := Yc9 p4 hb hl s2
 rw [Xcr, Yog 4 s.Bits (by omega) (by have : (2 : Int) ^ 4 = 16 := rfl; omega)] at e2
 rw [List.length_append, Xcr] at e3
 rw [List.length_append, List.length_append, Xcr] at e4
 rw [List.length_nil, Nat.zero_add] at e1
 have o := Xz4 hb hl 0 (by omega)
 unfold Xj7
 rw [show (0 : Int) = ((0 : Nat) : Int) from rfl, o, Xab, e1, Xab]
 simp only
 rw [show (4 : Int) = ((4 : Nat) : Int) from rfl, e2, Xab]
 simp only
 rw [e3, Xab]
 simp only
 rw [e4, Xab]
 simp only
 rw [Xap, show ((s.Level.toNat : Nat) : Int) = s.Level by omega, show (⟨s.Level, s.Bits, s.Cols, s.Rows⟩ : Seq) = s from rfl, Xid _ (by omega) (by omega), Xab, h, Xab, hlen]
 rfl
theorem Yyp (b : Bool) : Xpt (Xqr b) = if b = true then 1 else 0 := by cases b <;> rfl
theorem Yma {p : Par} (h : Xkq p = true) : Xj6 (strOfNums (Yc7 p)) 0 = some (p, 9, true) := by
 have hb := Ynt p
 have hl9 := Yfv p
 have hl : (Yc7 p).length ≤ 400000 := by omega
 have hq := Xz5 h
 have p1 : Yc7 p = [] ++ (Xu6 6 p.Qp ++ (Xqr p.Large ++ Xqr p.Exact ++ Xqr p.Confined)) := by unfold Yc7; simp only [List.nil_append, List.append_assoc]
 have p2 : Yc7 p = Xu6 6 p.Qp ++ (Xqr p.Large ++ (Xqr p.Exact ++ Xqr p.Confined)) := by unfold Yc7; simp only [List.append_assoc]
 have p3 : Yc7 p = (Xu6 6 p.Qp ++ Xqr p.Large) ++ (Xqr p.Exact ++ Xqr p.Confined) := by unfold Yc7; simp only [List.append_assoc]
 have p4 : Yc7 p = (Xu6 6 p.Qp ++ Xqr p.Large ++ Xqr p.Exact) ++ (Xqr p.Confined ++ []) := by unfold Yc7; simp only [List.append_assoc, List.append_nil]
 generalize Yc7 p = L at *
 have e1 := Xjy p1 hb hl (by rw [Xcr]; omega)
 have e2 := Xjy p2 hb hl (by rw [Xns]; omega)
 have e3 := Xjy p3 hb hl (by rw [Xns]; omega)
 have e4 := Xjy p4 hb hl (by rw [Xns]; omega)
 simp only [List.length_append, Xcr, Xns, Yyp, List.length_nil] at e1 e2 e3 e4
 rw [Yog 6 p.Qp (by omega) (by have : (2 : Int) ^ 6 = 64 := rfl; omega)] at e1
 have o := Xz4 hb hl 0 (by omega)
 unfold Xj6
 rw [show (0 : Int) = ((0 : Nat) : Int) from rfl, o, Xab, show (6 : Int) = ((6 : Nat) : Int) from rfl, e1, Xab]
 simp only
 rw [show (1 : Int) = ((1 : Nat) : Int) from rfl, e2, Xab]
 simp only
 rw [e3, Xab]
 simp only
 rw [e4, Xab]
 simp only
 have hbit : ∀ b : Bool, ((if b = true then (1 : Int) else 0) == ((1 : Nat) : Int)) = b := fun b => by cases b <;> rfl
 rw [hbit, hbit, hbit, Xap, show (⟨p.Qp, p.Large, p.Exact, p.Confined⟩ : Par) = p from rfl, Xdm, Xab, h, Xab]
 rfl
def Xvn (q : Seq) (p : Par) (h : Xu1) : List Int := ueL h.Tile.toNat ++ Xu6 q.Bits.toNat h.Frame ++ seL (h.Qp - p.Qp)
theorem Yvv (q : Seq) (p : Par) (h : Xu1) : Xoe (Xvn q p h) := Xa5 (Xa5 (Xgh _) (Yfn _ _)) (Xgh _)
theorem Xtx {q : Seq} {p : Par} {h : Xu1} (hh : Xyk q p h = true) : Xhe q = true ∧ Xkq p = true ∧ (0 ≤ h.Tile ∧ h.Tile < Xb5 q) ∧ (0 ≤ h.Frame ∧ h.Frame < 2 ^ q.Bits.toNat) ∧ (0 ≤ h.Qp ∧ h.Qp ≤ 40) := by
 unfold Xyk at hh
 simp only [Bool.and_eq_true, decide_eq_true_eq] at hh
 exact hh
theorem Yvw {q : Seq} {p : Par} {h : Xu1} (hh : Xyk q p h = true) : (Xvn q p h).length ≤ 200 := by
 obtain ⟨hs, hp, ht, hf, hq⟩ := Xtx hh
 obtain ⟨_, _, b1, b2⟩ := Xbb hs
 have hr := Xl0 hs
 have pq := Xz5 hp
 have u := Xe7 h.Tile.toNat (by omega)
 have z := Xsp (h.Qp - p.Qp) (by omega)
 unfold Xvn
 simp only [List.length_append, Xcr]
 omega
theorem Yjn {q : Seq} {p : Par} {h : Xu1} {L R : List Int} (hh : Xyk q p h = true) (hL : L = Xvn q p h ++ R) (hb : Xoe L) (hl : L.length ≤ 400000) : Xf9 q p (strOfNums L) = some (h, ((Xvn q p h).length : Int), true) := by
 have hm : maxLen = 9223372036854775807 := rfl
 obtain ⟨hs, hp, ht, hf, hq⟩ := Xtx hh
 obtain ⟨s1, s2, b1, b2⟩ := Xbb hs
 obtain ⟨_, _, _, w4, _⟩ := Xj1 q.Bits ⟨b1, b2⟩
 have hr := Xl0 hs
 have pq := Xz5 hp
 have c1 := Xbe s1
 have c2 := Xbe s2
 have p1 : L = [] ++ (ueL h.Tile.toNat ++ (Xu6 q.Bits.toNat h.Frame ++ seL (h.Qp - p.Qp) ++ R)) := by rw [hL]; unfold Xvn; simp only [List.nil_append, List.append_assoc]
 have p2 : L = ueL h.Tile.toNat ++ (Xu6 q.Bits.toNat h.Frame ++ (seL (h.Qp - p.Qp) ++ R)) := by rw [hL]; unfold Xvn; simp only [List.append_assoc]
 have p3 : L = (ueL h.Tile.toNat ++ Xu6 q.Bits.toNat h.Frame) ++ (seL (h.Qp - p.Qp) ++ R) := by rw [hL]; unfold Xvn; simp only [List.append_assoc]
 have e1 := Xij p1 hb hl (by omega)
 have e2 := Xjy p2 hb hl (by rw [Xcr]; omega)
 have e3 := Xvh p3 hb hl (by omega)
 rw [Xcr, Yog _ h.Frame hf.1 hf.2] at e2
 rw [List.length_append, Xcr] at e3
 rw [List.length_nil, Nat.zero_add] at e1
 have hlen : (Xvn q p h).length = (ueL h.Tile.toNat).length + q.Bits.toNat + (seL (h.Qp - p.Qp)).length := by unfold Xvn; simp only [List.length_append, Xcr]
 have o := Xz4 hb hl 0 (by omega)
 unfold Xf9
 rw [show (0 : Int) = ((0 : Nat) : Int) from rfl, o, Xab, Xid _ (by omega) (by omega), Xab, hs, Xaw, Xdm, Xab, hp, Xab, Bool.not_true, Xap, e1, Xab]
 simp only
 rw [show q.Bits = ((q.Bits.toNat : Nat) : Int) by omega, e2, Xab]
 simp only
 rw [e3, Xab]
 simp only
 rw [Xap, wkA, show h.Qp - p.Qp + p.Qp = h.Qp by omega, show ((h.Tile.toNat : Nat) : Int) = h.Tile by omega, show (⟨h.Tile, h.Frame, h.Qp⟩ : Xu1) = h from rfl, Xv6 _ _ _ (by omega) (by omega), Xab, hh, Xab, hlen]
 rfl
theorem Yor {l : List Xam} {c : Xe9} {A L : List Int} (hs : Yli l c = true) (hc : Xiq c = true) (hl : 1 ≤ l.length ∧ l.length ≤ 64) (hL : L = A ++ Xis l c) (hb : Xoe L) (hL4 : L.length ≤ 400000) : Xib (strOfNums L) (A.length : Int) (l.length : Int) c = some (l, true) := by
 have hm : maxLen = 9223372036854775807 := rfl
 have key : ∀ (r pre : List Xam) (a : List Int), l = pre ++ r → L = a ++ Xis r c → loop (Xgl (l.length : Int) c) ((pre.length : Int), strOfNums L, (a.length : Int), false, pre) = some (.out (strOfNums L, (L.length : Int), false, l)) := by
  intro r
  induction r with
  | nil =>
   intro pre a h1 h2
   refine Xg8 ?_
   rw [List.append_nil] at h1
   rw [Xis, List.append_nil] at h2
   unfold Xgl
   simp only
   rw [Xar (by rw [h1]; omega), h1, h2]
  | cons s r ih =>
   intro pre a h1 h2
   have hlen : l.length = pre.length + (r.length + 1) := by rw [h1]; simp
   have hmem : s ∈ l := by rw [h1]; simp
   have hq := List.all_eq_true.1 hs s hmem
   simp only [Bool.and_eq_true] at hq
   obtain ⟨q1, q2, q3⟩ := hq
   rw [Xis] at h2
   have hsc := Yku h2 hb hL4 q1 q3
   have := ih (pre ++ [s]) (a ++ sqL s c) (by rw [h1]; simp) (by rw [h2]; simp only [List.append_assoc])
   refine lgo ?_ this
   unfold Xgl
   simp only
   rw [syA, hsc, Xab]
   simp only
   rw [Xa0 (by simp only [List.length_singleton]; omega), Xap, wkA, List.length_append, List.length_append, List.length_singleton]
   rfl
 have := key l [] A rfl hL
 have hA : A.length ≤ L.length := by rw [hL, List.length_append]; omega
 unfold Xib
 rw [Xz4 hb hL4 A.length hA, Xab, Xak, Xab, decide_eq_true (by omega), Xaw, Xez, Xab, hc, Xab, Bool.not_true, Xap]
 refine (Xgi this).trans ?_
 simp only
 rw [strOfNums_size, bne_self_eq_false, Xap]
theorem Ys7 {b : Nat} (h : 8 ≤ (2 : Int) ^ b) : (2 : Int) ^ b ≠ 0 := by
 generalize (2 : Int) ^ b = N at h ⊢
 omega
theorem Yzo {b : Nat} (h : 8 ≤ (2 : Int) ^ b) : 0 < (2 : Int) ^ b := by
 generalize (2 : Int) ^ b = N at h ⊢
 omega
theorem Xw8 {b : Nat} {f : Int} (h : (2 : Int) ^ b ≤ 256) (h1 : f < 2 ^ b) : f ≤ 255 := by
 generalize (2 : Int) ^ b = N at h h1
 omega
theorem Xyh {p : Pic} {s : Seq} (h : Xtk p s = true) : Xc0 p = true ∧ p.Wide = (Xjz s).1 ∧ p.High = (Xjz s).2 := by
 unfold Xtk at h
 simp only [Bool.and_eq_true, beq_iff_eq] at h
 exact h
theorem Yvo {p : Pic} {s : Seq} (h1 : Xc0 p = true) (h2 : p.Wide = (Xjz s).1) (h3 : p.High = (Xjz s).2) : Xtk p s = true := by
 unfold Xtk
 simp only [Bool.and_eq_true, beq_iff_eq]
 exact ⟨h1, h2, h3⟩
theorem Zat {s : Seq} (h : Xhe s = true) : Xjz s = (8 * Xov s.Cols, 8 * Xov s.Rows) ∧ (1 ≤ Xov s.Cols ∧ Xov s.Cols ≤ 32) ∧ (1 ≤ Xov s.Rows ∧ Xov s.Rows ≤ 32) := by
 obtain ⟨s1, s2, _⟩ := Xbb h
 exact ⟨by unfold Xjz; rw [if_pos h], Yby s1, Yby s2⟩
def Ywl (q : Seq) (x y : Nat) : Yxk := ⟨8 * Xov (q.Cols.take x), 8 * Xov (q.Rows.take y), 8 * q.Cols.getD x 0, 8 * q.Rows.getD y 0⟩
theorem Yot {q : Seq} (hs : Xhe q = true) (h1 : q.Cols.length ≤ maxLen) (h2 : q.Rows.length ≤ maxLen) (t : Int) (ht : 0 ≤ t ∧ t < Xb5 q) : ∃ x y : Nat, (x : Int) = t % (q.Cols.length : Int) ∧ (y : Int) = t / (q.Cols.length : Int) ∧ x < q.Cols.length ∧ y < q.Rows.length ∧ Xze q t = some (Ywl q x y, true) ∧ Xsx q t = some (Ywl q x y, true) ∧ (1 ≤ q.Cols.getD x 0 ∧ q.Cols.getD x 0 ≤ 8) ∧ (1 ≤ q.Rows.getD y 0 ∧ q.Rows.getD y 0 ≤ 8) := by
 have hr := Xl0 hs
 have hto : Xb5 q = (q.Cols.length : Int) * q.Rows.length := by unfold Xb5; rw [if_pos hs]
 obtain ⟨s1, s2, _⟩ := Xbb hs
 have c1 := Xbe s1
 have c2 := Xbe s2
 unfold Xd9 at s1 s2
 rw [Bool.and_eq_true] at s1 s2
 have m0 := Int.emod_nonneg t (show (q.Cols.length : Int) ≠ 0 by omega)
 have m1 := Int.emod_lt_of_pos t (show 0 < (q.Cols.length : Int) by omega)
 have d0 : 0 ≤ t / (q.Cols.length : Int) := Int.ediv_nonneg ht.1 (by omega)
 have d1 : t / (q.Cols.length : Int) < q.Rows.length := Int.ediv_lt_of_lt_mul (by omega) (by rw [Int.mul_comm, ← hto]; exact ht.2)
 have ex : ∃ x y : Nat, (x : Int) = t % (q.Cols.length : Int) ∧ (y : Int) = t / (q.Cols.length : Int) := ⟨(t % (q.Cols.length : Int)).toNat, (t / (q.Cols.length : Int)).toNat, by omega, by omega⟩
 obtain ⟨x, y, hx, hy⟩ := ex
 have tm : t.tmod (q.Cols.length : Int) = (x : Int) := by rw [Xb2 ht.1]; exact hx.symm
 have td : Xaa .i64 (t.tdiv (q.Cols.length : Int)) = (y : Int) := by rw [Xbq ht.1, ← hy, wkA]
 have bx := Xp5 s1.2 c1.2 x
 have by_ := Xp5 s2.2 c2.2 y
 have gx := Xu3 s1.2 (i := x) (by omega)
 have gy := Xu3 s2.2 (i := y) (by omega)
 refine ⟨x, y, hx, hy, by omega, by omega, ?_, ?_, gx, gy⟩
 ·
  unfold Xze
  rw [Xhp q h1 h2, Xab, wkA (e := Xb5 q - 1), Xak, Xab, decide_eq_true (by omega), Bool.not_true, Xap, rqA, tm, td, rqA, rqA]
  simp only [Int.toNat_natCast]
  rw [show (0 : Int).toNat = 0 from rfl, List.drop_zero, List.drop_zero, Nat.sub_zero, Nat.sub_zero, Ytl (List.all_eq_true.2 fun z hz => List.all_eq_true.1 s1.2 z (List.mem_of_mem_take hz)) (by rw [List.length_take]; omega), Xab, rqA, Ytl (List.all_eq_true.2 fun z hz => List.all_eq_true.1 s2.2 z (List.mem_of_mem_take hz)) (by rw [List.length_take]; omega), Xab, rqA, rqA, wkA (e := 8 * Xov (q.Cols.take x)), wkA (e := 8 * Xov (q.Rows.take y)), wkA (e := 8 * q.Cols.getD x 0), wkA (e := 8 * q.Rows.getD y 0)]
  rfl
 ·
  unfold Xsx
  rw [snA, Xuq, Xab, decide_eq_false (by omega), Xab, Xap, rqA, tm, td, rqA, Yo1 s1.2 c1.2 x (by omega), Xab, Yo1 s2.2 c2.2 y (by omega), Xab, rqA, rqA]
  simp only [Int.toNat_natCast]
  rw [wkA (e := 8 * Xov (q.Cols.take x)), wkA (e := 8 * Xov (q.Rows.take y)), wkA (e := 8 * q.Cols.getD x 0), wkA (e := 8 * q.Rows.getD y 0)]
  rfl
theorem Xtp {q : Seq} (hs : Xhe q = true) (h1 : q.Cols.length ≤ maxLen) (h2 : q.Rows.length ≤ maxLen) (t : Int) (ht : 0 ≤ t ∧ t < Xb5 q) : ∃ x y : Nat, (x : Int) = t % (q.Cols.length : Int) ∧ (y : Int) = t / (q.Cols.length : Int) ∧ x < q.Cols.length ∧ y < q.Rows.length ∧ Xgr q t = some (q.Cols.getD x 0 * q.Rows.getD y 0) ∧ (1 ≤ q.Cols.getD x 0 ∧ q.Cols.getD x 0 ≤ 8) ∧ (1 ≤ q.Rows.getD y 0 ∧ q.Rows.getD y 0 ≤ 8) := by
 obtain ⟨x, y, hx, hy, lx, ly, _, e, gx, gy⟩ := Yot hs h1 h2 t ht
 have mb : q.Cols.getD x 0 * q.Rows.getD y 0 ≤ 8 * 8 := Int.mul_le_mul (by omega) (by omega) (by omega) (by omega)
 have m0 : 1 * 1 ≤ q.Cols.getD x 0 * q.Rows.getD y 0 := Int.mul_le_mul (by omega) (by omega) (by omega) (by omega)
 refine ⟨x, y, hx, hy, lx, ly, ?_, gx, gy⟩
 unfold Xgr
 rw [e, Xab]
 unfold Ywl
 simp only
 rw [rqA, rqA, Xbq (by omega), Xbq (by omega), show 8 * q.Cols.getD x 0 / 8 = q.Cols.getD x 0 by omega, show 8 * q.Rows.getD y 0 / 8 = q.Rows.getD y 0 by omega, wkA (e := q.Cols.getD x 0), wkA (e := q.Rows.getD y 0), wkA]
def Yof (k : Int) (L : List Int) : ByteArray := strOfNums (k :: Xsl L)
theorem Ybz (s : Seq) (h1 : s.Cols.length ≤ 1048576) (h2 : s.Rows.length ≤ 1048576) : Xkh s s = some true := by
 unfold Xkh
 rw [Xp6 _ (by omega), Xp6 _ (by omega)]
 simp only [beq_self_eq_true, Xaw, Xab]
theorem Ys8 (r : Rate) (key : Bool) : 0 ≤ Xsn r key ∧ Xsn r key ≤ 40 := by
 unfold Xsn
 split
 ·
  rename_i h
  have h' := (Xoy r).1 h
  split
  ·
   exact Xfe (by omega)
  ·
   omega
 ·
  omega
theorem Ygr {q : Seq} {p : Par} {h : Xu1} (hh : Xyk q p h = true) (h1 : q.Cols.length ≤ maxLen) (h2 : q.Rows.length ≤ maxLen) : Xnj q p h = some (strOfNums (Xvn q p h), true) := by
 obtain ⟨hs, hp, ht, hf, hq⟩ := Xtx hh
 obtain ⟨_, _, b1, b2⟩ := Xbb hs
 obtain ⟨_, _, _, w4, _⟩ := Xj1 q.Bits ⟨b1, b2⟩
 have hr := Xl0 hs
 have pq := Xz5 hp
 have hfs := Xw8 w4 hf.2
 have hf0 := hf.1
 unfold Xnj
 have fl := Xcr q.Bits.toNat h.Frame
 have u := Xe7 h.Tile.toNat (by omega)
 have z := Xsp (h.Qp - p.Qp) (by omega)
 rw [Xv6 _ _ _ h1 h2, Xab, hh, Bool.not_true, Xap, wkA (e := h.Qp - p.Qp), Xoj _ (by omega), Xab, show h.Tile = ((h.Tile.toNat : Nat) : Int) by omega, Xfp _ (by omega), Xab, show q.Bits = ((q.Bits.toNat : Nat) : Int) by omega, Xol h.Frame _ hf0 (by omega) (by omega), Xab, Xa0 (by simp only [strOfNums_size]; omega), Xdd, Xa0 (by simp only [strOfNums_size, List.length_append]; omega), Xdd]
 rfl
theorem Yz1 {b : Int} (h : 3 ≤ b ∧ b ≤ 8) : (Lit.int .i64 b).wf = true := by
 rcases (show b = 3 ∨ b = 4 ∨ b = 5 ∨ b = 6 ∨ b = 7 ∨ b = 8 by omega) with rfl | rfl | rfl | rfl | rfl | rfl <;> decide
def Xco (s : Xa7) (want : Bool) : Bool := Xba s && (want || (!s.Has || decide (s.Since ≥ s.Every)))
theorem Yjw (s : Xa7) (w : Bool) (h1 : s.Seq.Cols.length ≤ maxLen) (h2 : s.Seq.Rows.length ≤ maxLen) : Xo3 s w = some (Xco s w) := by
 unfold Xo3 Xco
 rw [Xn4 s h1 h2, Xab]
 cases Xba s with
 | false => rfl
 | true => cases w <;> cases s.Has <;> rfl
theorem Xck {s : Xa7} (h : Xba s = true) : Xb5 s.Seq = 1 ∧ Xhe s.Seq = true ∧ Xkq s.Par = true ∧ Xkj s.Rate = true ∧ (0 ≤ s.Frame ∧ s.Frame < 2 ^ s.Seq.Bits.toNat) ∧ (1 ≤ s.Every ∧ s.Every ≤ 1000) ∧ (0 ≤ s.Since ∧ s.Since ≤ 1000) ∧ (0 ≤ s.Reach ∧ s.Reach ≤ 4) ∧ (s.Has = true → Xtk s.Ref s.Seq = true) ∧ (s.Has = false → s.Ref.Wide = 0 ∧ s.Ref.High = 0 ∧ s.Ref.Dots.size = 0) := by
 unfold Xba at h
 simp only [Bool.and_eq_true, decide_eq_true_eq] at h
 obtain ⟨⟨⟨⟨⟨a, b⟩, c⟩, d⟩, e⟩, f⟩ := h
 refine ⟨a, Xps a, b, c, d, e.1, e.2.1, e.2.2, ?_, ?_⟩
 ·
  intro hh
  rw [if_pos hh] at f
  exact f
 ·
  intro hh
  rw [if_neg (by rw [hh]; decide)] at f
  exact of_decide_eq_true f
theorem Yr5 {s : Xa7} (a : Xb5 s.Seq = 1) (b : Xkq s.Par = true) (c : Xkj s.Rate = true) (d : 0 ≤ s.Frame ∧ s.Frame < 2 ^ s.Seq.Bits.toNat) (e1 : 1 ≤ s.Every ∧ s.Every ≤ 1000) (e2 : 0 ≤ s.Since ∧ s.Since ≤ 1000) (e3 : 0 ≤ s.Reach ∧ s.Reach ≤ 4) (f : s.Has = true) (g : Xtk s.Ref s.Seq = true) : Xba s = true := by
 unfold Xba
 rw [decide_eq_true a, b, c, decide_eq_true d, decide_eq_true ⟨e1, e2, e3⟩, if_pos f, g]
 rfl
theorem Yns {q : Seq} (h : Xb5 q = 1) : ∃ c r : Int, q.Cols = [c] ∧ q.Rows = [r] ∧ (1 ≤ c ∧ c ≤ 8) ∧ (1 ≤ r ∧ r ≤ 8) ∧ Xjz q = (8 * c, 8 * r) := by
 have hs := Xps h
 obtain ⟨s1, s2, _⟩ := Xbb hs
 have l1 := Xbe s1
 have l2 := Xbe s2
 have ht : Xb5 q = (q.Cols.length : Int) * q.Rows.length := by unfold Xb5; rw [if_pos hs]
 have hn : q.Cols.length * q.Rows.length = 1 := by
  have : ((q.Cols.length * q.Rows.length : Nat) : Int) = 1 := by rw [Int.natCast_mul, ← ht, h]
  omega
 have n1 := Nat.eq_one_of_mul_eq_one_right hn
 have n2 := Nat.eq_one_of_mul_eq_one_left hn
 obtain ⟨c, ec⟩ := List.length_eq_one_iff.1 n1
 obtain ⟨r, er⟩ := List.length_eq_one_iff.1 n2
 obtain ⟨e, _⟩ := Zat hs
 unfold Xd9 at s1 s2
 rw [Bool.and_eq_true] at s1 s2
 have a1 := List.all_eq_true.1 s1.2 c (by rw [ec]; simp)
 have a2 := List.all_eq_true.1 s2.2 r (by rw [er]; simp)
 unfold Xeh at a1 a2
 rw [decide_eq_true_eq] at a1 a2
 refine ⟨c, r, ec, er, a1, a2, ?_⟩
 rw [e, ec, er]
 simp [Xov]
theorem Ytg {c : Int} (h : 1 ≤ c ∧ c ≤ 8) : Xx1 (8 * c) = true := by
 unfold Xx1
 rw [Bool.and_eq_true, decide_eq_true_eq, decide_eq_true_eq, Xb2 (by omega)]
 omega
def Xiw (s : Xa7) (key : Bool) : Xe9 := ⟨key, Xsn s.Rate key, s.Par.Large, s.Par.Exact⟩
def Xh7 (s : Xa7) (key : Bool) (l : List Xam) : List Int := Xvn s.Seq s.Par ⟨0, s.Frame, Xsn s.Rate key⟩ ++ Xis l (Xiw s key)
def Xfc (s : Xa7) (key : Bool) (l : List Xam) : List ByteArray := (if key = true then [Yof 7 (Xxz s.Seq), Yof 8 (Yc7 s.Par)] else []) ++ [Yof (if key = true then 5 else 1) (Xh7 s key l)]
def Xix (s : Xa7) (key : Bool) (l : List Xam) (now : Pic) : Xa7 := ⟨s.Seq, s.Par, Yab s.Rate ((Xh7 s key l).length : Int), (s.Frame + 1) % 2 ^ s.Seq.Bits.toNat, (if key = true then 1 else s.Since + 1), s.Every, s.Reach, true, now⟩
theorem Yn9 {s : Xa7} (hs : Xba s = true) (key : Bool) : Xiq (Xiw s key) = true := by
 obtain ⟨_, _, hp, _⟩ := Xck hs
 unfold Xkq at hp
 rw [Bool.and_eq_true] at hp
 unfold Xiq Xiw
 rw [Bool.and_eq_true]
 exact ⟨decide_eq_true (Ys8 _ _), hp.2⟩
theorem Yzr {s : Xa7} {pic : Pic} {want : Bool} (hs : Xba s = true) (hp : Xtk pic s.Seq = true) : Yxm pic s.Ref (Xiw s (Xco s want)) s.Reach := by
 obtain ⟨t1, so, po, ro, hf, he, hsi, hre, hh, hn⟩ := Xck hs
 obtain ⟨c, r, ec, er, hc, hr, esz⟩ := Yns t1
 obtain ⟨p1, p2, p3⟩ := Xyh hp
 rw [esz] at p2 p3
 refine ⟨p1, by rw [p2]; exact Ytg hc, by rw [p3]; exact Ytg hr, Yn9 hs _, hre, ?_⟩
 intro hk
 have hk : Xco s want = false := hk
 unfold Xco at hk
 rw [hs, Bool.true_and] at hk
 have hH : s.Has = true := by
  cases hx : s.Has with
  | true => rfl
  | false => rw [hx] at hk; simp at hk
 obtain ⟨q1, q2, q3⟩ := Xyh (hh hH)
 rw [esz] at q2 q3
 exact ⟨q1, by rw [q2, p2], by rw [q3, p3]⟩
theorem Yoa {s : Xa7} (hs : Xba s = true) (key : Bool) : Xyk s.Seq s.Par ⟨0, s.Frame, Xsn s.Rate key⟩ = true := by
 obtain ⟨t1, so, po, _, hf, _⟩ := Xck hs
 unfold Xyk
 simp only [Bool.and_eq_true, decide_eq_true_eq]
 exact ⟨so, po, ⟨Int.le_refl _, by omega⟩, hf, Ys8 _ _⟩
structure Yu1 (s : Xa7) (pic : Pic) (key : Bool) (l : List Xam) (now : Pic) : Prop where
 til : Xn0 pic s.Ref (Xiw s key) s.Reach ((pic.Wide / 8).toNat * (pic.High / 8).toNat) l now
 fit : Xtk now s.Seq = true
 sq : Yli l (Xiw s key) = true
 lv : ∀ q ∈ l, q.Levels.length ≤ 64
 len : 1 ≤ l.length ∧ l.length ≤ 64
 cnt : Xgr s.Seq 0 = some (l.length : Int)
theorem Zas {s : Xa7} {pic : Pic} {want : Bool} {l : List Xam} {now : Pic} (hs : Xba s = true) (hp : Xtk pic s.Seq = true) (h : Xn0 pic s.Ref (Xiw s (Xco s want)) s.Reach ((pic.Wide / 8).toNat * (pic.High / 8).toNat) l now) : Yu1 s pic (Xco s want) l now := by
 have hm : maxLen = 9223372036854775807 := rfl
 have H := Yzr (want := want) hs hp
 obtain ⟨t1, so, _⟩ := Xck hs
 obtain ⟨c, r, ec, er, hc, hr, esz⟩ := Yns t1
 obtain ⟨p1, p2, p3⟩ := Xyh hp
 obtain ⟨ok, w, hh, hl, hall⟩ := h.pic H
 obtain ⟨n1, n2, n3⟩ := Yuy H.hw H.hh
 have hcc := Yn9 hs (Xco s want)
 obtain ⟨x, y, hx, hy, lx, ly, eT, _⟩ := Xtp so (by rw [ec]; simp; omega) (by rw [er]; simp; omega) 0 ⟨Int.le_refl _, by omega⟩
 rw [ec] at hx lx eT
 rw [er] at ly eT
 have x0 : x = 0 := by simp at lx; exact lx
 have y0 : y = 0 := by simp at ly; exact ly
 subst x0 y0
 have eT' : Xgr s.Seq 0 = some (c * r) := eT
 have e1 : pic.Wide = 8 * c := by rw [p2, esz]
 have e2 : pic.High = 8 * r := by rw [p3, esz]
 have mb : c * r ≤ 8 * 8 := Int.mul_le_mul hc.2 hr.2 (by omega) (by omega)
 have m0 : 1 * 1 ≤ c * r := Int.mul_le_mul hc.1 hr.1 (by omega) (by omega)
 have hlen : (l.length : Int) = c * r := by
  rw [hl, e1, e2, Int.natCast_mul, show 8 * c / 8 = c by omega, show 8 * r / 8 = r by omega, show ((c.toNat : Nat) : Int) = c by omega, show ((r.toNat : Nat) : Int) = r by omega]
 refine ⟨h, Yvo ok (by rw [w, p2]) (by rw [hh, p3]), ?_, fun q hq => (hall q hq).2.2, by omega, by rw [eT', hlen]⟩
 refine List.all_eq_true.2 fun q hq => ?_
 obtain ⟨a, b, _⟩ := hall q hq
 rw [a, b, hcc]; rfl
theorem Xpq {s : Xa7} {pic : Pic} {key : Bool} {l : List Xam} {now : Pic} (hs : Xba s = true) (h : Yu1 s pic key l now) : (Xh7 s key l).length ≤ 400000 ∧ Xoe (Xh7 s key l) ∧ (Xvn s.Seq s.Par ⟨0, s.Frame, Xsn s.Rate key⟩).length ≤ 200 ∧ (Xis l (Xiw s key)).length ≤ 336960 := by
 have a := Yvw (Yoa hs key)
 have b := Yl7 h.sq
 have c := h.len.2
 refine ⟨?_, Xa5 (Yvv _ _ _) (Ycn _ _), a, by omega⟩
 unfold Xh7
 rw [List.length_append]
 omega
theorem Xtn {s : Xa7} {pic : Pic} {want : Bool} (hs : Xba s = true) (hp : Xtk pic s.Seq = true) (hk : Xco s want = true ∨ s.Since < 1000) : ∃ l now, Yu1 s pic (Xco s want) l now ∧ Xfj s pic want = some (Xix s (Xco s want) l now, Xfc s (Xco s want) l, true) := by
 have hm : maxLen = 9223372036854775807 := rfl
 have H := Yzr (want := want) hs hp
 obtain ⟨t1, so, po, ro, hf, he, hsi, hre, hh, hn⟩ := Xck hs
 obtain ⟨s1, s2, b1, b2⟩ := Xbb so
 have c1 := Xbe s1
 have c2 := Xbe s2
 obtain ⟨z1, z2, z3, z4, z5⟩ := Xj1 s.Seq.Bits ⟨b1, b2⟩
 obtain ⟨p1, p2, p3⟩ := Xyh hp
 obtain ⟨l, now, e1, hT⟩ := Yef H
 have S := Zas hs hp hT
 refine ⟨l, now, S, ?_⟩
 obtain ⟨r1, r2, r3, r4⟩ := Xpq hs S
 have hfs := Xw8 z4 hf.2
 have hf0 := hf.1
 have hd := Yoa hs (Xco s want)
 have hwf := Yz1 ⟨b1, b2⟩
 have hss : Xvj s = [Yof 7 (Xxz s.Seq), Yof 8 (Yc7 s.Par)] := by unfold Xvj; rw [if_pos hs]; rfl
 have htr : Yoe l (Xiw s (Xco s want)) = (strOfNums (Xis l (Xiw s (Xco s want))), true) := by
  unfold Yoe
  rw [if_pos (by rw [decide_eq_true S.len, S.sq]; rfl)]
 have hcut : (sel (Xco s want) (some false) (some (decide (s.Since ≥ 1000)))) = some false := by
  cases hx : Xco s want with
  | true => rfl
  | false =>
   rw [Xap, decide_eq_false]
   rcases hk with hk | hk
   ·
    rw [hx] at hk; cases hk
   ·
    omega
 have hsq : ∀ q ∈ l, Xuz q = true := fun q hq => by
  have := List.all_eq_true.1 S.sq q hq
  simp only [Bool.and_eq_true] at this
  exact this.1
 have hcp : Xd8 s = some s := by
  unfold Xd8
  rw [(Ymo s.Seq (by omega) (by omega)).2, Xab]
 unfold Xh7 at r1 r2
 have hkk : ∀ k : Int, k = 5 ∨ k = 1 → Yc3 k = true := fun k h => by rcases h with rfl | rfl <;> rfl
 unfold Xfj
 rw [Xn4 s (by omega) (by omega), Xab, hs, Xaw, Ycw _ _ (by omega) (by omega), Xab, hp, Xab, Bool.not_true, Xap, Yjw s want (by omega) (by omega), Xab, hcut, Xab, Xap, Ymy, Xab]
 have e1' : Xj9 pic s.Ref ⟨Xco s want, Xsn s.Rate (Xco s want), s.Par.Large, s.Par.Exact⟩ s.Reach = some (l, now, true) := e1
 have htr' : Xka l ⟨Xco s want, Xsn s.Rate (Xco s want), s.Par.Large, s.Par.Exact⟩ = some (strOfNums (Xis l (Xiw s (Xco s want))), true) := (Yhm l _ (fun q hq => by have := S.lv q hq; omega)).trans (congrArg some htr)
 rw [e1', Xab]
 simp only
 rw [Ygr hd (by omega) (by omega), Xab]
 simp only
 rw [htr', Xab, hcp, Xab, Xy8 s (by omega) (by omega), Xab, hss, wkA (e := s.Since + 1)]
 have e13 : (sel (Xco s want) (some ((5 : Int), (1 : Int), [Yof 7 (Xxz s.Seq), Yof 8 (Yc7 s.Par)])) (some (1, s.Since + 1, ([] : List ByteArray)))) = some ((if Xco s want = true then 5 else 1), (if Xco s want = true then 1 else s.Since + 1), (if Xco s want = true then [Yof 7 (Xxz s.Seq), Yof 8 (Yc7 s.Par)] else [])) := by
  cases Xco s want <;> rfl
 rw [e13, Xab]
 simp only
 rw [Xa0 (by simp only [strOfNums_size]; omega), Xdd, Xql _ _ (hkk _ (by cases Xco s want <;> simp)) r2 r1, Xab, Yd0, Xab]
 simp only
 rw [z3, rqA, Xa0 (Ys7 z5), Xa0 (by
  simp only [List.length_singleton]
  split <;> simp <;> omega), wkA (e := s.Frame + 1), Xb2 (by omega), wk (by simp only [strOfNums_size]; omega) (by simp only [strOfNums_size]; omega)]
 unfold Xix Xfc Xh7
 rw [strOfNums_size, strOfNums_size, List.length_append, Int.natCast_add]
 rfl
theorem Yb6 (b : List Int) (hb : b.length ≤ 1048576) : ∃ s pics wants, Xja b = some (s, pics, wants) ∧ Xba s = true ∧ s.Seq.Bits = 3 ∧ s.Has = false ∧ s.Frame = 0 ∧ s.Since = 0 ∧ s.Every ≤ 5 ∧ (∀ p ∈ pics, Xtk p s.Seq = true) ∧ wants.length = pics.length ∧ 2 ≤ pics.length ∧ pics.length ≤ 5 := by
 have hm : maxLen = 9223372036854775807 := rfl
 unfold Xja
 obtain ⟨c, e, hc⟩ := Yle b hb
 obtain ⟨x1, c1, e1, a1, b1, _, h1⟩ := Xa2 c 2 hc
 obtain ⟨x2, c2, e2, a2, b2, _, h2⟩ := Xa2 c1 2 h1
 obtain ⟨p, c4, e4, hp, h4⟩ := Xx4 c2 h2
 obtain ⟨t, c5, e5, ht, h5⟩ := Yfi c4 h4
 obtain ⟨x6, c6, e6, a6, b6, _, h6⟩ := Xa2 c5 5 h5
 obtain ⟨x7, c7, e7, a7, b7, _, h7⟩ := Xa2 c6 3 h6
 have b1' := b1 (by omega)
 have b2' := b2 (by omega)
 have b6' := b6 (by omega)
 have b7' := b7 (by omega)
 rw [e, Xab, e1, Xab]
 simp only
 rw [e2, Xab]
 simp only
 rw [e4, Xab]
 simp only
 rw [e5, Xab]
 simp only
 rw [e6, Xab]
 simp only
 rw [e7, Xab]
 simp only
 have sok := Xz2 (1 + x1) (1 + x2) 3 p t (1 + x6) x7 (by omega) (by omega) (by omega) hp ht (by omega) (by omega)
 rw [wkA (e := 1 + x1), wkA (e := 1 + x2), wkA (e := 1 + x6), Yb9 (1 + x1) (1 + x2) 3 p t (1 + x6) x7 (by omega) (by omega) (by omega) hp ht (by omega) (by omega), Xab]
 have hsz := (Yv9 (1 + x1) (1 + x2) 3 (by omega) (by omega) (by omega)).2
 have hsz' : Xjz (Xox (1 + x1) (1 + x2) 3 p t (1 + x6) x7).Seq = (8 * (1 + x1), 8 * (1 + x2)) := hsz
 simp only
 rw [Xwv, Xab, hsz']
 simp only
 obtain ⟨pic, c8, e8, pw, ph, pok, h8⟩ := Xth c7 (8 * (1 + x1)) (8 * (1 + x2)) h7 (by omega) (by omega)
 rw [e8, Xab]
 simp only
 obtain ⟨o, eo, r1, r2, r3, r4⟩ := Xp7 (f := Xil (8 * (1 + x1), 8 * (1 + x2)))
  (fun (i, b, j, h, w, hh, dd, pics, wants) => (0 ≤ i ∧ i ≤ 5) ∧ Xoz ⟨b, j, h⟩ ∧ Xc0 ⟨w, hh, dd⟩ = true ∧ w = 8 * (1 + x1) ∧ hh = 8 * (1 + x2) ∧ (pics.length : Int) = i ∧ (wants.length : Int) = i ∧ ∀ q ∈ pics, Xc0 q = true ∧ q.Wide = 8 * (1 + x1) ∧ q.High = 8 * (1 + x2))
  (fun v => (5 - v.1).toNat)
  (fun _ (pics, wants) => (∀ q ∈ pics, Xc0 q = true ∧ q.Wide = 8 * (1 + x1) ∧ q.High = 8 * (1 + x2)) ∧ wants.length = pics.length ∧ 2 ≤ pics.length ∧ pics.length ≤ 5) (by
  intro ⟨i, b, j, h, w, hh, dd, pics, wants⟩ ⟨i1, i2, i3, i4, i5, i6, i7, i8⟩
  unfold Xil
  simp only
  obtain ⟨x, k1, f1, y0, y1, _, q1⟩ := Xa2 _ 4 i2
  have y1' := y1 (by omega)
  rw [f1, Xab]
  simp only
  rw [wkA (e := 2 + x)]
  by_cases hi : i < 2 + x
  ·
   obtain ⟨z, k2, f2, q2⟩ := Xlo k1 4 q1
   obtain ⟨p2, k3, f4, p3, p4, p5, q3⟩ := Yjc k2 (⟨w, hh, dd⟩ : Pic) q2 i3
   obtain ⟨z2, k4, f5, q4⟩ := Xlo k3 4 q3
   have hall : ∀ q ∈ pics ++ [(⟨w, hh, dd⟩ : Pic)], Xc0 q = true ∧ q.Wide = 8 * (1 + x1) ∧ q.High = 8 * (1 + x2) := fun q hq => by
    rcases List.mem_append.1 hq with hq | hq
    ·
     exact i8 q hq
    ·
     rw [List.mem_singleton.1 hq]; exact ⟨i3, i4, i5⟩
   rw [Xbk hi, Xa0 (by simp only [List.length_singleton]; omega), f2, Xab]
   simp only
   rw [Xa0 (by simp only [List.length_singleton]; omega), f4, Xab, f5, Xab]
   simp only at p3 p4 ⊢
   cases z2 with
   | true =>
    obtain ⟨p6, k5, f6, w6, h6', ok6, q5⟩ := Xth k4 (8 * (1 + x1)) (8 * (1 + x2)) q4 (by omega) (by omega)
    rw [Xaw, f6, Xab, Xab, wkA (e := i + 1)]
    refine .inr ⟨_, rfl, ⟨by simp only; omega, q5, ok6, w6, h6', ?_, ?_, hall⟩, by simp only; omega, fun _ h => h⟩
    ·
     simp only [List.length_append, List.length_singleton]; omega
    ·
     simp only [List.length_append, List.length_singleton]; omega
   | false =>
    rw [Xap, Xab, wkA (e := i + 1)]
    refine .inr ⟨_, rfl, ⟨by simp only; omega, q4, p5, by simp only; omega, by simp only; omega, ?_, ?_, hall⟩, by simp only; omega, fun _ h => h⟩
    ·
     simp only [List.length_append, List.length_singleton]; omega
    ·
     simp only [List.length_append, List.length_singleton]; omega
  ·
   rw [Xar hi]
   exact .inl ⟨_, rfl, i8, by simp only; omega, by simp only; omega, by simp only; omega⟩) (0, c8.b_, c8.i_, c8.h_, pic.Wide, pic.High, pic.Dots, [], []) ⟨⟨Int.le_refl _, by omega⟩, h8, pok, pw, ph, rfl, rfl, fun q hq => by simp at hq⟩
 obtain ⟨pics, wants⟩ := o
 rw [eo, Xab]
 simp only at r1 r2 r3 r4
 refine ⟨_, pics, wants, rfl, sok, rfl, rfl, rfl, rfl, by show 1 + x6 ≤ 5; omega, ?_, r2, r3, r4⟩
 intro q hq
 obtain ⟨g1, g2, g3⟩ := r1 q hq
 exact Yvo g1 (by rw [hsz']; exact g2) (by rw [hsz']; exact g3)
theorem Yr7 {s : Xa7} {pic : Pic} {key : Bool} {l : List Xam} {now : Pic} (hs : Xba s = true) (h : Yu1 s pic key l now) (hk : key = true ∨ s.Since < 1000) : Xba (Xix s key l now) = true := by
 obtain ⟨t1, so, po, ro, hf, he, hsi, hre, hh, hn⟩ := Xck hs
 obtain ⟨_, _, b1, b2⟩ := Xbb so
 obtain ⟨z1, z2, z3, z4, z5⟩ := Xj1 s.Seq.Bits ⟨b1, b2⟩
 have m0 := Int.emod_nonneg (s.Frame + 1) (Ys7 z5)
 have m1 := Int.emod_lt_of_pos (s.Frame + 1) (Yzo z5)
 refine Yr5 (s := Xix s key l now) t1 po (Yrv _ _ ro) ⟨m0, m1⟩ he ?_ hre rfl h.fit
 unfold Xix
 simp only
 cases key with
 | true => rw [if_pos rfl]; omega
 | false =>
  rcases hk with hk | hk
  ·
   cases hk
  ·
   rw [if_neg (by decide)]; omega
theorem Yap (s : Xa7) (key : Bool) (l : List Xam) : (Xfc s key l).length = if key = true then 3 else 1 := by
 unfold Xfc
 cases key <;> rfl
structure Run (q : Seq) (p : Par) (k : Nat) (s : Xa7) : Prop where
 ok : Xba s = true
 bits : s.Seq.Bits = 3
 eS : s.Seq = q
 eP : s.Par = p
 has : k = 0 → s.Has = false
 low : 1 ≤ k → 1 ≤ s.Since ∧ s.Has = true
 high : s.Since ≤ k
theorem Run.next {q : Seq} {p : Par} {k : Nat} {s : Xa7} (R : Run q p k s) (hk : k ≤ 100) {pic : Pic} {want : Bool} {l : List Xam} {now : Pic} (h : Yu1 s pic (Xco s want) l now) : Run q p (k + 1) (Xix s (Xco s want) l now) := by
 have a := Xck R.ok
 have hs := R.high
 refine ⟨Yr7 R.ok h (.inr (by omega)), R.bits, R.eS, R.eP, fun h => by omega, fun _ => ⟨?_, rfl⟩, ?_⟩
 ·
  show 1 ≤ (if Xco s want = true then (1 : Int) else s.Since + 1)
  split
  ·
   omega
  ·
   have := a.2.2.2.2.2.2.1; omega
 ·
  show (if Xco s want = true then (1 : Int) else s.Since + 1) ≤ ((k + 1 : Nat) : Int)
  split <;> omega
theorem Run.first {q : Seq} {p : Par} {s : Xa7} (R : Run q p 0 s) (want : Bool) : Xco s want = true := by
 unfold Xco
 rw [R.ok, R.has rfl]
 cases want <;> rfl
abbrev Xug : Ycq := ⟨false, 0, ⟨#[]⟩⟩
def Xf5 (a : Xfy) : Bool := cnt a.Count && (cnt a.Gone && (if a.Has = true then decide (Xb5 a.Seq = 1) && (Xkq a.Par && decide (0 ≤ a.Frame ∧ a.Frame < 2 ^ a.Seq.Bits.toNat)) else !a.Live && (Ys5 a.Seq && (Ywe a.Par && (a.Frame == 0)))))
theorem Xo1 (a : Xfy) (h1 : a.Seq.Cols.length ≤ maxLen) (h2 : a.Seq.Rows.length ≤ maxLen) : Xj3 a = some (Xf5 a) := by
 have w1 : Xaj a.Count 0 1000000000 = some (cnt a.Count) := Xak _ _ _
 have w2 : Xaj a.Gone 0 1000000000 = some (cnt a.Gone) := Xak _ _ _
 have hP : ((a.Par.Qp == 0) && ((a.Par.Large == false) && ((a.Par.Exact == false) && (a.Par.Confined == false)))) = Ywe a.Par := rfl
 unfold Xj3 Xf5
 rw [w1, Xab, hP]
 cases cnt a.Count with
 | false => rfl
 | true =>
  rw [Xaw, w2, Xab]
  cases cnt a.Gone with
  | false => rfl
  | true =>
   rw [Xab, Bool.not_true, Xap, Yhx, Xab]
   cases hH : a.Has with
   | false =>
    rw [Bool.not_false, Xaw, if_neg (by decide)]
    cases a.Live with
    | true => rfl
    | false =>
     cases Ys5 a.Seq with
     | false => rfl
     | true => cases Ywe a.Par <;> rfl
   | true =>
    rw [Bool.not_true, Xap, if_pos rfl, Xhp _ h1 h2, Xab]
    by_cases ht : Xb5 a.Seq = 1
    ·
     obtain ⟨_, _, b1, b2⟩ := Xbb (Xps ht)
     obtain ⟨s1, s2, s3, s4, s5⟩ := Xj1 a.Seq.Bits ⟨b1, b2⟩
     rw [Xbu (by rw [beq_iff_eq]; exact ht), decide_eq_true ht, Xdm, Xab]
     cases Xkq a.Par with
     | false => rfl
     | true =>
      have hw : Xaa .i64 ((2 : Int) ^ a.Seq.Bits.toNat - 1) = 2 ^ a.Seq.Bits.toNat - 1 := by
       generalize (2 : Int) ^ a.Seq.Bits.toNat = N at s4 s5
       exact wkA
      rw [Xaw, rqA, s3, hw, Xak, Xab, Xab]
      have e1 : decide (0 ≤ a.Frame ∧ a.Frame ≤ (2 : Int) ^ a.Seq.Bits.toNat - 1) = decide (0 ≤ a.Frame ∧ a.Frame < (2 : Int) ^ a.Seq.Bits.toNat) := by
       generalize (2 : Int) ^ a.Seq.Bits.toNat = N
       rw [decide_eq_decide]; omega
      rw [e1]; rfl
    ·
     rw [Xbg (by rw [beq_eq_false_iff_ne]; exact ht), decide_eq_false ht]
     rfl
def Xcs (a : Xfy) : Xfy := ⟨a.Has, false, a.Seq, a.Par, a.Frame, a.Count, Zag a.Gone⟩
theorem Xr3 {a : Xfy} (h : Xf5 a = true) : cnt a.Count = true ∧ cnt a.Gone = true := by
 unfold Xf5 at h
 simp only [Bool.and_eq_true] at h
 exact ⟨h.1, h.2.1⟩
theorem Yq3 {a : Xfy} (h : Xf5 a = true) (hh : a.Has = true) : Xb5 a.Seq = 1 ∧ Xkq a.Par = true ∧ (0 ≤ a.Frame ∧ a.Frame < 2 ^ a.Seq.Bits.toNat) := by
 unfold Xf5 at h
 rw [if_pos hh] at h
 simp only [Bool.and_eq_true, decide_eq_true_eq] at h
 exact h.2.2
theorem Xme (a : Xfy) (h1 : a.Seq.Cols.length ≤ 1048576) (h2 : a.Seq.Rows.length ≤ 1048576) : Xgy a = some a := by
 unfold Xgy
 rw [(Ymo a.Seq h1 h2).2, Xab]
theorem Xq1 (a : Xfy) (h1 : a.Seq.Cols.length ≤ 1048576) (h2 : a.Seq.Rows.length ≤ 1048576) : Xgw a = some (if Xf5 a = true then Xcs a else a) := by
 have hm : maxLen = 9223372036854775807 := rfl
 unfold Xgw
 rw [Xme a h1 h2, Xab, Xo1 a (by omega) (by omega), Xab]
 cases h : Xf5 a with
 | false => rfl
 | true => rw [Xaw, Xt8 _ (Xr3 h).2, Xab, Xab, if_pos rfl]; rfl
theorem Yfp (us : List ByteArray) (i : Nat) (hi : i < us.length) (h3 : i < 3) (ks : List Int) (rs : List ByteArray) (hk : ks.length = i) (hr : rs.length = i) {k : Int} {L : ByteArray} (e : Xmb (us.getD i Xbx) = some (k, L, true)) : Xbd us ((i : Int), ks, rs) = some (.go (((i + 1 : Nat) : Int), ks ++ [k], rs ++ [L])) := by
 have hm : maxLen = 9223372036854775807 := rfl
 unfold Xbd
 simp only [Int.toNat_natCast]
 rw [syA, rqA, e, Xab]
 simp only
 rw [Xaw, Xab, Xbg (b := ((ks.length : Int) == 3)) (by rw [beq_eq_false_iff_ne]; omega), Xa0 (by simp only [List.length_singleton]; omega), Xa0 (by simp only [List.length_singleton]; omega), wkA]
 rfl
theorem Yp1 (us : List ByteArray) (i : Nat) (hi : i = us.length) (ks : List Int) (rs : List ByteArray) : Xbd us ((i : Int), ks, rs) = some (.done (.out (ks, rs))) := by
 unfold Xbd
 simp only
 rw [snA]
def Xva (ks : List Int) : Option Bool := sel ((ks.length : Int) == 3) (req (0 ≤ (0 : Int) ∧ (0 : Int) < ks.length) <| req ((0 : Int).toNat < ks.length) <| sel ((ks.getD ((0 : Int).toNat) 0) != 7) (some true) (req (0 ≤ (1 : Int) ∧ (1 : Int) < ks.length) <| req ((1 : Int).toNat < ks.length) <| sel ((ks.getD ((1 : Int).toNat) 0) != 8) (some true) (req (0 ≤ (2 : Int) ∧ (2 : Int) < ks.length) <| req ((2 : Int).toNat < ks.length) <| sel ((ks.getD ((2 : Int).toNat) 0) != 5) (some true) (some false)))) (sel ((ks.length : Int) != 1) (some true) (req (0 ≤ (0 : Int) ∧ (0 : Int) < ks.length) <| req ((0 : Int).toNat < ks.length) <| some ((ks.getD ((0 : Int).toNat) 0) != 1)))
theorem Yv0 (k : Int) : Xva [k] = some (k != 1) := rfl
theorem Yrl (a b c : Int) : Xva [a, b, c] = some (a != 7 || (b != 8 || c != 5)) := by
 show (sel (a != 7) (some true) (sel (b != 8) (some true) (sel (c != 5) (some true) (some false)))) = _
 cases (a != 7) <;> cases (b != 8) <;> cases (c != 5) <;> rfl
noncomputable def Ypm (a : Xfy) (key : Bool) (q : Seq) (r : Par) (row : ByteArray) : Option (Int × Seq × Par × Xu1 × Ycq) :=
 bnd (Xf9 q r row) fun q18 =>
 sel (!q18.2.2) (some (5, ⟨0, 0, [], []⟩, ⟨0, false, false, false⟩, ⟨0, 0, 0⟩, Xug)) (
 bnd (sel key (some false) (some (!a.Live))) fun v19 =>
 sel v19 (some (6, ⟨0, 0, [], []⟩, ⟨0, false, false, false⟩, ⟨0, 0, 0⟩, Xug)) (
 bnd (sel key (some false) (some (q18.1.Frame != a.Frame))) fun v20 =>
 sel v20 (some (7, ⟨0, 0, [], []⟩, ⟨0, false, false, false⟩, ⟨0, 0, 0⟩, Xug)) (
 req (0 ≤ q18.2.1 ∧ q18.2.1 ≤ (row.size : Int) ∧ (row.size : Int) ≤ (row.size : Int)) <|
 bnd (Xdu q) fun q21 =>
 bnd (Xl7 r ⟨key, q18.1.Qp, row.extract q18.2.1.toNat (row.size : Int).toNat⟩ q21) fun q22 =>
 sel (!q22) (some (8, ⟨0, 0, [], []⟩, ⟨0, false, false, false⟩, ⟨0, 0, 0⟩, Xug)) (
 some (0, q, r, q18.1, ⟨key, q18.1.Qp, row.extract q18.2.1.toNat (row.size : Int).toNat⟩)))))
theorem Yr8 (A B C : ByteArray) : ([A, B, C] : List ByteArray).getD ((0 : Int).toNat) Xbx = A ∧ ([A, B, C] : List ByteArray).getD ((1 : Int).toNat) Xbx = B ∧ ([A, B, C] : List ByteArray).getD ((2 : Int).toNat) Xbx = C ∧ (([A, B, C] : List ByteArray).length : Int) = 3 ∧ Xaa .i64 (3 - 1) = 2 ∧ (∀ {β : Type} (x : Option β), req (0 ≤ (0 : Int) ∧ (0 : Int) < 3) x = x) ∧ (∀ {β : Type} (x : Option β), req (0 ≤ (1 : Int) ∧ (1 : Int) < 3) x = x) ∧ (∀ {β : Type} (x : Option β), req (0 ≤ (2 : Int) ∧ (2 : Int) < 3) x = x) ∧ (∀ {β : Type} (x : Option β), req ((0 : Int).toNat < ([A, B, C] : List ByteArray).length) x = x) ∧ (∀ {β : Type} (x : Option β), req ((1 : Int).toNat < ([A, B, C] : List ByteArray).length) x = x) ∧ (∀ {β : Type} (x : Option β), req ((2 : Int).toNat < ([A, B, C] : List ByteArray).length) x = x) := by
 refine ⟨rfl, rfl, rfl, rfl, wkA, fun x => rqA, fun x => rqA, fun x => rqA, fun x => Xa0 (by simp), fun x => Xa0 (by simp), fun x => Xa0 (by simp)⟩
theorem Ywh (A : ByteArray) : ([A] : List ByteArray).getD ((0 : Int).toNat) Xbx = A ∧ (([A] : List ByteArray).length : Int) = 1 ∧ Xaa .i64 (1 - 1) = 0 ∧ (∀ {β : Type} (x : Option β), req (0 ≤ (0 : Int) ∧ (0 : Int) < 1) x = x) ∧ (∀ {β : Type} (x : Option β), req ((0 : Int).toNat < ([A] : List ByteArray).length) x = x) := by
 refine ⟨rfl, rfl, wkA, fun x => rqA, fun x => Xa0 (by simp)⟩
theorem Yub (a : Xfy) (us : List ByteArray) (p : Par) (A B C : ByteArray) (h : loop (Xbd us) (0, [], []) = some (.out ([7, 8, 5], [A, B, C]))) : Xby a us p = bnd (Xj7 A 0) fun q14 => bnd (Xj6 B 0) fun q15 => bnd (sel q14.2.2 (sel (q14.2.1 != (A.size : Int)) (some true) (sel q15.2.2 (sel (q15.2.1 != (B.size : Int)) (some true) (bnd (Xdv q14.1) fun q17 => sel (q17 != 1) (some true) (sel q15.1.Confined (sel (q15.1.Large == p.Large) (some (!(q15.1.Exact == p.Exact))) (some true)) (some true)))) (some true))) (some true)) fun v16 => sel v16 (some (3, ⟨0, 0, [], []⟩, ⟨0, false, false, false⟩, ⟨0, 0, 0⟩, Xug)) (Ypm a true q14.1 q15.1 C) := by
 obtain ⟨g0, g1, g2, n, w, r0, r1, r2, t0, t1, t2⟩ := Yr8 A B C
 have hk : Xva [7, 8, 5] = some false := Yrl 7 8 5
 have e3 : ((([7, 8, 5] : List Int).length : Int) == 3) = true := rfl
 unfold Xva at hk
 unfold Xby Ypm
 rw [h, Xab]
 simp only [Yp0]
 rw [hk, Xab, Xap]
 simp only [e3, Xaw, n, w, r0, r1, r2, t0, t1, t2, g0, g1, g2]
theorem Yuc (a : Xfy) (us : List ByteArray) (p : Par) (A : ByteArray) (h : loop (Xbd us) (0, [], []) = some (.out ([1], [A]))) : Xby a us p = sel (!a.Has) (some (4, ⟨0, 0, [], []⟩, ⟨0, false, false, false⟩, ⟨0, 0, 0⟩, Xug)) (Ypm a false a.Seq a.Par A) := by
 obtain ⟨g0, n, w, r0, t0⟩ := Ywh A
 have hk : Xva [1] = some false := Yv0 1
 have e3 : ((([1] : List Int).length : Int) == 3) = false := rfl
 unfold Xva at hk
 unfold Xby Ypm
 rw [h, Xab]
 simp only [Yp0]
 rw [hk, Xab, Xap]
 simp only [e3, Xap, n, w, r0, t0, g0]
theorem Yif {q : Seq} (h : Xb5 q = 1) : Xdu q = some (Xg9 q) ∧ Xgr q 0 = some (Xg9 q) := by
 have hm : maxLen = 9223372036854775807 := rfl
 obtain ⟨c, r, ec, er, hc, hr, esz⟩ := Yns h
 have so := Xps h
 obtain ⟨x, y, hx, hy, lx, ly, eT, _⟩ := Xtp so (by rw [ec]; simp; omega) (by rw [er]; simp; omega) 0 ⟨Int.le_refl _, by omega⟩
 refine ⟨Xq8 q (by rw [ec]; simp; omega) (by rw [er]; simp; omega), ?_⟩
 obtain ⟨o1, o2, _⟩ := Xbb so
 have sq : Xg9 q = c * r := by
  unfold Xg9 Yaq
  rw [if_pos o1, if_pos o2, ec, er]
  simp [Xov]
 rw [ec] at hx lx eT
 rw [er] at ly eT
 have x0 : x = 0 := by simp at lx; exact lx
 have y0 : y = 0 := by simp at ly; exact ly
 subst x0 y0
 rw [sq]
 exact eT
theorem Yr9 {a : Xfy} {us : List ByteArray} {p : Par} (h1 : a.Seq.Cols.length ≤ 1048576) (h2 : a.Seq.Rows.length ≤ 1048576) (ha : Xf5 a = true) (hp : Xkq p = true) {co : Int} {q : Seq} {r : Par} {h : Xu1} {t : Ycq} (e : Xby a us p = some (co, q, r, h, t)) (hco : co ≠ 0) : Xbv a us p = some (Xcs a, co, Xug) := by
 have hm : maxLen = 9223372036854775807 := rfl
 unfold Xbv
 rw [Xme a h1 h2, Xab, Xo1 a (by omega) (by omega), Xab, ha, Xaw, Xdm, Xab, hp, Xab, Bool.not_true, Xap, e, Xab]
 simp only
 rw [Xbu (by rw [bne_iff_ne]; exact hco), Xq1 a h1 h2, Xab, if_pos ha]
theorem Yox {a : Xfy} {us : List ByteArray} {p : Par} (h1 : a.Seq.Cols.length ≤ 1048576) (h2 : a.Seq.Rows.length ≤ 1048576) (ha : Xf5 a = true) (hp : Xkq p = true) {q : Seq} {r : Par} {h : Xu1} {t : Ycq} {f : Int} (e : Xby a us p = some (0, q, r, h, t)) (hc : q.Cols.length ≤ 1048576) (hr : q.Rows.length ≤ 1048576) (hf : Xot h.Frame q.Bits = some f) : Xbv a us p = some (⟨true, true, q, r, f, Zag a.Count, a.Gone⟩, 0, t) := by
 have hm : maxLen = 9223372036854775807 := rfl
 unfold Xbv
 rw [Xme a h1 h2, Xab, Xo1 a (by omega) (by omega), Xab, ha, Xaw, Xdm, Xab, hp, Xab, Bool.not_true, Xap, e, Xab]
 simp only
 rw [Xbg (by rfl), (Ymo q hc hr).2, Xab, hf, Xab, Xt8 _ (Xr3 ha).1, Xab]
theorem Ypa (H T : List Int) : (strOfNums (H ++ T)).extract ((H.length : Int)).toNat ((((H ++ T).length : Nat) : Int)).toNat = strOfNums T := by
 have h1 : (strOfNums H).size = H.length := strOfNums_size H
 have h2 : (strOfNums T).size = T.length := strOfNums_size T
 rw [Int.toNat_natCast, Int.toNat_natCast, ← Xdd, List.length_append, ← h1, ← h2]
 exact ByteArray.extract_append_eq_right rfl rfl
theorem Zai {s : Xa7} {pic : Pic} {key : Bool} {l : List Xam} {now : Pic} (hs : Xba s = true) (h : Yu1 s pic key l now) : Xl7 s.Par ⟨key, Xsn s.Rate key, strOfNums (Xis l (Xiw s key))⟩ (Xg9 s.Seq) = some true := by
 obtain ⟨t1, so, po, _⟩ := Xck hs
 have hn : (l.length : Int) = Xg9 s.Seq := Option.some.inj (h.cnt.symm.trans (Yif t1).2)
 have e := Yor (A := []) (L := Xis l (Xiw s key)) h.sq (Yn9 hs key) h.len rfl (Ycn _ _) (by have := (Xpq hs h).2.2.2; omega)
 have e' : Xib (strOfNums (Xis l (Xiw s key))) 0 (Xg9 s.Seq) ⟨key, Xsn s.Rate key, s.Par.Large, s.Par.Exact⟩ = some (l, true) := by
  rw [← hn]; exact e
 unfold Xl7 Xpz
 rw [Xab, e', Xab, Xdm, Xab, po, Xaw, Xab]
def Yr6 (s : Xa7) (key : Bool) (l : List Xam) : Ycq := ⟨key, Xsn s.Rate key, strOfNums (Xis l (Xiw s key))⟩
theorem Yoc {s : Xa7} {pic : Pic} {key : Bool} {l : List Xam} {now : Pic} (hs : Xba s = true) (h : Yu1 s pic key l now) : Xf9 s.Seq s.Par (strOfNums (Xh7 s key l)) = some (⟨0, s.Frame, Xsn s.Rate key⟩, ((Xvn s.Seq s.Par ⟨0, s.Frame, Xsn s.Rate key⟩).length : Int), true) := by
 obtain ⟨r1, r2, _⟩ := Xpq hs h
 exact Yjn (Yoa hs key) rfl r2 r1
theorem Ypn {a : Xfy} {s : Xa7} {pic : Pic} {key : Bool} {l : List Xam} {now : Pic} (hs : Xba s = true) (h : Yu1 s pic key l now) (hl : key = true ∨ a.Live = true ∧ a.Frame = s.Frame) : Ypm a key s.Seq s.Par (strOfNums (Xh7 s key l)) = some (0, s.Seq, s.Par, ⟨0, s.Frame, Xsn s.Rate key⟩, Yr6 s key l) := by
 obtain ⟨t1, _⟩ := Xck hs
 have ex : (strOfNums (Xh7 s key l)).extract (((Xvn s.Seq s.Par ⟨0, s.Frame, Xsn s.Rate key⟩).length : Int)).toNat ((((Xh7 s key l).length : Nat) : Int)).toNat = strOfNums (Xis l (Xiw s key)) := Ypa _ _
 have hle : (Xvn s.Seq s.Par ⟨0, s.Frame, Xsn s.Rate key⟩).length ≤ (Xh7 s key l).length := by unfold Xh7; rw [List.length_append]; omega
 have c1 : (sel key (some false) (some (!a.Live))) = some false := by
  cases key with
  | true => rfl
  | false =>
   rcases hl with hl | hl
   ·
    cases hl
   ·
    rw [hl.1]; rfl
 have c2 : (sel key (some false) (some (s.Frame != a.Frame))) = some false := by
  cases key with
  | true => rfl
  | false =>
   rcases hl with hl | hl
   ·
    cases hl
   ·
    rw [hl.2, bne_self_eq_false]; rfl
 unfold Ypm
 rw [Yoc hs h, Xab]
 simp only
 rw [Bool.not_true, Xap, c1, Xab, Xap, c2, Xab, Xap, strOfNums_size, rqA, (Yif t1).1, Xab, ex, Zai hs h, Xab, Bool.not_true, Xap]
 rfl
theorem Yyi {s : Xa7} {pic : Pic} {l : List Xam} {now : Pic} (hs : Xba s = true) (h : Yu1 s pic true l now) : loop (Xbd (Xfc s true l)) (0, [], []) = some (.out ([7, 8, 5], [strOfNums (Xxz s.Seq), strOfNums (Yc7 s.Par), strOfNums (Xh7 s true l)])) := by
 obtain ⟨t1, so, po, _⟩ := Xck hs
 obtain ⟨r1, r2, _⟩ := Xpq hs h
 have hu : Xfc s true l = [strOfNums (7 :: Xsl (Xxz s.Seq)), strOfNums (8 :: Xsl (Yc7 s.Par)), strOfNums (5 :: Xsl (Xh7 s true l))] := rfl
 have u7 := Xpw (k := 7) rfl (Xxz s.Seq) (Yn1 s.Seq) (Yl3 so)
 have u8 := Xpw (k := 8) rfl (Yc7 s.Par) (Ynt s.Par) (by rw [Yfv]; omega)
 have u5 := Xpw (k := 5) rfl (Xh7 s true l) r2 r1
 rw [hu]
 generalize strOfNums (7 :: Xsl (Xxz s.Seq)) = x at u7
 generalize strOfNums (8 :: Xsl (Yc7 s.Par)) = y at u8
 generalize strOfNums (5 :: Xsl (Xh7 s true l)) = z at u5
 exact lgo (Yfp [x, y, z] 0 (by simp) (by omega) [] [] rfl rfl u7) (lgo (Yfp [x, y, z] 1 (by simp) (by omega) [7] [strOfNums (Xxz s.Seq)] rfl rfl u8) (lgo (Yfp [x, y, z] 2 (by simp) (by omega) [7, 8] [strOfNums (Xxz s.Seq), strOfNums (Yc7 s.Par)] rfl rfl u5) (Xg8 (Yp1 [x, y, z] 3 rfl [7, 8, 5] [strOfNums (Xxz s.Seq), strOfNums (Yc7 s.Par), strOfNums (Xh7 s true l)]))))
theorem Yuk {s : Xa7} {pic : Pic} {l : List Xam} {now : Pic} (hs : Xba s = true) (h : Yu1 s pic false l now) : loop (Xbd (Xfc s false l)) (0, [], []) = some (.out ([1], [strOfNums (Xh7 s false l)])) := by
 obtain ⟨r1, r2, _⟩ := Xpq hs h
 have hu : Xfc s false l = [strOfNums (1 :: Xsl (Xh7 s false l))] := rfl
 have u1 := Xpw (k := 1) rfl (Xh7 s false l) r2 r1
 rw [hu]
 generalize strOfNums (1 :: Xsl (Xh7 s false l)) = x at u1
 exact lgo (Yfp [x] 0 (by simp) (by omega) [] [] rfl rfl u1) (Xg8 (Yp1 [x] 1 rfl [1] [strOfNums (Xh7 s false l)]))
def Xc9 (a : Xfy) (s : Xa7) : Xfy := ⟨true, true, s.Seq, s.Par, (s.Frame + 1) % 2 ^ s.Seq.Bits.toNat, Zag a.Count, a.Gone⟩
theorem Yqu {s : Xa7} (hs : Xba s = true) : Xot s.Frame s.Seq.Bits = some ((s.Frame + 1) % 2 ^ s.Seq.Bits.toNat) ∧ s.Seq.Cols.length ≤ 1048576 ∧ s.Seq.Rows.length ≤ 1048576 := by
 obtain ⟨t1, so, po, _, hf, _⟩ := Xck hs
 obtain ⟨q1, q2, b1, b2⟩ := Xbb so
 have n1 := Xbe q1
 have n2 := Xbe q2
 obtain ⟨z1, z2, z3, z4, z5⟩ := Xj1 s.Seq.Bits ⟨b1, b2⟩
 have hf0 := hf.1
 have hfs := Xw8 z4 hf.2
 refine ⟨?_, by omega, by omega⟩
 unfold Xot
 rw [rqA, z3, Xa0 (Ys7 z5), wkA (e := s.Frame + 1), Xb2 (by omega)]
theorem Yow {a : Xfy} (ha : Xf5 a = true) (h1 : a.Seq.Cols.length ≤ 1048576) (h2 : a.Seq.Rows.length ≤ 1048576) {s : Xa7} {pic : Pic} {l : List Xam} {now : Pic} (hs : Xba s = true) (h : Yu1 s pic true l now) {p : Par} (hp : Xkq p = true) (hc : s.Par.Confined = true) (hL : p.Large = s.Par.Large) (hE : p.Exact = s.Par.Exact) : Xbv a (Xfc s true l) p = some (Xc9 a s, 0, Yr6 s true l) := by
 have hm : maxLen = 9223372036854775807 := rfl
 obtain ⟨t1, so, po, _⟩ := Xck hs
 obtain ⟨sa, sc, sr⟩ := Yqu hs
 have e := Yub a (Xfc s true l) p _ _ _ (Yyi hs h)
 rw [Ymb so, Xab, Yma po, Xab] at e
 simp only at e
 rw [Xaw, strOfNums_size, bne_self_eq_false, Xap, Xaw, strOfNums_size, Yfv, show ((9 : Int) != ((9 : Nat) : Int)) = false from rfl, Xap, Xhp _ (by omega) (by omega), Xab, t1, show ((1 : Int) != 1) = false from rfl, Xap, hc, Xaw, hL, hE, beq_self_eq_true, Xaw, beq_self_eq_true, Bool.not_true, Xab, Xap] at e
 exact Yox h1 h2 ha hp (e.trans (Ypn hs h (.inl rfl))) sc sr sa
theorem Yq4 {a : Xfy} (ha : Xf5 a = true) (h1 : a.Seq.Cols.length ≤ 1048576) (h2 : a.Seq.Rows.length ≤ 1048576) {s : Xa7} {pic : Pic} {l : List Xam} {now : Pic} (hs : Xba s = true) (h : Yu1 s pic false l now) {p : Par} (hp : Xkq p = true) (hH : a.Has = true) (eS : a.Seq = s.Seq) (eP : a.Par = s.Par) :
  (a.Live = true → a.Frame = s.Frame → Xbv a (Xfc s false l) p = some (Xc9 a s, 0, Yr6 s false l)) ∧
  (a.Live = false → Xbv a (Xfc s false l) p = some (Xcs a, 6, Xug)) ∧
  (a.Live = true → s.Frame ≠ a.Frame → Xbv a (Xfc s false l) p = some (Xcs a, 7, Xug)) := by
 obtain ⟨sa, sc, sr⟩ := Yqu hs
 have e := Yuc a (Xfc s false l) p _ (Yuk hs h)
 rw [hH, Bool.not_true, Xap, eS, eP] at e
 refine ⟨fun a1 a2 => Yox h1 h2 ha hp (e.trans (Ypn hs h (.inr ⟨a1, a2⟩))) sc sr sa, fun a1 => Yr9 h1 h2 ha hp (co := 6) (q := ⟨0, 0, [], []⟩) (r := ⟨0, false, false, false⟩) (h := ⟨0, 0, 0⟩) (t := Xug) (e.trans ?_) (by decide), fun a1 a2 => Yr9 h1 h2 ha hp (co := 7) (q := ⟨0, 0, [], []⟩) (r := ⟨0, false, false, false⟩) (h := ⟨0, 0, 0⟩) (t := Xug) (e.trans ?_) (by decide)⟩
 ·
  unfold Ypm
  rw [Yoc hs h, Xab]
  simp only
  rw [Bool.not_true, Xap, Xap, a1, Xab]
  rfl
 ·
  have hb : (s.Frame != a.Frame) = true := by rw [bne_iff_ne]; exact a2
  unfold Ypm
  rw [Yoc hs h, Xab]
  simp only
  rw [Bool.not_true, Xap, Xap, a1, Xab, Bool.not_true, Xap, Xap, Xab, hb, Xaw]
theorem Yov {a : Xfy} (ha : Xf5 a = true) {s : Xa7} (hs : Xba s = true) : Xf5 (Xc9 a s) = true := by
 obtain ⟨t1, so, po, _, hf, _⟩ := Xck hs
 obtain ⟨_, _, b1, b2⟩ := Xbb so
 obtain ⟨z1, z2, z3, z4, z5⟩ := Xj1 s.Seq.Bits ⟨b1, b2⟩
 have m0 := Int.emod_nonneg (s.Frame + 1) (Ys7 z5)
 have m1 := Int.emod_lt_of_pos (s.Frame + 1) (Yzo z5)
 obtain ⟨c1, c2⟩ := Xr3 ha
 unfold Xf5 Xc9
 simp only
 rw [Ysg c1, c2, if_pos trivial, decide_eq_true t1, po, decide_eq_true ⟨m0, m1⟩]
 rfl
theorem You {a : Xfy} (ha : Xf5 a = true) (hH : a.Has = true) : Xf5 (Xcs a) = true := by
 obtain ⟨c1, c2⟩ := Xr3 ha
 obtain ⟨t1, po, hf⟩ := Yq3 ha hH
 unfold Xf5 Xcs
 simp only
 rw [c1, Ysg c2, if_pos hH, decide_eq_true t1, po, decide_eq_true hf]
 rfl
def Xfa : Xfy := ⟨false, false, ⟨0, 0, [], []⟩, ⟨0, false, false, false⟩, 0, 0, 0⟩
theorem Yf4 : Xf5 Xfa = true := rfl
def Xts (s : Xa7) : Xa7 := ⟨s.Seq, ⟨s.Par.Qp, s.Par.Large, s.Par.Exact, true⟩, s.Rate, s.Frame, s.Since, s.Every, s.Reach, s.Has, s.Ref⟩
theorem Yt5 {s : Xa7} (h : Xba s = true) : Xba (Xts s) = true := h
theorem Yra {s : Xa7} (ok : Xba s = true) (hb : s.Seq.Bits = 3) (hh : s.Has = false) (hsi : s.Since = 0) : Run s.Seq ⟨s.Par.Qp, s.Par.Large, s.Par.Exact, true⟩ 0 (Xts s) := ⟨Yt5 ok, hb, rfl, rfl, fun _ => hh, fun h => by omega, by show s.Since ≤ 0; omega⟩
theorem FnLost {p0 : List Int} (h0 : p0.length ≤ maxLen ∧ ∀ y ∈ p0, (Lit.int .u8 y).wf = true) : Xsi p0 = some true := by
 have hm : maxLen = 9223372036854775807 := rfl
 unfold Xsi
 rw [Yrn, Xab]
 by_cases hbig : (p0.length : Int) > 1048576
 ·
  rw [Xbk hbig]
 rw [Xar hbig]
 obtain ⟨s0, pics, wants, e, ok0, hb0, hh0, hf0, hsi0, hev, hp, hw, h2, h5⟩ := Yb6 p0 (by omega)
 have R := Yra ok0 hb0 hh0 hsi0
 have esq : (Xts s0).Seq = s0.Seq := rfl
 have ec : (⟨s0.Seq, (⟨s0.Par.Qp, s0.Par.Large, s0.Par.Exact, true⟩ : Par), s0.Rate, s0.Frame, s0.Since, s0.Every, s0.Reach, s0.Has, s0.Ref⟩ : Xa7) = Xts s0 := rfl
 have ep : (⟨s0.Par.Qp, s0.Par.Large, s0.Par.Exact, true⟩ : Par) = (Xts s0).Par := rfl
 have hl0 : 0 < pics.length := by omega
 have hl1 : 1 < pics.length := by omega
 have fit0 : Xtk (pics.getD 0 Yvm) (Xts s0).Seq = true := hp _ (by rw [Xcd _ 0 hl0]; exact List.getElem_mem _)
 have fit1 : Xtk (pics.getD 1 Yvm) (Xts s0).Seq = true := hp _ (by rw [Xcd _ 1 hl1]; exact List.getElem_mem _)
 generalize hs : Xts s0 = s at R fit0 fit1 ec ep
 have hc : s.Par.Confined = true := by rw [← hs]; rfl
 obtain ⟨t1, so, po, _⟩ := Xck R.ok
 obtain ⟨q1, q2, _⟩ := Xbb so
 have n1 := Xbe q1
 have n2 := Xbe q2
 rw [e, Xab]
 simp only [show (0 : Int).toNat = 0 from rfl, show (1 : Int).toNat = 1 from rfl]
 rw [rqA, rqA, rqA, rqA, ec, ep]
 generalize hp0 : pics.getD 0 Yvm = pic0 at fit0
 generalize hp1 : pics.getD 1 Yvm = pic1 at fit1
 generalize wants.getD 0 Yvl = w0
 generalize wants.getD 1 Yvl = w1
 have k0 := R.first w0
 have z0 := R.high
 obtain ⟨l, now, S, e1⟩ := Xtn (want := w0) R.ok fit0 (.inl k0)
 have R' := R.next (by omega) S
 rw [k0] at S e1 R'
 have u3 : (Xfc s true l).length = 3 := Yap s true l
 have a1 := Yow Yf4 (by simp [Xfa]) (by simp [Xfa]) R.ok S po hc rfl rfl
 have ok1 := Yov Yf4 R.ok
 have lo := Xq1 (Xc9 Xfa s) (show s.Seq.Cols.length ≤ 1048576 by omega) (show s.Seq.Rows.length ≤ 1048576 by omega)
 rw [if_pos ok1] at lo
 have ok2 := You ok1 rfl
 have fit1' : Xtk pic1 (Xix s true l now).Seq = true := fit1
 have z1 := R'.high
 obtain ⟨l2, now2, S2, e2⟩ := Xtn (want := w1) R'.ok fit1' (.inr (by omega))
 have hu2 := Yap (Xix s true l now) (Xco (Xix s true l now) w1) l2
 have hu3 : (Xfc (Xix s true l now) (Xco (Xix s true l now) w1) l2).length ≤ 3 := by rw [hu2]; split <;> omega
 rw [show (⟨pic0.Wide, pic0.High, pic0.Dots⟩ : Pic) = pic0 from rfl, e1, Xab]
 simp only
 rw [List.nil_append, Xa0 (by rw [List.length_nil]; omega), show (⟨false, false, (⟨0, 0, [], []⟩ : Seq), (⟨0, false, false, false⟩ : Par), 0, 0, 0⟩ : Xfy) = Xfa from rfl, a1, Xab]
 simp only
 rw [lo, Xab, rqA, rqA, rqA, rqA, show (⟨pic1.Wide, pic1.High, pic1.Dots⟩ : Pic) = pic1 from rfl, e2, Xab]
 simp only
 rw [List.nil_append, Xa0 (by rw [List.length_nil]; omega)]
 have r1 : (Xcs (Xc9 Xfa s)).Live = false := rfl
 have r2 : (Xcs (Xc9 Xfa s)).Gone = 1 := rfl
 have r3 : (Xcs (Xc9 Xfa s)).Count = 1 := rfl
 have r4 : (Xcs (Xc9 Xfa s)).Seq = s.Seq := rfl
 have r5 : (Xcs (Xc9 Xfa s)).Par = s.Par := rfl
 have r6 : (Xc9 Xfa s).Seq = s.Seq := rfl
 have r7 : (Xc9 Xfa s).Par = s.Par := rfl
 have r8 : (Xix (Xix s true l now) (Xco (Xix s true l now) w1) l2 now2).Has = true := rfl
 have ss := Ybz s.Seq (by omega) (by omega)
 cases hk : Xco (Xix s true l now) w1 with
 | true =>
  rw [hk] at S2 hu2
  have a2 := Yow ok2 (show s.Seq.Cols.length ≤ 1048576 by omega) (show s.Seq.Rows.length ≤ 1048576 by omega) R'.ok S2 (p := s.Par) po hc rfl rfl
  rw [a2, Xab]
  simp only [r1, r2, r3, r4, r5, r6, r7, hu2, ss, Xab, Xaw, Xap, beq_self_eq_true, Bool.and_self, if_true, show ((0 : Int) == 0) = true from rfl, show (((3 : Nat) : Int) == 3) = true from rfl, show (Xc9 (Xcs (Xc9 Xfa s)) (Xix s true l now)).Live = true from rfl]
  rfl
 | false =>
  rw [hk] at S2 hu2
  obtain ⟨_, a2, _⟩ := Yq4 ok2 (show s.Seq.Cols.length ≤ 1048576 by omega) (show s.Seq.Rows.length ≤ 1048576 by omega) R'.ok S2 (p := s.Par) po rfl rfl rfl
  have g1 : (Xcs (Xcs (Xc9 Xfa s))).Live = false := rfl
  have g2 : (Xcs (Xcs (Xc9 Xfa s))).Gone = 2 := rfl
  have g3 : (Xcs (Xcs (Xc9 Xfa s))).Seq = s.Seq := rfl
  rw [a2 rfl, Xab]
  simp only [r1, r2, r3, r4, r5, r6, r7, g1, g2, g3, hu2, ss, Xab, Xaw, Xap, beq_self_eq_true, Bool.and_self, if_true, if_false, Bool.false_eq_true, show ((0 : Int) == 0) = true from rfl, show ((6 : Int) == 0) = false from rfl, show (((1 : Nat) : Int) == 3) = false from rfl]
  rfl
end Go.Proofs.YtnhflbeahbcklabGreat.A.Pure
