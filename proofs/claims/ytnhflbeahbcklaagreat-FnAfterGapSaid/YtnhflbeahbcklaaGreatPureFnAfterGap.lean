/- The pure statement of the law FnAfterGap, part 2: over numbers, texts and lists alone, what the law computes is true. Conditions: the sizes of what a machine holds. -/
import Derived.Test.YtnhflbeahbcklaaGreatPureFnAfterGapx0
namespace Go.Proofs.YtnhflbeahbcklaaGreat.A.Pure
open Go Go.Proofs Go.Proofs.YtnhflbeahbcklaaGreatAL Go.RowKit
set_option linter.unusedVariables false
set_option linter.unusedSimpArgs false
set_option maxHeartbeats 1000000
theorem Xmk {V O : Type} {f g : V → Option (Lp V O)} (I : V → Prop) (h : ∀ v, I v → f v = g v) (hI : ∀ v v', I v → g v = some (.go v') → I v') {v : V} (hv : I v) : loop f v = loop g v := by
 apply Option.ext
 intro o
 rw [Xis, Xis]
 exact ⟨fun ⟨k, hk⟩ => ⟨k, by rw [← Yna I h hI k v hv]; exact hk⟩, fun ⟨k, hk⟩ => ⟨k, by rw [Yna I h hI k v hv]; exact hk⟩⟩
theorem Yrl {V O : Type} {f : V → Option (Lp V O)} {v : V} {o : O} (k : Nat) (h : it f k v = some o) : loop f v = some o := Xis.2 ⟨k, h⟩
theorem Yb0 {a b : List Int} {n : Nat} (ha : a.length = n) (hb : b.length = n) (h : ∀ i : Nat, i < n → a.getD i 0 = b.getD i 0) : a = b := by
 apply List.ext_getElem (by omega)
 intro i h1 h2
 have := h i (by omega)
 rwa [Xcf a i h1, Xcf b i h2] at this
theorem Xg4 {n : Nat} (g : Nat → Int) {i : Nat} (h : i < n) : ((List.range n).map g).getD i 0 = g i := by
 rw [Xcf _ i (by simpa using h)]; simp
theorem Yr7 {α : Type} {f : Int × List α → Option (Lp (Int × List α) (List α))} (n : Nat) (g : Nat → α) (a : List α) (hs : ∀ i : Nat, i < n → f ((i : Int), a ++ (List.range i).map g) = some (.go (((i + 1 : Nat) : Int), a ++ (List.range i).map g ++ [g i]))) (he : f ((n : Int), a ++ (List.range n).map g) = some (.done (a ++ (List.range n).map g))) : loop f (0, a) = some (a ++ (List.range n).map g) := by
 have key : ∀ i : Nat, i ≤ n → loop f ((i : Int), a ++ (List.range i).map g) = some (a ++ (List.range n).map g) := by
  refine Xhc _ (Xgl he) ?_
  intro i hi ih
  refine lgo (hs i hi) ?_
  rw [List.append_assoc, show (List.range i).map g ++ [g i] = (List.range (i + 1)).map g by simp [List.range_succ]]
  exact ih
 have := key 0 (by omega)
 simpa using this
theorem Xne {S : Type} {f : Int × S → Option (Lp (Int × S) S)} (n : Nat) (I : Nat → S → Prop) (hs : ∀ (i : Nat) (l : S), i < n → I i l → ∃ l', f ((i : Int), l) = some (.go (((i + 1 : Nat) : Int), l')) ∧ I (i + 1) l') (he : ∀ l, I n l → f ((n : Int), l) = some (.done l)) (l0 : S) (h0 : I 0 l0) : ∃ o, loop f (0, l0) = some o ∧ I n o := by
 have key : ∀ i : Nat, i ≤ n → ∀ l, I i l → ∃ o, loop f ((i : Int), l) = some o ∧ I n o := by
  refine Xhc _ ?_ ?_
  ·
   intro l h; exact ⟨l, Xgl (he l h), h⟩
  ·
   intro i hi ih l h
   obtain ⟨l', e, h'⟩ := hs i l hi h
   obtain ⟨o, e2, h2⟩ := ih l' h'
   exact ⟨o, lgo e e2, h2⟩
 exact key 0 (by omega) l0 h0
theorem Yuh {f : Int × List Int → Option (Lp (Int × List Int) (List Int))} (n : Nat) (g : Nat → Int) (l : List Int) (hl : l.length = n) (hs : ∀ (i : Nat) (s : List Int), i < n → s.length = n → s.getD i 0 = l.getD i 0 → f ((i : Int), s) = some (.go (((i + 1 : Nat) : Int), s.set i (g i)))) (he : ∀ s : List Int, s.length = n → f ((n : Int), s) = some (.done s)) : loop f (0, l) = some ((List.range n).map g) := by
 obtain ⟨o, e, h1, h2, _⟩ := Xne (f := f) n (fun i s => s.length = n ∧ (∀ j, j < i → s.getD j 0 = g j) ∧ ∀ j, i ≤ j → s.getD j 0 = l.getD j 0) (by
  intro i s hi ⟨g1, g2, g3⟩
  refine ⟨_, hs i s hi g1 (g3 i (Nat.le_refl _)), by rw [List.length_set]; exact g1, fun j hj => ?_, fun j hj => ?_⟩
  ·
   rw [Xex s i j _ (by omega)]
   by_cases h : i = j
   ·
    rw [if_pos h, h]
   ·
    rw [if_neg h]; exact g2 j (by omega)
  ·
   rw [Xex s i j _ (by omega), if_neg (by omega)]; exact g3 j (by omega)) (fun s hs => he s hs.1) l ⟨hl, fun j hj => by omega, fun _ _ => rfl⟩
 rw [e]
 congr 1
 exact Yb0 h1 (by simp) fun i hi => by rw [h2 i hi, Xg4 g hi]
theorem Yq9 : Xoy = Xdy := rfl
theorem Yk7 (qp : Int) (h0 : 0 ≤ qp ∧ qp ≤ 40) : Xjy qp = some (Xpv qp) := by
 have h := Yw3 ⟨qp.toNat, by omega⟩
 simp only at h
 rw [show ((qp.toNat : Nat) : Int) = qp by omega] at h
 unfold Xjy
 rw [Xal, Xab, decide_eq_true (by omega), Bool.not_true, Xap, rqA]
 have hb : (sel ((qp.tmod 6) == 0) (some (10 : Int)) (sel ((qp.tmod 6) == 1) (some 11) (sel ((qp.tmod 6) == 2) (some 13) (sel ((qp.tmod 6) == 3) (some 14) (sel ((qp.tmod 6) == 4) (some 16) (some 18)))))) = some (Xsv qp) := by
  unfold Xsv
  simp only [Yiq, beq_iff_eq]
  repeat' split
  all_goals rfl
 rw [hb, Xab]
 unfold Xpv at h ⊢
 cases e : it (Xm9 qp) 10 (Xsv qp, 0) with
 | none => rw [e] at h; simp only at h; omega
 | some q => rw [Xis.2 ⟨10, e⟩, Xab]
theorem Ym6 : ∀ q : Fin 41, Xju (q.val : Int) = some (Xpv (q.val : Int)) := by decide +kernel
theorem Yke (qp : Int) (h0 : 0 ≤ qp ∧ qp ≤ 40) : Xju qp = some (Xpv qp) := by
 have := Ym6 ⟨qp.toNat, by omega⟩
 simp only at this
 rwa [show ((qp.toNat : Nat) : Int) = qp by omega] at this
theorem Ycr (qp : Int) (h0 : 0 ≤ qp ∧ qp ≤ 40) : Xju qp = Xjy qp := by rw [Yke qp h0, Yk7 qp h0]
theorem Xwh (u v : Nat) (hu : u < 8) (hv : v < 8) : Xmt u v = some (Xi6 u v) := by
 have h := Ywv ⟨u, hu⟩ ⟨v, hv⟩
 simp only at h
 unfold Xmt
 rw [Xal, Xab, decide_eq_true (by omega), Xaw, Xal, Xab, decide_eq_true (by omega), Bool.not_true, Xab, Xap]
 unfold Xi6 at h ⊢
 cases e : it Xm7 10 (1, (IntKind.wrap .i64 (BitVec.ofInt (IntKind.bits .i64) (u : Int) &&& BitVec.ofInt (IntKind.bits .i64) (v : Int)).toNat)) with
 | none => rw [e] at h; simp only at h; omega
 | some q => rw [Xis.2 ⟨10, e⟩, Xab]
theorem Ym1 : ∀ u v : Fin 8, Xl8 (u.val : Int) (v.val : Int) = some (Xi6 (u.val : Int) (v.val : Int)) := by decide +kernel
theorem Ycq (u v : Nat) (hu : u < 8) (hv : v < 8) : Xl8 u v = some (Xi6 u v) := Ym1 ⟨u, hu⟩ ⟨v, hv⟩
def Ynv (qp p : Int) : Option Int :=
 bnd (Xpn p) fun q1 => bnd (Xbc q1 10 16 13) fun a1 => bnd (Xbc q1 11 18 14) fun a2 => bnd (Xbc q1 13 20 16) fun a3 => bnd (Xbc q1 14 23 18) fun a4 => bnd (Xbc q1 16 25 20) fun a5 => bnd (Xbc q1 18 29 23) fun a6 =>
 it (Xfs qp) 10 ((sel (qp.tmod 6 == 0) a1 (sel (qp.tmod 6 == 1) a2 (sel (qp.tmod 6 == 2) a3 (sel (qp.tmod 6 == 3) a4 (sel (qp.tmod 6 == 4) a5 (sel (qp.tmod 6 == 5) a6 0)))))), 0)
theorem Ywr : ∀ q : Fin 41, ∀ p : Fin 16, (Ynv (q.val : Int) (p.val : Int)).isSome = true ∧ Xnk (q.val : Int) (p.val : Int) = Ynv (q.val : Int) (p.val : Int) := by decide +kernel
theorem Yl7 (qp p : Int) (h0 : 0 ≤ qp ∧ qp ≤ 40) (hp : 0 ≤ p ∧ p ≤ 15) : Xnk qp p = Xnt qp p := by
 have := Ywr ⟨qp.toNat, by omega⟩ ⟨p.toNat, by omega⟩
 simp only at this
 rw [show ((qp.toNat : Nat) : Int) = qp by omega, show ((p.toNat : Nat) : Int) = p by omega] at this
 obtain ⟨h1, h2⟩ := this
 rw [h2]
 cases e : Ynv qp p with
 | none => rw [e] at h1; cases h1
 | some o =>
  unfold Ynv at e
  unfold Xnt
  obtain ⟨k, ek, k0, k1⟩ := Xqs p hp
  rw [ek, Xab] at e ⊢
  rw [Xal, Xab, decide_eq_true h0, Xaw, decide_eq_false (by omega), Xab, Xap, rqA]
  obtain ⟨a1, e1, b1⟩ := Xa4 k 10 16 13
  obtain ⟨a2, e2, b2⟩ := Xa4 k 11 18 14
  obtain ⟨a3, e3, b3⟩ := Xa4 k 13 20 16
  obtain ⟨a4, e4, b4⟩ := Xa4 k 14 23 18
  obtain ⟨a5, e5, b5⟩ := Xa4 k 16 25 20
  obtain ⟨a6, e6, b6⟩ := Xa4 k 18 29 23
  rw [e1, e2, e3, e4, e5, e6] at e ⊢
  simp only [Xab, Ytd] at e ⊢
  rw [Yrl 10 e, Xab]
def Xrm (n : Int) (v16 : Int × List Int) : Option (Lp (Int × List Int) (List Int)) :=
 sel (decide (v16.1 ≤ (Xaa .i64 ((Xaa .i64 (2 * n)) - 2)))) (
 bnd (it (Xk6 n v16) 20 (0, v16.2)) fun v42 =>
 some (.go (Xaa .i64 (v16.1 + 1), v42))) (
 some (.done v16.2))
theorem Yqk {n : Int} {v : Int × List Int} {x : Lp (Int × List Int) (List Int)} (h : Xrm n v = some x) : Xg5 n v = some x := by
 unfold Xrm at h
 unfold Xg5
 rcases Xjl h with ⟨hb, h⟩ | ⟨hb, h⟩
 ·
  rw [hb, Xaw]
  obtain ⟨a, h1, h2⟩ := Xbe h
  rw [Xis.2 ⟨20, h1⟩, Xab]
  exact h2
 ·
  rw [hb, Xap]; exact h
def Yip (n : Int) : List Int := (it (Xrm n) 20 (0, [])).getD []
theorem Zan : (it (Xrm 4) 20 (0, [])).isSome = true ∧ (Yip 4).length = 16 := by decide +kernel
theorem Zao : (it (Xrm 8) 20 (0, [])).isSome = true ∧ (Yip 8).length = 64 := by decide +kernel
theorem Yws : ∀ i : Fin 16, (Yip 4).getD i.val 0 = Xgm 4 (i.val : Int) := by decide +kernel
theorem Ywt : ∀ i : Fin 64, (Yip 8).getD i.val 0 = Xgm 8 (i.val : Int) := by decide +kernel
theorem Xre (n : Int) (hn : n = 4 ∨ n = 8) : Xgv n = some (Yip n) ∧ ((Yip n).length : Int) = n * n ∧ ∀ i : Nat, (i : Int) < n * n → (Yip n).getD i 0 = Xgm n i := by
 have h : (it (Xrm n) 20 (0, [])).isSome = true ∧ ((Yip n).length : Int) = n * n := by
  rcases hn with rfl | rfl
  ·
   have := Zan; exact ⟨this.1, by omega⟩
  ·
   have := Zao; exact ⟨this.1, by omega⟩
 refine ⟨?_, h.2, fun i hi => ?_⟩
 ·
  obtain ⟨o, ho⟩ := Option.isSome_iff_exists.1 h.1
  have hl := Yrl 20 (Yx6 (fun v y => Yqk (n := n)) 20 _ ho)
  unfold Xgv
  rw [hl, Xab]
  unfold Yip; rw [ho]; rfl
 ·
  rcases hn with rfl | rfl
  ·
   exact Yws ⟨i, by omega⟩
  ·
   exact Ywt ⟨i, by omega⟩
theorem Xti (n : Int) (hn : n = 4 ∨ n = 8) (l : List Int) (hl : (l.length : Int) = n * n) : Xe1 n l = Xe3 n l := by
 obtain ⟨e, h1, h2⟩ := Xre n hn
 have hw : Xaa .i64 (n * n) = n * n := by rcases hn with rfl | rfl <;> exact wkA
 have hn2 : n * n ≤ 64 := by rcases hn with rfl | rfl <;> omega
 unfold Xe1 Xe3
 rw [e]
 have : loop (Xid l (Yip n)) (0, List.replicate (l.length : Int).toNat 0) = loop (Xc3 n l) (0, List.replicate (l.length : Int).toNat 0) := by
  refine Xmk (fun v => (∃ i : Nat, v.1 = (i : Int) ∧ i ≤ l.length) ∧ v.2.length = l.length) ?_ ?_ ⟨⟨0, rfl, by omega⟩, by simp⟩
  ·
   intro ⟨i, s⟩ ⟨⟨k, ek, hk⟩, hs⟩
   simp only at hs ek
   subst ek
   unfold Xid Xc3
   simp only [Int.toNat_natCast]
   rw [hw]
   by_cases hi : (k : Int) < n * n
   ·
    have hp := Xhw n hn k hi
    have h3 := h2 k hi
    simp only [h3]
    rw [syA, Xbi hi, Xg1 n hn k hi, Xab, rqA, rqA]
   ·
    rw [snA, Xar hi]
  ·
   intro ⟨i, s⟩ v' ⟨⟨k, ek, hk⟩, hs⟩ he
   simp only at hs ek
   subst ek
   unfold Xc3 at he
   simp only [Int.toNat_natCast] at he
   rw [hw] at he
   by_cases hi : (k : Int) < n * n
   ·
    have hp := Xhw n hn k hi
    rw [Xbi hi, Xg1 n hn k hi, Xab, rqA, rqA, rqA, wkA] at he
    cases he
    exact ⟨⟨k + 1, rfl, by omega⟩, by rw [List.length_set]; exact hs⟩
   ·
    rw [Xar hi] at he; cases he
 simp only [Xab, this]
theorem Xrx (n : Int) (hn : n = 4 ∨ n = 8) (l : List Int) (hl : (l.length : Int) = n * n) : Xhi n l = Xh1 n l := by
 have hm : maxLen = 9223372036854775807 := rfl
 obtain ⟨e, h1, h2⟩ := Xre n hn
 have hw : Xaa .i64 (n * n) = n * n := by rcases hn with rfl | rfl <;> exact wkA
 have hn2 : n * n ≤ 64 := by rcases hn with rfl | rfl <;> omega
 unfold Xhi Xh1
 rw [e]
 have : loop (Xkz l (Yip n)) (0, ([] : List Int)) = loop (Xec n l) (0, ([] : List Int)) := by
  refine Xmk (fun v => ∃ i : Nat, v.1 = (i : Int) ∧ i ≤ l.length) ?_ ?_ ⟨0, rfl, by omega⟩
  ·
   intro ⟨i, s⟩ ⟨k, ek, hk⟩
   simp only at ek
   subst ek
   unfold Xkz Xec
   simp only [Int.toNat_natCast]
   rw [hw]
   by_cases hi : (k : Int) < n * n
   ·
    have hp := Xhw n hn k hi
    have h3 := h2 k hi
    simp only [h3]
    rw [syA, Xbi hi, Xg1 n hn k hi, Xab, rqA, rqA]
   ·
    rw [snA, Xar hi]
  ·
   intro ⟨i, s⟩ v' ⟨k, ek, hk⟩ he
   simp only at ek
   subst ek
   unfold Xec at he
   simp only [Int.toNat_natCast] at he
   rw [hw] at he
   by_cases hi : (k : Int) < n * n
   ·
    have hp := Xhw n hn k hi
    rw [Xbi hi, Xg1 n hn k hi, Xab, rqA] at he
    obtain ⟨_, he⟩ := Xav he
    rw [wkA] at he
    cases he
    exact ⟨k + 1, rfl, by omega⟩
   ·
    rw [Xar hi] at he; cases he
 simp only [Xab, this]
def Yoh (t : Nat → Int) : Nat → Int
 | 0 => 0
 | k + 1 => Xaa .i64 (Yoh t k + t k)
def Zak (p : List Int) (i v k : Nat) : Int := Xaa .i64 (Xi6 v k * p.getD (8 * i + k) 0)
def Yz2 (p : List Int) (u v k : Nat) : Int := Xaa .i64 (Xi6 u k * p.getD (8 * k + v) 0)
def Xto (p : List Int) : List Int := (List.range 64).map fun j => Yoh (Zak p (j / 8) (j % 8)) 8
def Yuw (p : List Int) : List Int := (List.range 64).map fun j => Yoh (Yz2 (Xto p) (j / 8) (j % 8)) 8
theorem Ypd (p : List Int) : (Xto p).length = 64 := by simp [Xto]
theorem Yw5 (p : List Int) : (Yuw p).length = 64 := by simp [Yuw]
theorem Yqr {f1 : Int × List Int → Option (Lp (Int × List Int) (List Int))} {f2 : Int × List Int → Int × List Int → Option (Lp (Int × List Int) (List Int))} {f3 : Int × List Int → Int × List Int → Int × List Int → Option (Lp (Int × List Int) (List Int))} (t : Nat → Nat → Nat → Int)
  (h1 : ∀ v, f1 v = sel (decide (v.1 < 8)) (bnd (loop (f2 v) (0, v.2)) fun w => some (.go (Xaa .i64 (v.1 + 1), w))) (some (.done v.2)))
  (h2 : ∀ v w, f2 v w = sel (decide (w.1 < 8)) (bnd (loop (f3 v w) (0, w.2)) fun x => some (.go (Xaa .i64 (w.1 + 1), x))) (some (.done w.2)))
  (h3 : ∀ (i v k : Nat) (a b s : List Int), i < 8 → v < 8 → k < 8 → s.length = 64 → f3 ((i : Int), a) ((v : Int), b) ((k : Int), s) = some (.go (((k + 1 : Nat) : Int), s.set (8 * i + v) (Xaa .i64 (s.getD (8 * i + v) 0 + t i v k)))))
  (h4 : ∀ (i v : Nat) (a b s : List Int), f3 ((i : Int), a) ((v : Int), b) (8, s) = some (.done s)) : loop f1 (0, List.replicate 64 0) = some ((List.range 64).map fun j => Yoh (t (j / 8) (j % 8)) 8) := by
 obtain ⟨o, e, o1, o2, _⟩ := Xne (f := f1) 8 (fun i s => s.length = 64 ∧ (∀ j, j < 8 * i → s.getD j 0 = Yoh (t (j / 8) (j % 8)) 8) ∧ ∀ j, 8 * i ≤ j → s.getD j 0 = 0) (by
  intro i s hi ⟨g1, g2, g3⟩
  obtain ⟨r, er, r1, r2, r3⟩ := Xne (f := f2 ((i : Int), s)) 8 (fun v s => s.length = 64 ∧ (∀ j, j < 8 * i + v → s.getD j 0 = Yoh (t (j / 8) (j % 8)) 8) ∧ ∀ j, 8 * i + v ≤ j → s.getD j 0 = 0) (by
   intro v s' hv ⟨k1, k2, k3⟩
   obtain ⟨q, eq, q1, q2, q3⟩ := Xne (f := f3 ((i : Int), s) ((v : Int), s')) 8 (fun k s => s.length = 64 ∧ (∀ j, j ≠ 8 * i + v → s.getD j 0 = s'.getD j 0) ∧ s.getD (8 * i + v) 0 = Yoh (t i v) k) (by
    intro k s'' hk ⟨m1, m2, m3⟩
    refine ⟨_, h3 i v k s s' s'' hi hv hk m1, by rw [List.length_set]; exact m1, fun j hj => ?_, ?_⟩
    ·
     rw [Xex _ _ _ _ (by omega), if_neg (fun h => hj h.symm)]; exact m2 j hj
    ·
     rw [Xex _ _ _ _ (by omega), if_pos rfl, m3]; rfl) (fun z _ => h4 i v s s' z) s' ⟨k1, fun _ _ => rfl, by rw [k3 _ (Nat.le_refl _)]; rfl⟩
   refine ⟨q, by rw [h2, Xbi (by simp only; omega), eq, Xab, wk (by simp only; omega) (by simp only; omega)]; rfl, q1, fun j hj => ?_, fun j hj => ?_⟩
   ·
    by_cases h : j = 8 * i + v
    ·
     rw [h, q3, show (8 * i + v) / 8 = i by omega, show (8 * i + v) % 8 = v by omega]
    ·
     rw [q2 j h]; exact k2 j (by omega)
   ·
    rw [q2 j (by omega)]; exact k3 j (by omega)) (fun z _ => by rw [h2, Xar (by simp)]) s ⟨g1, g2, g3⟩
  refine ⟨r, by rw [h1, Xbi (by simp only; omega), er, Xab, wk (by simp only; omega) (by simp only; omega)]; rfl, r1, fun j hj => r2 j (by omega), fun j hj => r3 j (by omega)⟩) (fun z _ => by rw [h1, Xar (by simp)]) (List.replicate 64 0) ⟨by simp, fun j hj => by omega, fun j _ => by
   by_cases h : j < 64
   ·
    rw [Xcf _ _ (by rw [List.length_replicate]; exact h)]; exact List.getElem_replicate ..
   ·
    rw [List.getD_eq_getElem?_getD, List.getElem?_eq_none (by rw [List.length_replicate]; omega)]; rfl⟩
 rw [e]
 congr 1
 exact Yb0 o1 (by simp) fun j hj => by rw [o2 j (by omega), Xg4 (fun j => Yoh (t (j / 8) (j % 8)) 8) hj]
theorem Yc1 (p : List Int) (hp : p.length = 64) : Xri p = some (Yuw p) := by
 unfold Xri
 rw [rqA]
 have e1 : loop (Xsa p) (0, List.replicate (64 : Int).toNat 0) = some (Xto p) :=
  Yqr (f2 := Xsb p) (f3 := Xk9 p) (fun i v k => Zak p i v k) (fun _ => rfl) (fun _ _ => rfl) (fun i v k a b s hi hv hk hs => by
   unfold Xk9
   simp only
   rw [syA, wkA (e := 8 * (i : Int)), wkA (e := 8 * (i : Int) + (v : Int)), wkA (e := 8 * (i : Int) + (k : Int)), rqA, rqA, Ycq v k hv hk, Xab, rqA, rqA, rqA, wkA (e := (k : Int) + 1), show (8 * (i : Int) + (v : Int)).toNat = 8 * i + v by omega, show (8 * (i : Int) + (k : Int)).toNat = 8 * i + k by omega]
   rfl) (fun i v a b s => by unfold Xk9; rw [Xar (by simp)])
 have e2 : loop (Xqm (Xto p)) (0, List.replicate (64 : Int).toNat 0) = some (Yuw p) :=
  Yqr (f2 := Xqn (Xto p)) (f3 := Xi5 (Xto p)) (fun i v k => Yz2 (Xto p) i v k) (fun _ => rfl) (fun _ _ => rfl) (fun i v k a b s hi hv hk hs => by
   have hl := Ypd p
   unfold Xi5
   simp only
   rw [syA, wkA (e := 8 * (i : Int)), wkA (e := 8 * (i : Int) + (v : Int)), wkA (e := 8 * (k : Int)), wkA (e := 8 * (k : Int) + (v : Int)), rqA, rqA, Ycq i k hi hk, Xab, rqA, rqA, rqA, rqA, wkA (e := (k : Int) + 1), show (8 * (i : Int) + (v : Int)).toNat = 8 * i + v by omega, show (8 * (k : Int) + (v : Int)).toNat = 8 * k + v by omega]
   rfl) (fun i v a b s => by unfold Xi5; rw [Xar (by simp)])
 rw [e1, Xab, rqA, e2, Xab]
theorem Ylc (p : List Int) (hp : p.length = 64) (i v : Nat) (hi : i < 8) (hv : v < 8) : Xpr p i v = some (Yoh (Zak p i v) 8) := by
 obtain ⟨o, e, h⟩ := Xp0 (f := Xe5 p i v) 8 (fun k s => s = Yoh (Zak p i v) k) (by
  intro k s hk g
  subst g
  unfold Xe5
  simp only
  rw [syA, wkA (e := 8 * (i : Int)), wkA (e := 8 * (i : Int) + (k : Int)), rqA, Xwh v k hv hk, Xab, wkA (e := (k : Int) + 1), show (8 * (i : Int) + (k : Int)).toNat = 8 * i + k by omega, Int.mul_comm (p.getD _ _)]
  exact ⟨_, rfl, rfl⟩) (by intro s; unfold Xe5; rw [Xar (by simp)]) 0 rfl
 unfold Xpr
 rw [e, Xab, h]
theorem Xul (p : List Int) (hp : p.length = 64) : Xkk p = some (Yuw p) := by
 have hm : maxLen = 9223372036854775807 := rfl
 unfold Xkk
 obtain ⟨o, e, ho⟩ := Xdu (f := Xdi p) 8 (fun i s => s = (List.range (8 * i)).map fun j => Yoh (Zak p (j / 8) (j % 8)) 8) (by
  intro i s hi g
  subst g
  obtain ⟨r, er, hr⟩ := Xdu (f := Xdj p ((i : Int), (List.range (8 * i)).map fun j => Yoh (Zak p (j / 8) (j % 8)) 8)) 8 (fun v s => s = (List.range (8 * i + v)).map fun j => Yoh (Zak p (j / 8) (j % 8)) 8) (by
   intro v s hv g
   subst g
   unfold Xdj
   simp only
   rw [syA, Ylc p hp i v hi hv, Xab, Xa2 (by simp only [List.length_singleton, List.length_map, List.length_range]; omega), wkA (e := (v : Int) + 1)]
   refine ⟨_, rfl, ?_⟩
   rw [show 8 * i + (v + 1) = (8 * i + v) + 1 by omega, List.range_succ, List.map_append, List.map_singleton, show (8 * i + v) / 8 = i by omega, show (8 * i + v) % 8 = v by omega]) (by intro s; unfold Xdj; rw [Xar (by simp)]) _ rfl
  rw [Nat.add_zero] at er
  unfold Xdi
  simp only
  rw [syA, er, Xab, wkA (e := (i : Int) + 1)]
  exact ⟨_, rfl, by rw [hr, show 8 * (i + 1) = 8 * i + 8 by omega]⟩) (by intro s; unfold Xdi; rw [Xar (by simp)]) [] rfl
 have ho' : o = Xto p := by rw [ho]; rfl
 rw [e, Xab, ho']
 obtain ⟨o2, e2, ho2⟩ := Xdu (f := Xc4 (Xto p)) 8 (fun i s => s = (List.range (8 * i)).map fun j => Yoh (Yz2 (Xto p) (j / 8) (j % 8)) 8) (by
  intro i s hi g
  subst g
  obtain ⟨r, er, hr⟩ := Xdu (f := Xc5 (Xto p) ((i : Int), (List.range (8 * i)).map fun j => Yoh (Yz2 (Xto p) (j / 8) (j % 8)) 8)) 8 (fun v s => s = (List.range (8 * i + v)).map fun j => Yoh (Yz2 (Xto p) (j / 8) (j % 8)) 8) (by
   intro v s hv g
   obtain ⟨c, ec, hc⟩ := Xp0 (f := Xc6 (Xto p) ((i : Int), (List.range (8 * i)).map fun j => Yoh (Yz2 (Xto p) (j / 8) (j % 8)) 8) ((v : Int), s)) 8 (fun k x => x = Yoh (Yz2 (Xto p) i v) k) (by
    intro k x hk g
    subst g
    have hl := Ypd p
    unfold Xc6
    simp only
    rw [syA, Xwh i k hi hk, Xab, wkA (e := 8 * (k : Int)), wkA (e := 8 * (k : Int) + (v : Int)), rqA, rqA, wkA (e := (k : Int) + 1), show (8 * (k : Int) + (v : Int)).toNat = 8 * k + v by omega]
    exact ⟨_, rfl, rfl⟩) (by intro s; unfold Xc6; rw [Xar (by simp)]) 0 rfl
   subst g
   unfold Xc5
   simp only
   rw [syA, ec, Xab, Xa2 (by simp only [List.length_singleton, List.length_map, List.length_range]; omega), wkA (e := (v : Int) + 1)]
   refine ⟨_, rfl, ?_⟩
   rw [hc, show 8 * i + (v + 1) = (8 * i + v) + 1 by omega, List.range_succ, List.map_append, List.map_singleton, show (8 * i + v) / 8 = i by omega, show (8 * i + v) % 8 = v by omega]) (by intro s; unfold Xc5; rw [Xar (by simp)]) _ rfl
  rw [Nat.add_zero] at er
  unfold Xc4
  simp only
  rw [syA, er, Xab, wkA (e := (i : Int) + 1)]
  exact ⟨_, rfl, by rw [hr, show 8 * (i + 1) = 8 * i + 8 by omega]⟩) (by intro s; unfold Xc4; rw [Xar (by simp)]) [] rfl
 rw [e2, Xab, ho2]
 rfl
theorem Xqy (l : List Int) (n B : Int) (hn : (l.length : Int) = n) (hn2 : n ≤ 1000000) (h : inB B l) : Xbk l n (-B) B = some true := by
 rw [Xk3 l n (-B) B (by omega), hn, beq_self_eq_true, Bool.and_true]
 congr 1
 rw [List.all_eq_true]
 intro x hx
 rw [decide_eq_true_eq]; exact h x hx
theorem Yab (o : List Int) {f : Int × List Int → Option (Lp (Int × List Int) (List Int))} (n : Nat) (hn : n ≤ 64) (hl : o.length = n) (hf : ∀ v : Int × List Int, f v = sel (decide (v.1 < (n : Int))) (req (0 ≤ v.1 ∧ v.1 < v.2.length) <| req (v.1.toNat < v.2.length) <| bnd (Xdy (Xaa .i64 ((v.2.getD v.1.toNat 0) + 32)) 64) fun q => req (0 ≤ v.1 ∧ v.1 < v.2.length) <| req (v.1.toNat < v.2.length) <| some (.go (Xaa .i64 (v.1 + 1), (v.2.set v.1.toNat q)))) (some (.done v.2))) : bnd (Xkd o) (fun q => some q.2) = bnd (loop f (0, o)) fun q => some q := by
 unfold Xkd
 have : Xpg o = f := by
  funext v
  rw [hf, ← hl]; rfl
 rw [this]
 cases loop f (0, o) <;> rfl
theorem Yfz (p : List Int) (hl : p.length = 64) (hb : inB 10000000 p) : Xi0 p = Xi9 p := by
 unfold Xi0 Xi9
 rw [Xqy p 64 10000000 (by omega) (by omega) hb, Xco p 64 10000000 (by omega) (by omega) (by omega) hb, Xab, Xab, Bool.not_true, Xap, Xap, Yc1 p hl, Xul p hl, Xab, Xab]
 exact Yab (Yuw p) 64 (by omega) (Yw5 p) (fun _ => rfl)
theorem Yqt (p : List Int) (hl : p.length = 64) (hb : inB 1000 p) : Xq1 p = Xrn p := by
 unfold Xq1 Xrn
 rw [Xqy p 64 1000 (by omega) (by omega) hb, Xco p 64 1000 (by omega) (by omega) (by omega) hb, Xab, Xab, Bool.not_true, Xap, Xap, Yc1 p hl, Xul p hl, Xab]
def tgA (q : Int → Int → Int → Int → Option (Int × Int × Int × Int)) (v4 : (Int × (List Int))) : Option (Lp (Int × (List Int)) (List Int)) :=
 sel (decide (v4.1 < 16)) (
 req (0 ≤ v4.1 ∧ v4.1 < v4.2.length) <|
 req (v4.1.toNat < v4.2.length) <|
 req (0 ≤ (Xaa .i64 (v4.1 + 1)) ∧ (Xaa .i64 (v4.1 + 1)) < v4.2.length) <|
 req ((Xaa .i64 (v4.1 + 1)).toNat < v4.2.length) <|
 req (0 ≤ (Xaa .i64 (v4.1 + 2)) ∧ (Xaa .i64 (v4.1 + 2)) < v4.2.length) <|
 req ((Xaa .i64 (v4.1 + 2)).toNat < v4.2.length) <|
 req (0 ≤ (Xaa .i64 (v4.1 + 3)) ∧ (Xaa .i64 (v4.1 + 3)) < v4.2.length) <|
 req ((Xaa .i64 (v4.1 + 3)).toNat < v4.2.length) <|
 bnd (q (v4.2.getD v4.1.toNat 0) (v4.2.getD ((Xaa .i64 (v4.1 + 1)).toNat) 0) (v4.2.getD ((Xaa .i64 (v4.1 + 2)).toNat) 0) (v4.2.getD ((Xaa .i64 (v4.1 + 3)).toNat) 0)) fun q8 =>
 req (0 ≤ v4.1 ∧ v4.1 ≤ (Xaa .i64 (v4.1 + 4)) ∧ (Xaa .i64 (v4.1 + 4)) ≤ (v4.2.length : Int)) <|
 req ((v4.1.toNat + ((Xaa .i64 (v4.1 + 4)).toNat - v4.1.toNat) ≤ v4.2.length ∧ ([q8.1, q8.2.1, q8.2.2.1, q8.2.2.2]).length ≤ ((Xaa .i64 (v4.1 + 4)).toNat - v4.1.toNat))) <|
 some (.go (Xaa .i64 (v4.1 + 4), (over v4.2 v4.1.toNat ([q8.1, q8.2.1, q8.2.2.1, q8.2.2.2]))))) (
 some (.done v4.2))
def tgB (v17 : (Int × (List Int))) (q26 : (Int × Int × Int × Int)) (v28 : (Int × (List Int))) : Option (Lp (Int × (List Int)) (List Int)) :=
 sel (decide (v28.1 < 4)) (
 req (0 ≤ v28.1 ∧ v28.1 < ([q26.1, q26.2.1, q26.2.2.1, q26.2.2.2] : List Int).length) <|
 req (0 ≤ (Xaa .i64 (v17.1 + (Xaa .i64 (4 * v28.1)))) ∧ (Xaa .i64 (v17.1 + (Xaa .i64 (4 * v28.1)))) < v28.2.length) <|
 req ((Xaa .i64 (v17.1 + (Xaa .i64 (4 * v28.1)))).toNat < v28.2.length) <|
 some (.go (Xaa .i64 (v28.1 + 1), (v28.2.set ((Xaa .i64 (v17.1 + (Xaa .i64 (4 * v28.1)))).toNat) (([q26.1, q26.2.1, q26.2.2.1, q26.2.2.2] : List Int).getD v28.1.toNat 0))))) (
 some (.done v28.2))
noncomputable def tgC (q : Int → Int → Int → Int → Option (Int × Int × Int × Int)) (v17 : (Int × (List Int))) : Option (Lp (Int × (List Int)) (List Int)) :=
 sel (decide (v17.1 < 4)) (
 req (0 ≤ v17.1 ∧ v17.1 < v17.2.length) <|
 req (v17.1.toNat < v17.2.length) <|
 req (0 ≤ (Xaa .i64 (v17.1 + 4)) ∧ (Xaa .i64 (v17.1 + 4)) < v17.2.length) <|
 req ((Xaa .i64 (v17.1 + 4)).toNat < v17.2.length) <|
 req (0 ≤ (Xaa .i64 (v17.1 + 8)) ∧ (Xaa .i64 (v17.1 + 8)) < v17.2.length) <|
 req ((Xaa .i64 (v17.1 + 8)).toNat < v17.2.length) <|
 req (0 ≤ (Xaa .i64 (v17.1 + 12)) ∧ (Xaa .i64 (v17.1 + 12)) < v17.2.length) <|
 req ((Xaa .i64 (v17.1 + 12)).toNat < v17.2.length) <|
 bnd (q (v17.2.getD v17.1.toNat 0) (v17.2.getD ((Xaa .i64 (v17.1 + 4)).toNat) 0) (v17.2.getD ((Xaa .i64 (v17.1 + 8)).toNat) 0) (v17.2.getD ((Xaa .i64 (v17.1 + 12)).toNat) 0)) fun q26 =>
 bnd (loop (tgB v17 q26) (0, v17.2)) fun v30 =>
 some (.go (Xaa .i64 (v17.1 + 1), v30))) (
 some (.done v17.2))
noncomputable def Yy5 (q : Int → Int → Int → Int → Option (Int × Int × Int × Int)) (p0 : (List Int)) : Option (List Int) :=
 bnd (Xdo p0) fun q1 =>
 bnd (loop (tgA q) (0, q1)) fun v7 =>
 bnd (loop (tgC q) (0, v7)) fun v25 =>
 some v25
theorem Yw7 : Xcj = Yy5 Xd4 := rfl
theorem Yw8 : Xdq = Yy5 Xl2 := rfl
abbrev Q4 := Int × Int × Int × Int
def Yqa (q : Q4) (i : Nat) : Int := [q.1, q.2.1, q.2.2.1, q.2.2.2].getD i 0
def Xvk (t : Int → Int → Int → Int → Q4) (p : List Int) : List Int := (List.range 16).map fun j => Yqa (t (p.getD (4 * (j / 4)) 0) (p.getD (4 * (j / 4) + 1) 0) (p.getD (4 * (j / 4) + 2) 0) (p.getD (4 * (j / 4) + 3) 0)) (j % 4)
def Xyd (p : List Int) : List Int := (List.range 16).map fun j => p.getD (j % 4 * 4 + j / 4) 0
theorem Xrl (t : Int → Int → Int → Int → Q4) (p : List Int) : (Xvk t p).length = 16 := by simp [Xvk]
theorem Xtn (p : List Int) : (Xyd p).length = 16 := by simp [Xyd]
theorem Yp8 {l m : List Int} {i : Nat} (h : i + m.length ≤ l.length) (j : Nat) : (over l i m).getD j 0 = if i ≤ j ∧ j < i + m.length then m.getD (j - i) 0 else l.getD j 0 := by
 rw [List.getD_eq_getElem?_getD, Ys4 h]
 split <;> rw [List.getD_eq_getElem?_getD]
theorem Ytm {q : Int → Int → Int → Int → Option Q4} {t : Int → Int → Int → Int → Q4} (hq : ∀ a b c d, q a b c d = some (t a b c d)) (p : List Int) (hp : p.length = 16) : Yy5 q p = some (Xyd (Xvk t (Xyd (Xvk t p)))) := by
 have hm : maxLen = 9223372036854775807 := rfl
 unfold Yy5 Xdo
 rw [Xa2 (by simp only [List.length_nil]; omega), Xab, List.nil_append]
 have hA : loop (tgA q) (0, p) = some (Xvk t p) := by
  have key : ∀ r : Nat, r ≤ 4 → ∀ s : List Int, s.length = 16 → (∀ j, j < 4 * r → s.getD j 0 = (Xvk t p).getD j 0) → (∀ j, 4 * r ≤ j → s.getD j 0 = p.getD j 0) → loop (tgA q) (((4 * r : Nat) : Int), s) = some (Xvk t p) := by
   refine Xhc _ ?_ ?_
   ·
    intro s h1 h2 _
    refine Xgl ?_
    unfold tgA
    rw [Xar (by simp), Yb0 h1 (Xrl t p) h2]
   ·
    intro r hr ih s h1 h2 h3
    refine lgo (y := (((4 * (r + 1) : Nat) : Int), over s (4 * r) [Yqa (t (p.getD (4 * r) 0) (p.getD (4 * r + 1) 0) (p.getD (4 * r + 2) 0) (p.getD (4 * r + 3) 0)) 0, Yqa (t (p.getD (4 * r) 0) (p.getD (4 * r + 1) 0) (p.getD (4 * r + 2) 0) (p.getD (4 * r + 3) 0)) 1, Yqa (t (p.getD (4 * r) 0) (p.getD (4 * r + 1) 0) (p.getD (4 * r + 2) 0) (p.getD (4 * r + 3) 0)) 2, Yqa (t (p.getD (4 * r) 0) (p.getD (4 * r + 1) 0) (p.getD (4 * r + 2) 0) (p.getD (4 * r + 3) 0)) 3])) ?_ (ih _ ?_ ?_ ?_)
    ·
     unfold tgA
     simp only
     rw [syA, wkA (e := ((4 * r : Nat) : Int) + 1), wkA (e := ((4 * r : Nat) : Int) + 2), wkA (e := ((4 * r : Nat) : Int) + 3), wkA (e := ((4 * r : Nat) : Int) + 4)]
     rw [rqA, rqA, rqA, rqA, rqA, rqA, rqA, rqA, hq, Xab, rqA, Xa2 (by simp only [List.length_cons, List.length_nil]; omega)]
     rw [show (((4 * r : Nat) : Int) + 1).toNat = 4 * r + 1 by omega, show (((4 * r : Nat) : Int) + 2).toNat = 4 * r + 2 by omega, show (((4 * r : Nat) : Int) + 3).toNat = 4 * r + 3 by omega, Int.toNat_natCast, h3 _ (by omega), h3 _ (by omega), h3 _ (by omega), h3 _ (by omega)]
     rfl
    ·
     rw [Yie (by simp only [List.length_cons, List.length_nil]; omega)]; exact h1
    ·
     intro j hj
     rw [Yp8 (by simp only [List.length_cons, List.length_nil]; omega)]
     simp only [List.length_cons, List.length_nil]
     by_cases h : 4 * r ≤ j
     ·
      rw [if_pos (by omega)]
      unfold Xvk
      rw [Xg4 _ (by omega), show 4 * (j / 4) = 4 * r by omega]
      obtain h | h | h | h : j = 4 * r ∨ j = 4 * r + 1 ∨ j = 4 * r + 2 ∨ j = 4 * r + 3 := by omega
      ·
       rw [h, show 4 * r - 4 * r = 0 by omega, show (4 * r) % 4 = 0 by omega]; rfl
      ·
       rw [h, show 4 * r + 1 - 4 * r = 1 by omega, show (4 * r + 1) % 4 = 1 by omega]; rfl
      ·
       rw [h, show 4 * r + 2 - 4 * r = 2 by omega, show (4 * r + 2) % 4 = 2 by omega]; rfl
      ·
       rw [h, show 4 * r + 3 - 4 * r = 3 by omega, show (4 * r + 3) % 4 = 3 by omega]; rfl
     ·
      rw [if_neg (by omega)]; exact h2 j (by omega)
    ·
     intro j hj
     rw [Yp8 (by simp only [List.length_cons, List.length_nil]; omega), if_neg (by simp only [List.length_cons, List.length_nil]; omega)]
     exact h3 j (by omega)
  exact key 0 (by omega) p hp (fun j hj => by omega) fun _ _ => rfl
 rw [hA, Xab]
 generalize hR : Xvk t p = R
 have hl : R.length = 16 := by rw [← hR]; exact Xrl t p
 have hC : loop (tgC q) (0, R) = some (Xyd (Xvk t (Xyd R))) := by
  have at4 : ∀ j : Nat, j < 16 → (Xyd (Xvk t (Xyd R))).getD j 0 = Yqa (t (R.getD (j % 4) 0) (R.getD (j % 4 + 4) 0) (R.getD (j % 4 + 8) 0) (R.getD (j % 4 + 12) 0)) (j / 4) := by
   intro j hj
   rw [Xyd, Xg4 _ hj, Xvk, Xg4 _ (by omega), Xyd, Xg4 _ (by omega), Xg4 _ (by omega), Xg4 _ (by omega), Xg4 _ (by omega)]
   rw [show (j % 4 * 4 + j / 4) / 4 = j % 4 by omega, show (j % 4 * 4 + j / 4) % 4 = j / 4 by omega, show 4 * (j % 4) % 4 * 4 + 4 * (j % 4) / 4 = j % 4 by omega, show (4 * (j % 4) + 1) % 4 * 4 + (4 * (j % 4) + 1) / 4 = j % 4 + 4 by omega, show (4 * (j % 4) + 2) % 4 * 4 + (4 * (j % 4) + 2) / 4 = j % 4 + 8 by omega, show (4 * (j % 4) + 3) % 4 * 4 + (4 * (j % 4) + 3) / 4 = j % 4 + 12 by omega]
  obtain ⟨o, e, o1, o2, _⟩ := Xne (f := tgC q) 4 (fun c s => s.length = 16 ∧ (∀ j, j < 16 → j % 4 < c → s.getD j 0 = (Xyd (Xvk t (Xyd R))).getD j 0) ∧ ∀ j, j < 16 → c ≤ j % 4 → s.getD j 0 = R.getD j 0) (by
   intro c s hc ⟨g1, g2, g3⟩
   obtain ⟨r, er, r1, r2, r3⟩ := Xne (f := tgB ((c : Int), s) (t (R.getD c 0) (R.getD (c + 4) 0) (R.getD (c + 8) 0) (R.getD (c + 12) 0))) 4 (fun i s' => s'.length = 16 ∧ (∀ j, j < 16 → j % 4 ≠ c → s'.getD j 0 = s.getD j 0) ∧ ∀ j, j < 16 → j % 4 = c → j / 4 < i → s'.getD j 0 = Yqa (t (R.getD c 0) (R.getD (c + 4) 0) (R.getD (c + 8) 0) (R.getD (c + 12) 0)) (j / 4)) (by
    intro i s' hi ⟨k1, k2, k3⟩
    unfold tgB
    simp only
    rw [syA, Xa2 (by simp only [List.length_cons, List.length_nil]; omega), wkA (e := 4 * (i : Int)), wkA (e := (c : Int) + 4 * (i : Int)), rqA, rqA, wkA (e := (i : Int) + 1), show ((c : Int) + 4 * (i : Int)).toNat = c + 4 * i by omega, Int.toNat_natCast]
    refine ⟨_, rfl, by rw [List.length_set]; exact k1, fun j hj hjc => ?_, fun j hj hjc hji => ?_⟩
    ·
     rw [Xex _ _ _ _ (by omega), if_neg (by omega)]; exact k2 j hj hjc
    ·
     rw [Xex _ _ _ _ (by omega)]
     by_cases h : c + 4 * i = j
     ·
      rw [if_pos h, show j / 4 = i by omega]; rfl
     ·
      rw [if_neg h]; exact k3 j hj hjc (by omega)) (fun z _ => by unfold tgB; rw [Xar (by simp)]) s ⟨g1, fun _ _ _ => rfl, fun j hj hjc hji => by omega⟩
   unfold tgC
   simp only
   rw [syA, wkA (e := (c : Int) + 4), wkA (e := (c : Int) + 8), wkA (e := (c : Int) + 12), rqA, rqA, rqA, rqA, rqA, rqA, rqA, rqA, hq, Xab, show ((c : Int) + 4).toNat = c + 4 by omega, show ((c : Int) + 8).toNat = c + 8 by omega, show ((c : Int) + 12).toNat = c + 12 by omega, Int.toNat_natCast, g3 c (by omega) (by omega), g3 (c + 4) (by omega) (by omega), g3 (c + 8) (by omega) (by omega), g3 (c + 12) (by omega) (by omega), er, Xab, wkA (e := (c : Int) + 1)]
   refine ⟨r, rfl, r1, fun j hj hjc => ?_, fun j hj hjc => ?_⟩
   ·
    by_cases h : j % 4 = c
    ·
     rw [r3 j hj h (by omega), at4 j hj, h]
    ·
     rw [r2 j hj h]; exact g2 j hj (by omega)
   ·
    rw [r2 j hj (by omega)]; exact g3 j hj (by omega)) (fun z _ => by unfold tgC; rw [Xar (by simp)]) R ⟨hl, fun j hj hjc => by omega, fun _ _ _ => rfl⟩
  rw [e]
  congr 1
  exact Yb0 o1 (Xtn _) fun j hj => o2 j hj (by omega)
 rw [hC, Xab]
theorem Xlq (p : List Int) (hl : p.length = 16) : Xfz p = some (Xyd p) := by
 unfold Xfz
 rw [rqA]
 obtain ⟨o, e, o1, o2⟩ := Xne (f := Xed p) 16 (fun i s => s.length = 16 ∧ ∀ j, j < 16 → j % 4 * 4 + j / 4 < i → s.getD j 0 = p.getD (j % 4 * 4 + j / 4) 0) (by
  intro i s hi ⟨g1, g2⟩
  unfold Xed
  simp only
  rw [syA, rqA, rqA, rqA, Xbu (by omega), Xbt (by omega), wkA (e := (i : Int) / 4), wkA (e := (i : Int) % 4 * 4), wkA (e := (i : Int) % 4 * 4 + (i : Int) / 4), rqA, rqA, wkA (e := (i : Int) + 1), Int.toNat_natCast, show ((i : Int) % 4 * 4 + (i : Int) / 4).toNat = i % 4 * 4 + i / 4 by omega]
  refine ⟨_, rfl, by rw [List.length_set]; exact g1, fun j hj hji => ?_⟩
  rw [Xex _ _ _ _ (by omega)]
  by_cases h : i % 4 * 4 + i / 4 = j
  ·
   rw [if_pos h, show j % 4 * 4 + j / 4 = i by omega]
  ·
   rw [if_neg h]; exact g2 j hj (by omega)) (fun z _ => by unfold Xed; rw [Xar (by simp)]) (List.replicate (16 : Int).toNat 0) ⟨by simp, fun j hj h => by omega⟩
 rw [e, Xab]
 congr 1
 exact Yb0 o1 (Xtn p) fun j hj => by rw [o2 j hj (by omega), Xyd, Xg4 _ hj]
theorem Yqe {f : Int × List Int → Option (Lp (Int × List Int) (List Int))} {t : Int → Int → Int → Int → Q4} (p : List Int) (h : ∀ (i : Nat) (s : List Int), i < 4 → s.length = 4 * i → f ((i : Int), s) = some (.go (((i + 1 : Nat) : Int), s ++ [(t (p.getD (4 * i) 0) (p.getD (4 * i + 1) 0) (p.getD (4 * i + 2) 0) (p.getD (4 * i + 3) 0)).1, (t (p.getD (4 * i) 0) (p.getD (4 * i + 1) 0) (p.getD (4 * i + 2) 0) (p.getD (4 * i + 3) 0)).2.1, (t (p.getD (4 * i) 0) (p.getD (4 * i + 1) 0) (p.getD (4 * i + 2) 0) (p.getD (4 * i + 3) 0)).2.2.1, (t (p.getD (4 * i) 0) (p.getD (4 * i + 1) 0) (p.getD (4 * i + 2) 0) (p.getD (4 * i + 3) 0)).2.2.2]))) (he : ∀ s, f (4, s) = some (.done s)) : loop f (0, []) = some (Xvk t p) := by
 obtain ⟨o, e, ho⟩ := Xne (f := f) 4 (fun i s => s = (List.range (4 * i)).map fun j => Yqa (t (p.getD (4 * (j / 4)) 0) (p.getD (4 * (j / 4) + 1) 0) (p.getD (4 * (j / 4) + 2) 0) (p.getD (4 * (j / 4) + 3) 0)) (j % 4)) (by
  intro i s hi g
  refine ⟨_, h i s hi (by rw [g]; simp), ?_⟩
  rw [g, show 4 * (i + 1) = 4 * i + 1 + 1 + 1 + 1 by omega]
  simp only [List.range_succ, List.map_append, List.map_singleton, List.append_assoc]
  rw [show (4 * i + 1 + 1 + 1) / 4 = i by omega, show (4 * i + 1 + 1) / 4 = i by omega, show (4 * i + 1) / 4 = i by omega, show 4 * i / 4 = i by omega, show (4 * i + 1 + 1 + 1) % 4 = 3 by omega, show (4 * i + 1 + 1) % 4 = 2 by omega, show (4 * i + 1) % 4 = 1 by omega, show 4 * i % 4 = 0 by omega]
  rfl) (fun z _ => he z) [] rfl
 rw [e, ho]; rfl
def t4F (a b c d : Int) : Q4 := (Xaa .i64 ((Xaa .i64 ((Xaa .i64 (a + b)) + c)) + d), Xaa .i64 ((Xaa .i64 ((Xaa .i64 ((Xaa .i64 (2 * a)) + b)) - c)) - (Xaa .i64 (2 * d))), Xaa .i64 ((Xaa .i64 ((Xaa .i64 (a - b)) - c)) + d), Xaa .i64 ((Xaa .i64 ((Xaa .i64 (a - (Xaa .i64 (2 * b)))) + (Xaa .i64 (2 * c)))) - d))
theorem Yjt (a b c d : Int) : Xl2 a b c d = some (t4F a b c d) := rfl
def Ylm (a b : Int) : Int := Xaa .i64 (if a.tmod b < 0 then Xaa .i64 (a.tdiv b) - 1 else a.tdiv b)
theorem Xu0 (a b : Int) (hb : b ≠ 0) : Xdy a b = some (Ylm a b) := by
 unfold Xdy Ylm
 rw [Xa2 hb, Xa2 hb, Yrt]
 split <;> rfl
def t4B (a b c d : Int) : Q4 := (Xaa .i64 ((Xaa .i64 (a + c)) + (Xaa .i64 (b + Ylm d 2))), Xaa .i64 ((Xaa .i64 (a - c)) + (Xaa .i64 (Ylm b 2 - d))), Xaa .i64 ((Xaa .i64 (a - c)) - (Xaa .i64 (Ylm b 2 - d))), Xaa .i64 ((Xaa .i64 (a + c)) - (Xaa .i64 (b + Ylm d 2))))
theorem Xyo (a b c d : Int) : Xd4 a b c d = some (t4B a b c d) := by
 unfold Xd4
 rw [Yq9, Xu0 b 2 (by omega), Xu0 d 2 (by omega), Xab, Xab]; rfl
theorem Xs8 (p : List Int) (hl : p.length = 16) : Xim p = some (Xvk t4B p) := by
 have hm : maxLen = 9223372036854775807 := rfl
 unfold Xim
 rw [Yqe (f := Xdh p) (t := t4B) p (by
  intro i s hi hs
  unfold Xdh
  simp only
  rw [syA, wkA (e := 4 * (i : Int)), wkA (e := 4 * (i : Int) + 1), wkA (e := 4 * (i : Int) + 2), wkA (e := 4 * (i : Int) + 3), rqA, rqA, rqA, rqA, show (4 * (i : Int)).toNat = 4 * i by omega, show (4 * (i : Int) + 1).toNat = 4 * i + 1 by omega, show (4 * (i : Int) + 2).toNat = 4 * i + 2 by omega, show (4 * (i : Int) + 3).toNat = 4 * i + 3 by omega, Xu0 _ 2 (by omega), Xab, Xu0 _ 2 (by omega), Xab, wkA (e := (i : Int) + 1), Xa2 (by simp only [List.length_cons, List.length_nil]; omega)]
  rfl) (by intro s; unfold Xdh; rw [Xar (by simp)]), Xab]
theorem Xuj (p : List Int) (hl : p.length = 16) : Xkj p = some (Xvk t4F p) := by
 have hm : maxLen = 9223372036854775807 := rfl
 unfold Xkj
 rw [Yqe (f := Xee p) (t := t4F) p (by
  intro i s hi hs
  unfold Xee
  simp only
  rw [syA, wkA (e := 4 * (i : Int)), wkA (e := 4 * (i : Int) + 1), wkA (e := 4 * (i : Int) + 2), wkA (e := 4 * (i : Int) + 3), rqA, rqA, rqA, rqA, show (4 * (i : Int)).toNat = 4 * i by omega, show (4 * (i : Int) + 1).toNat = 4 * i + 1 by omega, show (4 * (i : Int) + 2).toNat = 4 * i + 2 by omega, show (4 * (i : Int) + 3).toNat = 4 * i + 3 by omega, wkA (e := (i : Int) + 1), Xa2 (by simp only [List.length_cons, List.length_nil]; omega)]
  rfl) (by intro s; unfold Xee; rw [Xar (by simp)]), Xab]
theorem Yjk (p : List Int) (hl : p.length = 16) (hb : inB 10000000 p) : Xku p = Xlh p := by
 unfold Xku Xlh
 rw [Xqy p 16 10000000 (by omega) (by omega) hb, Xco p 16 10000000 (by omega) (by omega) (by omega) hb, Xab, Xab, Bool.not_true, Xap, Xap, Yw7, Ytm Xyo p hl, Xs8 p hl, Xab, Xab, Xlq _ (Xrl _ _), Xab, Xs8 _ (Xtn _), Xab, Xlq _ (Xrl _ _), Xab]
 exact Yab _ 16 (by omega) (Xtn _) (fun _ => rfl)
theorem Yts (p : List Int) (hl : p.length = 16) (hb : inB 1000 p) : Xts p = Xub p := by
 unfold Xts Xub
 rw [Xqy p 16 1000 (by omega) (by omega) hb, Xco p 16 1000 (by omega) (by omega) (by omega) hb, Xab, Xab, Bool.not_true, Xap, Xap, Yw8, Ytm Yjt p hl, Xuj p hl, Xab, Xab, Xlq _ (Xrl _ _), Xab, Xuj _ (Xtn _), Xab, Xlq _ (Xrl _ _), Xab]
theorem Yui {β : Type} {c : Prop} [Decidable c] {k k' : Option β} (h : c → k = k') : req c k = req c k' := by
 by_cases hc : c
 ·
  rw [Xa2 hc, Xa2 hc, h hc]
 ·
  unfold req; rw [if_neg hc, if_neg hc]
theorem Xl0 {β : Type} {c : Prop} [Decidable c] {k k' : Option β} (h0 : c) (h : k = k') : req c k = k' := by rw [Xa2 h0, h]
theorem Xz9 {β : Type} {b : Bool} {x x' y y' : β} (h : b = true → x = x') (h2 : b = false → y = y') : sel b x y = sel b x' y' := by
 cases b
 ·
  exact h2 rfl
 ·
  exact h rfl
theorem Ytz {α β : Type} {x x' : Option α} {f f' : α → Option β} (h : x = x') (h2 : ∀ a, x' = some a → f a = f' a) : bnd x f = bnd x' f' := by
 subst h
 cases x with
 | none => rfl
 | some a => exact h2 a rfl
theorem Yv7 {V O : Type} {f : V → Option (Lp V O)} (I : V → Prop) (J : O → Prop) (h1 : ∀ v v', I v → f v = some (.go v') → I v') (h2 : ∀ v o, I v → f v = some (.done o) → J o) {v : V} {o : O} (h : loop f v = some o) (hv : I v) : J o := by
 obtain ⟨k, hk⟩ := Xis.1 h
 clear h
 induction k generalizing v with
 | zero => cases hk
 | succ k ih =>
  rw [it] at hk
  cases e : f v with
  | none => rw [e] at hk; cases hk
  | some s =>
   rw [e] at hk
   cases s with
   | go y => exact ih (h1 v y hv e) hk
   | done o' => cases hk; exact h2 v o hv e
theorem Yf1 (l qp p : Int) (h0 : 0 ≤ qp ∧ qp ≤ 40) (hp : 0 ≤ p ∧ p ≤ 15) : Xi3 l qp p = Xjb l qp p := by
 unfold Xi3 Xjb
 rw [Xak, Xal, Yl7 qp p h0 hp]
theorem Yf0 (l qp : Int) (h0 : 0 ≤ qp ∧ qp ≤ 40) : Xi1 l qp = Xja l qp := by
 unfold Xi1 Xja
 rw [Xak, Xal, Ycr qp h0]
theorem Yis (x : Int) (h : -1000000000000 ≤ x ∧ x ≤ 1000000000000) : Xnn x = Xgd x := by
 unfold Xnn Xgd
 rw [wkA]
 by_cases hx : x < 0
 ·
  rw [Xbi hx, if_pos (by omega)]
 ·
  rw [Xar hx, if_neg (by omega)]
theorem Ywu : ∀ q : Fin 41, ∀ p : Fin 16, Xnl (q.val : Int) (p.val : Int) = Xnu (q.val : Int) (p.val : Int) := by decide +kernel
theorem Yl8 (qp p : Int) (h0 : 0 ≤ qp ∧ qp ≤ 40) (hp : 0 ≤ p ∧ p ≤ 15) : Xnl qp p = Xnu qp p := by
 have := Ywu ⟨qp.toNat, by omega⟩ ⟨p.toNat, by omega⟩
 simp only at this
 rwa [show ((qp.toNat : Nat) : Int) = qp by omega, show ((p.toNat : Nat) : Int) = p by omega] at this
theorem Yql (x w : Int) : Xph x w = Xje w x := rfl
theorem Ydf (w qp : Int) (h0 : 0 ≤ qp ∧ qp ≤ 40) : Xhg w qp = Xh0 w qp := by
 unfold Xhg Xh0
 rw [Xak, Xal, Xak, Xal, Ycr qp h0]
 by_cases hw : -20000 ≤ w ∧ w ≤ 20000
 ·
  rw [Yis w (by omega)]; rfl
 ·
  rw [decide_eq_false hw]; rfl
theorem Zdk (qp : Int) (h0 : 0 ≤ qp ∧ qp ≤ 40) : Xaa .u64 (Xaa .i64 (15 + (Xaa .i64 (qp.tdiv 6)))) = Xaa .i64 (15 + (Xaa .i64 (qp.tdiv 6))) := by
 have h : ∀ q : Fin 41, Xaa .u64 (Xaa .i64 (15 + (Xaa .i64 ((q.val : Int).tdiv 6)))) = Xaa .i64 (15 + (Xaa .i64 ((q.val : Int).tdiv 6))) := by decide +kernel
 have := h ⟨qp.toNat, by omega⟩
 simp only at this
 rwa [show ((qp.toNat : Nat) : Int) = qp by omega] at this
theorem Ydg (w qp p : Int) (h0 : 0 ≤ qp ∧ qp ≤ 40) (hp : 0 ≤ p ∧ p ≤ 15) : Xhk w qp p = Xh2 w qp p := by
 unfold Xhk Xh2
 have h15 := Zdk qp h0
 simp only [Xak, Xal, Yl8 qp p h0 hp, h15, Yql]
 by_cases hw : -20000 ≤ w ∧ w ≤ 20000
 ·
  simp only [Yis w (by omega)]
 ·
  simp only [decide_eq_false hw, Xab, Xap, Xaw]
def Xz5 (k : Int) (v7 : Int × List Int) : Option (Lp (Int × List Int) (List Int)) :=
 sel (decide (v7.1 < 4)) (
 bnd (it (Xob k v7) 10 (0, v7.2)) fun v18 =>
 some (.go (Xaa .i64 (v7.1 + 1), v18))) (
 some (.done v7.2))
theorem Yqc {k : Int} {v : Int × List Int} {x : Lp (Int × List Int) (List Int)} (h : Xz5 k v = some x) : Xjk k v = some x := by
 unfold Xz5 at h
 unfold Xjk
 rcases Xjl h with ⟨hb, h⟩ | ⟨hb, h⟩
 ·
  rw [hb, Xaw]
  obtain ⟨a, h1, h2⟩ := Xbe h
  rw [Xis.2 ⟨10, h1⟩, Xab]
  exact h2
 ·
  rw [hb, Xap]; exact h
def Xld (k : Int) : List Int := (it (Xz5 k) 10 (0, [])).getD []
def Xnr (k i : Int) : Int := (Xaa .i64 ((Xaa .i64 ((Xaa .i64 (8 * (Xaa .i64 ((Xaa .i64 ((Xaa .i64 (k.tdiv 2)) * 4)) + (Xaa .i64 (i.tdiv 4)))))) + (Xaa .i64 ((k.tmod 2) * 4)))) + (i.tmod 4)))
theorem Yrp : ∀ k : Fin 4, (it (Xz5 (k.val : Int)) 10 (0, [])).isSome = true ∧ (Xld (k.val : Int)).length = 16 ∧ ∀ i : Fin 16, (Xld (k.val : Int)).getD i.val 0 = Xnr (k.val : Int) (i.val : Int) ∧ 0 ≤ Xnr (k.val : Int) (i.val : Int) ∧ Xnr (k.val : Int) (i.val : Int) < 64 := by decide +kernel
theorem Xpe (k : Nat) (hk : k < 4) : Xka k = some (Xld k) ∧ (Xld k).length = 16 ∧ ∀ i : Nat, i < 16 → (Xld k).getD i 0 = Xnr k i ∧ 0 ≤ Xnr k i ∧ Xnr k i < 64 := by
 obtain ⟨h1, h2, h3⟩ := Yrp ⟨k, hk⟩
 refine ⟨?_, h2, fun i hi => h3 ⟨i, hi⟩⟩
 obtain ⟨o, ho⟩ := Option.isSome_iff_exists.1 h1
 have hl := Yrl 10 (Yx6 (fun v y => Yqc (k := (k : Int))) 10 _ ho)
 unfold Xka
 rw [hl, Xab]
 unfold Xld; simp only at ho; rw [ho]; rfl
theorem Xsx (p : List Int) (c : Xe9) (hc : Xio c = true) (hp : Yfs p = true) : Xhh p c = Xfq p c := by
 have hq := Xx9 hc
 obtain ⟨hl, hb⟩ := Yia hp
 unfold Xhh Xfq
 rw [Xgz, Xez, Xq7 p (by omega), hp, hc, Xco p 64 5000 (by omega) (by omega) (by omega) hb]
 simp only [Xab, Xaw, Bool.not_true, Xap]
 rw [Xti 8 (Or.inr rfl) p (by omega)]
 refine Xz9 (fun _ => rfl) fun _ => Xz9 (fun _ => ?_) fun _ => ?_
 ·
  obtain ⟨w, ew, w1, w2⟩ := Xfu 8 (Or.inr rfl) p 5000 (by omega) (by omega) hb
  rw [ew, Xab, Xab]
  have hloop : loop (Xeq c (w, true)) (0, (w, true).1) = loop (Xbh c) (0, (w, true).1) := by
   have : Xeq c (w, true) = Xbh c := by
    funext v
    unfold Xeq Xbh
    simp only [Yf0 _ _ hq, w1, hl]
    rfl
   rw [this]
  rw [hloop]
  obtain ⟨l, el, l1, l2⟩ := Xm3 (f := Xbh c) 64 (fun x => -5000 ≤ x ∧ x ≤ 5000) (fun x => -5760000 ≤ x ∧ x ≤ 5760000) (by
   intro i l hi hll hx
   obtain ⟨d, ed, d1, d2⟩ := Xro (l.getD i 0) c.Qp hx hq
   unfold Xbh
   simp only [Int.toNat_natCast]
   rw [syA, rqA, rqA, ed, Xab, rqA, rqA, wkA (e := (i : Int) + 1)]
   exact ⟨d, rfl, d1, d2⟩) (by intro s; unfold Xbh; rw [Xar (by simp)]) w (by omega) w2
  simp only [el, Xab]
  rw [Yfz l l1 (Xp6 l2 (by omega))]
 ·
  refine Yui fun _ => Ytz ?_ fun _ _ => rfl
  refine Xmk (fun v => (∃ k : Nat, v.1 = (k : Int) ∧ k ≤ 4) ∧ v.2.length = 64) ?_ ?_ ⟨⟨0, rfl, by omega⟩, by simp⟩
  ·
   intro ⟨k0, s⟩ ⟨⟨k, ek, hk⟩, hs⟩
   simp only at ek hs
   subst ek
   unfold Xjs Xc2
   simp only
   refine Xz9 (fun hk4 => ?_) fun _ => rfl
   have hk4 : k < 4 := by have := of_decide_eq_true hk4; omega
   rw [wkA (e := 16 * (k : Int)), wkA (e := 16 * (k : Int) + 16)]
   refine Yui fun _ => ?_
   rw [show (16 * (k : Int)).toNat = 16 * k by omega, show (16 * (k : Int) + 16).toNat - 16 * k = 16 by omega]
   have hcut : ((p.drop (16 * k)).take 16).length = 16 := by rw [List.length_take, List.length_drop]; omega
   obtain ⟨a, ea, a1, a2⟩ := Xfu 4 (Or.inl rfl) ((p.drop (16 * k)).take 16) 5000 (by omega) (by omega) (Ysn (Ysl hb _) _)
   rw [Xti 4 (Or.inl rfl) _ (by omega), ea, Xab, Xab]
   have hloop : loop (Xd5 c (a, true)) (0, (a, true).1) = loop (Xbg c) (0, (a, true).1) := by
    have : Xd5 c (a, true) = Xbg c := by
     funext v
     unfold Xd5 Xbg
     simp only [show ((a.length : Nat) : Int) = 16 by omega]
     refine Xz9 (fun h16 => ?_) fun _ => rfl
     have := of_decide_eq_true h16
     refine Yui fun h0 => Yui fun _ => ?_
     rw [Yf1 _ _ _ hq (by omega)]
    rw [this]
   rw [hloop]
   obtain ⟨l, el, l1, l2⟩ := Xm3 (f := Xbg c) 16 (fun x => -5000 ≤ x ∧ x ≤ 5000) (fun x => -10000000 ≤ x ∧ x ≤ 10000000) (by
    intro i l hi hll hx
    obtain ⟨d, ed, d1, d2⟩ := Xrs (l.getD i 0) c.Qp i hx hq (by omega)
    unfold Xbg
    simp only [Int.toNat_natCast]
    rw [syA, rqA, rqA, ed, Xab, rqA, rqA, wkA (e := (i : Int) + 1)]
    exact ⟨d, rfl, d1, d2⟩) (by intro s; unfold Xbg; rw [Xar (by simp)]) a (by omega) a2
   obtain ⟨b, eb, b1, b2⟩ := Xs6 l l1 l2
   obtain ⟨q1, q2, q3⟩ := Xpe k hk4
   simp only [el, Xab]
   rw [Yjk l l1 l2, eb, Xab, Xab, q1, Xab]
   refine Ytz ?_ fun _ _ => rfl
   have : Xf4 b (Xld k) = Xbm ((k : Int), s) b := by
    funext v
    unfold Xf4 Xbm
    simp only [show (((Xld k).length : Nat) : Int) = 16 by omega]
    refine Xz9 (fun h16 => ?_) fun _ => rfl
    have h16 := of_decide_eq_true h16
    by_cases h0 : 0 ≤ v.1
    ·
     obtain ⟨i, hi⟩ : ∃ i : Nat, v.1 = (i : Int) := ⟨v.1.toNat, by omega⟩
     obtain ⟨v1, v2⟩ := v
     simp only at hi h0 h16
     subst hi
     obtain ⟨r1, r2, r3⟩ := q3 i (by omega)
     have e1 : (Xaa .i64 ((Xaa .i64 ((Xaa .i64 (8 * (Xaa .i64 ((Xaa .i64 ((Xaa .i64 ((k : Int).tdiv 2)) * 4)) + (Xaa .i64 ((i : Int).tdiv 4)))))) + (Xaa .i64 (((k : Int).tmod 2) * 4)))) + ((i : Int).tmod 4))) = Xnr k i := rfl
     simp only [Int.toNat_natCast, r1, e1]
     refine Xl0 (by omega) (Xl0 (by omega) (Xl0 (by omega) (Xl0 (by omega) ?_)))
     refine (Xl0 (by omega) (Xl0 (by omega) (Xl0 (by omega) (Xl0 (by omega) (Xl0 (by omega) (Xl0 (by omega) ?_)))))).symm
     rfl
    ·
     unfold req
     rw [if_neg (by omega), if_pos (by omega), if_pos (by omega), if_pos (by omega), if_pos (by omega), if_neg (by omega)]
   rw [this]
  ·
   intro ⟨k0, s⟩ v' ⟨⟨k, ek, hk⟩, hs⟩ he
   simp only at ek hs
   subst ek
   unfold Xc2 at he
   simp only at he
   rcases Xjl he with ⟨hb4, he⟩ | ⟨_, he⟩
   ·
    have hk4 : k < 4 := by have := of_decide_eq_true hb4; omega
    obtain ⟨_, he⟩ := Xav he
    obtain ⟨a, _, he⟩ := Xbe he
    obtain ⟨l, _, he⟩ := Xbe he
    obtain ⟨b, _, he⟩ := Xbe he
    obtain ⟨r, hr, he⟩ := Xbe he
    rw [wkA (e := (k : Int) + 1)] at he
    cases he
    refine ⟨⟨k + 1, rfl, by omega⟩, ?_⟩
    refine Yv7 (f := Xbm ((k : Int), s) b) (fun v => v.2.length = 64) (fun o => o.length = 64) ?_ ?_ hr hs
    ·
     intro v v' hv he
     unfold Xbm at he
     rcases Xjl he with ⟨_, he⟩ | ⟨_, he⟩
     ·
      obtain ⟨_, he⟩ := Xav he
      obtain ⟨_, he⟩ := Xav he
      obtain ⟨_, he⟩ := Xav he
      obtain ⟨_, he⟩ := Xav he
      obtain ⟨_, he⟩ := Xav he
      obtain ⟨_, he⟩ := Xav he
      obtain ⟨_, he⟩ := Xav he
      obtain ⟨_, he⟩ := Xav he
      cases he
      simp only [List.length_set]; exact hv
     ·
      cases he
    ·
     intro v o hv he
     unfold Xbm at he
     rcases Xjl he with ⟨_, he⟩ | ⟨_, he⟩
     ·
      obtain ⟨_, he⟩ := Xav he
      obtain ⟨_, he⟩ := Xav he
      obtain ⟨_, he⟩ := Xav he
      obtain ⟨_, he⟩ := Xav he
      obtain ⟨_, he⟩ := Xav he
      obtain ⟨_, he⟩ := Xav he
      obtain ⟨_, he⟩ := Xav he
      obtain ⟨_, he⟩ := Xav he
      cases he
     ·
      cases he; exact hv
   ·
    cases he
theorem Ysz {S O : Type} {f g : Int × S → Option (Lp (Int × S) O)} (n : Nat) (I : Nat → S → Prop) (h : ∀ (i : Nat) (s : S), i ≤ n → I i s → f ((i : Int), s) = g ((i : Int), s)) (hI : ∀ (i : Nat) (s : S) (v' : Int × S), i ≤ n → I i s → g ((i : Int), s) = some (.go v') → v'.1 = ((i + 1 : Nat) : Int) ∧ i + 1 ≤ n ∧ I (i + 1) v'.2) {s0 : S} (h0 : I 0 s0) : loop f (0, s0) = loop g (0, s0) := by
 refine Xmk (fun v => ∃ i : Nat, v.1 = (i : Int) ∧ i ≤ n ∧ I i v.2) ?_ ?_ ⟨0, rfl, by omega, h0⟩
 ·
  intro ⟨k, s⟩ ⟨i, e, hi, hs⟩
  simp only at e hs
  subst e
  exact h i s hi hs
 ·
  intro ⟨k, s⟩ v' ⟨i, e, hi, hs⟩ he
  simp only at e hs
  subst e
  obtain ⟨a, b, c⟩ := hI i s v' hi hs he
  exact ⟨i + 1, a, b, c⟩
theorem Yqd (p : List Int) (hl : p.length = 64) (k : Nat) (hk : k < 4) : loop (Xfg p (Xld k)) (0, ([] : List Int)) = Xh4 p k := by
 obtain ⟨q1, q2, q3⟩ := Xpe k hk
 unfold Xh4
 rw [Ysz (f := Xfg p (Xld k)) (g := Xb6 p k) 16 (fun _ _ => True) ?_ ?_ trivial]
 ·
  cases loop (Xb6 p k) (0, ([] : List Int)) <;> rfl
 ·
  intro i s hi _
  unfold Xfg Xb6
  simp only [show (((Xld k).length : Nat) : Int) = 16 by omega]
  refine Xz9 (fun h16 => ?_) fun _ => rfl
  have h16 := of_decide_eq_true h16
  obtain ⟨r1, r2, r3⟩ := q3 i (by omega)
  have e1 : (Xaa .i64 ((Xaa .i64 ((Xaa .i64 (8 * (Xaa .i64 ((Xaa .i64 ((Xaa .i64 ((k : Int).tdiv 2)) * 4)) + (Xaa .i64 ((i : Int).tdiv 4)))))) + (Xaa .i64 (((k : Int).tmod 2) * 4)))) + ((i : Int).tmod 4))) = Xnr k i := rfl
  simp only [Int.toNat_natCast, r1, e1]
  refine Xl0 (by omega) (Xl0 (by omega) (Xl0 (by omega) ?_))
  refine (Xl0 (by omega) (Xl0 (by omega) (Xl0 (by omega) (Xl0 (by omega) (Xl0 (by omega) ?_))))).symm
  rfl
 ·
  intro i s v' hi _ he
  unfold Xb6 at he
  rcases Xjl he with ⟨hb, he⟩ | ⟨_, he⟩
  ·
   have h16 := of_decide_eq_true hb
   simp only at h16 he
   obtain ⟨_, he⟩ := Xav he
   obtain ⟨_, he⟩ := Xav he
   obtain ⟨_, he⟩ := Xav he
   obtain ⟨_, he⟩ := Xav he
   obtain ⟨_, he⟩ := Xav he
   obtain ⟨_, he⟩ := Xav he
   injection he with he
   injection he with he
   subst he
   exact ⟨wkA, by omega, trivial⟩
  ·
   cases he
theorem Xvq (p : List Int) (c : Xe9) (hc : Xio c = true) (hl : p.length = 64) (hb : inB 255 p) : Xf5 p c = Xds p c := by
 have hq := Xx9 hc
 unfold Xf5 Xds
 rw [Xgz, Xez, Xqy p 64 255 (by omega) (by omega) hb, hc, Xco p 64 255 (by omega) (by omega) (by omega) hb]
 simp only [Xab, Xaw, Bool.not_true, Xap]
 rw [Xrx 8 (Or.inr rfl) p (by omega)]
 refine Xz9 (fun _ => rfl) fun _ => Xz9 (fun _ => ?_) fun _ => ?_
 ·
  obtain ⟨w, ew, w1⟩ := Yag p hl hb
  rw [Yqt p hl (Xp6 hb (by omega)), ew, Xab, Xab]
  have : Xjh c w = Xb9 c := by
   funext v
   unfold Xjh Xb9
   simp only [Ydf _ _ hq, w1]
   rfl
  rw [this]
  obtain ⟨l, el, l1, l2⟩ := Xm3 (f := Xb9 c) 64 (fun _ => True) (fun x => -5000 ≤ x ∧ x ≤ 5000) (by
   intro i l hi hll _
   obtain ⟨d, ed, d1, d2⟩ := Xqa (l.getD i 0) c.Qp hq
   unfold Xb9
   simp only [Int.toNat_natCast]
   rw [syA, rqA, rqA, ed, Xab, rqA, rqA, wkA (e := (i : Int) + 1)]
   exact ⟨d, rfl, d1, d2⟩) (by intro s; unfold Xb9; rw [Xar (by simp)]) w w1 (fun _ _ => trivial)
  rw [el, Xab, Xab, Xrx 8 (Or.inr rfl) l (by omega)]
 ·
  refine Ytz ?_ fun _ _ => rfl
  refine Ysz 4 (fun _ _ => True) ?_ ?_ trivial
  ·
   intro k s hk _
   unfold Xl5 Xd1
   refine Xz9 (fun h4 => ?_) fun _ => rfl
   have hk4 : k < 4 := by have := of_decide_eq_true h4; simp only at this; omega
   obtain ⟨q1, q2, q3⟩ := Xpe k hk4
   simp only [q1, Xab]
   rw [Yqd p hl k hk4]
   obtain ⟨a, ea, a1, a2⟩ := Xqe p k hk4 255 hl hb
   obtain ⟨b, eb, b1, b2⟩ := Ydc a a1 a2
   rw [ea, Xab, Xab, Yts a a1 (Xp6 a2 (by omega)), eb, Xab, Xab]
   have : Xh9 c b = Xb4 c := by
    funext v
    unfold Xh9 Xb4
    simp only [show ((b.length : Nat) : Int) = 16 by omega]
    refine Xz9 (fun h16 => ?_) fun _ => rfl
    have := of_decide_eq_true h16
    refine Yui fun h0 => Yui fun _ => ?_
    rw [Ydg _ _ _ hq (by omega)]
   rw [this]
   obtain ⟨l, el, l1, l2⟩ := Xm3 (f := Xb4 c) 16 (fun x => -9180 ≤ x ∧ x ≤ 9180) (fun x => -5000 ≤ x ∧ x ≤ 5000) (by
    intro i l hi hll hx
    obtain ⟨d, ed, d1, d2⟩ := Xqc (l.getD i 0) c.Qp i hx hq (by omega)
    unfold Xb4
    simp only [Int.toNat_natCast]
    rw [syA, rqA, rqA, ed, Xab, rqA, rqA, wkA (e := (i : Int) + 1)]
    exact ⟨d, rfl, d1, d2⟩) (by intro s; unfold Xb4; rw [Xar (by simp)]) b b1 b2
   rw [el, Xab, Xab, Xrx 4 (Or.inl rfl) l (by omega)]
  ·
   intro k s v' hk _ he
   unfold Xd1 at he
   rcases Xjl he with ⟨hb4, he⟩ | ⟨_, he⟩
   ·
    have hk4 := of_decide_eq_true hb4
    simp only at hk4 he
    obtain ⟨a, _, he⟩ := Xbe he
    obtain ⟨l, _, he⟩ := Xbe he
    obtain ⟨b, _, he⟩ := Xbe he
    obtain ⟨r, _, he⟩ := Xbe he
    obtain ⟨_, he⟩ := Xav he
    injection he with he
    injection he with he
    subst he
    exact ⟨wkA, by omega, trivial⟩
   ·
    cases he
theorem Yo2 {p : Pic} (ok : Xc1 p = true) (x y : Int) : Xeu p x y = Xep p x y := by rw [Yhs ok, Xii ok]
theorem Xt5 {p : Pic} (ok : Xc1 p = true) {x y : Int} (hx : x.tmod 8 = 0) (hy : y.tmod 8 = 0) (h : Xdb p x y = true) : Xb2 p x y = some true := Xoa ok x y hx hy h
theorem Xx1 {p : Pic} (ok : Xc1 p = true) {x y : Int} (hx : x.tmod 8 = 0) (hy : y.tmod 8 = 0) (h : Xdb p x y = true) : Xj2 p x y = Xhz p x y := by
 unfold Xj2 Xhz
 rw [Xc7, ok, Xt5 ok hx hy h, Xgq ok hx hy h]
 have : Xkt p x y = Xfo p x y := by
  funext v
  unfold Xkt Xfo
  simp only [Yo2 ok]
 simp only [Xab, Xaw, Bool.not_true, Xap, this, Yo2 ok]
theorem Yfy {e : Xiw} (h : Xtk e) : Xj3 e = some true := by
 obtain ⟨h1, h2, h3, h4, h5, h6⟩ := h
 have side : ∀ l : List Int, (l.length = 0 ∨ l.length = 8) → (∀ x ∈ l, 0 ≤ x ∧ x ≤ 255) → bnd (sel (decide ((l.length : Int) > 0)) (bnd (Xbk l 8 0 255) fun q10 => some (!q10)) (some false)) (fun v9 => some v9) = some false := by
  intro l hl hb
  rcases hl with e | e
  ·
   rw [snA]; rfl
  ·
   rw [syA, Xk3 l 8 0 255 (by omega)]
   have : (l.all fun x => decide (0 ≤ x ∧ x ≤ 255)) = true := List.all_eq_true.2 fun x hx => decide_eq_true (hb x hx)
   rw [this, e]; rfl
 have go : ∀ (i : Nat) (l : List Int), i < 2 → ([e.Above, e.Left]).getD i Xf3 = l → (l.length = 0 ∨ l.length = 8) → (∀ x ∈ l, 0 ≤ x ∧ x ≤ 255) → Xfe e (i : Int) = some (.go ((i + 1 : Nat) : Int)) := by
  intro i l hi hg hl hb
  unfold Xfe
  simp only [Int.toNat_natCast, hg]
  have hs := side l hl hb
  rw [Xbi (by simp only [List.length_cons, List.length_nil]; omega), Xa2 (by simp only [List.length_cons, List.length_nil]; omega), Xa2 (by simp only [List.length_cons, List.length_nil]; omega)]
  obtain ⟨a, ea, hs⟩ := Xbe hs
  injection hs with hs
  subst hs
  rw [ea, Xab, Xap, wkA]
  rfl
 unfold Xj3
 have : loop (Xfe e) 0 = some (.out ()) := by
  refine lgo (go 0 e.Above (by omega) rfl h1 h3) (lgo (go 1 e.Left (by omega) rfl h2 h4) (Xgl ?_))
  unfold Xfe
  rw [Xar (by simp)]
 rw [this, Xab, Xak, Xab, decide_eq_true ⟨h5, h6⟩]
def Ytj (l : List Int) : Nat → Int
 | 0 => 0
 | n + 1 => Ytj l n + l.getD n 0
theorem Xvb {l : List Int} (h : ∀ x ∈ l, 0 ≤ x ∧ x ≤ 255) : ∀ n : Nat, n ≤ l.length → 0 ≤ Ytj l n ∧ Ytj l n ≤ 255 * n
 | 0, _ => by simp [Ytj]
 | n + 1, hn => by
  have a := Xvb h n (by omega)
  have b := h (l.getD n 0) (by rw [Xcf l n (by omega)]; exact List.getElem_mem _)
  rw [Ytj]; omega
theorem Yn9 {f : Int × Int → Option (Lp (Int × Int) Int)} {l : List Int} (hl : l.length ≤ 64) (h : ∀ x ∈ l, 0 ≤ x ∧ x ≤ 255) (hf : ∀ v, f v = sel (decide (v.2 < (l.length : Int))) (req (0 ≤ v.2 ∧ v.2 < l.length) <| some (.go (Xaa .i64 (v.1 + (l.getD v.2.toNat 0)), Xaa .i64 (v.2 + 1)))) (some (.done v.1))) (a : Int) (ha : 0 ≤ a ∧ a ≤ 100000) : loop f (a, 0) = some (a + Ytj l l.length) := by
 obtain ⟨o, e, ho⟩ := Xp0 (f := f) l.length (fun i s => s = a + Ytj l i) (by
  intro i s hi g
  have r := Xvb h i (by omega)
  have b := h (l.getD i 0) (by rw [Xcf l i (by omega)]; exact List.getElem_mem _)
  rw [hf]
  simp only [Int.toNat_natCast]
  rw [syA, rqA, wkA (e := s + l.getD i 0), wkA (e := (i : Int) + 1)]
  exact ⟨_, rfl, by rw [Ytj]; omega⟩) (by intro s; rw [hf, Xar (by simp)]) a (by simp [Ytj])
 rw [e, ho]
theorem Xzu {l : List Int} (hl : l.length ≤ 64) (h : ∀ x ∈ l, 0 ≤ x ∧ x ≤ 255) : Xce l = some (Ytj l l.length) := by
 unfold Xce
 rw [Yn9 (f := Xdp l) hl h (fun _ => rfl) 0 (by omega), Xab, Int.zero_add]
theorem Ywd {e : Xiw} (h : Xtk e) : (sel (decide ((Xaa .i64 ((e.Above.length : Int) + (e.Left.length : Int))) > 0)) (bnd (Xce e.Above) fun q5 => bnd (Xce e.Left) fun q6 => req ((2 : Int) ≠ 0) <| req ((Xaa .i64 ((e.Above.length : Int) + (e.Left.length : Int))) ≠ 0) <|
  some (Xaa .i64 ((Xaa .i64 ((Xaa .i64 (q5 + q6)) + (Xaa .i64 ((Xaa .i64 ((e.Above.length : Int) + (e.Left.length : Int))).tdiv 2)))).tdiv (Xaa .i64 ((e.Above.length : Int) + (e.Left.length : Int)))))) (some 128)) = Xps e := by
 obtain ⟨h1, h2, h3, h4, h5, h6⟩ := h
 unfold Xps
 have r1 := Xvb h3 e.Above.length (Nat.le_refl _)
 have r2 := Xvb h4 e.Left.length (Nat.le_refl _)
 rw [wkA (e := (e.Above.length : Int) + (e.Left.length : Int))]
 by_cases hz : (e.Above.length : Int) + (e.Left.length : Int) = 0
 ·
  rw [snA, Xbq (by simpa using hz)]
 ·
  rw [syA, Xbf (by simpa using hz), Xzu (by omega) h3, Xab, Xzu (by omega) h4, Xab, rqA, Xa2 hz, rqA, Xbt (a := (e.Above.length : Int) + (e.Left.length : Int)) (by omega), wkA (e := ((e.Above.length : Int) + (e.Left.length : Int)) / 2),
   Yn9 (f := Xjf e) (by omega) h3 (fun _ => rfl) _ (by omega), Xab, Yn9 (f := Xjg e) (by omega) h4 (fun _ => rfl) _ (by omega), Xab, Xa2 hz, wkA (e := Ytj e.Above e.Above.length + Ytj e.Left e.Left.length), wkA (e := Ytj e.Above e.Above.length + Ytj e.Left e.Left.length + ((e.Above.length : Int) + (e.Left.length : Int)) / 2)]
  congr 3; omega
theorem Yp7 (l : List Int) (hl : l.length = 0 ∨ l.length = 8) : ∃ g, Xmg l = some g ∧ g.length = 8 ∧ ∀ k : Nat, k < 8 → Xe6 l k = some (g.getD k 0) := by
 unfold Xmg
 rcases hl with e | e
 ·
  refine ⟨_, Xbq (by rw [e]; rfl), rfl, fun k hk => ?_⟩
  unfold Xe6
  rw [Xbq (by rw [e]; rfl)]
  congr 1
  obtain rfl | rfl | rfl | rfl | rfl | rfl | rfl | rfl : k = 0 ∨ k = 1 ∨ k = 2 ∨ k = 3 ∨ k = 4 ∨ k = 5 ∨ k = 6 ∨ k = 7 := by omega
  all_goals rfl
 ·
  refine ⟨l, Xbf (by rw [e]; rfl), e, fun k hk => ?_⟩
  unfold Xe6
  rw [Xbf (by rw [e]; rfl), rqA, Int.toNat_natCast]
theorem Ymf (n a b : Int) : Xcp n a b = Xev n a b := by rw [Xhf, Xfn]
def Yay (m mid v : Int) (A B : List Int) (i : Nat) : Int := sel (m == 0) mid (sel (m == 1) (A.getD (i % 8) 0) (sel (m == 2) (B.getD (i / 8) 0) (Xbn (Xaa .i64 (Xaa .i64 (B.getD (i / 8) 0 + A.getD (i % 8) 0) - v)) 0 255)))
theorem Yua {f1 : Int × List Int → Option (Lp (Int × List Int) (List Int))} {f2 : Int × List Int → Int × List Int → Option (Lp (Int × List Int) (List Int))} (g : Nat → Int)
  (h1 : ∀ v, f1 v = sel (decide (v.1 < 8)) (bnd (loop (f2 v) (0, v.2)) fun w => some (.go (Xaa .i64 (v.1 + 1), w))) (some (.done v.2)))
  (h2 : ∀ (r c : Nat) (a s : List Int), r < 8 → c < 8 → s.length = 8 * r + c → f2 ((r : Int), a) ((c : Int), s) = some (.go (((c + 1 : Nat) : Int), s ++ [g (8 * r + c)])))
  (h3 : ∀ (r : Nat) (a s : List Int), f2 ((r : Int), a) (8, s) = some (.done s)) : loop f1 (0, []) = some ((List.range 64).map g) := by
 obtain ⟨o, e, ho⟩ := Xdu (f := f1) 8 (fun r s => s = (List.range (8 * r)).map g) (by
  intro r s hr hs
  obtain ⟨q, eq, hq⟩ := Xne (f := f2 ((r : Int), s)) 8 (fun c s' => s' = (List.range (8 * r + c)).map g) (by
   intro c s' hc hs'
   exact ⟨_, h2 r c s s' hr hc (by rw [hs']; simp), by rw [hs', show 8 * r + (c + 1) = (8 * r + c) + 1 by omega, List.range_succ, List.map_append]; rfl⟩) (fun z _ => h3 r s z) s hs
  rw [h1]
  refine ⟨q, ?_, by rw [hq, show 8 * (r + 1) = 8 * r + 8 by omega]⟩
  simp only
  rw [syA, eq, Xab, wkA]
  rfl) (by intro s; rw [h1, Xar (by simp)]) [] rfl
 rw [e, ho]
theorem Yom (m : Int) (hm0 : 0 ≤ m ∧ m ≤ 3) {e : Xiw} (h : Xtk e) : ∃ g, Xfw m e = some g ∧ Xew m e = some g := by
 have hm : maxLen = 9223372036854775807 := rfl
 obtain ⟨mid, em, m1, m2⟩ := Xwo h
 obtain ⟨A, eA, hA, fA⟩ := Yp7 e.Above h.1
 obtain ⟨B, eB, hB, fB⟩ := Yp7 e.Left h.2.1
 obtain ⟨v, ev⟩ : ∃ v, sel (decide (e.Corner < 0)) (some (128 : Int)) (some e.Corner) = some v := by rw [Ytd]; exact ⟨_, rfl⟩
 refine ⟨(List.range 64).map (Yay m mid v A B), ?_, ?_⟩
 ·
  unfold Xfw
  rw [Yfy h, Xab, Xaw, Xak, Xab, decide_eq_true hm0, Bool.not_true, Xab, Xap, Ywd h, em, Xab, eA, Xab, eB, Xab, ev, Xab, Yua (f1 := Xn3 m mid A B v) (f2 := Xgg m mid A B v) (Yay m mid v A B) (fun _ => rfl) ?_ ?_, Xab]
  ·
   intro r c a s hr hc hs
   unfold Xgg Yay
   simp only [Int.toNat_natCast, Xhf, Xab]
   rw [syA, wkA (e := (c : Int) + 1), show (8 * r + c) % 8 = c by omega, show (8 * r + c) / 8 = r by omega]
   cases (m == 0) with
   | true => rw [Xaw, Xa2 (by simp only [List.length_singleton]; omega), Xab]; rfl
   | false =>
    rw [Xap]
    cases (m == 1) with
    | true => rw [Xaw, rqA, Xa2 (by simp only [List.length_singleton]; omega), Xab]; rfl
    | false =>
     rw [Xap]
     cases (m == 2) with
     | true => rw [Xaw, rqA, Xa2 (by simp only [List.length_singleton]; omega), Xab]; rfl
     | false => rw [Xap, rqA, rqA, Xa2 (by simp only [List.length_singleton]; omega), Xab]; rfl
  ·
   intro r a s
   unfold Xgg
   rw [Xar (by simp)]
 ·
  unfold Xew
  rw [Xjm h, Xab, Xaw, Xal, Xab, decide_eq_true hm0, Bool.not_true, Xab, Xap, ev, Xab]
  obtain ⟨o, eo, ho⟩ := Xdu (f := Xeb m e v) 64 (fun i s => s = (List.range i).map (Yay m mid v A B)) (by
   intro i s hi hs
   have hlen : s.length = i := by rw [hs]; simp
   refine ⟨s ++ [Yay m mid v A B i], ?_, by rw [hs, List.range_succ, List.map_append]; rfl⟩
   unfold Xeb Yay
   simp only
   rw [syA, rqA, Xbu (by omega), show (i : Int) % 8 = ((i % 8 : Nat) : Int) by omega, fA _ (by omega), Xab, rqA, Xbt (by omega), wkA (e := (i : Int) / 8), show (i : Int) / 8 = ((i / 8 : Nat) : Int) by omega, fB _ (by omega), Xab, wkA (e := (i : Int) + 1), em]
   cases (m == 0) with
   | true => rw [Xaw, Xab, Xa2 (by simp only [List.length_singleton]; omega), Xab]; rfl
   | false =>
    rw [Xap]
    cases (m == 1) with
    | true => rw [Xaw, Xa2 (by simp only [List.length_singleton]; omega), Xab]; rfl
    | false =>
     rw [Xap]
     cases (m == 2) with
     | true => rw [Xaw, Xa2 (by simp only [List.length_singleton]; omega), Xab]; rfl
     | false => rw [Xap, Xfn, Xab, Xa2 (by simp only [List.length_singleton]; omega), Xab]; rfl) (by intro s; unfold Xeb; rw [Xar (by simp)]) [] rfl
  rw [eo, Xab, ho]
theorem Xrw (m : Int) (hm0 : 0 ≤ m ∧ m ≤ 3) {e : Xiw} (h : Xtk e) : Xfw m e = Xew m e := by
 obtain ⟨g, h1, h2⟩ := Yom m hm0 h
 rw [h1, h2]
theorem Ycp (g b : List Int) (hg : Xbv g = true) (hl : b.length = 64) (hb : inB 10000000 b) : Xl4 g b = Xmr g b := by
 obtain ⟨g1, g2⟩ := Xbo hg
 unfold Xl4 Xmr
 rw [Xgp g hg, Xho g (by omega), hg, Xqy b 64 10000000 (by omega) (by omega) hb, Xco b 64 10000000 (by omega) (by omega) (by omega) hb]
 have : Xmz g b = Xg0 g b := by
  funext v
  unfold Xmz Xg0
  simp only [Ymf, show ((g.length : Nat) : Int) = 64 by omega]
 simp only [Xab, Xaw, Bool.not_true, Xap, this]
theorem Yqn {s : Xam} (h : Xuo s = true) (h1 : s.Kind = 0) : s.Dx = 0 ∧ s.Dy = 0 := by
 unfold Xuo at h
 rw [h1] at h
 simp at h
 exact ⟨h.2.1, h.2.2.1⟩
theorem Yyq {s : Xam} (h : Xuo s = true) : (-16 ≤ s.Dx ∧ s.Dx ≤ 16) ∧ (-16 ≤ s.Dy ∧ s.Dy ≤ 16) := by
 have hk := Xup h
 obtain h1 | h1 | h1 : s.Kind = 0 ∨ s.Kind = 1 ∨ s.Kind = 2 := by omega
 ·
  obtain ⟨a, b⟩ := Yqn h h1; omega
 ·
  obtain ⟨a, b, _⟩ := Xva h h1; exact ⟨a, b⟩
 ·
  unfold Xuo at h
  rw [h1] at h
  simp at h
  omega
theorem Yra (s : Xam) (c : Xe9) : Xd8 s c = some (Xsu s c) := by
 unfold Xd8 Xsu
 cases c.Key <;> rfl
structure Zdi (now ref : Pic) (l t x y : Int) (c : Xe9) (q : Xam) : Prop where
 ok : Xc1 now = true
 hx : x.tmod 8 = 0
 hy : y.tmod 8 = 0
 h0 : Xdb now x y = true
 hl : 0 ≤ l ∧ l ≤ 256
 ht : 0 ≤ t ∧ t ≤ 256
 hc : Xio c = true
 hs : q.Levels.length ≤ 1048576
theorem Xtg {now ref : Pic} {l t x y : Int} {c : Xe9} {q : Xam} (h : Zdi now ref l t x y c q) (hq : Xuo q = true) (hL : Xsu q c = true) (hr : c.Key = false → Xc1 ref = true) : ∃ d, Xd7 now ref l t c x y q = some (d, true) ∧ Xft now ref l t c x y q = some (d, true) ∧ Xbv d = true := by
 obtain ⟨ok, hx, hy, h0, hl, ht, hc, hs⟩ := h
 obtain ⟨k1, k2, k3⟩ := Xbl ok
 have h0' := h0
 unfold Xdb at h0'
 rw [decide_eq_true_eq] at h0'
 have dxy := Yyq hq
 unfold Xft Xd7
 rw [Xgq ok hx hy h0, Xab, Xaw, Xal, Xab, decide_eq_true hl, Xaw, Xal, Xab, decide_eq_true ht, Xaw, Ye4, Xab, hq, Xaw, Xgz, Xab, hc, Bool.not_true, Xab, Xap]
 rw [Xc7, Xab, ok, Xaw, Xt5 ok hx hy h0, Xab, Xaw, Xak, Xab, decide_eq_true hl, Xaw, Xak, Xab, decide_eq_true ht, Xaw, Xn7 q (by omega), Xab, hq, Xaw, Xez, Xab, hc, Xaw, Yra, Xab, hL, Xaw]
 by_cases h2 : q.Kind = 2
 ·
  obtain ⟨hm, hlv⟩ := Yam hq h2
  obtain ⟨e, ee, he⟩ := Xua ok hx hy h0
  obtain ⟨b, eb, b1, b2⟩ := Xqb q.Levels c hc hlv
  obtain ⟨g, eg, hg⟩ := Xli q.Mode hm he
  obtain ⟨j, ej, hj⟩ := Xwf g b hg b1 b2
  refine ⟨j, ?_, ?_, hj⟩
  ·
   rw [Xbf (b := q.Kind != 2) (by simpa using h2), Xab, Xap, Xbf (by rw [h2]; rfl), Xsx q.Levels c hc hlv, eb, Xab, Xbf (by rw [h2]; rfl), Xx1 ok hx hy h0, ee, Xab, Xrw q.Mode hm he, eg, Xab, Ycp g b hg b1 b2, ej, Xab]
  ·
   rw [Xbq (by simpa using h2), ee, Xab, eb, Xab, eg, Xab, ej, Xab]
 ·
  have hK : c.Key = false := by
   unfold Xsu at hL
   cases hk : c.Key with
   | false => rfl
   | true => rw [hk] at hL; simp at hL; exact absurd hL h2
  have rok := hr hK
  rw [Xbq (b := q.Kind != 2) (by simpa using h2), Xc7, Xab, rok, Bool.not_true, Xab, Xap]
  rw [Xbf (b := q.Kind == 2) (by simpa using h2), hK, Xap, Xgc, Xab, rok, Bool.not_true, Xab, Xap]
  rw [wkA (e := l + x), wkA (e := l + x + q.Dx), wkA (e := t + y), wkA (e := t + y + q.Dy), Xlf rok _ _ (by omega) (by omega), Xab, Xf9 rok _ _ (by omega) (by omega), Xab, Xf9 rok _ _ (by omega) (by omega)]
  by_cases h3 : q.Kind = 0
  ·
   obtain ⟨z1, z2⟩ := Yqn hq h3
   rw [Xbq (b := q.Kind == 0) (by simpa using h3), Xbq (b := q.Kind == 0) (by simpa using h3), z1, z2, Int.add_zero, Int.add_zero]
   exact ⟨_, rfl, rfl, Xkq _ _ _⟩
  ·
   have h1 : q.Kind = 1 := by have := Xup hq; omega
   obtain ⟨_, _, hlv⟩ := Xva hq h1
   obtain ⟨b, eb, b1, b2⟩ := Xqb q.Levels c hc hlv
   obtain ⟨j, ej, hj⟩ := Xwf _ b (Xkq ref (l + x + q.Dx) (t + y + q.Dy)) b1 b2
   rw [Xbf (b := q.Kind == 0) (by simpa using h3), Xbf (b := q.Kind == 0) (by simpa using h3), Xsx q.Levels c hc hlv, eb, Xab, Xab, Xbq (b := q.Kind == 1) (by simpa using h1), Xab, Ycp _ b (Xkq _ _ _) b1 b2, ej, Xab]
   exact ⟨_, rfl, rfl, hj⟩
theorem Yyf {β : Type} {a b c : Prop} [Decidable a] [Decidable b] [Decidable c] (hb : b) (hc : c) (k : Option β) : req a (req b (req c k)) = req b (req c (req a k)) := by
 rw [Xa2 hb, Xa2 hc, Xa2 hb, Xa2 hc]
theorem Yxw {p : Pic} (ok : Xc1 p = true) : p.Dots.size ≤ 65536 := by
 obtain ⟨k1, k2, k3⟩ := Xbl ok
 have := Xgr k1 k2
 omega
theorem Ywk {p : Pic} {x y : Int} {d : List Int} (hd : Xbv d = true) (hp : p.Dots.size ≤ maxLen) : Xzn p x y d = Xh5 p x y d := by
 obtain ⟨d1, d2⟩ := Xbo hd
 unfold Xzn Xh5 Xzi
 rw [Xa2 hp, Xab, Xa2 hp]
 have : Xr9 p x y d = Xc8 p x y d := by
  funext v
  unfold Xr9 Xc8
  simp only [show ((d.length : Nat) : Int) = 64 by omega]
  exact Xz9 (fun _ => Yyf (by omega) (by omega) _) fun _ => rfl
 rw [this]
theorem Ywa (n : Nat) (x : Int) : ((List.range n).map fun _ => x) = List.replicate n x := by
 apply List.ext_getElem
 ·
  simp
 ·
  intro i h1 h2; simp
theorem Ypl (w h : Int) (hw : 1 ≤ w ∧ w ≤ 256) (hh : 1 ≤ h ∧ h ≤ 256) : Xtt w h = some ⟨w, h, strOfNums (List.replicate (w * h).toNat 128)⟩ := by
 have ar := Xgr hw hh
 unfold Xtt
 rw [Xak, Xab, decide_eq_true hw, Xaw, Xak, Xab, decide_eq_true hh, Bool.not_true, Xab, Xap, wkA (e := w * h), rqA]
 rw [Yuh (f := Xni w h) (w * h).toNat (fun _ => 128) (List.replicate (w * h).toNat 0) (by simp) ?_ ?_, Xab, Ywa]
 ·
  intro i s hi hs _
  unfold Xni
  simp only [List.length_replicate, Int.toNat_natCast]
  rw [wkA (e := w * h), syA, rqA, rqA, wkA]
  rfl
 ·
  intro s hs
  unfold Xni
  simp only [List.length_replicate]
  rw [wkA (e := w * h), snA]
theorem Xv8 (n : Int) : Xmf n = some (Xxu n) := by
 unfold Xmf Xxu
 rw [rqA, Xak, Xab, Xdg, Xab, Yq2]
theorem Yuz {w h : Int} (hw : Xxu w = true) (hh : Xxu h = true) (i : Nat) (hi : (i : Int) < w / 8 * (h / 8)) : (8 ≤ w ∧ w ≤ 64) ∧ (8 ≤ h ∧ h ≤ 64) ∧ 1 ≤ w / 8 ∧ w / 8 ≤ 8 ∧ 1 ≤ h / 8 ∧ h / 8 ≤ 8 ∧ 0 ≤ (i : Int) % (w / 8) * 8 ∧ (i : Int) % (w / 8) * 8 ≤ w - 8 ∧ 0 ≤ (i : Int) / (w / 8) * 8 ∧ (i : Int) / (w / 8) * 8 ≤ h - 8 := by
 unfold Xxu at hw hh
 rw [Bool.and_eq_true, decide_eq_true_eq, decide_eq_true_eq] at hw hh
 rw [Xbu (by omega)] at hw hh
 have h1 : 1 ≤ w / 8 ∧ w / 8 ≤ 8 := by omega
 have h2 : 1 ≤ h / 8 ∧ h / 8 ≤ 8 := by omega
 have m0 : 0 ≤ (i : Int) % (w / 8) := Int.emod_nonneg _ (by omega)
 have m1 : (i : Int) % (w / 8) < w / 8 := Int.emod_lt_of_pos _ (by omega)
 have d0 : 0 ≤ (i : Int) / (w / 8) := Int.ediv_nonneg (by omega) (by omega)
 have d1 : (i : Int) / (w / 8) < h / 8 := Int.ediv_lt_of_lt_mul (by omega) (by rw [Int.mul_comm]; exact hi)
 exact ⟨hw.2, hh.2, h1.1, h1.2, h2.1, h2.2, by omega, by omega, by omega, by omega⟩
theorem Xgb {w : Int} (hw : Xxu w = true) : w % 8 = 0 ∧ 8 ≤ w ∧ w ≤ 64 := by
 unfold Xxu at hw
 rw [Bool.and_eq_true, decide_eq_true_eq, decide_eq_true_eq] at hw
 rw [Xbu (by omega)] at hw
 exact ⟨hw.1, hw.2⟩
theorem Yi7 (l : List Int) : Xf0 l = some (Xbv l) := by
 unfold Xf0 Xbv
 by_cases h : l.length = 64
 ·
  rw [Xbf (by simp only [bne_eq_false_iff_eq]; omega), Yfi Yq7 l (Xef l) (by
   intro i hi
   unfold Xef
   rw [syA, rqA, Xal, Xab, wkA, Int.toNat_natCast]
   rfl) (by unfold Xef; rw [snA]), Xab, decide_eq_true h, Bool.true_and]
  cases l.all Yq7 <;> rfl
 ·
  rw [Xbq (by simp only [bne_iff_ne, ne_eq]; omega), decide_eq_false h, Bool.false_and]
theorem Yy6 (m : Int) (h : 0 ≤ m ∧ m ≤ 3) : ∃ s, Xl9 m = some s ∧ Xmv m = some s := by
 have e1 : Xmv m = some (((strOfNums (ueL m.toNat)).size : Nat) : Int) := by
  unfold Xmv Yce
  rw [Xal, Xab, decide_eq_true (by omega), Bool.not_true, Xap]
  have : Xrt m = some (strOfNums (ueL m.toNat)) := by
   have := Xst m.toNat (by omega)
   rwa [show ((m.toNat : Nat) : Int) = m by omega] at this
  rw [this, Xab, Xab]
 have e2 : Xl9 m = some (((strOfNums (ueL m.toNat)).size : Nat) : Int) := by
  unfold Xl9 Xow
  rw [Xak, Xab, decide_eq_true (by omega), Bool.not_true, Xap]
  have : Xir m = some (strOfNums (ueL m.toNat)) := by
   have := Xfm m.toNat (by omega)
   rwa [show ((m.toNat : Nat) : Int) = m by omega] at this
  rw [this, Xab, Xab]
 exact ⟨_, e2, e1⟩
theorem Yfx {w : List Int} (hw : Xbv w = true) {e : Xiw} (h : Xtk e) : Xiz w e = Xi7 w e := by
 have hwl := (Xbo hw).1
 unfold Xiz Xi7
 rw [Yfy h, Xjm h, Xho w (by omega), Yi7, hw]
 have : loop (Xh8 w e) (0, -1, 0) = loop (Xd0 w e) (0, -1, 0) := by
  refine Xmk (fun v => 0 ≤ v.2.2 ∧ v.2.2 ≤ 4) ?_ ?_ (by simp)
  ·
   intro ⟨m, c, i⟩ ⟨h1, h2⟩
   simp only at h1 h2
   unfold Xh8 Xd0
   simp only
   by_cases hi : i < 4
   ·
    obtain ⟨g, eg, hg⟩ := Xli i ⟨h1, by omega⟩ h
    obtain ⟨s, e1, e2⟩ := Yy6 i ⟨h1, by omega⟩
    rw [Xbi (show i ≤ 3 by omega), Xbi hi, Xrw i ⟨h1, by omega⟩ h, eg, Xab, Xab, Xr8 hw hg, Xsm hw hg, Xab, Xab, e1, e2]
   ·
    rw [Xar (show ¬ i ≤ 3 by omega), Xar hi]
  ·
   intro ⟨m, c, i⟩ v' ⟨h1, h2⟩ he
   simp only at h1 h2
   unfold Xd0 at he
   rcases Xjl he with ⟨hb, he⟩ | ⟨_, he⟩
   ·
    have hi := of_decide_eq_true hb
    simp only at hi
    obtain ⟨q, _, he⟩ := Xbe he
    injection he with he
    injection he with he
    subst he
    simp only
    rw [wkA]; omega
   ·
    cases he
 simp only [Xab, Xaw, Bool.not_true, Xap, this]
theorem Yjj {p : Pic} {w : List Int} {x y r : Int} (ok : Xc1 p = true) (hw : Xbv w = true) (hr : 0 ≤ r ∧ r ≤ 4) (hx : x.tmod 8 = 0) (hy : y.tmod 8 = 0) (h0 : Xdb p x y = true) : Xdl p w x y r = Xos p w x y r := by
 obtain ⟨k1, k2, k3⟩ := Xbl ok
 have hwl := (Xbo hw).1
 have h0' := h0
 unfold Xdb at h0'
 rw [decide_eq_true_eq] at h0'
 unfold Xdl Xos
 rw [Xc7, Xab, ok, Xaw, Xho w (by omega), Xab, hw, Xaw, Xak, Xab, decide_eq_true hr, Xaw, Xoa ok x y hx hy h0, Xab, Bool.not_true, Xab, Xap]
 rw [Xgp w hw, Xab, Xaw, Xal, Xab, decide_eq_true hr, Xaw, Xgq ok hx hy h0, Xab, Bool.not_true, Xab, Xap, wkA (e := 0 - r)]
 refine Ytz ?_ fun _ _ => rfl
 refine Xmk (fun s => -r ≤ s.2.2.2 ∧ s.2.2.2 ≤ r + 1) ?_ ?_ (by simp only; omega)
 ·
  intro s ⟨g1, g2⟩
  unfold Xfd Xmo
  refine Xz9 (fun hs => ?_) fun _ => rfl
  have hs := of_decide_eq_true hs
  rw [wkA (e := 0 - r)]
  refine Ytz ?_ fun _ _ => rfl
  refine Xmk (fun v => -r ≤ v.2.2.2 ∧ v.2.2.2 ≤ r + 1) ?_ ?_ (by simp only; omega)
  ·
   intro v ⟨f1, f2⟩
   unfold Xcw Xmp
   refine Xz9 (fun hv => ?_) fun _ => rfl
   have hv := of_decide_eq_true hv
   rw [wkA (e := x + v.2.2.2), wkA (e := y + s.2.2.2), Ycx ok, Xtc ok, Xab, Xab]
   refine Ytz ?_ fun _ _ => rfl
   refine Xz9 (fun _ => rfl) fun _ => ?_
   have hb := Xkq p (x + v.2.2.2) (y + s.2.2.2)
   rw [Xlf ok _ _ (by omega) (by omega), Xf9 ok _ _ (by omega) (by omega), Xab, Xab, Xsm hw hb, Xr8 hw hb, Xab, Xab, Xwg _ (by omega), Xm0 _ (by omega), Xab, Xab, Xwg _ (by omega), Xm0 _ (by omega), Xab]
  ·
   intro v v' ⟨f1, f2⟩ he
   unfold Xmp at he
   rcases Xjl he with ⟨hb, he⟩ | ⟨_, he⟩
   ·
    have hi := of_decide_eq_true hb
    obtain ⟨q, _, he⟩ := Xbe he
    injection he with he
    injection he with he
    subst he
    simp only
    rw [wkA]; omega
   ·
    cases he
 ·
  intro s v' ⟨g1, g2⟩ he
  unfold Xmo at he
  rcases Xjl he with ⟨hb, he⟩ | ⟨_, he⟩
  ·
   have hi := of_decide_eq_true hb
   obtain ⟨q, _, he⟩ := Xbe he
   injection he with he
   injection he with he
   subst he
   simp only
   rw [wkA]; omega
  ·
   cases he
def Xxm (a b : List Int) : List Int := (List.range 64).map fun i => a.getD i 0 - b.getD i 0
theorem Xpm (a b : List Int) : (Xxm a b).length = 64 := by simp [Xxm]
theorem Ynf (a b : List Int) {i : Nat} (hi : i < 64) : (Xxm a b).getD i 0 = a.getD i 0 - b.getD i 0 := Xg4 _ hi
theorem Yfq {a b : List Int} (ha : Xbv a = true) (hb : Xbv b = true) : inB 255 (Xxm a b) := by
 intro x hx
 obtain ⟨i, hi, rfl⟩ := List.mem_map.1 hx
 rw [List.mem_range] at hi
 have p := (Xbo ha).2 i hi
 have q := (Xbo hb).2 i hi
 omega
theorem Ypz {a b : List Int} (ha : Xbv a = true) (hb : Xbv b = true) {f : Int × List Int → Option (Lp (Int × List Int) (List Int))} (hf : ∀ v, f v = sel (decide (v.1 < 64)) (req (0 ≤ v.1 ∧ v.1 < a.length) <| req (0 ≤ v.1 ∧ v.1 < b.length) <| req ((v.2.length + ([Xaa .i64 ((a.getD v.1.toNat 0) - (b.getD v.1.toNat 0))]).length) * 8 ≤ 140737488355328 ∧ v.2.length + ([Xaa .i64 ((a.getD v.1.toNat 0) - (b.getD v.1.toNat 0))]).length ≤ maxLen) <| some (.go (Xaa .i64 (v.1 + 1), (v.2 ++ ([Xaa .i64 ((a.getD v.1.toNat 0) - (b.getD v.1.toNat 0))]))))) (some (.done v.2))) : loop f (0, []) = some (Xxm a b) := by
 have hm : maxLen = 9223372036854775807 := rfl
 obtain ⟨a1, a2⟩ := Xbo ha
 obtain ⟨b1, b2⟩ := Xbo hb
 have := Yr7 (f := f) 64 (fun i => a.getD i 0 - b.getD i 0) [] (by
  intro i hi
  have x := a2 i hi
  have y := b2 i hi
  rw [hf]
  simp only [Int.toNat_natCast]
  rw [syA, rqA, rqA, Xa2 (by simp only [List.length_append, List.length_nil, List.length_map, List.length_range, List.length_singleton]; omega), wkA (e := a.getD i 0 - b.getD i 0), wkA (e := (i : Int) + 1)]
  rfl) (by rw [hf, Xar (by simp)])
 rw [List.nil_append] at this
 exact this
theorem Xs5 {a b : List Int} (ha : Xbv a = true) (hb : Xbv b = true) : Xga a b = some (Xxm a b) := by
 have a1 := (Xbo ha).1
 unfold Xga
 rw [Ypz ha hb (f := Xjj a b) (fun v => by unfold Xjj; rw [show ((a.length : Nat) : Int) = 64 by omega]), Xab]
theorem Xlu {a b : List Int} (ha : Xbv a = true) (hb : Xbv b = true) : Xnw a b = some (Xxm a b) := by
 have a1 := (Xbo ha).1
 unfold Xnw
 rw [Ypz ha hb (f := Xpt a b) (fun v => by unfold Xpt; rw [show ((a.length : Nat) : Int) = 64 by omega]), Xab]
theorem Xun (l : List Int) (hl : l.length ≤ 1000000) : Xqg l = some (l.all fun x => x == 0) := by
 unfold Xqg
 rw [Yfi (fun x => x == 0) l (Xlx l) (by
  intro i hi
  unfold Xlx
  rw [syA, rqA, Int.toNat_natCast, wkA]
  rfl) (by unfold Xlx; rw [snA]), Xab]
 cases l.all (fun x => x == 0) <;> rfl
theorem Yx4 {a b : List Int} (ha : Xbv a = true) (hb : Xbv b = true) : (Xo3 a b 64 == 0) = ((Xxm a b).all fun x => x == 0) := by
 have key : ∀ n : Nat, n ≤ 64 → (Xo3 a b n = 0 ↔ ∀ i, i < n → a.getD i 0 - b.getD i 0 = 0) := by
  intro n
  induction n with
  | zero => intro _; exact ⟨fun _ i hi => by omega, fun _ => rfl⟩
  | succ n ih =>
   intro hn
   have g := Xj1 ha hb n (by omega)
   have e : Xo3 a b (n + 1) = Xo3 a b n + Ycs (a.getD n 0 - b.getD n 0) := rfl
   have ab : 0 ≤ Ycs (a.getD n 0 - b.getD n 0) ∧ (Ycs (a.getD n 0 - b.getD n 0) = 0 ↔ a.getD n 0 - b.getD n 0 = 0) := by unfold Ycs; split <;> omega
   rw [e]
   constructor
   ·
    intro h i hi
    rcases Nat.lt_or_ge i n with h1 | h1
    ·
     exact (ih (by omega)).1 (by omega) i h1
    ·
     have : i = n := by omega
     subst this
     exact ab.2.1 (by omega)
   ·
    intro h
    have h1 := (ih (by omega)).2 fun i hi => h i (by omega)
    have h2 := ab.2.2 (h n (by omega))
    omega
 rw [Bool.eq_iff_iff, beq_iff_eq, List.all_eq_true, key 64 (by omega)]
 constructor
 ·
  intro h x hx
  obtain ⟨i, hi, rfl⟩ := List.mem_map.1 hx
  rw [List.mem_range] at hi
  rw [beq_iff_eq]; exact h i hi
 ·
  intro h i hi
  have := h ((Xxm a b).getD i 0) (by rw [Xcf _ i (by rw [Xpm]; exact hi)]; exact List.getElem_mem _)
  rw [beq_iff_eq, Ynf a b hi] at this
  exact this
theorem Ytu (l : List Int) (hl : l.length = 64) : Xbk l 64 0 0 = some (l.all fun x => x == 0) := by
 rw [Xk3 l 64 0 0 (by omega), show ((l.length : Int) == 64) = true by rw [beq_iff_eq]; omega, Bool.and_true]
 congr 2
 funext x
 rw [Bool.eq_iff_iff, decide_eq_true_eq, beq_iff_eq]; omega
structure Zbd (now ref : Pic) (w : List Int) (x y : Int) (c : Xe9) (r : Int) : Prop where
 ok : Xc1 now = true
 hx : x.tmod 8 = 0
 hy : y.tmod 8 = 0
 h0 : Xdb now x y = true
 hw : Xbv w = true
 hc : Xio c = true
 hr : 0 ≤ r ∧ r ≤ 4
 hk : c.Key = false → Xc1 ref = true ∧ ref.Wide = now.Wide ∧ ref.High = now.High
inductive Xsw (now ref : Pic) (w : List Int) (x y : Int) (c : Xe9) (r : Int) : Xam → Prop
 | same (hK : c.Key = false) (h : ∀ i : Nat, i < 64 → w.getD i 0 = (Xqw ref x y 64).getD i 0) : Xsw now ref w x y c r ⟨0, 0, 0, 0, []⟩
 | still (hK : c.Key = false) (l : List Int) (h : Xds (Xxm w (Xqw ref x y 64)) c = some (l, true)) (hl : Yfs l = true) (hz : ∀ i : Nat, i < 64 → l.getD i 0 = 0) : Xsw now ref w x y c r ⟨0, 0, 0, 0, []⟩
 | move (hK : c.Key = false) (dx dy : Int) (hdx : -r ≤ dx ∧ dx ≤ r) (hdy : -r ≤ dy ∧ dy ≤ r) (hh : Xdb ref (x + dx) (y + dy) = true) (l : List Int) (h : Xds (Xxm w (Xqw ref (x + dx) (y + dy) 64)) c = some (l, true)) (hl : Yfs l = true) (hn : ¬ ∀ i : Nat, i < 64 → w.getD i 0 = (Xqw ref x y 64).getD i 0) : Xsw now ref w x y c r ⟨1, 0, dx, dy, l⟩
 | guess (e : Xiw) (he : Xhz now x y = some (e, true)) (hp : Xtk e) (m : Int) (hm : 0 ≤ m ∧ m ≤ 3) (g : List Int) (hg : Xew m e = some g) (hd : Xbv g = true) (l : List Int) (h : Xds (Xxm w g) c = some (l, true)) (hl : Yfs l = true) (hn : c.Key = false → ¬ ∀ i : Nat, i < 64 → w.getD i 0 = (Xqw ref x y 64).getD i 0) : Xsw now ref w x y c r ⟨2, m, 0, 0, l⟩
theorem Xsw.ok {now ref : Pic} {w : List Int} {x y : Int} {c : Xe9} {r : Int} {q : Xam} (hr : 0 ≤ r ∧ r ≤ 4) (h : Xsw now ref w x y c r q) : Xuo q = true ∧ Xsu q c = true ∧ q.Levels.length ≤ 64 := by
 cases h with
 | same hK _ => exact ⟨rfl, by unfold Xsu; rw [hK]; rfl, by simp⟩
 | still hK l _ _ _ => exact ⟨rfl, by unfold Xsu; rw [hK]; rfl, by simp⟩
 | move hK dx dy hdx hdy hh l h hl hn => exact ⟨Yw2 (by omega) (by omega) hl, by unfold Xsu; rw [hK]; rfl, by simp only; have := (Yia hl).1; omega⟩
 | guess e he hp m hm g hg hd l h hl hn => exact ⟨Yut hm hl, by unfold Xsu; simp, by simp only; have := (Yia hl).1; omega⟩
theorem Ytr {l : List Int} (hl : l.length = 64) : (l.all fun x => x == 0) = true ↔ ∀ i : Nat, i < 64 → l.getD i 0 = 0 := by
 rw [List.all_eq_true]
 constructor
 ·
  intro h i hi
  have := h (l.getD i 0) (by rw [Xcf l i (by omega)]; exact List.getElem_mem _)
  rwa [beq_iff_eq] at this
 ·
  intro h x hx
  obtain ⟨i, hi, rfl⟩ := List.getElem_of_mem hx
  rw [beq_iff_eq, ← Xcf l i hi 0]
  exact h i (by omega)
theorem Yl3 {p : Pic} {w : List Int} {x y r : Int} (ok : Xc1 p = true) (hw : Xbv w = true) (hr : 0 ≤ r ∧ r ≤ 4) (hx : x.tmod 8 = 0) (hy : y.tmod 8 = 0) (h0 : Xdb p x y = true) :
  ∃ b, Xdl p w x y r = some b ∧ Xos p w x y r = some b ∧ (-r ≤ b.1 ∧ b.1 ≤ r) ∧ (-r ≤ b.2.1 ∧ b.2.1 ≤ r) ∧ Xdb p (x + b.1) (y + b.2.1) = true := by
 obtain ⟨b, e, h1, h2, h3, _⟩ := Ydk ok hw hr hx hy h0
 exact ⟨b, e, by rw [← Yjj ok hw hr hx hy h0]; exact e, h1, h2, h3⟩
theorem Xry {now ref : Pic} {w : List Int} {x y : Int} {c : Xe9} {r : Int} (H : Zbd now ref w x y c r) : ∃ q d, Xe0 now ref w x y c r = some (q, d, true) ∧ Xm8 now ref w x y c r = some (q, d, true) ∧ Xsw now ref w x y c r q ∧ Xd7 now ref 0 0 c x y q = some (d, true) ∧ Xbv d = true := by
 obtain ⟨ok, hx, hy, h0, hw, hc, hr, hk⟩ := H
 have hwl := (Xbo hw).1
 obtain ⟨e, ee, he⟩ := Xua ok hx hy h0
 obtain ⟨m, co, eb, hm⟩ := Yb4 hw he
 obtain ⟨g, eg, hg⟩ := Xli m hm he
 obtain ⟨l, el, hl⟩ := Xs7 (Xxm w g) c hc (Xpm w g) (Yfq hw hg)
 have hh := h0
 unfold Xdb at hh
 rw [decide_eq_true_eq] at hh
 obtain ⟨k1, k2, k3⟩ := Xbl ok
 -- the square
 have main : ∃ q, Xsw now ref w x y c r q ∧ Xqu now ref w x y c r = some q ∧
   (sel (!c.Key) (bnd (Xbz ref x y) fun q15 => bnd (Xp5 w q15) fun q16 => sel (q16 == 0) (some ((0 : Int), (0 : Int), (0 : Int), (0 : Int), ([] : List Int))) (bnd (Xdl ref w x y r) fun q17 => sel (decide (q17.2.2 ≤ co)) (bnd (Xbz ref (Xaa .i64 (x + q17.1)) (Xaa .i64 (y + q17.2.1))) fun q18 => bnd (Xga w q18) fun q19 => bnd (Xf5 q19 c) fun q20 =>
    bnd (sel (q17.1 == 0) (sel (q17.2.1 == 0) (bnd (Xbk q20.1 64 0 0) fun q22 => some q22) (some false)) (some false)) fun v21 => sel v21 (some (0, 0, 0, 0, [])) (some (1, 0, q17.1, q17.2.1, q20.1))) (some (2, m, 0, 0, l)))) (some (2, m, 0, 0, l))) = some (q.Kind, q.Mode, q.Dx, q.Dy, q.Levels) := by
  unfold Xqu
  cases hK : c.Key with
  | true =>
   refine ⟨⟨2, m, 0, 0, l⟩, .guess e ee he m hm g eg hg l el hl (fun h => by rw [hK] at h; cases h), ?_, rfl⟩
   rw [Xaw, Xab, Xap, ee, Xab, eb, Xab, Bool.not_true]
   simp only [Yh8, Xap, eg, Xab, Xlu hw hg, el]
  | false =>
   obtain ⟨rok, rw', rh⟩ := hk hK
   have hb := Xkq ref x y
   have r0 : Xdb ref x y = true := by unfold Xdb; rw [decide_eq_true_eq, rw', rh]; exact hh
   have gz := Yx4 hw hb
   have lz := Ytr (Xpm w (Xqw ref x y 64))
   rw [Bool.not_false, Xaw, Xap, Xf9 rok x y (by omega) (by omega), Xab, Xr8 hw hb, Xab, Xlf rok x y (by omega) (by omega), Xab, Xlu hw hb, Xab, Xun _ (by rw [Xpm]; omega), Xab, Xab, gz]
   cases hz : ((Xxm w (Xqw ref x y 64)).all fun x => x == 0) with
   | true =>
    refine ⟨⟨0, 0, 0, 0, []⟩, .same hK fun i hi => ?_, rfl, rfl⟩
    have := lz.1 hz i hi
    rw [Ynf _ _ hi] at this; omega
   | false =>
    have hne : ¬ ∀ i : Nat, i < 64 → w.getD i 0 = (Xqw ref x y 64).getD i 0 := fun hall => by
     have := lz.2 fun i hi => by rw [Ynf _ _ hi, hall i hi]; omega
     rw [hz] at this; cases this
    obtain ⟨b, bi, bs, b1, b2, b3⟩ := Yl3 rok hw hr hx hy r0
    rw [Xap, Xap, ee, Xab, eb, Xab, bi, Xab]
    simp only [Yh8, Xaw, bs, Xab]
    by_cases hco : b.2.2 ≤ co
    ·
     have hb2 := Xkq ref (x + b.1) (y + b.2.1)
     obtain ⟨l2, el2, hl2⟩ := Xs7 (Xxm w (Xqw ref (x + b.1) (y + b.2.1) 64)) c hc (Xpm _ _) (Yfq hw hb2)
     have hl2n := (Yia hl2).1
     rw [Xbi hco, Xbi hco, wkA (e := x + b.1), wkA (e := y + b.2.1), Xlf rok _ _ (by omega) (by omega), Xf9 rok _ _ (by omega) (by omega), Xab, Xab, Xs5 hw hb2, Xlu hw hb2, Xab, Xab, Xvq _ c hc (Xpm _ _) (Yfq hw hb2), el2, Xab, Xab, Ytu l2 hl2n, Xab, Xun l2 (by omega), Xab]
     simp only [Xdg, Xab]
     cases hst : (b.1 == 0 && (b.2.1 == 0 && l2.all fun x => x == 0)) with
     | true =>
      simp only [Bool.and_eq_true, beq_iff_eq] at hst
      obtain ⟨z1, z2, z3⟩ := hst
      rw [z1, z2, Int.add_zero, Int.add_zero] at el2
      exact ⟨⟨0, 0, 0, 0, []⟩, .still hK l2 el2 hl2 ((Ytr hl2n).1 z3), rfl, rfl⟩
     | false => exact ⟨⟨1, 0, b.1, b.2.1, l2⟩, .move hK b.1 b.2.1 b1 b2 b3 l2 el2 hl2 hne, rfl, rfl⟩
    ·
     rw [Xar hco, Xar hco]
     refine ⟨⟨2, m, 0, 0, l⟩, .guess e ee he m hm g eg hg l el hl (fun _ => hne), ?_, rfl⟩
     simp only [eg, Xab, Xlu hw hg, el]
 obtain ⟨q, hq, es, ei⟩ := main
 obtain ⟨q1, q2, q3⟩ := hq.ok hr
 obtain ⟨d, di, ds, hd⟩ := Xtg (now := now) (ref := ref) (l := 0) (t := 0) (x := x) (y := y) (c := c) (q := q) ⟨ok, hx, hy, h0, by omega, by omega, hc, by omega⟩ q1 q2 (fun h => (hk h).1)
 refine ⟨q, d, ?_, ?_, hq, di, hd⟩
 ·
  unfold Xe0
  have hl7 : (sel c.Key (some false) (bnd (Xcx ref) fun q8 => sel q8 (sel (ref.Wide != now.Wide) (some true) (some (ref.High != now.High))) (some true))) = some false := by
   cases hK : c.Key with
   | true => rfl
   | false =>
    obtain ⟨a1, a2, a3⟩ := hk hK
    rw [Xap, Xc7, Xab, a1, a2, a3, Xaw, bne_self_eq_false, Xap, bne_self_eq_false]
  rw [Xc7, Xab, ok, Xaw, Xt5 ok hx hy h0, Xab, Xaw, Xho w (by omega), Xab, hw, Xaw, Xez, Xab, hc, Xaw, Xak, Xab, decide_eq_true hr, Bool.not_true, Xab, Xap, hl7, Xab, Xap, Xx1 ok hx hy h0, ee, Xab, Yfx hw he, eb, Xab, Xrw m hm he, eg, Xab, Xs5 hw hg, Xab, Xvq _ c hc (Xpm _ _) (Yfq hw hg), el, Xab]
  simp only
  rw [ei, Xab]
  simp only
  rw [show (⟨q.Kind, q.Mode, q.Dx, q.Dy, q.Levels⟩ : Xam) = q from rfl, di, Xab]
  rfl
 ·
  unfold Xm8
  have hl7 : (sel c.Key (some false) (bnd (Xqf now ref) fun q6 => some (!q6))) = some false := by
   cases hK : c.Key with
   | true => rfl
   | false =>
    obtain ⟨a1, a2, a3⟩ := hk hK
    rw [Xap, Yi8, Xab, Yx8 ok a1 a2 a3]; rfl
  rw [Xgq ok hx hy h0, Xab, Xaw, Xgp w hw, Xab, Xaw, Xgz, Xab, hc, Xaw, Xal, Xab, decide_eq_true hr, Xaw, hl7, Xab, Xap, es, Xab, ds, Xab]
theorem Xz3 {W x y : Int} (hx : 0 ≤ x ∧ x < W) : (y * W + x) / W = y ∧ (y * W + x) % W = x := by
 have hW : 0 < W := by omega
 constructor
 ·
  rw [Int.add_comm, Int.add_mul_ediv_right _ _ (by omega), Int.ediv_eq_zero_of_lt hx.1 hx.2, Int.zero_add]
 ·
  rw [Int.add_comm, Int.add_mul_emod_self_right, Int.emod_eq_of_lt hx.1 hx.2]
theorem Xz4 {W H x y : Int} (hx : 0 ≤ x ∧ x < W) (hy : 0 ≤ y ∧ y < H) : 0 ≤ y * W + x ∧ y * W + x < W * H := by
 have a : 0 ≤ y * W := Int.mul_nonneg hy.1 (by omega)
 have b : y * W ≤ (H - 1) * W := Int.mul_le_mul_of_nonneg_right (by omega) (by omega)
 have c : (H - 1) * W = W * H - W := by rw [Int.sub_mul, Int.one_mul, Int.mul_comm]
 omega
theorem Yll {n m : Int} (h : 0 ≤ n ∧ n ≤ m) : Xbn n 0 m = n := by
 unfold Xbn
 repeat' split
 all_goals omega
theorem Yfk {p : Pic} {x y : Int} (hx : 0 ≤ x ∧ x < p.Wide) (hy : 0 ≤ y ∧ y < p.High) : Xr1 p x y = Xx0 p.Dots (y * p.Wide + x) := by
 unfold Xr1
 rw [Yll (by omega), Yll (by omega)]
theorem Xxn (s : ByteArray) (k : Nat) (hk : k < s.size) : (Xba s).getD k 0 = Xx0 s k := by
 have := Xx7 (Xba s) (by intro x hx; obtain ⟨b, _, rfl⟩ := List.mem_map.1 hx; have := b.toNat_lt; omega) k (by rw [Xdr]; exact hk)
 rw [Ycm] at this
 exact this.symm
theorem Yt0 (s : ByteArray) : Ymg (Xba s) := fun x hx => by
 obtain ⟨b, _, rfl⟩ := List.mem_map.1 hx
 have := b.toNat_lt
 omega
theorem Yvg {l : List Int} (h : Ymg l) (i : Nat) {y : Int} (hy : 0 ≤ y ∧ y ≤ 255) : Ymg (l.set i y) := fun x hx => by
 rcases List.mem_or_eq_of_mem_set hx with hx | hx
 ·
  exact h x hx
 ·
  rw [hx]; exact hy
theorem Zbw {p q : Pic} (hp : Xc1 p = true) (hq : Xc1 q = true) (hw : p.Wide = q.Wide) (hh : p.High = q.High) (h : ∀ x y : Int, 0 ≤ x ∧ x < p.Wide → 0 ≤ y ∧ y < p.High → Xr1 p x y = Xr1 q x y) : p = q := by
 obtain ⟨p1, p2, p3⟩ := Xbl hp
 obtain ⟨q1, q2, q3⟩ := Xbl hq
 have hd : p.Dots = q.Dots := by
  rw [← Ycm p.Dots, ← Ycm q.Dots]
  congr 1
  have hsz : p.Dots.size = q.Dots.size := by
   have : (p.Dots.size : Int) = q.Dots.size := by rw [p3, q3, hw, hh]
   omega
  refine Yb0 (n := p.Dots.size) (Xdr _) ((Xdr _).trans hsz.symm) fun k hk => ?_
  have hkW : (k : Int) < p.Wide * p.High := by omega
  have m0 := Int.emod_nonneg (k : Int) (show p.Wide ≠ 0 by omega)
  have m1 := Int.emod_lt_of_pos (k : Int) (show 0 < p.Wide by omega)
  have d0 : 0 ≤ (k : Int) / p.Wide := Int.ediv_nonneg (by omega) (by omega)
  have d1 : (k : Int) / p.Wide < p.High := Int.ediv_lt_of_lt_mul (by omega) (by rw [Int.mul_comm]; exact hkW)
  have e := h ((k : Int) % p.Wide) ((k : Int) / p.Wide) ⟨m0, m1⟩ ⟨d0, d1⟩
  rw [Yfk ⟨m0, m1⟩ ⟨d0, d1⟩, Yfk (by rw [← hw]; exact ⟨m0, m1⟩) (by rw [← hh]; exact ⟨d0, d1⟩), ← hw, Int.ediv_mul_add_emod] at e
  rw [Xxn _ k hk, Xxn _ k (by omega)]
  exact e
 cases p; cases q
 simp only at hw hh hd
 rw [hw, hh, hd]
def Yvw (x y X Y : Int) : Bool := decide (x ≤ X ∧ X < x + 8 ∧ y ≤ Y ∧ Y < y + 8)
theorem Yyd {p : Pic} {x y : Int} {d : List Int} (ok : Xc1 p = true) (h0 : Xdb p x y = true) (hd : Xbv d = true) : ∃ p', Xh5 p x y d = some p' ∧ Xc1 p' = true ∧ p'.Wide = p.Wide ∧ p'.High = p.High ∧ ∀ X Y : Int, 0 ≤ X ∧ X < p.Wide → 0 ≤ Y ∧ Y < p.High → Xr1 p' X Y = if Yvw x y X Y = true then d.getD ((Y - y) * 8 + (X - x)).toNat 0 else Xr1 p X Y := by
 obtain ⟨k1, k2, k3⟩ := Xbl ok
 have ar := Xgr k1 k2
 have hm : maxLen = 9223372036854775807 := rfl
 obtain ⟨d1, d2⟩ := Xbo hd
 have h0' := h0
 unfold Xdb at h0'
 rw [decide_eq_true_eq] at h0'
 have hn := Xdr p.Dots
 unfold Xh5
 rw [rqA]
 obtain ⟨o, e, o1, o2, o3⟩ := Xne (f := Xc8 p x y d) 64 (fun i s => s.length = p.Dots.size ∧ Ymg s ∧ ∀ X Y : Int, 0 ≤ X ∧ X < p.Wide → 0 ≤ Y ∧ Y < p.High → s.getD (Y * p.Wide + X).toNat 0 = if Yvw x y X Y = true ∧ ((Y - y) * 8 + (X - x)).toNat < i then d.getD ((Y - y) * 8 + (X - x)).toNat 0 else (Xba p.Dots).getD (Y * p.Wide + X).toNat 0) (by
  intro i s hi ⟨g1, g2, g3⟩
  have di := d2 i hi
  have hxx : 0 ≤ x + (i : Int) % 8 ∧ x + (i : Int) % 8 < p.Wide := by omega
  have hyy : 0 ≤ y + (i : Int) / 8 ∧ y + (i : Int) / 8 < p.High := by omega
  have pin := Xz4 hxx hyy
  have b1 : 0 ≤ (y + (i : Int) / 8) * p.Wide := Int.mul_nonneg (by omega) (by omega)
  have b2 : (y + (i : Int) / 8) * p.Wide ≤ (p.High - 1) * p.Wide := Int.mul_le_mul_of_nonneg_right (by omega) (by omega)
  have b3 : (p.High - 1) * p.Wide = p.Wide * p.High - p.Wide := by rw [Int.sub_mul, Int.one_mul, Int.mul_comm]
  unfold Xc8
  simp only
  rw [syA, rqA, rqA, rqA, Xbt (by omega), Xbu (by omega), wkA (e := (i : Int) / 8), wkA (e := y + (i : Int) / 8), wkA (e := (y + (i : Int) / 8) * p.Wide), wkA (e := (y + (i : Int) / 8) * p.Wide + x), wkA (e := (y + (i : Int) / 8) * p.Wide + x + (i : Int) % 8), rqA, rqA, wkA (e := (i : Int) + 1), Int.toNat_natCast, w8 di.1 di.2]
  refine ⟨_, rfl, by rw [List.length_set]; exact g1, Yvg g2 _ di, fun X Y hX hY => ?_⟩
  have pXY := Xz4 hX hY
  rw [Xex _ _ _ _ (by omega)]
  by_cases heq : ((y + (i : Int) / 8) * p.Wide + x + (i : Int) % 8).toNat = (Y * p.Wide + X).toNat
  ·
   rw [if_pos heq]
   have heq' : (y + (i : Int) / 8) * p.Wide + (x + (i : Int) % 8) = Y * p.Wide + X := by omega
   have q1 := Xz3 (y := y + (i : Int) / 8) hxx
   have q2 := Xz3 (y := Y) hX
   rw [heq'] at q1
   have eY : Y = y + (i : Int) / 8 := q2.1.symm.trans q1.1
   have eX : X = x + (i : Int) % 8 := q2.2.symm.trans q1.2
   have hin : Yvw x y X Y = true := by unfold Yvw; rw [decide_eq_true_eq]; omega
   have hpl : ((Y - y) * 8 + (X - x)).toNat = i := by omega
   rw [if_pos ⟨hin, by omega⟩, hpl]
  ·
   rw [if_neg heq, g3 X Y hX hY]
   by_cases hin : Yvw x y X Y = true
   ·
    have hin' := hin
    unfold Yvw at hin'
    rw [decide_eq_true_eq] at hin'
    by_cases hlt : ((Y - y) * 8 + (X - x)).toNat < i
    ·
     rw [if_pos ⟨hin, hlt⟩, if_pos ⟨hin, by omega⟩]
    ·
     have hne : ((Y - y) * 8 + (X - x)).toNat ≠ i := fun h => heq (by
      have eY : Y = y + (i : Int) / 8 := by omega
      have eX : X = x + (i : Int) % 8 := by omega
      rw [eY, eX]; congr 1; omega)
     rw [if_neg (fun h => hlt h.2), if_neg (fun h => by omega)]
   ·
    rw [if_neg (fun h => hin h.1), if_neg (fun h => hin h.1)]) (fun s _ => by unfold Xc8; rw [Xar (by simp)]) (Xba p.Dots) ⟨hn, Yt0 _, fun X Y hX hY => by rw [if_neg (fun h => by omega)]⟩
 refine ⟨_, (Xf2 e).trans rfl, Xz2 k1 k2 (by simp only; rw [strOfNums_size]; omega), rfl, rfl, fun X Y hX hY => ?_⟩
 have pXY := Xz4 hX hY
 rw [Yfk (p := ⟨p.Wide, p.High, strOfNums o⟩) hX hY, Yfk hX hY]
 simp only
 have e1 : Xx0 (strOfNums o) (Y * p.Wide + X) = o.getD (Y * p.Wide + X).toNat 0 := by
  have := Xx7 o o2 (Y * p.Wide + X).toNat (by omega)
  rwa [show (((Y * p.Wide + X).toNat : Nat) : Int) = Y * p.Wide + X by omega] at this
 have e2 : Xx0 p.Dots (Y * p.Wide + X) = (Xba p.Dots).getD (Y * p.Wide + X).toNat 0 := by
  rw [Xxn _ _ (by omega), show (((Y * p.Wide + X).toNat : Nat) : Int) = Y * p.Wide + X by omega]
 rw [e1, e2, o3 X Y hX hY]
 by_cases hin : Yvw x y X Y = true
 ·
  have hin' := hin
  unfold Yvw at hin'
  rw [decide_eq_true_eq] at hin'
  rw [if_pos ⟨hin, by omega⟩, if_pos hin]
 ·
  rw [if_neg (fun h => hin h.1), if_neg hin]
def tX (W : Int) (i : Nat) : Int := (i : Int) % (W / 8) * 8
def tY (W : Int) (i : Nat) : Int := (i : Int) / (W / 8) * 8
structure Yxl (src ref : Pic) (c : Xe9) (r : Int) : Prop where
 ok : Xc1 src = true
 hw : Xxu src.Wide = true
 hh : Xxu src.High = true
 hc : Xio c = true
 hr : 0 ≤ r ∧ r ≤ 4
 hk : c.Key = false → Xc1 ref = true ∧ ref.Wide = src.Wide ∧ ref.High = src.High
inductive Xn1 (src ref : Pic) (c : Xe9) (r : Int) : Nat → List Xam → Pic → Prop
 | zero : Xn1 src ref c r 0 [] ⟨src.Wide, src.High, strOfNums (List.replicate (src.Wide * src.High).toNat 128)⟩
 | succ {n : Nat} {l : List Xam} {now : Pic} (h : Xn1 src ref c r n l now) (hn : (n : Int) < src.Wide / 8 * (src.High / 8)) (q : Xam) (d : List Int) (now' : Pic)
   (hi : Xe0 now ref (Xqw src (tX src.Wide n) (tY src.Wide n) 64) (tX src.Wide n) (tY src.Wide n) c r = some (q, d, true)) (hs : Xm8 now ref (Xqw src (tX src.Wide n) (tY src.Wide n) 64) (tX src.Wide n) (tY src.Wide n) c r = some (q, d, true)) (hq : Xsw now ref (Xqw src (tX src.Wide n) (tY src.Wide n) 64) (tX src.Wide n) (tY src.Wide n) c r q)
   (hd : Xd7 now ref 0 0 c (tX src.Wide n) (tY src.Wide n) q = some (d, true)) (hp : Xh5 now (tX src.Wide n) (tY src.Wide n) d = some now') : Xn1 src ref c r (n + 1) (l ++ [q]) now'
theorem Yz8 {w h : Int} (hw : 1 ≤ w ∧ w ≤ 256) (hh : 1 ≤ h ∧ h ≤ 256) : Xc1 ⟨w, h, strOfNums (List.replicate (w * h).toNat 128)⟩ = true := by
 have ar := Xgr hw hh
 refine Xz2 hw hh ?_
 simp only
 rw [strOfNums_size, List.length_replicate]; omega
theorem Yrv {src ref now : Pic} {c : Xe9} {r : Int} (H : Yxl src ref c r) {n : Nat} (hn : (n : Int) < src.Wide / 8 * (src.High / 8)) (ok : Xc1 now = true) (hw : now.Wide = src.Wide) (hh : now.High = src.High) : Zbd now ref (Xqw src (tX src.Wide n) (tY src.Wide n) 64) (tX src.Wide n) (tY src.Wide n) c r := by
 obtain ⟨p1, p2, p3, p4, p5, p6, p7, p8, p9, p10⟩ := Yuz H.hw H.hh n hn
 refine ⟨ok, by unfold tX; rw [Xbu p7]; omega, by unfold tY; rw [Xbu p9]; omega, by unfold Xdb tX tY; rw [decide_eq_true_eq, hw, hh]; exact ⟨p7, p8, p9, p10⟩, Xkq _ _ _, H.hc, H.hr, fun hK => ?_⟩
 obtain ⟨a, b, c⟩ := H.hk hK
 exact ⟨a, by rw [b, hw], by rw [c, hh]⟩
theorem Xn1.pic {src ref : Pic} {c : Xe9} {r : Int} (H : Yxl src ref c r) {n : Nat} {l : List Xam} {now : Pic} (h : Xn1 src ref c r n l now) : Xc1 now = true ∧ now.Wide = src.Wide ∧ now.High = src.High ∧ l.length = n ∧ (∀ q ∈ l, Xuo q = true ∧ Xsu q c = true ∧ q.Levels.length ≤ 64) := by
 induction h with
 | zero =>
  obtain ⟨k1, k2, k3⟩ := Xbl H.ok
  exact ⟨Yz8 k1 k2, rfl, rfl, rfl, fun q hq => by simp at hq⟩
 | succ h hn q d now' hi hs hq hd hp ih =>
  obtain ⟨ok, w, hh, hl, hall⟩ := ih
  have SF := Yrv H hn ok w hh
  obtain ⟨q2, d2, e2, _, _, _, hd64⟩ := Xry SF
  rw [hi] at e2
  injection e2 with e2
  injection e2 with e2 e3
  injection e3 with e3 _
  subst e2; subst e3
  obtain ⟨p', ep, p1, p2, p3⟩ := Xwp ok SF.h0 hd64
  rw [hp] at ep
  injection ep with ep
  subst ep
  refine ⟨p1, by rw [p2, w], by rw [p3, hh], by rw [List.length_append, hl]; rfl, fun x hx => ?_⟩
  rcases List.mem_append.1 hx with hx | hx
  ·
   exact hall x hx
  ·
   rw [List.mem_singleton.1 hx]; exact hq.ok H.hr
theorem Xn1.step {src ref : Pic} {c : Xe9} {r : Int} (H : Yxl src ref c r) {n : Nat} {l : List Xam} {now : Pic} (h : Xn1 src ref c r n l now) (hn : (n : Int) < src.Wide / 8 * (src.High / 8)) : ∃ q d now', Xe0 now ref (Xqw src (tX src.Wide n) (tY src.Wide n) 64) (tX src.Wide n) (tY src.Wide n) c r = some (q, d, true) ∧ Xm8 now ref (Xqw src (tX src.Wide n) (tY src.Wide n) 64) (tX src.Wide n) (tY src.Wide n) c r = some (q, d, true) ∧ Xbv d = true ∧ Xh5 now (tX src.Wide n) (tY src.Wide n) d = some now' ∧ Xn1 src ref c r (n + 1) (l ++ [q]) now' := by
 obtain ⟨ok, w, hh, hl, _⟩ := h.pic H
 have SF := Yrv H hn ok w hh
 obtain ⟨q, d, e1, e2, hq, ed, hd64⟩ := Xry SF
 obtain ⟨p', ep, p1, p2, p3⟩ := Xwp ok SF.h0 hd64
 exact ⟨q, d, p', e1, e2, hd64, ep, .succ h hn q d p' e1 e2 hq ed ep⟩
theorem Zce {W : Int} (hW : Xxu W = true) (a b : Nat) (hb : (b : Int) < W / 8) : tX W ((W / 8).toNat * a + b) = 8 * b ∧ tY W ((W / 8).toNat * a + b) = 8 * a := by
 have s := Xgb hW
 have e : (((W / 8).toNat * a + b : Nat) : Int) = (a : Int) * (W / 8) + b := by
  rw [Int.natCast_add, Int.natCast_mul, show (((W / 8).toNat : Nat) : Int) = W / 8 by omega, Int.mul_comm]
 have d := Xz3 (W := W / 8) (x := b) (y := a) ⟨by omega, hb⟩
 unfold tX tY
 rw [e, d.1, d.2]
 omega
theorem Yzo {W H : Int} (hW : Xxu W = true) (a b : Nat) (hb : (b : Int) < W / 8) (ha : (a : Int) < H / 8) : (((W / 8).toNat * a + b : Nat) : Int) < W / 8 * (H / 8) := by
 have s := Xgb hW
 have p := Xz4 (W := W / 8) (H := H / 8) (x := b) (y := a) ⟨by omega, hb⟩ ⟨by omega, ha⟩
 rw [Int.natCast_add, Int.natCast_mul, show (((W / 8).toNat : Nat) : Int) = W / 8 by omega, Int.mul_comm (W / 8)]
 exact p.2
theorem Yef {src ref : Pic} {c : Xe9} {r : Int} (H : Yxl src ref c r) : ∃ l now, Xj7 src ref c r = some (l, now, true) ∧ Xn1 src ref c r ((src.Wide / 8).toNat * (src.High / 8).toNat) l now := by
 have hm : maxLen = 9223372036854775807 := rfl
 have sw := Xgb H.hw
 have sh := Xgb H.hh
 obtain ⟨k1, k2, k3⟩ := Xbl H.ok
 -- one row
 have row : ∀ a : Nat, (a : Int) < src.High / 8 → ∀ (l : List Xam) (now : Pic), Xn1 src ref c r ((src.Wide / 8).toNat * a) l now → ∃ l' now', loop (Xeo src ref c r ((8 * a : Nat), l, now.Wide, now.High, now.Dots)) (0, l, now.Wide, now.High, now.Dots) = some (.out (l', now'.Wide, now'.High, now'.Dots)) ∧ Xn1 src ref c r ((src.Wide / 8).toNat * (a + 1)) l' now' := by
  intro a ha l now hT
  have key : ∀ b : Nat, b ≤ (src.Wide / 8).toNat → ∀ (l2 : List Xam) (now2 : Pic), Xn1 src ref c r ((src.Wide / 8).toNat * a + b) l2 now2 → ∃ l' now', loop (Xeo src ref c r ((8 * a : Nat), l, now.Wide, now.High, now.Dots)) (((8 * b : Nat) : Int), l2, now2.Wide, now2.High, now2.Dots) = some (.out (l', now'.Wide, now'.High, now'.Dots)) ∧ Xn1 src ref c r ((src.Wide / 8).toNat * (a + 1)) l' now' := by
   refine Xhc _ ?_ ?_
   ·
    intro l2 now2 h2
    refine ⟨l2, now2, Xgl ?_, by rw [Nat.mul_add, Nat.mul_one]; exact h2⟩
    unfold Xeo
    rw [Xar (by simp only; omega)]
   ·
    intro b hb ih l2 now2 h2
    have hbI : (b : Int) < src.Wide / 8 := by omega
    obtain ⟨eX, eY⟩ := Zce H.hw a b hbI
    obtain ⟨q, d, now', e1, _, hd, ep, hT'⟩ := h2.step H (Yzo H.hw a b hbI ha)
    rw [eX, eY] at e1 ep
    obtain ⟨ok2, w2, hh2, hl2, _⟩ := h2.pic H
    obtain ⟨l', n', el, hT2⟩ := ih (l2 ++ [q]) now' hT'
    refine ⟨l', n', lgo (y := (((8 * (b + 1) : Nat) : Int), l2 ++ [q], now'.Wide, now'.High, now'.Dots)) ?_ el, hT2⟩
    have lb : l2.length ≤ 1000 := by
     have := Yzo H.hw a b hbI ha
     have : src.Wide / 8 * (src.High / 8) ≤ 8 * 8 := Int.mul_le_mul (by omega) (by omega) (by omega) (by omega)
     omega
    unfold Xeo
    simp only
    rw [show ((8 * a : Nat) : Int) = 8 * (a : Int) by omega, show ((8 * b : Nat) : Int) = 8 * (b : Int) by omega, syA, Xf9 H.ok _ _ (by omega) (by omega), Xab, show (⟨now2.Wide, now2.High, now2.Dots⟩ : Pic) = now2 from rfl, e1, Xab]
    simp only
    rw [Bool.not_true, Xap, Xa2 (by simp only [List.length_singleton]; omega), Ywk hd (by have := Yxw ok2; omega), ep, Xab, wkA, show ((8 * (b + 1) : Nat) : Int) = 8 * (b : Int) + 8 by omega]
  exact key 0 (by omega) l now hT
 have rows : ∀ a : Nat, a ≤ (src.High / 8).toNat → ∀ (l : List Xam) (now : Pic), Xn1 src ref c r ((src.Wide / 8).toNat * a) l now → ∃ l' now', loop (Xen src ref c r) (((8 * a : Nat) : Int), l, now.Wide, now.High, now.Dots) = some (.out (l', now'.Wide, now'.High, now'.Dots)) ∧ Xn1 src ref c r ((src.Wide / 8).toNat * (src.High / 8).toNat) l' now' := by
  refine Xhc _ ?_ ?_
  ·
   intro l now h
   refine ⟨l, now, Xgl ?_, h⟩
   unfold Xen
   rw [Xar (by simp only; omega)]
  ·
   intro a ha ih l now h
   obtain ⟨l', n', el, hT⟩ := row a (by omega) l now h
   obtain ⟨l2, n2, el2, hT2⟩ := ih l' n' hT
   refine ⟨l2, n2, lgo (y := (((8 * (a + 1) : Nat) : Int), l', n'.Wide, n'.High, n'.Dots)) ?_ el2, hT2⟩
   unfold Xen
   rw [Xbi (by simp only; omega)]
   simp only
   rw [el, Xab]
   simp only
   rw [wkA, show ((8 * (a + 1) : Nat) : Int) = ((8 * a : Nat) : Int) + 8 by omega]
 obtain ⟨l, now, e, hT⟩ := rows 0 (by omega) [] ⟨src.Wide, src.High, strOfNums (List.replicate (src.Wide * src.High).toNat 128)⟩ (by rw [Nat.mul_zero]; exact .zero)
 refine ⟨l, now, ?_, hT⟩
 unfold Xj7
 have hl7 : (sel c.Key (some false) (bnd (Xcx ref) fun q8 => sel q8 (sel (ref.Wide != src.Wide) (some true) (some (ref.High != src.High))) (some true))) = some false := by
  cases hK : c.Key with
  | true => rfl
  | false =>
   obtain ⟨a1, a2, a3⟩ := H.hk hK
   rw [Xap, Xc7, Xab, a1, a2, a3, Xaw, bne_self_eq_false, Xap, bne_self_eq_false]
 rw [Xc7, Xab, H.ok, Xaw, Xv8, Xab, H.hw, Xaw, Xv8, Xab, H.hh, Xaw, Xez, Xab, H.hc, Xaw, Xak, Xab, decide_eq_true H.hr, Bool.not_true, Xab, Xap, hl7, Xab, Xap, Ypl _ _ k1 k2, Xab]
 have e' : loop (Xen src ref c r) (0, [], src.Wide, src.High, strOfNums (List.replicate (src.Wide * src.High).toNat 128)) = some (.out (l, now.Wide, now.High, now.Dots)) := e
 rw [e', Xab]
theorem Xn1.dots {src ref : Pic} {c : Xe9} {r : Int} (H : Yxl src ref c r) (P : Int → Int → Int → Prop)
  (hP : ∀ (n : Nat) (now : Pic) (q : Xam) (d : List Int), (n : Int) < src.Wide / 8 * (src.High / 8) → Zbd now ref (Xqw src (tX src.Wide n) (tY src.Wide n) 64) (tX src.Wide n) (tY src.Wide n) c r → Xsw now ref (Xqw src (tX src.Wide n) (tY src.Wide n) 64) (tX src.Wide n) (tY src.Wide n) c r q → Xft now ref 0 0 c (tX src.Wide n) (tY src.Wide n) q = some (d, true) → ∀ i : Nat, i < 64 → P (tX src.Wide n + ((i % 8 : Nat) : Int)) (tY src.Wide n + ((i / 8 : Nat) : Int)) (d.getD i 0))
  {n : Nat} {l : List Xam} {now : Pic} (h : Xn1 src ref c r n l now) : ∀ X Y : Int, 0 ≤ X ∧ X < src.Wide → 0 ≤ Y ∧ Y < src.High → Y / 8 * (src.Wide / 8) + X / 8 < n → P X Y (Xr1 now X Y) := by
 induction h with
 | zero =>
  intro X Y hX hY hlt
  have := Int.mul_nonneg (show 0 ≤ Y / 8 by omega) (show 0 ≤ src.Wide / 8 by omega)
  omega
 | succ h hn q d now' hi hs hq hd hp ih =>
  rename_i n0 l0 now0
  obtain ⟨ok, w, hh, hl, hall⟩ := h.pic H
  have SF := Yrv H hn ok w hh
  obtain ⟨q2, d2, e2, _, _, _, hd64⟩ := Xry SF
  rw [hi] at e2
  injection e2 with e2
  injection e2 with e2 e3
  injection e3 with e3 _
  subst e2; subst e3
  obtain ⟨p', ep, p1, p2, p3, p4⟩ := Yyd ok SF.h0 hd64
  rw [hp] at ep
  injection ep with ep
  subst ep
  obtain ⟨q1, q2', q3⟩ := hq.ok H.hr
  obtain ⟨d', ei', es', _⟩ := Xtg (now := now0) (ref := ref) (l := 0) (t := 0) (x := tX src.Wide n0) (y := tY src.Wide n0) (c := c) (q := q) ⟨ok, SF.hx, SF.hy, SF.h0, by omega, by omega, H.hc, by omega⟩ q1 q2' (fun hK => (H.hk hK).1)
  rw [hd] at ei'
  injection ei' with ei'
  injection ei' with ei' _
  subst ei'
  have hPd := hP n0 now0 q d hn SF hq es'
  intro X Y hX hY hlt
  rw [p4 X Y (by rw [w]; exact hX) (by rw [hh]; exact hY)]
  have sw := Xgb H.hw
  have dv := Xz3 (W := src.Wide / 8) (x := X / 8) (y := Y / 8) ⟨by omega, by omega⟩
  by_cases hin : Yvw (tX src.Wide n0) (tY src.Wide n0) X Y = true
  ·
   rw [if_pos hin]
   unfold Yvw at hin
   rw [decide_eq_true_eq] at hin
   have := hPd ((Y - tY src.Wide n0) * 8 + (X - tX src.Wide n0)).toNat (by omega)
   have e1 : tX src.Wide n0 + (((((Y - tY src.Wide n0) * 8 + (X - tX src.Wide n0)).toNat % 8 : Nat)) : Int) = X := by omega
   have e2 : tY src.Wide n0 + (((((Y - tY src.Wide n0) * 8 + (X - tX src.Wide n0)).toNat / 8 : Nat)) : Int) = Y := by omega
   rw [e1, e2] at this
   exact this
  ·
   rw [if_neg hin]
   refine ih X Y hX hY ?_
   have hne : Y / 8 * (src.Wide / 8) + X / 8 ≠ n0 := fun e => hin (by
    rw [e] at dv
    unfold Yvw tX tY
    rw [dv.1, dv.2, decide_eq_true_eq]
    omega)
   omega
theorem Xn1.all {src ref : Pic} {c : Xe9} {r : Int} (H : Yxl src ref c r) (P : Int → Int → Int → Prop)
  (hP : ∀ (n : Nat) (now : Pic) (q : Xam) (d : List Int), (n : Int) < src.Wide / 8 * (src.High / 8) → Zbd now ref (Xqw src (tX src.Wide n) (tY src.Wide n) 64) (tX src.Wide n) (tY src.Wide n) c r → Xsw now ref (Xqw src (tX src.Wide n) (tY src.Wide n) 64) (tX src.Wide n) (tY src.Wide n) c r q → Xft now ref 0 0 c (tX src.Wide n) (tY src.Wide n) q = some (d, true) → ∀ i : Nat, i < 64 → P (tX src.Wide n + ((i % 8 : Nat) : Int)) (tY src.Wide n + ((i / 8 : Nat) : Int)) (d.getD i 0))
  {l : List Xam} {now : Pic} (h : Xn1 src ref c r ((src.Wide / 8).toNat * (src.High / 8).toNat) l now) : ∀ X Y : Int, 0 ≤ X ∧ X < src.Wide → 0 ≤ Y ∧ Y < src.High → P X Y (Xr1 now X Y) := by
 intro X Y hX hY
 refine h.dots H P hP X Y hX hY ?_
 have sw := Xgb H.hw
 have sh := Xgb H.hh
 have p := Xz4 (W := src.Wide / 8) (H := src.High / 8) (x := X / 8) (y := Y / 8) ⟨by omega, by omega⟩ ⟨by omega, by omega⟩
 rw [Int.natCast_mul, show (((src.Wide / 8).toNat : Nat) : Int) = src.Wide / 8 by omega, show (((src.High / 8).toNat : Nat) : Int) = src.High / 8 by omega]
 exact p.2
theorem Yzy (p : Pic) (x y : Int) {i : Nat} (hi : i < 64) : (Xqw p x y 64).getD i 0 = Xr1 p (x + ((i % 8 : Nat) : Int)) (y + ((i / 8 : Nat) : Int)) := Xg4 _ hi
theorem Xn1.same {src ref : Pic} {c : Xe9} {r : Int} (H : Yxl src ref c r) (hd : ∀ (now : Pic) (w : List Int) (x y : Int) (q : Xam) (d : List Int), Zbd now ref w x y c r → w = Xqw src x y 64 → Xsw now ref w x y c r q → Xft now ref 0 0 c x y q = some (d, true) → d = w) {l : List Xam} {now : Pic} (h : Xn1 src ref c r ((src.Wide / 8).toNat * (src.High / 8).toNat) l now) : now = src := by
 obtain ⟨ok, w, hh, _, _⟩ := h.pic H
 refine Zbw ok H.ok w hh fun X Y hX hY => ?_
 rw [w] at hX
 rw [hh] at hY
 refine h.all H (fun X Y v => v = Xr1 src X Y) (fun n now q d hn SF hq hs i hi => ?_) X Y hX hY
 rw [hd now _ _ _ q d SF rfl hq hs]
 exact Yzy _ _ _ hi
theorem Yuy {src : Pic} (hw : Xxu src.Wide = true) (hh : Xxu src.High = true) : (((src.Wide / 8).toNat * (src.High / 8).toNat : Nat) : Int) = src.Wide / 8 * (src.High / 8) ∧ 1 ≤ src.Wide / 8 * (src.High / 8) ∧ src.Wide / 8 * (src.High / 8) ≤ 64 := by
 have a := Xgb hw
 have b := Xgb hh
 have m1 : src.Wide / 8 * (src.High / 8) ≤ 8 * 8 := Int.mul_le_mul (by omega) (by omega) (by omega) (by omega)
 have m2 : 1 * 1 ≤ src.Wide / 8 * (src.High / 8) := Int.mul_le_mul (by omega) (by omega) (by omega) (by omega)
 rw [Int.natCast_mul, show (((src.Wide / 8).toNat : Nat) : Int) = src.Wide / 8 by omega, show (((src.High / 8).toNat : Nat) : Int) = src.High / 8 by omega]
 exact ⟨rfl, by omega, by omega⟩
theorem Xn1.still {src : Pic} {c : Xe9} {r : Int} (H : Yxl src src c r) (hK : c.Key = false) {n : Nat} {l : List Xam} {now : Pic} (h : Xn1 src src c r n l now) : l = List.replicate n ⟨0, 0, 0, 0, []⟩ := by
 induction h with
 | zero => rfl
 | succ h hn q d now' hi hs hq hd hp ih =>
  have : q = ⟨0, 0, 0, 0, []⟩ := by
   cases hq with
   | same => rfl
   | still => rfl
   | move _ _ _ _ _ _ _ _ _ hn => exact absurd (fun _ _ => rfl) hn
   | guess _ _ _ _ _ _ _ _ _ _ _ hn => exact absurd (fun _ _ => rfl) (hn hK)
  rw [ih, this, List.replicate_succ']
theorem Ypb (a b : List Int) (i : Nat) : (a ++ b).getD (a.length + i) 0 = b.getD i 0 := by
 rw [List.getD_eq_getElem?_getD, List.getD_eq_getElem?_getD, List.getElem?_append_right (by omega)]
 congr 2; omega
theorem Yvp (a b : List Int) (i : Nat) (hi : i < a.length) : (a ++ b).getD i 0 = a.getD i 0 := by
 rw [List.getD_eq_getElem?_getD, List.getD_eq_getElem?_getD, List.getElem?_append_left hi]
theorem Zbu (v x : Int) (h0 : 0 ≤ v) (h1 : v ≤ 1000000000000000000) (hx : x = 0 ∨ x = 1) : IntKind.wrap .i64 (BitVec.ofInt (IntKind.bits .i64) (v * 2) ||| BitVec.ofInt (IntKind.bits .i64) x).toNat = v * 2 + x := by
 obtain ⟨a, rfl⟩ : ∃ a : Nat, v = a := ⟨v.toNat, by omega⟩
 obtain ⟨b, rfl⟩ : ∃ b : Nat, x = b := ⟨x.toNat, by omega⟩
 have h : (BitVec.ofInt 64 ((a : Int) * 2) ||| BitVec.ofInt 64 (b : Int)).toNat = a * 2 + b := by
  rw [BitVec.toNat_or, BitVec.toNat_ofInt, BitVec.toNat_ofInt]
  have e1 : (((a : Int) * 2) % ((2 ^ 64 : Nat) : Int)).toNat = a * 2 := by omega
  have e2 : ((b : Int) % ((2 ^ 64 : Nat) : Int)).toNat = b := by omega
  rw [e1, e2]
  have := Nat.two_pow_add_eq_or_of_lt (i := 1) (b := b) (by omega) a
  rw [show 2 ^ 1 * a = a * 2 by omega] at this
  exact this.symm
 show IntKind.wrap .i64 ((BitVec.ofInt 64 ((a : Int) * 2) ||| BitVec.ofInt 64 (b : Int)).toNat : Int) = _
 rw [h, ← Xqh, wkA]
 omega
theorem Ywj {i : Nat} (h : i ≤ 40) : (2 : Int) ^ i ≤ 1099511627776 := by
 have h2 : (2 : Nat) ^ i ≤ 1099511627776 := Nat.pow_le_pow_right (n := 2) (by omega) h
 have := Int.ofNat_le.2 h2
 rw [Int.natCast_pow] at this
 exact this
theorem Xjw {L a f b : List Int} (hL : L = a ++ (f ++ b)) (hb : Xog L) (hl : L.length ≤ 400000) (hf : f.length ≤ 41) : Xch ⟨strOfNums L, (a.length : Int), false⟩ (f.length : Int) = some (Xpx f, ⟨strOfNums L, ((a.length + f.length : Nat) : Int), false⟩) := by
 have hLl : L.length = a.length + (f.length + b.length) := by rw [hL]; simp only [List.length_append]
 have hfb : Xog f := fun x hx => hb x (by rw [hL]; simp [hx])
 unfold Xch
 simp only
 rw [Xap, strOfNums_size, wkA, Xab, snA]
 have key : ∀ i : Nat, i ≤ f.length → loop (Xgj ⟨strOfNums L, (a.length : Int), false⟩ (f.length : Int)) (Xpx (f.take i), (i : Int)) = some (Xpx f) := by
  refine Xhc _ ?_ ?_
  ·
   refine Xgl ?_
   unfold Xgj
   simp only
   rw [snA, List.take_length]
  ·
   intro i hi ih
   refine lgo ?_ ih
   have hx : L.getD (a.length + i) 0 = f.getD i 0 := by rw [hL, Ypb, Yvp _ _ _ hi]
   have hbt : Xx0 (strOfNums L) ((a.length : Int) + i) = f.getD i 0 := by
    rw [show (a.length : Int) + i = ((a.length + i : Nat) : Int) by omega, Xx7 L (Xfb hb) _ (by omega), hx]
   have h2 : f.getD i 0 = 48 ∨ f.getD i 0 = 49 := hfb _ (by rw [Xcf f i hi]; exact List.getElem_mem hi)
   have ht : Xog (f.take i) := fun x hx => hfb x (List.mem_of_mem_take hx)
   have hr := Yao ht
   have hp : (2 : Int) ^ (f.take i).length ≤ 1099511627776 := Ywj (by rw [List.length_take]; omega)
   have hv : Xpx (f.take (i + 1)) = Xpx (f.take i) * 2 + (f.getD i 0 - 48) := by
    rw [List.take_add_one, Xqv, Xcf f i hi, List.getElem?_eq_getElem hi]
    simp [Xpx]
   unfold Xgj
   simp only
   rw [syA, rqA, wkA (e := (a.length : Int) + i), Xa2 (by rw [strOfNums_size]; omega), hbt, w8 (by omega) (by omega), wkA (e := f.getD i 0 - 48), show (2 : Int) ^ min (1 : Int).toNat (IntKind.bits .i64) = 2 from rfl, wkA (e := Xpx (f.take i) * 2), Zbu _ _ (by omega) (by omega) (by omega), wkA, hv]
   rfl
 have := key 0 (by omega)
 rw [List.take_zero] at this
 refine (Xf2 this).trans ?_
 rw [wkA]
 rfl
theorem Yve (m : Nat) (h : m ≠ 0) : ∃ r, Yoi m = 49 :: r := by
 induction m using Nat.strongRecOn with
 | _ m ih =>
  rw [Yoi, dif_neg h]
  by_cases h1 : m / 2 = 0
  ·
   have : m = 1 := by omega
   subst this
   rw [Yoi, dif_pos h1]
   exact ⟨[], rfl⟩
  ·
   obtain ⟨r, e⟩ := ih (m / 2) (by omega) h1
   rw [e]
   exact ⟨r ++ [48 + ((m % 2 : Nat) : Int)], rfl⟩
theorem Za9 (m : Nat) : Xpx (Yoi m) = m := by
 induction m using Nat.strongRecOn with
 | _ m ih =>
  rw [Yoi]
  by_cases h : m = 0
  ·
   rw [dif_pos h, h]; rfl
  ·
   rw [dif_neg h, Xqv, ih (m / 2) (by omega)]
   simp [Xpx]
   omega
theorem Xih {L a b : List Int} {n : Nat} (hL : L = a ++ (ueL n ++ b)) (hb : Xog L) (hl : L.length ≤ 400000) (hn : n ≤ 1000000) : Xbw ⟨strOfNums L, (a.length : Int), false⟩ = some ((n : Int), ⟨strOfNums L, ((a.length + (ueL n).length : Nat) : Int), false⟩) := by
 have hLl : L.length = a.length + ((ueL n).length + b.length) := by rw [hL]; simp only [List.length_append]
 have f1 := Yml (m := n + 1) (j := 20) (by omega)
 have f2 := Yfl (m := n + 1) (by omega)
 have ul : (ueL n).length = Xtl (n + 1) - 1 + Xtl (n + 1) := by unfold ueL; rw [List.length_append, List.length_replicate, Ymd]
 obtain ⟨r, er⟩ := Yve (n + 1) (by omega)
 have hc : ∀ i : Nat, i < (ueL n).length → L.getD (a.length + i) 0 = (ueL n).getD i 0 := fun i hi => by rw [hL, Ypb, Yvp _ _ _ hi]
 have key : ∀ i : Nat, i ≤ Xtl (n + 1) - 1 → loop (Xhr ⟨strOfNums L, (a.length : Int), false⟩) (i : Int) = some ((Xtl (n + 1) - 1 : Nat) : Int) := by
  refine Xhc _ ?_ ?_
  ·
   refine Xgl ?_
   have hx : (ueL n).getD (Xtl (n + 1) - 1) 0 = 49 := by
    have := Ypb (List.replicate (Xtl (n + 1) - 1) 48) (Yoi (n + 1)) 0
    rw [List.length_replicate] at this
    unfold ueL
    exact this.trans (by rw [er]; rfl)
   unfold Xhr
   simp only
   rw [Xap, wkA, strOfNums_size, syA, rqA, show (a.length : Int) + ((Xtl (n + 1) - 1 : Nat) : Int) = ((a.length + (Xtl (n + 1) - 1) : Nat) : Int) by omega, Xx7 L (Xfb hb) _ (by omega), hc _ (by omega), hx, Xab]
   rfl
  ·
   intro i hi ih
   refine lgo ?_ ih
   have hx : (ueL n).getD i 0 = 48 := by
    unfold ueL
    rw [Yvp _ _ _ (by rw [List.length_replicate]; exact hi), Xcf _ i (by rw [List.length_replicate]; exact hi), List.getElem_replicate]
   unfold Xhr
   simp only
   rw [Xap, wkA (e := (a.length : Int) + i), strOfNums_size, syA, rqA, show (a.length : Int) + (i : Int) = ((a.length + i : Nat) : Int) by omega, Xx7 L (Xfb hb) _ (by omega), hc _ (by omega), hx, Xab, wkA]
   rfl
 have hf := Xjw hL hb hl (by omega)
 have hv : Xpx (ueL n) = (n : Int) + 1 := by unfold ueL; rw [Xqv, Yod, Za9, Int.zero_mul, Int.zero_add]; omega
 unfold Xbw
 refine (Xf2 (key 0 (by omega))).trans ?_
 simp only
 rw [snA, Xab, wkA (e := 2 * ((Xtl (n + 1) - 1 : Nat) : Int)), wkA (e := 2 * ((Xtl (n + 1) - 1 : Nat) : Int) + 1), show 2 * ((Xtl (n + 1) - 1 : Nat) : Int) + 1 = ((ueL n).length : Int) by omega, hf, Xab]
 simp only
 rw [Xap, hv, wkA, Xab, snA, show (n : Int) + 1 - 1 = n by omega]
theorem Xu6 {L a b : List Int} {n : Int} (hL : L = a ++ (seL n ++ b)) (hb : Xog L) (hl : L.length ≤ 400000) (hn : -500000 ≤ n ∧ n ≤ 500000) : Xdx ⟨strOfNums L, (a.length : Int), false⟩ = some (n, ⟨strOfNums L, ((a.length + (seL n).length : Nat) : Int), false⟩) := by
 have hf := Xuw n hn
 unfold Xdx
 rw [Xih hL hb hl hf, Xab]
 have ho : Xo7 ((Ygb n : Nat) : Int) = some (n, true) := by
  unfold Xo7
  rw [Xak, Xab, decide_eq_true (by omega), Bool.not_true, Xap, rqA, Xbu (by omega)]
  unfold Ygb
  split
  ·
   rw [Xbq (by rw [beq_iff_eq]; omega), rqA, wkA (e := (((2 * n - 1).toNat : Nat) : Int) + 1), Xbt (by omega), wkA]
   congr 2; omega
  ·
   rw [Xbf (by rw [beq_eq_false_iff_ne]; omega), rqA, wkA (e := 0 - _)]
   have : (0 - (((-2 * n).toNat : Nat) : Int)).tdiv 2 = n := by
    rw [show (0 - (((-2 * n).toNat : Nat) : Int)) = n * 2 by omega]
    exact Int.mul_tdiv_cancel n (by omega)
   rw [this, wkA]
 simp only
 rw [ho, Xab]
 rfl
theorem Zae (l : List Int) (hl : l.length ≤ 64) : nz l ≤ 64 := by have := Ywh l; omega
theorem Yda {L a b l : List Int} (hL : L = a ++ (Xit l ++ b)) (hb : Xog L) (hl : L.length ≤ 400000) (hall : l.all Yok = true) (h64 : l.length ≤ 64) : Xgx ⟨strOfNums L, (a.length : Int), false⟩ (l.length : Int) = some (l, ⟨strOfNums L, ((a.length + (Xit l).length : Nat) : Int), false⟩) := by
 have key : ∀ (r pre : List Int) (g : Nat) (a' b' : List Int), l = pre ++ r → g ≤ pre.length → L = a' ++ (Xor g r ++ b') → loop (Xfj (l.length : Int)) (((pre.length - g : Nat) : Int), (nz r : Int), strOfNums L, (a'.length : Int), false, pre ++ List.replicate r.length 0) = some (l, strOfNums L, ((a'.length + (Xor g r).length : Nat) : Int), false) := by
  intro r
  induction r with
  | nil =>
   intro pre g a' b' h1 h2 h3
   refine Xgl ?_
   unfold Xfj
   simp only
   rw [Xar (by rw [nz]; omega), Xab, Xap, h1]
   simp only [Xor, List.length_nil, List.replicate_zero, Nat.add_zero]
  | cons x r ih =>
   intro pre g a' b' h1 h2 h3
   have hlen : l.length = pre.length + (r.length + 1) := by rw [h1]; simp
   have hx : -5000 ≤ x ∧ x ≤ 5000 := Ynj.1 (List.all_eq_true.1 hall x (by rw [h1]; simp))
   by_cases e : x = 0
   ·
    rw [Xor, if_pos e] at h3
    have := ih (pre ++ [x]) (g + 1) a' b' (by rw [h1]; simp) (by simp; omega) h3
    rw [nz, if_pos e, Xor, if_pos e, ← this, List.length_append, List.length_singleton, show pre.length + 1 - (g + 1) = pre.length - g by omega, List.append_assoc, List.length_cons, List.replicate_succ, e]
    rfl
   ·
    rw [Xor, if_neg e] at h3
    have u1 := Xe7 g (by omega)
    have u2 := Xsk x (by omega)
    have u3 := Ywh r
    have e1 := Xih (L := L) (a := a') (b := seL x ++ Xor 0 r ++ b') (n := g) (by rw [h3]; simp only [List.append_assoc]) hb hl (by omega)
    have e2 := Xu6 (L := L) (a := a' ++ ueL g) (b := Xor 0 r ++ b') (n := x) (by rw [h3]; simp only [List.append_assoc]) hb hl (by omega)
    have := ih (pre ++ [x]) 0 (a' ++ ueL g ++ seL x) b' (by rw [h1]; simp) (by simp) (by rw [h3]; simp only [List.append_assoc])
    rw [List.length_append] at e2
    simp only [List.length_append, List.length_singleton] at this
    rw [nz, if_neg e, Xor, if_neg e]
    refine lgo ?_ (this.trans ?_)
    ·
     unfold Xfj
     simp only
     rw [syA, Bool.not_false, Xab, Xaw, e1, Xab]
     simp only
     rw [e2, Xab]
     simp only
     have hp : ((pre.length - g : Nat) : Int) + (g : Int) = (pre.length : Int) := by omega
     rw [hp, wkA (e := (pre.length : Int)), snA, Xbf (by rw [beq_eq_false_iff_ne]; exact e), Xak, Xab, decide_eq_true (by omega), Bool.not_true, Xab, Xap, Int.toNat_natCast, Xa2 (by simp only [List.length_append, List.length_replicate, List.length_cons]; omega), Xa2 (by simp only [List.length_append, List.length_replicate, List.length_cons]; omega), wkA, wkA, List.length_cons, List.replicate_succ, Yru]
     rw [show ((nz r + 1 : Nat) : Int) - 1 = (nz r : Int) by omega, show pre ++ [x] ++ List.replicate r.length 0 = pre ++ x :: List.replicate r.length 0 by simp, show ((pre.length + 1 - 0 : Nat) : Int) = (pre.length : Int) + 1 by omega]
    ·
     simp only [List.length_append]
     rw [show a'.length + (ueL g).length + (seL x).length + (Xor 0 r).length = a'.length + ((ueL g).length + (seL x).length + (Xor 0 r).length) by omega]
 have hz := Zae l h64
 have e0 := Xih (L := L) (a := a) (b := Xor 0 l ++ b) (n := nz l) (by rw [hL]; unfold Xit; simp only [List.append_assoc]) hb hl (by omega)
 have := key l [] 0 (a ++ ueL (nz l)) b rfl (by simp) (by rw [hL]; unfold Xit; simp only [List.append_assoc])
 unfold Xgx
 rw [rqA, e0, Xab]
 simp only
 rw [List.length_append] at this
 simp only [List.nil_append, List.length_nil] at this
 rw [Int.toNat_natCast]
 refine (Xf2 this).trans ?_
 simp only
 unfold Xit
 rw [List.length_append, Nat.add_assoc]
theorem Xwe {L a b l : List Int} {c : Xe9} (hL : L = a ++ (Yoj l c ++ b)) (hb : Xog L) (hl : L.length ≤ 400000) (h : Yfs l = true) : Xcq ⟨strOfNums L, (a.length : Int), false⟩ c = some (l, ⟨strOfNums L, ((a.length + (Yoj l c).length : Nat) : Int), false⟩) := by
 have hm : maxLen = 9223372036854775807 := rfl
 obtain ⟨h1, h2⟩ := Xo0 h
 unfold Xcq
 rw [Ydb, Xab]
 unfold Yoj at hL ⊢
 by_cases e : (c.Large || c.Exact) = true
 ·
  rw [if_pos e] at hL
  rw [Xbq e, if_pos e]
  have := Yda hL hb hl h2 (by omega)
  rw [h1] at this
  exact (Xf2 this).trans rfl
 ·
  rw [if_neg e] at hL
  rw [Xbf (by simpa using e), if_neg e]
  have step : ∀ (n : Nat) (s q : List Int) (a' b' : List Int), n < 4 → q.length = 16 → q.all Yok = true → s.length ≤ 64 → L = a' ++ (Xit q ++ b') → Xcb ((n : Int), strOfNums L, (a'.length : Int), false, s) = some (.go (((n + 1 : Nat) : Int), strOfNums L, (((a' ++ Xit q).length : Nat) : Int), false, s ++ q)) := by
   intro n s q a' b' hn hq hqa hs hLL
   have := Yda hLL hb hl hqa (by omega)
   rw [hq] at this
   unfold Xcb
   simp only
   rw [syA]
   refine (Xf2 this).trans ?_
   simp only
   rw [rqA, wkA, List.length_append]
   rfl
  have q0 : (l.take 16).length = 16 := by rw [List.length_take]; omega
  have q1 : ((l.drop 16).take 16).length = 16 := by rw [List.length_take, List.length_drop]; omega
  have q2 : ((l.drop 32).take 16).length = 16 := by rw [List.length_take, List.length_drop]; omega
  have q3 : (l.drop 48).length = 16 := by rw [List.length_drop]; omega
  have hcat : l.take 16 ++ (l.drop 16).take 16 ++ (l.drop 32).take 16 ++ l.drop 48 = l := by
   have e1 : (l.drop 32).take 16 ++ l.drop 48 = l.drop 32 := by
    have := List.take_append_drop 16 (l.drop 32)
    rwa [List.drop_drop] at this
   have e2 : (l.drop 16).take 16 ++ l.drop 32 = l.drop 16 := by
    have := List.take_append_drop 16 (l.drop 16)
    rwa [List.drop_drop] at this
   rw [List.append_assoc, e1, List.append_assoc, e2, List.take_append_drop]
  have g0 := step 0 [] _ a (Xit ((l.drop 16).take 16) ++ Xit ((l.drop 32).take 16) ++ Xit (l.drop 48) ++ b) (by omega) q0 (Xkp h2 _) (by simp) (by rw [hL]; simp only [List.append_assoc])
  have g1 := step 1 ([] ++ l.take 16) _ (a ++ Xit (l.take 16)) (Xit ((l.drop 32).take 16) ++ Xit (l.drop 48) ++ b) (by omega) q1 (Xkp (Xko h2 _) _) (by simp only [List.length_append, List.length_nil]; omega) (by rw [hL]; simp only [List.append_assoc])
  have g2 := step 2 ([] ++ l.take 16 ++ (l.drop 16).take 16) _ (a ++ Xit (l.take 16) ++ Xit ((l.drop 16).take 16)) (Xit (l.drop 48) ++ b) (by omega) q2 (Xkp (Xko h2 _) _) (by simp only [List.length_append, List.length_nil]; omega) (by rw [hL]; simp only [List.append_assoc])
  have g3 := step 3 ([] ++ l.take 16 ++ (l.drop 16).take 16 ++ (l.drop 32).take 16) _ (a ++ Xit (l.take 16) ++ Xit ((l.drop 16).take 16) ++ Xit ((l.drop 32).take 16)) b (by omega) q3 (Xko h2 _) (by simp only [List.length_append, List.length_nil]; omega) (by rw [hL]; simp only [List.append_assoc])
  have l4 : ∀ s, Xcb (((4 : Nat) : Int), s) = some (.done (s.2.2.2, s.1, s.2.1, s.2.2.1)) := by intro s; unfold Xcb; simp only; rw [snA]
  have e : loop Xcb (((0 : Nat) : Int), strOfNums L, (a.length : Int), false, []) = _ := (Xcs g0).trans ((Xcs g1).trans ((Xcs g2).trans ((Xcs g3).trans (Xcv (l4 _)))))
  refine (Xf2 e).trans ?_
  simp only [List.nil_append, hcat]
  simp only [List.length_append, Nat.add_assoc]
theorem Yw1 {s : Xam} (h : Xuo s = true) (h1 : s.Kind = 0) : s = ⟨0, 0, 0, 0, []⟩ := by
 unfold Xuo at h
 rw [if_pos h1, decide_eq_true_eq] at h
 obtain ⟨k, m, x, y, l⟩ := s
 simp only at h h1
 obtain ⟨a, b, c, d⟩ := h
 rw [h1, a, b, c, List.length_eq_zero_iff.1 d]
theorem Yks {L a b : List Int} {s : Xam} {c : Xe9} (hL : L = a ++ (sqL s c ++ b)) (hb : Xog L) (hl : L.length ≤ 400000) (h : Xuo s = true) (hlet : Xsu s c = true) : Xgk ⟨strOfNums L, (a.length : Int), false⟩ c = some (s, ⟨strOfNums L, ((a.length + (sqL s c).length : Nat) : Int), false⟩) := by
 have hk := Xup h
 have hl6 : s.Levels.length ≤ 64 := by
  by_cases h0 : s.Kind = 0
  ·
   rw [Yw1 h h0]; simp
  ·
   by_cases h1 : s.Kind = 1
   ·
    have := Xo0 (Xva h h1).2.2; omega
   ·
    have := Xo0 (Yam h (by omega)).2; omega
 have hok := Xn7 s (by omega)
 rw [h] at hok
 unfold Xgk
 simp only
 obtain ⟨p, hp, hL2, e1⟩ : ∃ p : List Int, p = (if c.Key = true then [] else ueL s.Kind.toNat) ∧ L = (a ++ p) ++ ((if s.Kind = 1 then seL s.Dx ++ seL s.Dy ++ Yoj s.Levels c else if s.Kind = 2 then ueL s.Mode.toNat ++ Yoj s.Levels c else []) ++ b) ∧ (sel (!c.Key) (bnd (Xbw ⟨strOfNums L, (a.length : Int), false⟩) fun q2 => some (q2.2.row_, q2.2.at_, q2.2.bad_, q2.1)) (some (strOfNums L, (a.length : Int), false, 2))) = some (strOfNums L, (((a ++ p).length : Nat) : Int), false, s.Kind) := by
  refine ⟨_, rfl, by rw [hL]; unfold sqL; simp only [List.append_assoc], ?_⟩
  cases hK : c.Key with
  | true =>
   unfold Xsu at hlet
   rw [hK, Bool.not_true, Bool.false_or, beq_iff_eq] at hlet
   rw [Bool.not_true, Xap, if_pos rfl, List.append_nil, hlet]
  | false =>
   have := Xih (L := L) (a := a) (n := s.Kind.toNat) (b := (if s.Kind = 1 then seL s.Dx ++ seL s.Dy ++ Yoj s.Levels c else if s.Kind = 2 then ueL s.Mode.toNat ++ Yoj s.Levels c else []) ++ b) (by rw [hL]; unfold sqL; rw [hK, if_neg (by decide)]; simp only [List.append_assoc]) hb hl (by omega)
   rw [Bool.not_false, Xaw, this, Xab, if_neg (by decide), List.length_append]
   simp only
   rw [show ((s.Kind.toNat : Nat) : Int) = s.Kind by omega]
 rw [e1, Xab]
 simp only
 have e2 : (sel false (some (strOfNums L, (((a ++ p).length : Nat) : Int), false, (0 : Int), (0 : Int), (0 : Int), ([] : List Int))) (
   sel (s.Kind == 1) (
   bnd (Xdx (⟨strOfNums L, (((a ++ p).length : Nat) : Int), false⟩ : Xnf)) fun q4 =>
   bnd (Xdx q4.2) fun q5 =>
   bnd (Xcq q5.2 c) fun q6 =>
   some (q6.2.row_, q6.2.at_, q6.2.bad_, 0, q4.1, q5.1, q6.1)) (
   sel (s.Kind == 2) (
   bnd (Xbw (⟨strOfNums L, (((a ++ p).length : Nat) : Int), false⟩ : Xnf)) fun q7 =>
   bnd (Xcq q7.2 c) fun q8 =>
   some (q8.2.row_, q8.2.at_, q8.2.bad_, q7.1, 0, 0, q8.1)) (
   some (strOfNums L, (((a ++ p).length : Nat) : Int), false, 0, 0, 0, []))))) = some (strOfNums L, ((a.length + (sqL s c).length : Nat) : Int), false, s.Mode, s.Dx, s.Dy, s.Levels) := by
  rw [Xap]
  unfold sqL
  rw [← hp]
  by_cases h1 : s.Kind = 1
  ·
   obtain ⟨x1, x2, x3⟩ := Xva h h1
   have hm0 : s.Mode = 0 := by
    unfold Xuo at h
    rw [if_neg (by omega), if_pos h1] at h
    simp only [Bool.and_eq_true, decide_eq_true_eq] at h
    exact h.1
   rw [if_pos h1] at hL2
   have y1 := Xu6 (L := L) (a := a ++ p) (b := seL s.Dy ++ Yoj s.Levels c ++ b) (n := s.Dx) (by rw [hL2]; simp only [List.append_assoc]) hb hl (by omega)
   have y2 := Xu6 (L := L) (a := a ++ p ++ seL s.Dx) (b := Yoj s.Levels c ++ b) (n := s.Dy) (by rw [hL2]; simp only [List.append_assoc]) hb hl (by omega)
   have y3 := Xwe (L := L) (a := a ++ p ++ seL s.Dx ++ seL s.Dy) (b := b) (l := s.Levels) (c := c) (by rw [hL2]; simp only [List.append_assoc]) hb hl x3
   rw [List.length_append (as := a ++ p)] at y2
   rw [List.length_append (as := a ++ p ++ seL s.Dx), List.length_append (as := a ++ p)] at y3
   rw [Xbq (by rw [beq_iff_eq]; exact h1), y1, Xab]
   simp only
   rw [y2, Xab]
   simp only
   rw [y3, Xab, if_pos h1, hm0]
   simp only [List.length_append, Nat.add_assoc]
  ·
   rw [Xbf (by rw [beq_eq_false_iff_ne]; exact h1), if_neg h1]
   rw [if_neg h1] at hL2
   by_cases h2 : s.Kind = 2
   ·
    obtain ⟨x1, x3⟩ := Yam h h2
    have hd0 : s.Dx = 0 ∧ s.Dy = 0 := by
     unfold Xuo at h
     rw [if_neg (by omega), if_neg (by omega), if_pos h2] at h
     simp only [Bool.and_eq_true, decide_eq_true_eq] at h
     exact ⟨h.2.1, h.2.2.1⟩
    rw [if_pos h2] at hL2
    have y1 := Xih (L := L) (a := a ++ p) (b := Yoj s.Levels c ++ b) (n := s.Mode.toNat) (by rw [hL2]; simp only [List.append_assoc]) hb hl (by omega)
    have y3 := Xwe (L := L) (a := a ++ p ++ ueL s.Mode.toNat) (b := b) (l := s.Levels) (c := c) (by rw [hL2]; simp only [List.append_assoc]) hb hl x3
    rw [List.length_append (as := a ++ p)] at y3
    rw [Xbq (by rw [beq_iff_eq]; exact h2), y1, Xab]
    simp only
    rw [y3, Xab, if_pos h2, hd0.1, hd0.2, show ((s.Mode.toNat : Nat) : Int) = s.Mode by omega]
    simp only [List.length_append, Nat.add_assoc]
   ·
    have h0 := Yw1 h (by omega)
    rw [Xbf (by rw [beq_eq_false_iff_ne]; exact h2), if_neg h2, List.append_nil, List.length_append]
    rw [h0]
 rw [e2, Xab]
 simp only
 rw [Xap, show (⟨s.Kind, s.Mode, s.Dx, s.Dy, s.Levels⟩ : Xam) = s from rfl, hok, Xab, Xab]
 rfl
def Zc2 (t : Nat → Int) : Nat → Int
 | 0 => 0
 | k + 1 => Zc2 t k + t k
def eT (f : Nat → Int) (u : Nat) : Int := Zc2 (fun k => Xi6 (u : Int) (k : Int) * f k) 8
def eS (X : Nat → Nat → Int) (u v : Nat) : Int := eT (fun i => eT (X i) v) u
def Ytw (s : ByteArray) (i : Nat) : Int := 48 + (Xx0 s ((i / 8 : Nat) : Int) / 2 ^ (7 - i % 8)) % 2
def Xsy (s : ByteArray) : List Int := (List.range (8 * s.size)).map (Ytw s)
theorem Yxy : ∀ b : Fin 256, Xuv 8 (b.val : Int) = (List.range 8).map fun k => 48 + ((b.val : Int) / 2 ^ (7 - k)) % 2 := by decide +kernel
theorem Zdj (b : Int) (h : 0 ≤ b ∧ b ≤ 255) : Xuv 8 b = (List.range 8).map fun k => 48 + (b / 2 ^ (7 - k)) % 2 := by
 have := Yxy ⟨b.toNat, by omega⟩
 simp only at this
 rwa [show ((b.toNat : Nat) : Int) = b by omega] at this
theorem Xut (s : ByteArray) : (Xsy s).length = 8 * s.size := by simp [Xsy]
theorem Yox (s : ByteArray) {i : Nat} (h : i < 8 * s.size) : (Xsy s).getD i 0 = Ytw s i := Xg4 _ h
theorem Ytx : ∀ b : Fin 256, ∀ k : Fin 8, Xaa .u8 (48 + (IntKind.wrap .u8 (BitVec.ofInt (IntKind.bits .u8) ((b.val : Int) / 2 ^ min (k.val) (IntKind.bits .u8)) &&& BitVec.ofInt (IntKind.bits .u8) 1).toNat)) = 48 + ((b.val : Int) / 2 ^ k.val) % 2 := by decide +kernel
theorem Zbi (b : Int) (h : 0 ≤ b ∧ b ≤ 255) (k : Nat) (hk : k < 8) : Xaa .u8 (48 + (IntKind.wrap .u8 (BitVec.ofInt (IntKind.bits .u8) (b / 2 ^ min k (IntKind.bits .u8)) &&& BitVec.ofInt (IntKind.bits .u8) 1).toNat)) = 48 + (b / 2 ^ k) % 2 := by
 have := Ytx ⟨b.toNat, by omega⟩ ⟨k, hk⟩
 simp only at this
 rwa [show ((b.toNat : Nat) : Int) = b by omega] at this
theorem Xx8 (s : ByteArray) (hs : s.size ≤ 50001) : loop (Xek s) (0, []) = some (Xsy s) := by
 have hm : maxLen = 9223372036854775807 := rfl
 have := Yr7 (f := Xek s) (8 * s.size) (Ytw s) [] (by
  intro i hi
  have hb := Xx6 s ((i / 8 : Nat) : Int)
  unfold Xek
  simp only
  rw [wkA (e := 8 * (s.size : Int)), syA, rqA, Xbt (by omega), wkA (e := (i : Int) / 8), rqA, rqA, Xbu (by omega), wkA (e := 7 - (i : Int) % 8), rqA, show (7 - (i : Int) % 8).toNat = 7 - i % 8 by omega, show (i : Int) / 8 = ((i / 8 : Nat) : Int) by omega, Zbi _ hb (7 - i % 8) (by omega), Xa2 (by simp only [List.length_append, List.length_nil, List.length_map, List.length_range, List.length_singleton]; omega), wkA (e := (i : Int) + 1)]
  rfl) (by unfold Xek; rw [wkA (e := 8 * (s.size : Int)), Xar (by simp)])
 rw [List.nil_append] at this
 exact this
theorem Xz0 {L : List Int} (hb : Xog L) (hl : L.length ≤ 400000) (i : Nat) (hi : i ≤ L.length) : Xhq (strOfNums L) (i : Int) = some ⟨strOfNums L, (i : Int), false⟩ := by
 unfold Xhq
 rw [Xyy L hb hl, Xab, Xaw, Xak, Xab, strOfNums_size, decide_eq_true (by omega), Xab]
 rfl
theorem Xj0 (b : Int) (h : 3 ≤ b ∧ b ≤ 8) : 0 ≤ Xaa .u64 b ∧ Xaa .i64 (1 * 2 ^ min (Xaa .u64 b).toNat (IntKind.bits .i64)) = 2 ^ b.toNat ∧ Xaa .i64 (1 * 2 ^ min b.toNat (IntKind.bits .i64)) = 2 ^ b.toNat ∧ (2 : Int) ^ b.toNat ≤ 256 ∧ 8 ≤ (2 : Int) ^ b.toNat := by
 obtain h | h | h | h | h | h : b = 3 ∨ b = 4 ∨ b = 5 ∨ b = 6 ∨ b = 7 ∨ b = 8 := by omega
 all_goals (subst h; decide +kernel)
def Xyf (q : Seq) (p : Par) (h : Xuq) : Bool := Xg9 q && (Xkm p && (decide (0 ≤ h.Tile ∧ h.Tile < Xb8 q) && (decide (0 ≤ h.Frame ∧ h.Frame < 2 ^ q.Bits.toNat) && decide (0 ≤ h.Qp ∧ h.Qp ≤ 40))))
theorem Xlz {q : Seq} (h : Xg9 q = true) : 0 ≤ Xb8 q ∧ Xb8 q ≤ 1000000 := by
 obtain ⟨h1, h2, _⟩ := Xa8 h
 unfold Xb8
 rw [if_pos h]
 have a := Xbb h1
 have b := Xbb h2
 have : (q.Cols.length : Int) * q.Rows.length ≤ 4 * 4 := Int.mul_le_mul (by omega) (by omega) (by omega) (by omega)
 exact ⟨Int.mul_nonneg (by omega) (by omega), by omega⟩
theorem Xvv (q : Seq) (p : Par) (h : Xuq) (h1 : q.Cols.length ≤ maxLen) (h2 : q.Rows.length ≤ maxLen) : Xl3 q p h = some (Xyf q p h) := by
 unfold Xl3 Xyf
 rw [Xic q h1 h2, Xab]
 cases hs : Xg9 q with
 | false => rfl
 | true =>
  rw [Xaw, Xdm, Xab, Bool.true_and]
  cases hp : Xkm p with
  | false => rfl
  | true =>
   obtain ⟨_, _, b1, b2⟩ := Xa8 hs
   obtain ⟨s1, s2, s3, s4, s5⟩ := Xj0 q.Bits ⟨b1, b2⟩
   have ht := Xlz hs
   rw [Xaw, Xhn q h1 h2, Xab, Xak, Xab, wkA (e := Xb8 q - 1), Bool.true_and, rqA, s3, wkA (e := (2 : Int) ^ q.Bits.toNat - 1), Xak, Xab, Xak, Xab]
   have e1 : decide (0 ≤ h.Tile ∧ h.Tile ≤ Xb8 q - 1) = decide (0 ≤ h.Tile ∧ h.Tile < Xb8 q) := by rw [decide_eq_decide]; omega
   have e2 : decide (0 ≤ h.Frame ∧ h.Frame ≤ 2 ^ q.Bits.toNat - 1) = decide (0 ≤ h.Frame ∧ h.Frame < 2 ^ q.Bits.toNat) := by rw [decide_eq_decide]; omega
   rw [e1, e2, Xdg, Xdg, Xab]
theorem Ypt : ∀ (a : List Int) (x : Int), Xoz (a ++ [x]) = Xoz a + x
 | [], x => by simp [Xoz]
 | y :: a, x => by rw [List.cons_append, Xoz, Xoz, Ypt a x, Int.add_assoc]
theorem Ypu {l : List Int} : ∀ k : Nat, k < l.length → Xoz (l.take (k + 1)) = Xoz (l.take k) + l.getD k 0 := by
 intro k hk
 rw [List.take_add_one, List.getElem?_eq_getElem hk, Xcf l k hk]
 exact Ypt _ _
theorem Xus {l : List Int} (h : l.all Xeh = true) {i : Nat} (hi : i < l.length) : 1 ≤ l.getD i 0 ∧ l.getD i 0 ≤ 8 := by
 have := List.all_eq_true.1 h (l.getD i 0) (by rw [Xcf l i hi]; exact List.getElem_mem _)
 unfold Xeh at this
 rwa [decide_eq_true_eq] at this
theorem Xp7 {l : List Int} (h : l.all Xeh = true) (hl : l.length ≤ 4) (i : Nat) : 0 ≤ Xoz (l.take i) ∧ Xoz (l.take i) ≤ 32 := by
 have := Xsd (l := l.take i) (List.all_eq_true.2 fun x hx => List.all_eq_true.1 h x (List.mem_of_mem_take hx))
 rw [List.length_take] at this
 omega
theorem Yow {l : List Int} (h : l.all Xeh = true) (hl : l.length ≤ 4) (k : Nat) (hk : k ≤ l.length) : Xqt l (k : Int) = some (Xoz (l.take k)) := by
 have key : ∀ i : Nat, i ≤ k → loop (Xil l (k : Int)) (Xoz (l.take i), (i : Int)) = some (Xoz (l.take k)) := by
  refine Xhc _ (Xgl (by unfold Xil; rw [Xar (by simp)])) ?_
  intro i hi ih
  refine lgo ?_ ih
  have a := Xus h (i := i) (by omega)
  have b := Xp7 h hl i
  unfold Xil
  simp only [Int.toNat_natCast]
  rw [syA, rqA, wkA (e := Xoz (l.take i) + l.getD i 0), wkA (e := (i : Int) + 1), Ypu i (by omega)]
  rfl
 exact Xf2 (key 0 (by omega))
theorem Ytk {l : List Int} (h : l.all Xeh = true) (hl : l.length ≤ 4) : Xce l = some (Xoz l) := by
 have key : ∀ i : Nat, i ≤ l.length → loop (Xdp l) (Xoz (l.take i), (i : Int)) = some (Xoz l) := by
  refine Xhc _ (Xgl (by unfold Xdp; rw [Xar (by simp), List.take_length])) ?_
  intro i hi ih
  refine lgo ?_ ih
  have a := Xus h (i := i) (by omega)
  have b := Xp7 h hl i
  unfold Xdp
  simp only [Int.toNat_natCast]
  rw [syA, rqA, wkA (e := Xoz (l.take i) + l.getD i 0), wkA (e := (i : Int) + 1), Ypu i (by omega)]
  rfl
 exact Xf2 (key 0 (by omega))
def Ys3 (s : Seq) : Bool := (s.Level == 0) && ((s.Bits == 0) && (((s.Cols.length : Int) == 0) && ((s.Rows.length : Int) == 0)))
theorem Yhw (s : Seq) : Xnm s = some (Ys3 s) := by
 unfold Xnm Ys3
 cases (s.Level == 0) with
 | false => rfl
 | true =>
  cases (s.Bits == 0) with
  | false => rfl
  | true => cases ((s.Cols.length : Int) == 0) <;> rfl
def Ywf (p : Par) : Bool := (p.Qp == 0) && ((p.Large == false) && ((p.Exact == false) && (p.Confined == false)))
theorem Ymj (s : Seq) (h1 : s.Cols.length ≤ 1048576) (h2 : s.Rows.length ≤ 1048576) : Ydd s = some s ∧ Xhp s = some s := by
 have hm : maxLen = 9223372036854775807 := rfl
 constructor
 ·
  unfold Ydd
  rw [Xa2 (by simp only [List.length_nil]; omega), Xa2 (by simp only [List.length_nil]; omega)]
  rfl
 ·
  unfold Xhp Xdo
  rw [Xa2 (by simp only [List.length_nil]; omega), Xa2 (by simp only [List.length_nil]; omega), Xab, Xab]
  rfl
theorem Yvo : ∀ n : Nat, ∀ c : List Int, c.length = n → Xog c → Xuv n (Xpx c) = c
 | 0, c, h, _ => by rw [List.length_eq_zero_iff.1 h]; rfl
 | n + 1, c, h, hb => by
  have hne : c ≠ [] := fun e => by rw [e] at h; simp at h
  have hc := (List.dropLast_concat_getLast hne).symm
  have hl : c.dropLast.length = n := by rw [List.length_dropLast]; omega
  have ih := Yvo n c.dropLast hl (fun x hx => hb x (List.dropLast_subset c hx))
  have hx := hb _ (List.getLast_mem hne)
  generalize c.getLast hne = x at hc hx
  have hv : Xpx c = Xpx c.dropLast * 2 + (x - 48) := by
   rw [hc, Xqv, ← hc]
   show Xpx c.dropLast * 2 ^ 1 + Xpx [x] = _
   rw [show Xpx [x] = x - 48 by simp [Xpx], show (2 : Int) ^ 1 = 2 from rfl]
  rw [Xuv, hv, show (Xpx c.dropLast * 2 + (x - 48)) / 2 = Xpx c.dropLast by omega, show (48 : Int) + (Xpx c.dropLast * 2 + (x - 48)) % 2 = x by omega, ih]
  exact hc.symm
theorem Yo1 : ∀ (m : Nat) (V : List Int) (q : Nat), q < m → (Xgf m V).getD q 0 = Xpx ((V.drop (8 * q)).take 8)
 | 0, _, _, h => by omega
 | m + 1, V, 0, _ => rfl
 | m + 1, V, q + 1, h => by
  rw [Xgf, List.getD_cons_succ, Yo1 m (V.drop 8) q (by omega), List.drop_drop, show 8 + 8 * q = 8 * (q + 1) by omega]
theorem Xwu : ∀ (m : Nat) (V : List Int), Xog V → Ymg (Xgf m V)
 | 0, _, _ => fun x hx => by simp [Xgf] at hx
 | m + 1, V, h => fun x hx => by
  rw [Xgf] at hx
  rcases List.mem_cons.1 hx with rfl | hx
  ·
   have r := Yao (l := V.take 8) (fun x hx => h x (List.mem_of_mem_take hx))
   have h8 : (V.take 8).length ≤ 8 := by rw [List.length_take]; omega
   have hp : (2 : Int) ^ (V.take 8).length ≤ 2 ^ 8 := by
    have : ∀ k : Fin 9, (2 : Int) ^ k.val ≤ 2 ^ 8 := by decide
    exact this ⟨(V.take 8).length, by omega⟩
   have e8 : (2 : Int) ^ 8 = 256 := rfl
   omega
  ·
   exact Xwu m (V.drop 8) (fun x hx => h x (List.mem_of_mem_drop hx)) x hx
theorem Yz5 (V : List Int) (a n k : Nat) (h : k < n) : ((V.drop a).take n).getD k 0 = V.getD (a + k) 0 := by
 rw [List.getD_eq_getElem?_getD, List.getD_eq_getElem?_getD, List.getElem?_take_of_lt h, List.getElem?_drop]
theorem Yxq (V : List Int) (hb : Xog V) (m : Nat) (hV : V.length = 8 * m) (i : Nat) (hi : i < 8 * m) : Ytw (strOfNums (Xgf m V)) i = V.getD i 0 := by
 have hc := Xwu m V hb
 unfold Ytw
 rw [Xx7 _ hc (i / 8) (by rw [Xqz]; omega), Yo1 m V (i / 8) (by omega)]
 have h8 : ((V.drop (8 * (i / 8))).take 8).length = 8 := by rw [List.length_take, List.length_drop]; omega
 have hcb : Xog ((V.drop (8 * (i / 8))).take 8) := fun x hx => hb x (List.mem_of_mem_drop (List.mem_of_mem_take hx))
 have hr := Yao hcb
 rw [h8] at hr
 have e8 : (2 : Int) ^ 8 = 256 := rfl
 have f1 := Yvo 8 _ h8 hcb
 rw [Zdj _ ⟨hr.1, by omega⟩] at f1
 have f2 : (_ : Int) = _ := congrArg (fun l => List.getD l (i % 8) 0) f1
 rw [Xg4 _ (by omega), Yz5 V _ _ _ (by omega), show 8 * (i / 8) + i % 8 = i by omega] at f2
 exact f2
theorem Yzj (L : List Int) : ∃ z, L ++ 49 :: List.replicate (8 * (L.length / 8 + 1) - L.length - 1) 48 = L ++ 49 :: List.replicate z 48 ∧ z ≤ 7 ∧ L.length + 1 + z = 8 * (L.length / 8 + 1) := ⟨_, rfl, by omega, by omega⟩
theorem Yvf (L : List Int) (hb : Xog L) : ∃ z, Xsy (strOfNums (Xsg L)) = L ++ 49 :: List.replicate z 48 ∧ L.length + 1 + z = 8 * (L.length / 8 + 1) := by
 obtain ⟨z, h1, h2, h3⟩ := Yzj L
 refine ⟨z, ?_, h3⟩
 have hV : Xog (L ++ 49 :: List.replicate z 48) := Xa6 hb (fun x hx => by
  rcases List.mem_cons.1 hx with rfl | hx
  ·
   exact .inr rfl
  ·
   exact Yme z x hx)
 have hl : (L ++ 49 :: List.replicate z 48).length = 8 * (L.length / 8 + 1) := by
  rw [List.length_append, List.length_cons, List.length_replicate]; omega
 refine List.ext_getElem (by rw [Xut, strOfNums_size, Xsh, hl]) fun i i1 i2 => ?_
 rw [Xut, strOfNums_size, Xsh] at i1
 have e1 : (Xsy (strOfNums (Xsg L)))[i] = (Xsy (strOfNums (Xsg L))).getD i 0 := (Xcf _ _ (by rw [Xut, strOfNums_size, Xsh]; exact i1) 0).symm
 have e2 : (L ++ 49 :: List.replicate z 48)[i] = (L ++ 49 :: List.replicate z 48).getD i 0 := (Xcf _ _ i2 0).symm
 rw [e1, e2, Yox _ (by rw [strOfNums_size, Xsh]; exact i1)]
 unfold Xsg
 rw [h1]
 exact Yxq _ hV _ hl i i1
theorem Yxs : ∀ b : Fin 256, ∀ k : Fin 8, 48 + ((b.val : Int) / 2 ^ (7 - k.val)) % 2 = 49 → b.val ≠ 0 := by decide +kernel
theorem Yl4 (L : List Int) (hb : Xog L) (hl : L.length ≤ 400000) : Xks (strOfNums (Xsg L)) = some (strOfNums L, true) := by
 obtain ⟨z, h1, h3⟩ := Yvf L hb
 have hs : (strOfNums (Xsg L)).size = L.length / 8 + 1 := by rw [strOfNums_size, Xsh]
 generalize hS : strOfNums (Xsg L) = s at h1 hs
 have k2 : (Xsy s).getD L.length 0 = 49 := by
  rw [h1]
  have := Ypb L (49 :: List.replicate z 48) 0
  rw [Nat.add_zero] at this
  rw [this]; rfl
 have k3 : ∀ j, L.length + 1 ≤ j → j < 8 * s.size → (Xsy s).getD j 0 = 48 := fun j j1 j2 => by
  rw [h1]
  have := Ypb L (49 :: List.replicate z 48) (j - L.length)
  rw [show L.length + (j - L.length) = j by omega] at this
  rw [this, show j - L.length = (j - L.length - 1) + 1 by omega, List.getD_cons_succ, Xcf _ _ (by rw [List.length_replicate]; omega) 0, List.getElem_replicate]
 have hb0 := Xx6 s ((s.size : Int) - 1)
 have hz : (Xx0 s ((s.size : Int) - 1) == 0) = false := by
  rw [beq_eq_false_iff_ne]
  intro h0
  have hk := k2
  rw [Yox s (by omega)] at hk
  unfold Ytw at hk
  rw [show L.length / 8 = s.size - 1 by omega, show (((s.size - 1 : Nat)) : Int) = (s.size : Int) - 1 by omega, h0] at hk
  exact Yxs ⟨0, by omega⟩ ⟨L.length % 8, by omega⟩ hk rfl
 unfold Xks
 rw [wkA (e := 8 * (s.size : Int)), Xbf (b := (8 * (s.size : Int)) == 0) (by rw [beq_eq_false_iff_ne]; omega), wkA (e := (s.size : Int) - 1), Xa2 (show 0 ≤ (s.size : Int) - 1 ∧ (s.size : Int) - 1 < s.size by omega), hz, Xap, decide_eq_false (by omega), Xab, Xap, Xa2 (show 0 ≤ (0 : Int) ∧ (0 : Int) ≤ 8 * (s.size : Int) ∧ 8 * (s.size : Int) * 1 ≤ 281474976710656 by omega), show (List.replicate (0 : Int).toNat (0 : Int)) = [] from rfl, Xx8 s (by omega), Xab]
 have hbl := Xut s
 have lI : loop (Xel (Xsy s)) (8 * (s.size : Int)) = some ((L.length + 1 : Nat) : Int) := by
  have key : ∀ m : Nat, L.length + 1 + m ≤ 8 * s.size → loop (Xel (Xsy s)) ((L.length + 1 + m : Nat) : Int) = some ((L.length + 1 : Nat) : Int) := by
   intro m
   induction m with
   | zero =>
    intro _
    refine Xgl ?_
    unfold Xel
    rw [wkA, rqA, rqA, show (((L.length + 1 + 0 : Nat) : Int) - 1).toNat = L.length by omega, k2]
    rfl
   | succ m ih =>
    intro hm
    refine lgo ?_ (ih (by omega))
    unfold Xel
    rw [wkA, rqA, rqA, show (((L.length + 1 + (m + 1) : Nat) : Int) - 1).toNat = L.length + 1 + m by omega, k3 _ (by omega) (by omega), show ((L.length + 1 + (m + 1) : Nat) : Int) - 1 = ((L.length + 1 + m : Nat) : Int) by omega]
    rfl
  have := key (8 * s.size - (L.length + 1)) (by omega)
  rwa [show ((L.length + 1 + (8 * s.size - (L.length + 1)) : Nat) : Int) = 8 * (s.size : Int) by omega] at this
 rw [lI, Xab, wkA (e := ((L.length + 1 : Nat) : Int) - 1), show ((L.length + 1 : Nat) : Int) - 1 = (L.length : Int) by omega, snA, rqA, rqA]
 have ht : (Xsy s).take L.length = L := by rw [h1, List.take_left]
 simp only [Int.toNat_natCast, Int.toNat_zero, Nat.sub_zero, List.drop_zero]
 rw [ht]
theorem Yw9 {k : Int} (hk : Yc3 k = true) (L : List Int) (hb : Xog L) : Ymg (k :: Xsg L) := fun x hx => by
 have hi := Yh7 hk
 rcases List.mem_cons.1 hx with rfl | hx
 ·
  omega
 ·
  obtain ⟨z, h1, _, h3⟩ := Yzj L
  unfold Xsg at hx
  rw [h1] at hx
  exact Xwu _ _ (Xa6 hb (fun y hy => by
   rcases List.mem_cons.1 hy with rfl | hy
   ·
    exact .inr rfl
   ·
    exact Yme z y hy)) x hx
theorem Xpz {k : Int} (hk : Yc3 k = true) (L : List Int) (hb : Xog L) (hl : L.length ≤ 400000) : Xma (strOfNums (k :: Xsg L)) = some (k, strOfNums L, true) := by
 have hby := Yw9 hk L hb
 have hsz : (strOfNums (k :: Xsg L)).size = L.length / 8 + 2 := by rw [strOfNums_size, List.length_cons, Xsh]
 have hne : ((strOfNums (k :: Xsg L)).toList == (⟨#[]⟩ : ByteArray).toList) = false := by
  rw [beq_eq_false_iff_ne]
  intro h
  rw [Yu0.1 h] at hsz
  have : (⟨#[]⟩ : ByteArray).size = 0 := rfl
  omega
 have b0 : Xx0 (strOfNums (k :: Xsg L)) 0 = k := Xx7 _ hby 0 (by simp)
 have hi := Yh7 hk
 have hx : (strOfNums (k :: Xsg L)).extract (1 : Int).toNat (((strOfNums (k :: Xsg L)).size : Int)).toNat = strOfNums (Xsg L) := by
  rw [show k :: Xsg L = [k] ++ Xsg L from rfl, ← Xdd]
  have h1 : (strOfNums [k]).size = 1 := by rw [strOfNums_size]; rfl
  rw [ByteArray.size_append, h1]
  have : (1 : Int).toNat = (strOfNums [k]).size := by rw [h1]; rfl
  rw [this, show (((1 + (strOfNums (Xsg L)).size : Nat)) : Int).toNat = (strOfNums [k]).size + (strOfNums (Xsg L)).size by rw [h1]; omega]
  exact ByteArray.extract_append_eq_right rfl rfl
 have hiw : Xaa .i64 k = k := wkA
 have r0 : ∀ {β : Type} (x : Option β), req (0 ≤ (0 : Int) ∧ (0 : Int) < ((strOfNums (k :: Xsg L)).size : Int)) x = x := fun x => rqA
 have r1 : ∀ {β : Type} (x : Option β), req (0 ≤ (1 : Int) ∧ (1 : Int) ≤ ((strOfNums (k :: Xsg L)).size : Int) ∧ ((strOfNums (k :: Xsg L)).size : Int) ≤ ((strOfNums (k :: Xsg L)).size : Int)) x = x := fun x => rqA
 unfold Xma
 rw [hne, Xap]
 simp only [r0, r1, b0, hiw, Xv6, hk, Xab, Bool.not_true, Xap, hx, Yl4 L hb hl]
theorem Yoc : ∀ (w : Nat) (n : Int), 0 ≤ n → n < 2 ^ w → Xpx (Xuv w n) = n
 | 0, n, h0, h1 => by
  have : (2 : Int) ^ 0 = 1 := rfl
  rw [show n = 0 by omega]; rfl
 | w + 1, n, h0, h1 => by
  rw [Int.pow_succ] at h1
  rw [Xuv, Xqv, Yoc w (n / 2) (by omega) (by omega)]
  show n / 2 * 2 ^ 1 + Xpx [48 + n % 2] = n
  rw [show Xpx [48 + n % 2] = n % 2 from (by simp only [Xpx, List.foldl_cons, List.foldl_nil]; omega), show (2 : Int) ^ 1 = 2 from rfl]
  omega
theorem Ysv {L : List Int} (hb : Xog L) (hl : L.length ≤ 400000) (q1 : Int × Xnf) (l : List Int) (ha : l.all Xeh = true) (h4 : l.length ≤ 4) (hq : q1.1 = (l.length : Int)) (b : List Int) : ∀ (r pre a : List Int), l = pre ++ r → L = a ++ (Ytn r ++ b) → loop (Xfi q1) ((pre.length : Int), strOfNums L, (a.length : Int), false, pre) = some (l, strOfNums L, ((a.length + (Ytn r).length : Nat) : Int), false)
 | [], pre, a, h1, h2 => by
  refine Xgl ?_
  rw [List.append_nil] at h1
  unfold Xfi
  simp only
  rw [hq, h1, snA, Xab, Xap]
  rfl
 | x :: r, pre, a, h1, h2 => by
  have hm : maxLen = 9223372036854775807 := rfl
  have hlen : l.length = pre.length + (r.length + 1) := by rw [h1]; simp
  have hx : Xeh x = true := List.all_eq_true.1 ha x (by rw [h1]; simp)
  have hx : 1 ≤ x ∧ x ≤ 8 := by simpa [Xeh] using hx
  rw [Ytn, List.append_assoc] at h2
  have e := Xih h2 hb hl (by omega)
  have ih := Ysv hb hl q1 l ha h4 hq b r (pre ++ [x]) (a ++ ueL x.toNat) (by rw [h1]; simp) (by rw [h2]; simp only [List.append_assoc])
  refine lgo ?_ (ih.trans ?_)
  ·
   unfold Xfi
   simp only
   rw [hq, syA, Bool.not_false, Xab, Xaw, e, Xab]
   simp only
   rw [Xa2 (by simp only [List.length_singleton]; omega), wkA, List.length_append, List.length_append, List.length_singleton, show ((x.toNat : Nat) : Int) = x by omega]
   rfl
  ·
   rw [Ytn, List.length_append, List.length_append, Nat.add_assoc]
theorem Yc9 {L a b l : List Int} (hL : L = a ++ (Xrk l ++ b)) (hb : Xog L) (hl : L.length ≤ 400000) (ho : Xea l = true) : Xgw ⟨strOfNums L, (a.length : Int), false⟩ = some (l, ⟨strOfNums L, ((a.length + (Xrk l).length : Nat) : Int), false⟩) := by
 have h4 := Xbb ho
 unfold Xea at ho
 rw [Bool.and_eq_true] at ho
 unfold Xrk at hL ⊢
 rw [List.append_assoc] at hL
 have e := Xih hL hb hl (by omega)
 unfold Xgw
 rw [e, Xab]
 simp only
 rw [snA, Xab]
 have := Ysv hb hl ((l.length : Int), ⟨strOfNums L, ((a.length + (ueL l.length).length : Nat) : Int), false⟩) l ho.2 h4.2 rfl b l [] (a ++ ueL l.length) rfl (by rw [hL]; simp only [List.append_assoc])
 rw [List.length_append] at this
 refine (Xf2 this).trans ?_
 rw [List.length_append, Nat.add_assoc]
theorem Ylx {s : Seq} (h : Xg9 s = true) : (Xxs s).length ≤ 400000 := by have := Yte h; omega
theorem Yl6 {s : Seq} (h : Xg9 s = true) : Xj5 (strOfNums (Xxs s)) 0 = some (s, ((Xxs s).length : Int), true) := by
 have hm : maxLen = 9223372036854775807 := rfl
 have hb := Ynw s
 have hl := Ylx h
 obtain ⟨s1, s2, b1, b2⟩ := Xa8 h
 have lv := Xxt h
 have c1 := Xbb s1
 have c2 := Xbb s2
 have p1 : Xxs s = [] ++ (ueL s.Level.toNat ++ (Xuv 4 s.Bits ++ Xrk s.Cols ++ Xrk s.Rows)) := by unfold Xxs; simp only [List.nil_append, List.append_assoc]
 have p2 : Xxs s = ueL s.Level.toNat ++ (Xuv 4 s.Bits ++ (Xrk s.Cols ++ Xrk s.Rows)) := by unfold Xxs; simp only [List.append_assoc]
 have p3 : Xxs s = (ueL s.Level.toNat ++ Xuv 4 s.Bits) ++ (Xrk s.Cols ++ Xrk s.Rows) := by unfold Xxs; simp only [List.append_assoc]
 have p4 : Xxs s = (ueL s.Level.toNat ++ Xuv 4 s.Bits ++ Xrk s.Cols) ++ (Xrk s.Rows ++ []) := by unfold Xxs; simp only [List.append_assoc, List.append_nil]
 have hlen : (Xxs s).length = (ueL s.Level.toNat).length + 4 + (Xrk s.Cols).length + (Xrk s.Rows).length := by unfold Xxs; simp only [List.length_append, Xcu]
 generalize Xxs s = L at *
 have e1 := Xih p1 hb hl (by omega)
 have e2 := Xjw p2 hb hl (by rw [Xcu]; omega)
 have e3 := Yc9 p3 hb hl s1
 have e4 := Yc9 p4 hb hl s2
 rw [Xcu, Yoc 4 s.Bits (by omega) (by have : (2 : Int) ^ 4 = 16 := rfl; omega)] at e2
 rw [List.length_append, Xcu] at e3
 rw [List.length_append, List.length_append, Xcu] at e4
 rw [List.length_nil, Nat.zero_add] at e1
 have o := Xz0 hb hl 0 (by omega)
 unfold Xj5
 rw [show (0 : Int) = ((0 : Nat) : Int) from rfl, o, Xab, e1, Xab]
 simp only
 rw [show (4 : Int) = ((4 : Nat) : Int) from rfl, e2, Xab]
 simp only
 rw [e3, Xab]
 simp only
 rw [e4, Xab]
 simp only
 rw [Xap, show ((s.Level.toNat : Nat) : Int) = s.Level by omega, show (⟨s.Level, s.Bits, s.Cols, s.Rows⟩ : Seq) = s from rfl, Xic _ (by omega) (by omega), Xab, h, Xab, hlen]
 rfl
theorem Yyo (b : Bool) : Xpx (Xqr b) = if b = true then 1 else 0 := by cases b <;> rfl
theorem Yl5 {p : Par} (h : Xkm p = true) : Xj4 (strOfNums (Yc7 p)) 0 = some (p, 9, true) := by
 have hb := Yno p
 have hl9 := Yfu p
 have hl : (Yc7 p).length ≤ 400000 := by omega
 have hq := Xz1 h
 have p1 : Yc7 p = [] ++ (Xuv 6 p.Qp ++ (Xqr p.Large ++ Xqr p.Exact ++ Xqr p.Confined)) := by unfold Yc7; simp only [List.nil_append, List.append_assoc]
 have p2 : Yc7 p = Xuv 6 p.Qp ++ (Xqr p.Large ++ (Xqr p.Exact ++ Xqr p.Confined)) := by unfold Yc7; simp only [List.append_assoc]
 have p3 : Yc7 p = (Xuv 6 p.Qp ++ Xqr p.Large) ++ (Xqr p.Exact ++ Xqr p.Confined) := by unfold Yc7; simp only [List.append_assoc]
 have p4 : Yc7 p = (Xuv 6 p.Qp ++ Xqr p.Large ++ Xqr p.Exact) ++ (Xqr p.Confined ++ []) := by unfold Yc7; simp only [List.append_assoc, List.append_nil]
 generalize Yc7 p = L at *
 have e1 := Xjw p1 hb hl (by rw [Xcu]; omega)
 have e2 := Xjw p2 hb hl (by rw [Xns]; omega)
 have e3 := Xjw p3 hb hl (by rw [Xns]; omega)
 have e4 := Xjw p4 hb hl (by rw [Xns]; omega)
 simp only [List.length_append, Xcu, Xns, Yyo, List.length_nil] at e1 e2 e3 e4
 rw [Yoc 6 p.Qp (by omega) (by have : (2 : Int) ^ 6 = 64 := rfl; omega)] at e1
 have o := Xz0 hb hl 0 (by omega)
 unfold Xj4
 rw [show (0 : Int) = ((0 : Nat) : Int) from rfl, o, Xab, show (6 : Int) = ((6 : Nat) : Int) from rfl, e1, Xab]
 simp only
 rw [show (1 : Int) = ((1 : Nat) : Int) from rfl, e2, Xab]
 simp only
 rw [e3, Xab]
 simp only
 rw [e4, Xab]
 simp only
 have hbit : ∀ b : Bool, ((if b = true then (1 : Int) else 0) == ((1 : Nat) : Int)) = b := fun b => by cases b <;> rfl
 rw [hbit, hbit, hbit, Xap, show (⟨p.Qp, p.Large, p.Exact, p.Confined⟩ : Par) = p from rfl, Xdm, Xab, h, Xab]
 rfl
def Xvc (q : Seq) (p : Par) (h : Xuq) : List Int := ueL h.Tile.toNat ++ Xuv q.Bits.toNat h.Frame ++ seL (h.Qp - p.Qp)
theorem Yvu (q : Seq) (p : Par) (h : Xuq) : Xog (Xvc q p h) := Xa6 (Xa6 (Xge _) (Yfm _ _)) (Xge _)
theorem Xtp {q : Seq} {p : Par} {h : Xuq} (hh : Xyf q p h = true) : Xg9 q = true ∧ Xkm p = true ∧ (0 ≤ h.Tile ∧ h.Tile < Xb8 q) ∧ (0 ≤ h.Frame ∧ h.Frame < 2 ^ q.Bits.toNat) ∧ (0 ≤ h.Qp ∧ h.Qp ≤ 40) := by
 unfold Xyf at hh
 simp only [Bool.and_eq_true, decide_eq_true_eq] at hh
 exact hh
theorem Yvv {q : Seq} {p : Par} {h : Xuq} (hh : Xyf q p h = true) : (Xvc q p h).length ≤ 200 := by
 obtain ⟨hs, hp, ht, hf, hq⟩ := Xtp hh
 obtain ⟨_, _, b1, b2⟩ := Xa8 hs
 have hr := Xlz hs
 have pq := Xz1 hp
 have u := Xe7 h.Tile.toNat (by omega)
 have z := Xsk (h.Qp - p.Qp) (by omega)
 unfold Xvc
 simp only [List.length_append, Xcu]
 omega
theorem Yjm {q : Seq} {p : Par} {h : Xuq} {L R : List Int} (hh : Xyf q p h = true) (hL : L = Xvc q p h ++ R) (hb : Xog L) (hl : L.length ≤ 400000) : Xf6 q p (strOfNums L) = some (h, ((Xvc q p h).length : Int), true) := by
 have hm : maxLen = 9223372036854775807 := rfl
 obtain ⟨hs, hp, ht, hf, hq⟩ := Xtp hh
 obtain ⟨s1, s2, b1, b2⟩ := Xa8 hs
 obtain ⟨_, _, _, w4, _⟩ := Xj0 q.Bits ⟨b1, b2⟩
 have hr := Xlz hs
 have pq := Xz1 hp
 have c1 := Xbb s1
 have c2 := Xbb s2
 have p1 : L = [] ++ (ueL h.Tile.toNat ++ (Xuv q.Bits.toNat h.Frame ++ seL (h.Qp - p.Qp) ++ R)) := by rw [hL]; unfold Xvc; simp only [List.nil_append, List.append_assoc]
 have p2 : L = ueL h.Tile.toNat ++ (Xuv q.Bits.toNat h.Frame ++ (seL (h.Qp - p.Qp) ++ R)) := by rw [hL]; unfold Xvc; simp only [List.append_assoc]
 have p3 : L = (ueL h.Tile.toNat ++ Xuv q.Bits.toNat h.Frame) ++ (seL (h.Qp - p.Qp) ++ R) := by rw [hL]; unfold Xvc; simp only [List.append_assoc]
 have e1 := Xih p1 hb hl (by omega)
 have e2 := Xjw p2 hb hl (by rw [Xcu]; omega)
 have e3 := Xu6 p3 hb hl (by omega)
 rw [Xcu, Yoc _ h.Frame hf.1 hf.2] at e2
 rw [List.length_append, Xcu] at e3
 rw [List.length_nil, Nat.zero_add] at e1
 have hlen : (Xvc q p h).length = (ueL h.Tile.toNat).length + q.Bits.toNat + (seL (h.Qp - p.Qp)).length := by unfold Xvc; simp only [List.length_append, Xcu]
 have o := Xz0 hb hl 0 (by omega)
 unfold Xf6
 rw [show (0 : Int) = ((0 : Nat) : Int) from rfl, o, Xab, Xic _ (by omega) (by omega), Xab, hs, Xaw, Xdm, Xab, hp, Xab, Bool.not_true, Xap, e1, Xab]
 simp only
 rw [show q.Bits = ((q.Bits.toNat : Nat) : Int) by omega, e2, Xab]
 simp only
 rw [e3, Xab]
 simp only
 rw [Xap, wkA, show h.Qp - p.Qp + p.Qp = h.Qp by omega, show ((h.Tile.toNat : Nat) : Int) = h.Tile by omega, show (⟨h.Tile, h.Frame, h.Qp⟩ : Xuq) = h from rfl, Xvv _ _ _ (by omega) (by omega), Xab, hh, Xab, hlen]
 rfl
theorem Yon {l : List Xam} {c : Xe9} {A L : List Int} (hs : Yle l c = true) (hc : Xio c = true) (hl : 1 ≤ l.length ∧ l.length ≤ 64) (hL : L = A ++ Xiq l c) (hb : Xog L) (hL4 : L.length ≤ 400000) : Xia (strOfNums L) (A.length : Int) (l.length : Int) c = some (l, true) := by
 have hm : maxLen = 9223372036854775807 := rfl
 have key : ∀ (r pre : List Xam) (a : List Int), l = pre ++ r → L = a ++ Xiq r c → loop (Xgh (l.length : Int) c) ((pre.length : Int), strOfNums L, (a.length : Int), false, pre) = some (.out (strOfNums L, (L.length : Int), false, l)) := by
  intro r
  induction r with
  | nil =>
   intro pre a h1 h2
   refine Xgl ?_
   rw [List.append_nil] at h1
   rw [Xiq, List.append_nil] at h2
   unfold Xgh
   simp only
   rw [Xar (by rw [h1]; omega), h1, h2]
  | cons s r ih =>
   intro pre a h1 h2
   have hlen : l.length = pre.length + (r.length + 1) := by rw [h1]; simp
   have hmem : s ∈ l := by rw [h1]; simp
   have hq := List.all_eq_true.1 hs s hmem
   simp only [Bool.and_eq_true] at hq
   obtain ⟨q1, q2, q3⟩ := hq
   rw [Xiq] at h2
   have hsc := Yks h2 hb hL4 q1 q3
   have := ih (pre ++ [s]) (a ++ sqL s c) (by rw [h1]; simp) (by rw [h2]; simp only [List.append_assoc])
   refine lgo ?_ this
   unfold Xgh
   simp only
   rw [syA, hsc, Xab]
   simp only
   rw [Xa2 (by simp only [List.length_singleton]; omega), Xap, wkA, List.length_append, List.length_append, List.length_singleton]
   rfl
 have := key l [] A rfl hL
 have hA : A.length ≤ L.length := by rw [hL, List.length_append]; omega
 unfold Xia
 rw [Xz0 hb hL4 A.length hA, Xab, Xak, Xab, decide_eq_true (by omega), Xaw, Xez, Xab, hc, Xab, Bool.not_true, Xap]
 refine (Xf2 this).trans ?_
 simp only
 rw [strOfNums_size, bne_self_eq_false, Xap]
theorem Ys5 {b : Nat} (h : 8 ≤ (2 : Int) ^ b) : (2 : Int) ^ b ≠ 0 := by
 generalize (2 : Int) ^ b = N at h ⊢
 omega
theorem Yzk {b : Nat} (h : 8 ≤ (2 : Int) ^ b) : 0 < (2 : Int) ^ b := by
 generalize (2 : Int) ^ b = N at h ⊢
 omega
theorem Xwz {b : Nat} {f : Int} (h : (2 : Int) ^ b ≤ 256) (h1 : f < 2 ^ b) : f ≤ 255 := by
 generalize (2 : Int) ^ b = N at h h1
 omega
theorem Xyc {p : Pic} {s : Seq} (h : Xtm p s = true) : Xc1 p = true ∧ p.Wide = (Xjx s).1 ∧ p.High = (Xjx s).2 := by
 unfold Xtm at h
 simp only [Bool.and_eq_true, beq_iff_eq] at h
 exact h
theorem Yvn {p : Pic} {s : Seq} (h1 : Xc1 p = true) (h2 : p.Wide = (Xjx s).1) (h3 : p.High = (Xjx s).2) : Xtm p s = true := by
 unfold Xtm
 simp only [Bool.and_eq_true, beq_iff_eq]
 exact ⟨h1, h2, h3⟩
theorem Zaq {s : Seq} (h : Xg9 s = true) : Xjx s = (8 * Xoz s.Cols, 8 * Xoz s.Rows) ∧ (1 ≤ Xoz s.Cols ∧ Xoz s.Cols ≤ 32) ∧ (1 ≤ Xoz s.Rows ∧ Xoz s.Rows ≤ 32) := by
 obtain ⟨s1, s2, _⟩ := Xa8 h
 exact ⟨by unfold Xjx; rw [if_pos h], Ybz s1, Ybz s2⟩
def Ywl (q : Seq) (x y : Nat) : Yxj := ⟨8 * Xoz (q.Cols.take x), 8 * Xoz (q.Rows.take y), 8 * q.Cols.getD x 0, 8 * q.Rows.getD y 0⟩
theorem Yop {q : Seq} (hs : Xg9 q = true) (h1 : q.Cols.length ≤ maxLen) (h2 : q.Rows.length ≤ maxLen) (t : Int) (ht : 0 ≤ t ∧ t < Xb8 q) : ∃ x y : Nat, (x : Int) = t % (q.Cols.length : Int) ∧ (y : Int) = t / (q.Cols.length : Int) ∧ x < q.Cols.length ∧ y < q.Rows.length ∧ Xza q t = some (Ywl q x y, true) ∧ Xss q t = some (Ywl q x y, true) ∧ (1 ≤ q.Cols.getD x 0 ∧ q.Cols.getD x 0 ≤ 8) ∧ (1 ≤ q.Rows.getD y 0 ∧ q.Rows.getD y 0 ≤ 8) := by
 have hr := Xlz hs
 have hto : Xb8 q = (q.Cols.length : Int) * q.Rows.length := by unfold Xb8; rw [if_pos hs]
 obtain ⟨s1, s2, _⟩ := Xa8 hs
 have c1 := Xbb s1
 have c2 := Xbb s2
 unfold Xea at s1 s2
 rw [Bool.and_eq_true] at s1 s2
 have m0 := Int.emod_nonneg t (show (q.Cols.length : Int) ≠ 0 by omega)
 have m1 := Int.emod_lt_of_pos t (show 0 < (q.Cols.length : Int) by omega)
 have d0 : 0 ≤ t / (q.Cols.length : Int) := Int.ediv_nonneg ht.1 (by omega)
 have d1 : t / (q.Cols.length : Int) < q.Rows.length := Int.ediv_lt_of_lt_mul (by omega) (by rw [Int.mul_comm, ← hto]; exact ht.2)
 have ex : ∃ x y : Nat, (x : Int) = t % (q.Cols.length : Int) ∧ (y : Int) = t / (q.Cols.length : Int) := ⟨(t % (q.Cols.length : Int)).toNat, (t / (q.Cols.length : Int)).toNat, by omega, by omega⟩
 obtain ⟨x, y, hx, hy⟩ := ex
 have tm : t.tmod (q.Cols.length : Int) = (x : Int) := by rw [Xbu ht.1]; exact hx.symm
 have td : Xaa .i64 (t.tdiv (q.Cols.length : Int)) = (y : Int) := by rw [Xbt ht.1, ← hy, wkA]
 have bx := Xp7 s1.2 c1.2 x
 have by_ := Xp7 s2.2 c2.2 y
 have gx := Xus s1.2 (i := x) (by omega)
 have gy := Xus s2.2 (i := y) (by omega)
 refine ⟨x, y, hx, hy, by omega, by omega, ?_, ?_, gx, gy⟩
 ·
  unfold Xza
  rw [Xhn q h1 h2, Xab, wkA (e := Xb8 q - 1), Xak, Xab, decide_eq_true (by omega), Bool.not_true, Xap, rqA, tm, td, rqA, rqA]
  simp only [Int.toNat_natCast]
  rw [show (0 : Int).toNat = 0 from rfl, List.drop_zero, List.drop_zero, Nat.sub_zero, Nat.sub_zero, Ytk (List.all_eq_true.2 fun z hz => List.all_eq_true.1 s1.2 z (List.mem_of_mem_take hz)) (by rw [List.length_take]; omega), Xab, rqA, Ytk (List.all_eq_true.2 fun z hz => List.all_eq_true.1 s2.2 z (List.mem_of_mem_take hz)) (by rw [List.length_take]; omega), Xab, rqA, rqA, wkA (e := 8 * Xoz (q.Cols.take x)), wkA (e := 8 * Xoz (q.Rows.take y)), wkA (e := 8 * q.Cols.getD x 0), wkA (e := 8 * q.Rows.getD y 0)]
  rfl
 ·
  unfold Xss
  rw [snA, Xuf, Xab, decide_eq_false (by omega), Xab, Xap, rqA, tm, td, rqA, Yow s1.2 c1.2 x (by omega), Xab, Yow s2.2 c2.2 y (by omega), Xab, rqA, rqA]
  simp only [Int.toNat_natCast]
  rw [wkA (e := 8 * Xoz (q.Cols.take x)), wkA (e := 8 * Xoz (q.Rows.take y)), wkA (e := 8 * q.Cols.getD x 0), wkA (e := 8 * q.Rows.getD y 0)]
  rfl
theorem Xth {q : Seq} (hs : Xg9 q = true) (h1 : q.Cols.length ≤ maxLen) (h2 : q.Rows.length ≤ maxLen) (t : Int) (ht : 0 ≤ t ∧ t < Xb8 q) : ∃ x y : Nat, (x : Int) = t % (q.Cols.length : Int) ∧ (y : Int) = t / (q.Cols.length : Int) ∧ x < q.Cols.length ∧ y < q.Rows.length ∧ Xgn q t = some (q.Cols.getD x 0 * q.Rows.getD y 0) ∧ (1 ≤ q.Cols.getD x 0 ∧ q.Cols.getD x 0 ≤ 8) ∧ (1 ≤ q.Rows.getD y 0 ∧ q.Rows.getD y 0 ≤ 8) := by
 obtain ⟨x, y, hx, hy, lx, ly, _, e, gx, gy⟩ := Yop hs h1 h2 t ht
 have mb : q.Cols.getD x 0 * q.Rows.getD y 0 ≤ 8 * 8 := Int.mul_le_mul (by omega) (by omega) (by omega) (by omega)
 have m0 : 1 * 1 ≤ q.Cols.getD x 0 * q.Rows.getD y 0 := Int.mul_le_mul (by omega) (by omega) (by omega) (by omega)
 refine ⟨x, y, hx, hy, lx, ly, ?_, gx, gy⟩
 unfold Xgn
 rw [e, Xab]
 unfold Ywl
 simp only
 rw [rqA, rqA, Xbt (by omega), Xbt (by omega), show 8 * q.Cols.getD x 0 / 8 = q.Cols.getD x 0 by omega, show 8 * q.Rows.getD y 0 / 8 = q.Rows.getD y 0 by omega, wkA (e := q.Cols.getD x 0), wkA (e := q.Rows.getD y 0), wkA]
def Yob (k : Int) (L : List Int) : ByteArray := strOfNums (k :: Xsg L)
theorem Ys6 (r : Rate) (key : Bool) : 0 ≤ Xsi r key ∧ Xsi r key ≤ 40 := by
 unfold Xsi
 split
 ·
  rename_i h
  have h' := (Xo2 r).1 h
  split
  ·
   exact Xfc (by omega)
  ·
   omega
 ·
  omega
theorem Ygq {q : Seq} {p : Par} {h : Xuq} (hh : Xyf q p h = true) (h1 : q.Cols.length ≤ maxLen) (h2 : q.Rows.length ≤ maxLen) : Xnj q p h = some (strOfNums (Xvc q p h), true) := by
 obtain ⟨hs, hp, ht, hf, hq⟩ := Xtp hh
 obtain ⟨_, _, b1, b2⟩ := Xa8 hs
 obtain ⟨_, _, _, w4, _⟩ := Xj0 q.Bits ⟨b1, b2⟩
 have hr := Xlz hs
 have pq := Xz1 hp
 have hfs := Xwz w4 hf.2
 have hf0 := hf.1
 unfold Xnj
 have fl := Xcu q.Bits.toNat h.Frame
 have u := Xe7 h.Tile.toNat (by omega)
 have z := Xsk (h.Qp - p.Qp) (by omega)
 rw [Xvv _ _ _ h1 h2, Xab, hh, Bool.not_true, Xap, wkA (e := h.Qp - p.Qp), Xom _ (by omega), Xab, show h.Tile = ((h.Tile.toNat : Nat) : Int) by omega, Xfm _ (by omega), Xab, show q.Bits = ((q.Bits.toNat : Nat) : Int) by omega, Xoo h.Frame _ hf0 (by omega) (by omega), Xab, Xa2 (by simp only [strOfNums_size]; omega), Xdd, Xa2 (by simp only [strOfNums_size, List.length_append]; omega), Xdd]
 rfl
theorem Yzx {b : Int} (h : 3 ≤ b ∧ b ≤ 8) : (Lit.int .i64 b).wf = true := by
 rcases (show b = 3 ∨ b = 4 ∨ b = 5 ∨ b = 6 ∨ b = 7 ∨ b = 8 by omega) with rfl | rfl | rfl | rfl | rfl | rfl <;> decide
def Xbs (s : Xa5) (want : Bool) : Bool := Xa9 s && (want || (!s.Has || decide (s.Since ≥ s.Every)))
theorem Yjv (s : Xa5) (w : Bool) (h1 : s.Seq.Cols.length ≤ maxLen) (h2 : s.Seq.Rows.length ≤ maxLen) : Xo6 s w = some (Xbs s w) := by
 unfold Xo6 Xbs
 rw [Xn5 s h1 h2, Xab]
 cases Xa9 s with
 | false => rfl
 | true => cases w <;> cases s.Has <;> rfl
theorem Xcd {s : Xa5} (h : Xa9 s = true) : Xb8 s.Seq = 1 ∧ Xg9 s.Seq = true ∧ Xkm s.Par = true ∧ Xkg s.Rate = true ∧ (0 ≤ s.Frame ∧ s.Frame < 2 ^ s.Seq.Bits.toNat) ∧ (1 ≤ s.Every ∧ s.Every ≤ 1000) ∧ (0 ≤ s.Since ∧ s.Since ≤ 1000) ∧ (0 ≤ s.Reach ∧ s.Reach ≤ 4) ∧ (s.Has = true → Xtm s.Ref s.Seq = true) ∧ (s.Has = false → s.Ref.Wide = 0 ∧ s.Ref.High = 0 ∧ s.Ref.Dots.size = 0) := by
 unfold Xa9 at h
 simp only [Bool.and_eq_true, decide_eq_true_eq] at h
 obtain ⟨⟨⟨⟨⟨a, b⟩, c⟩, d⟩, e⟩, f⟩ := h
 refine ⟨a, Xpw a, b, c, d, e.1, e.2.1, e.2.2, ?_, ?_⟩
 ·
  intro hh
  rw [if_pos hh] at f
  exact f
 ·
  intro hh
  rw [if_neg (by rw [hh]; decide)] at f
  exact of_decide_eq_true f
theorem Yr1 {s : Xa5} (a : Xb8 s.Seq = 1) (b : Xkm s.Par = true) (c : Xkg s.Rate = true) (d : 0 ≤ s.Frame ∧ s.Frame < 2 ^ s.Seq.Bits.toNat) (e1 : 1 ≤ s.Every ∧ s.Every ≤ 1000) (e2 : 0 ≤ s.Since ∧ s.Since ≤ 1000) (e3 : 0 ≤ s.Reach ∧ s.Reach ≤ 4) (f : s.Has = true) (g : Xtm s.Ref s.Seq = true) : Xa9 s = true := by
 unfold Xa9
 rw [decide_eq_true a, b, c, decide_eq_true d, decide_eq_true ⟨e1, e2, e3⟩, if_pos f, g]
 rfl
theorem Ynn {q : Seq} (h : Xb8 q = 1) : ∃ c r : Int, q.Cols = [c] ∧ q.Rows = [r] ∧ (1 ≤ c ∧ c ≤ 8) ∧ (1 ≤ r ∧ r ≤ 8) ∧ Xjx q = (8 * c, 8 * r) := by
 have hs := Xpw h
 obtain ⟨s1, s2, _⟩ := Xa8 hs
 have l1 := Xbb s1
 have l2 := Xbb s2
 have ht : Xb8 q = (q.Cols.length : Int) * q.Rows.length := by unfold Xb8; rw [if_pos hs]
 have hn : q.Cols.length * q.Rows.length = 1 := by
  have : ((q.Cols.length * q.Rows.length : Nat) : Int) = 1 := by rw [Int.natCast_mul, ← ht, h]
  omega
 have n1 := Nat.eq_one_of_mul_eq_one_right hn
 have n2 := Nat.eq_one_of_mul_eq_one_left hn
 obtain ⟨c, ec⟩ := List.length_eq_one_iff.1 n1
 obtain ⟨r, er⟩ := List.length_eq_one_iff.1 n2
 obtain ⟨e, _⟩ := Zaq hs
 unfold Xea at s1 s2
 rw [Bool.and_eq_true] at s1 s2
 have a1 := List.all_eq_true.1 s1.2 c (by rw [ec]; simp)
 have a2 := List.all_eq_true.1 s2.2 r (by rw [er]; simp)
 unfold Xeh at a1 a2
 rw [decide_eq_true_eq] at a1 a2
 refine ⟨c, r, ec, er, a1, a2, ?_⟩
 rw [e, ec, er]
 simp [Xoz]
theorem Ytf {c : Int} (h : 1 ≤ c ∧ c ≤ 8) : Xxu (8 * c) = true := by
 unfold Xxu
 rw [Bool.and_eq_true, decide_eq_true_eq, decide_eq_true_eq, Xbu (by omega)]
 omega
def Xiu (s : Xa5) (key : Bool) : Xe9 := ⟨key, Xsi s.Rate key, s.Par.Large, s.Par.Exact⟩
def Xh6 (s : Xa5) (key : Bool) (l : List Xam) : List Int := Xvc s.Seq s.Par ⟨0, s.Frame, Xsi s.Rate key⟩ ++ Xiq l (Xiu s key)
def Xdt (s : Xa5) (key : Bool) (l : List Xam) : List ByteArray := (if key = true then [Yob 7 (Xxs s.Seq), Yob 8 (Yc7 s.Par)] else []) ++ [Yob (if key = true then 5 else 1) (Xh6 s key l)]
def Xof (s : Xa5) (key : Bool) (l : List Xam) (now : Pic) : Xa5 := ⟨s.Seq, s.Par, Xz6 s.Rate ((Xh6 s key l).length : Int), (s.Frame + 1) % 2 ^ s.Seq.Bits.toNat, (if key = true then 1 else s.Since + 1), s.Every, s.Reach, true, now⟩
theorem Yn4 {s : Xa5} (hs : Xa9 s = true) (key : Bool) : Xio (Xiu s key) = true := by
 obtain ⟨_, _, hp, _⟩ := Xcd hs
 unfold Xkm at hp
 rw [Bool.and_eq_true] at hp
 unfold Xio Xiu
 rw [Bool.and_eq_true]
 exact ⟨decide_eq_true (Ys6 _ _), hp.2⟩
theorem Yzn {s : Xa5} {pic : Pic} {want : Bool} (hs : Xa9 s = true) (hp : Xtm pic s.Seq = true) : Yxl pic s.Ref (Xiu s (Xbs s want)) s.Reach := by
 obtain ⟨t1, so, po, ro, hf, he, hsi, hre, hh, hn⟩ := Xcd hs
 obtain ⟨c, r, ec, er, hc, hr, esz⟩ := Ynn t1
 obtain ⟨p1, p2, p3⟩ := Xyc hp
 rw [esz] at p2 p3
 refine ⟨p1, by rw [p2]; exact Ytf hc, by rw [p3]; exact Ytf hr, Yn4 hs _, hre, ?_⟩
 intro hk
 have hk : Xbs s want = false := hk
 unfold Xbs at hk
 rw [hs, Bool.true_and] at hk
 have hH : s.Has = true := by
  cases hx : s.Has with
  | true => rfl
  | false => rw [hx] at hk; simp at hk
 obtain ⟨q1, q2, q3⟩ := Xyc (hh hH)
 rw [esz] at q2 q3
 exact ⟨q1, by rw [q2, p2], by rw [q3, p3]⟩
theorem Yn5 {s : Xa5} (hs : Xa9 s = true) (key : Bool) : Xyf s.Seq s.Par ⟨0, s.Frame, Xsi s.Rate key⟩ = true := by
 obtain ⟨t1, so, po, _, hf, _⟩ := Xcd hs
 unfold Xyf
 simp only [Bool.and_eq_true, decide_eq_true_eq]
 exact ⟨so, po, ⟨Int.le_refl _, by omega⟩, hf, Ys6 _ _⟩
structure Yu1 (s : Xa5) (pic : Pic) (key : Bool) (l : List Xam) (now : Pic) : Prop where
 til : Xn1 pic s.Ref (Xiu s key) s.Reach ((pic.Wide / 8).toNat * (pic.High / 8).toNat) l now
 fit : Xtm now s.Seq = true
 sq : Yle l (Xiu s key) = true
 lv : ∀ q ∈ l, q.Levels.length ≤ 64
 len : 1 ≤ l.length ∧ l.length ≤ 64
 cnt : Xgn s.Seq 0 = some (l.length : Int)
theorem Zap {s : Xa5} {pic : Pic} {want : Bool} {l : List Xam} {now : Pic} (hs : Xa9 s = true) (hp : Xtm pic s.Seq = true) (h : Xn1 pic s.Ref (Xiu s (Xbs s want)) s.Reach ((pic.Wide / 8).toNat * (pic.High / 8).toNat) l now) : Yu1 s pic (Xbs s want) l now := by
 have hm : maxLen = 9223372036854775807 := rfl
 have H := Yzn (want := want) hs hp
 obtain ⟨t1, so, _⟩ := Xcd hs
 obtain ⟨c, r, ec, er, hc, hr, esz⟩ := Ynn t1
 obtain ⟨p1, p2, p3⟩ := Xyc hp
 obtain ⟨ok, w, hh, hl, hall⟩ := h.pic H
 obtain ⟨n1, n2, n3⟩ := Yuy H.hw H.hh
 have hcc := Yn4 hs (Xbs s want)
 obtain ⟨x, y, hx, hy, lx, ly, eT, _⟩ := Xth so (by rw [ec]; simp; omega) (by rw [er]; simp; omega) 0 ⟨Int.le_refl _, by omega⟩
 rw [ec] at hx lx eT
 rw [er] at ly eT
 have x0 : x = 0 := by simp at lx; exact lx
 have y0 : y = 0 := by simp at ly; exact ly
 subst x0 y0
 have eT' : Xgn s.Seq 0 = some (c * r) := eT
 have e1 : pic.Wide = 8 * c := by rw [p2, esz]
 have e2 : pic.High = 8 * r := by rw [p3, esz]
 have mb : c * r ≤ 8 * 8 := Int.mul_le_mul hc.2 hr.2 (by omega) (by omega)
 have m0 : 1 * 1 ≤ c * r := Int.mul_le_mul hc.1 hr.1 (by omega) (by omega)
 have hlen : (l.length : Int) = c * r := by
  rw [hl, e1, e2, Int.natCast_mul, show 8 * c / 8 = c by omega, show 8 * r / 8 = r by omega, show ((c.toNat : Nat) : Int) = c by omega, show ((r.toNat : Nat) : Int) = r by omega]
 refine ⟨h, Yvn ok (by rw [w, p2]) (by rw [hh, p3]), ?_, fun q hq => (hall q hq).2.2, by omega, by rw [eT', hlen]⟩
 refine List.all_eq_true.2 fun q hq => ?_
 obtain ⟨a, b, _⟩ := hall q hq
 rw [a, b, hcc]; rfl
theorem Xpu {s : Xa5} {pic : Pic} {key : Bool} {l : List Xam} {now : Pic} (hs : Xa9 s = true) (h : Yu1 s pic key l now) : (Xh6 s key l).length ≤ 400000 ∧ Xog (Xh6 s key l) ∧ (Xvc s.Seq s.Par ⟨0, s.Frame, Xsi s.Rate key⟩).length ≤ 200 ∧ (Xiq l (Xiu s key)).length ≤ 336960 := by
 have a := Yvv (Yn5 hs key)
 have b := Yl1 h.sq
 have c := h.len.2
 refine ⟨?_, Xa6 (Yvu _ _ _) (Ycn _ _), a, by omega⟩
 unfold Xh6
 rw [List.length_append]
 omega
theorem Yf2 {s : Xa5} {pic : Pic} {want : Bool} (hs : Xa9 s = true) (hp : Xtm pic s.Seq = true) (hk : Xbs s want = true ∨ s.Since < 1000) : ∃ l now, Yu1 s pic (Xbs s want) l now ∧ Xhm s pic want = some (Xof s (Xbs s want) l now, Xdt s (Xbs s want) l, true) := by
 have hm : maxLen = 9223372036854775807 := rfl
 have H := Yzn (want := want) hs hp
 obtain ⟨t1, so, po, ro, hf, he, hsi, hre, hh, hn⟩ := Xcd hs
 obtain ⟨s1, s2, b1, b2⟩ := Xa8 so
 have c1 := Xbb s1
 have c2 := Xbb s2
 obtain ⟨z1, z2, z3, z4, z5⟩ := Xj0 s.Seq.Bits ⟨b1, b2⟩
 obtain ⟨p1, p2, p3⟩ := Xyc hp
 obtain ⟨l, now, e1, hT⟩ := Yef H
 have S := Zap hs hp hT
 refine ⟨l, now, S, ?_⟩
 obtain ⟨r1, r2, r3, r4⟩ := Xpu hs S
 have hfs := Xwz z4 hf.2
 have hf0 := hf.1
 have hd := Yn5 hs (Xbs s want)
 have hwf := Yzx ⟨b1, b2⟩
 have hss : Xu8 s = [Yob 7 (Xxs s.Seq), Yob 8 (Yc7 s.Par)] := by unfold Xu8; rw [if_pos hs]; rfl
 have htr : Yoa l (Xiu s (Xbs s want)) = (strOfNums (Xiq l (Xiu s (Xbs s want))), true) := by
  unfold Yoa
  rw [if_pos (by rw [decide_eq_true S.len, S.sq]; rfl)]
 have hcut : (sel (Xbs s want) (some false) (some (decide (s.Since ≥ 1000)))) = some false := by
  cases hx : Xbs s want with
  | true => rfl
  | false =>
   rw [Xap, decide_eq_false]
   rcases hk with hk | hk
   ·
    rw [hx] at hk; cases hk
   ·
    omega
 have hsq : ∀ q ∈ l, Xuo q = true := fun q hq => by
  have := List.all_eq_true.1 S.sq q hq
  simp only [Bool.and_eq_true] at this
  exact this.1
 have hcp : Xd9 s = some s := by
  unfold Xd9
  rw [(Ymj s.Seq (by omega) (by omega)).2, Xab]
 unfold Xh6 at r1 r2
 have hkk : ∀ k : Int, k = 5 ∨ k = 1 → Yc3 k = true := fun k h => by rcases h with rfl | rfl <;> rfl
 unfold Xhm
 rw [Xn5 s (by omega) (by omega), Xab, hs, Xaw, Ycw _ _ (by omega) (by omega), Xab, hp, Xab, Bool.not_true, Xap, Yjv s want (by omega) (by omega), Xab, hcut, Xab, Xap, Ymt, Xab]
 have e1' : Xj7 pic s.Ref ⟨Xbs s want, Xsi s.Rate (Xbs s want), s.Par.Large, s.Par.Exact⟩ s.Reach = some (l, now, true) := e1
 have htr' : Xj8 l ⟨Xbs s want, Xsi s.Rate (Xbs s want), s.Par.Large, s.Par.Exact⟩ = some (strOfNums (Xiq l (Xiu s (Xbs s want))), true) := (Yhl l _ (fun q hq => by have := S.lv q hq; omega)).trans (congrArg some htr)
 rw [e1', Xab]
 simp only
 rw [Ygq hd (by omega) (by omega), Xab]
 simp only
 rw [htr', Xab, hcp, Xab, Xy3 s (by omega) (by omega), Xab, hss, wkA (e := s.Since + 1)]
 have e13 : (sel (Xbs s want) (some ((5 : Int), (1 : Int), [Yob 7 (Xxs s.Seq), Yob 8 (Yc7 s.Par)])) (some (1, s.Since + 1, ([] : List ByteArray)))) = some ((if Xbs s want = true then 5 else 1), (if Xbs s want = true then 1 else s.Since + 1), (if Xbs s want = true then [Yob 7 (Xxs s.Seq), Yob 8 (Yc7 s.Par)] else [])) := by
  cases Xbs s want <;> rfl
 rw [e13, Xab]
 simp only
 rw [Xa2 (by simp only [strOfNums_size]; omega), Xdd, Xql _ _ (hkk _ (by cases Xbs s want <;> simp)) r2 r1, Xab, Yd0, Xab]
 simp only
 rw [z3, rqA, Xa2 (Ys5 z5), Xa2 (by
  simp only [List.length_singleton]
  split <;> simp <;> omega), wkA (e := s.Frame + 1), Xbu (by omega), wk (by simp only [strOfNums_size]; omega) (by simp only [strOfNums_size]; omega)]
 unfold Xof Xdt Xh6
 rw [strOfNums_size, strOfNums_size, List.length_append, Int.natCast_add]
 rfl
theorem Yb6 (b : List Int) (hb : b.length ≤ 1048576) : ∃ s pics wants, Xi8 b = some (s, pics, wants) ∧ Xa9 s = true ∧ s.Seq.Bits = 3 ∧ s.Has = false ∧ s.Frame = 0 ∧ s.Since = 0 ∧ s.Every ≤ 5 ∧ (∀ p ∈ pics, Xtm p s.Seq = true) ∧ wants.length = pics.length ∧ 2 ≤ pics.length ∧ pics.length ≤ 5 := by
 have hm : maxLen = 9223372036854775807 := rfl
 unfold Xi8
 obtain ⟨c, e, hc⟩ := Xwn b hb
 obtain ⟨x1, c1, e1, a1, b1, _, h1⟩ := Xay c 2 hc
 obtain ⟨x2, c2, e2, a2, b2, _, h2⟩ := Xay c1 2 h1
 obtain ⟨p, c4, e4, hp, h4⟩ := Xxz c2 h2
 obtain ⟨t, c5, e5, ht, h5⟩ := Yfg c4 h4
 obtain ⟨x6, c6, e6, a6, b6, _, h6⟩ := Xay c5 5 h5
 obtain ⟨x7, c7, e7, a7, b7, _, h7⟩ := Xay c6 3 h6
 have b1' := b1 (by omega)
 have b2' := b2 (by omega)
 have b6' := b6 (by omega)
 have b7' := b7 (by omega)
 rw [e, Xab, e1, Xab]
 simp only
 rw [e2, Xab]
 simp only
 rw [e4, Xab]
 simp only
 rw [e5, Xab]
 simp only
 rw [e6, Xab]
 simp only
 rw [e7, Xab]
 simp only
 have sok := Xzz (1 + x1) (1 + x2) 3 p t (1 + x6) x7 (by omega) (by omega) (by omega) hp ht (by omega) (by omega)
 rw [wkA (e := 1 + x1), wkA (e := 1 + x2), wkA (e := 1 + x6), Yb9 (1 + x1) (1 + x2) 3 p t (1 + x6) x7 (by omega) (by omega) (by omega) hp ht (by omega) (by omega), Xab]
 have hsz := (Yv9 (1 + x1) (1 + x2) 3 (by omega) (by omega) (by omega)).2
 have hsz' : Xjx (Xo1 (1 + x1) (1 + x2) 3 p t (1 + x6) x7).Seq = (8 * (1 + x1), 8 * (1 + x2)) := hsz
 simp only
 rw [Xwk, Xab, hsz']
 simp only
 obtain ⟨pic, c8, e8, pw, ph, pok, h8⟩ := Xtb c7 (8 * (1 + x1)) (8 * (1 + x2)) h7 (by omega) (by omega)
 rw [e8, Xab]
 simp only
 obtain ⟨o, eo, r1, r2, r3, r4⟩ := Xoq (f := Xij (8 * (1 + x1), 8 * (1 + x2)))
  (fun (i, b, j, h, w, hh, dd, pics, wants) => (0 ≤ i ∧ i ≤ 5) ∧ Xoj ⟨b, j, h⟩ ∧ Xc1 ⟨w, hh, dd⟩ = true ∧ w = 8 * (1 + x1) ∧ hh = 8 * (1 + x2) ∧ (pics.length : Int) = i ∧ (wants.length : Int) = i ∧ ∀ q ∈ pics, Xc1 q = true ∧ q.Wide = 8 * (1 + x1) ∧ q.High = 8 * (1 + x2))
  (fun v => (5 - v.1).toNat)
  (fun _ (pics, wants) => (∀ q ∈ pics, Xc1 q = true ∧ q.Wide = 8 * (1 + x1) ∧ q.High = 8 * (1 + x2)) ∧ wants.length = pics.length ∧ 2 ≤ pics.length ∧ pics.length ≤ 5) (by
  intro ⟨i, b, j, h, w, hh, dd, pics, wants⟩ ⟨i1, i2, i3, i4, i5, i6, i7, i8⟩
  unfold Xij
  simp only
  obtain ⟨x, k1, f1, y0, y1, _, q1⟩ := Xay _ 4 i2
  have y1' := y1 (by omega)
  rw [f1, Xab]
  simp only
  rw [wkA (e := 2 + x)]
  by_cases hi : i < 2 + x
  ·
   obtain ⟨z, k2, f2, q2⟩ := Xln k1 4 q1
   obtain ⟨p2, k3, f4, p3, p4, p5, q3⟩ := Yja k2 (⟨w, hh, dd⟩ : Pic) q2 i3
   obtain ⟨z2, k4, f5, q4⟩ := Xln k3 4 q3
   have hall : ∀ q ∈ pics ++ [(⟨w, hh, dd⟩ : Pic)], Xc1 q = true ∧ q.Wide = 8 * (1 + x1) ∧ q.High = 8 * (1 + x2) := fun q hq => by
    rcases List.mem_append.1 hq with hq | hq
    ·
     exact i8 q hq
    ·
     rw [List.mem_singleton.1 hq]; exact ⟨i3, i4, i5⟩
   rw [Xbi hi, Xa2 (by simp only [List.length_singleton]; omega), f2, Xab]
   simp only
   rw [Xa2 (by simp only [List.length_singleton]; omega), f4, Xab, f5, Xab]
   simp only at p3 p4 ⊢
   cases z2 with
   | true =>
    obtain ⟨p6, k5, f6, w6, h6', ok6, q5⟩ := Xtb k4 (8 * (1 + x1)) (8 * (1 + x2)) q4 (by omega) (by omega)
    rw [Xaw, f6, Xab, Xab, wkA (e := i + 1)]
    refine .inr ⟨_, rfl, ⟨by simp only; omega, q5, ok6, w6, h6', ?_, ?_, hall⟩, by simp only; omega, fun _ h => h⟩
    ·
     simp only [List.length_append, List.length_singleton]; omega
    ·
     simp only [List.length_append, List.length_singleton]; omega
   | false =>
    rw [Xap, Xab, wkA (e := i + 1)]
    refine .inr ⟨_, rfl, ⟨by simp only; omega, q4, p5, by simp only; omega, by simp only; omega, ?_, ?_, hall⟩, by simp only; omega, fun _ h => h⟩
    ·
     simp only [List.length_append, List.length_singleton]; omega
    ·
     simp only [List.length_append, List.length_singleton]; omega
  ·
   rw [Xar hi]
   exact .inl ⟨_, rfl, i8, by simp only; omega, by simp only; omega, by simp only; omega⟩) (0, c8.b_, c8.i_, c8.h_, pic.Wide, pic.High, pic.Dots, [], []) ⟨⟨Int.le_refl _, by omega⟩, h8, pok, pw, ph, rfl, rfl, fun q hq => by simp at hq⟩
 obtain ⟨pics, wants⟩ := o
 rw [eo, Xab]
 simp only at r1 r2 r3 r4
 refine ⟨_, pics, wants, rfl, sok, rfl, rfl, rfl, rfl, by show 1 + x6 ≤ 5; omega, ?_, r2, r3, r4⟩
 intro q hq
 obtain ⟨g1, g2, g3⟩ := r1 q hq
 exact Yvn g1 (by rw [hsz']; exact g2) (by rw [hsz']; exact g3)
theorem Yr3 {s : Xa5} {pic : Pic} {key : Bool} {l : List Xam} {now : Pic} (hs : Xa9 s = true) (h : Yu1 s pic key l now) (hk : key = true ∨ s.Since < 1000) : Xa9 (Xof s key l now) = true := by
 obtain ⟨t1, so, po, ro, hf, he, hsi, hre, hh, hn⟩ := Xcd hs
 obtain ⟨_, _, b1, b2⟩ := Xa8 so
 obtain ⟨z1, z2, z3, z4, z5⟩ := Xj0 s.Seq.Bits ⟨b1, b2⟩
 have m0 := Int.emod_nonneg (s.Frame + 1) (Ys5 z5)
 have m1 := Int.emod_lt_of_pos (s.Frame + 1) (Yzk z5)
 refine Yr1 (s := Xof s key l now) t1 po (Yrr _ _ ro) ⟨m0, m1⟩ he ?_ hre rfl h.fit
 unfold Xof
 simp only
 cases key with
 | true => rw [if_pos rfl]; omega
 | false =>
  rcases hk with hk | hk
  ·
   cases hk
  ·
   rw [if_neg (by decide)]; omega
theorem Yn8 (s : Xa5) (key : Bool) (l : List Xam) : (Xdt s key l).length = if key = true then 3 else 1 := by
 unfold Xdt
 cases key <;> rfl
structure Run (q : Seq) (p : Par) (k : Nat) (s : Xa5) : Prop where
 ok : Xa9 s = true
 bits : s.Seq.Bits = 3
 eS : s.Seq = q
 eP : s.Par = p
 has : k = 0 → s.Has = false
 low : 1 ≤ k → 1 ≤ s.Since ∧ s.Has = true
 high : s.Since ≤ k
theorem Run.next {q : Seq} {p : Par} {k : Nat} {s : Xa5} (R : Run q p k s) (hk : k ≤ 100) {pic : Pic} {want : Bool} {l : List Xam} {now : Pic} (h : Yu1 s pic (Xbs s want) l now) : Run q p (k + 1) (Xof s (Xbs s want) l now) := by
 have a := Xcd R.ok
 have hs := R.high
 refine ⟨Yr3 R.ok h (.inr (by omega)), R.bits, R.eS, R.eP, fun h => by omega, fun _ => ⟨?_, rfl⟩, ?_⟩
 ·
  show 1 ≤ (if Xbs s want = true then (1 : Int) else s.Since + 1)
  split
  ·
   omega
  ·
   have := a.2.2.2.2.2.2.1; omega
 ·
  show (if Xbs s want = true then (1 : Int) else s.Since + 1) ≤ ((k + 1 : Nat) : Int)
  split <;> omega
theorem Run.first {q : Seq} {p : Par} {s : Xa5} (R : Run q p 0 s) (want : Bool) : Xbs s want = true := by
 unfold Xbs
 rw [R.ok, R.has rfl]
 cases want <;> rfl
abbrev Xt6 : Yaq := ⟨false, 0, ⟨#[]⟩⟩
def Xei (a : Xdk) : Bool := cnt a.Count && (cnt a.Gone && (if a.Has = true then decide (Xb8 a.Seq = 1) && (Xkm a.Par && decide (0 ≤ a.Frame ∧ a.Frame < 2 ^ a.Seq.Bits.toNat)) else !a.Live && (Ys3 a.Seq && (Ywf a.Par && (a.Frame == 0)))))
theorem Xkr (a : Xdk) (h1 : a.Seq.Cols.length ≤ maxLen) (h2 : a.Seq.Rows.length ≤ maxLen) : Xhe a = some (Xei a) := by
 have w1 : Xaj a.Count 0 1000000000 = some (cnt a.Count) := Xak _ _ _
 have w2 : Xaj a.Gone 0 1000000000 = some (cnt a.Gone) := Xak _ _ _
 have hP : ((a.Par.Qp == 0) && ((a.Par.Large == false) && ((a.Par.Exact == false) && (a.Par.Confined == false)))) = Ywf a.Par := rfl
 unfold Xhe Xei
 rw [w1, Xab, hP]
 cases cnt a.Count with
 | false => rfl
 | true =>
  rw [Xaw, w2, Xab]
  cases cnt a.Gone with
  | false => rfl
  | true =>
   rw [Xab, Bool.not_true, Xap, Yhw, Xab]
   cases hH : a.Has with
   | false =>
    rw [Bool.not_false, Xaw, if_neg (by decide)]
    cases a.Live with
    | true => rfl
    | false =>
     cases Ys3 a.Seq with
     | false => rfl
     | true => cases Ywf a.Par <;> rfl
   | true =>
    rw [Bool.not_true, Xap, if_pos rfl, Xhn _ h1 h2, Xab]
    by_cases ht : Xb8 a.Seq = 1
    ·
     obtain ⟨_, _, b1, b2⟩ := Xa8 (Xpw ht)
     obtain ⟨s1, s2, s3, s4, s5⟩ := Xj0 a.Seq.Bits ⟨b1, b2⟩
     rw [Xbq (by rw [beq_iff_eq]; exact ht), decide_eq_true ht, Xdm, Xab]
     cases Xkm a.Par with
     | false => rfl
     | true =>
      have hw : Xaa .i64 ((2 : Int) ^ a.Seq.Bits.toNat - 1) = 2 ^ a.Seq.Bits.toNat - 1 := by
       generalize (2 : Int) ^ a.Seq.Bits.toNat = N at s4 s5
       exact wkA
      rw [Xaw, rqA, s3, hw, Xak, Xab, Xab]
      have e1 : decide (0 ≤ a.Frame ∧ a.Frame ≤ (2 : Int) ^ a.Seq.Bits.toNat - 1) = decide (0 ≤ a.Frame ∧ a.Frame < (2 : Int) ^ a.Seq.Bits.toNat) := by
       generalize (2 : Int) ^ a.Seq.Bits.toNat = N
       rw [decide_eq_decide]; omega
      rw [e1]; rfl
    ·
     rw [Xbf (by rw [beq_eq_false_iff_ne]; exact ht), decide_eq_false ht]
     rfl
def Xkn (a : Xdk) : Xdk := ⟨a.Has, false, a.Seq, a.Par, a.Frame, a.Count, Zad a.Gone⟩
theorem Xrz {a : Xdk} (h : Xei a = true) : cnt a.Count = true ∧ cnt a.Gone = true := by
 unfold Xei at h
 simp only [Bool.and_eq_true] at h
 exact ⟨h.1, h.2.1⟩
theorem Yqy {a : Xdk} (h : Xei a = true) (hh : a.Has = true) : Xb8 a.Seq = 1 ∧ Xkm a.Par = true ∧ (0 ≤ a.Frame ∧ a.Frame < 2 ^ a.Seq.Bits.toNat) := by
 unfold Xei at h
 rw [if_pos hh] at h
 simp only [Bool.and_eq_true, decide_eq_true_eq] at h
 exact h.2.2
theorem Xmd (a : Xdk) (h1 : a.Seq.Cols.length ≤ 1048576) (h2 : a.Seq.Rows.length ≤ 1048576) : Xgt a = some a := by
 unfold Xgt
 rw [(Ymj a.Seq h1 h2).2, Xab]
theorem Ya0 (a : Xdk) (h1 : a.Seq.Cols.length ≤ 1048576) (h2 : a.Seq.Rows.length ≤ 1048576) : Xiy a = some (if Xei a = true then Xkn a else a) := by
 have hm : maxLen = 9223372036854775807 := rfl
 unfold Xiy
 rw [Xmd a h1 h2, Xab, Xkr a (by omega) (by omega), Xab]
 cases h : Xei a with
 | false => rfl
 | true => rw [Xaw, Xtz _ (Xrz h).2, Xab, Xab, if_pos rfl]; rfl
theorem Yfo (us : List ByteArray) (i : Nat) (hi : i < us.length) (h3 : i < 3) (ks : List Int) (rs : List ByteArray) (hk : ks.length = i) (hr : rs.length = i) {k : Int} {L : ByteArray} (e : Xma (us.getD i Xb0) = some (k, L, true)) : Xbd us ((i : Int), ks, rs) = some (.go (((i + 1 : Nat) : Int), ks ++ [k], rs ++ [L])) := by
 have hm : maxLen = 9223372036854775807 := rfl
 unfold Xbd
 simp only [Int.toNat_natCast]
 rw [syA, rqA, e, Xab]
 simp only
 rw [Xaw, Xab, Xbf (b := ((ks.length : Int) == 3)) (by rw [beq_eq_false_iff_ne]; omega), Xa2 (by simp only [List.length_singleton]; omega), Xa2 (by simp only [List.length_singleton]; omega), wkA]
 rfl
theorem Ypv (us : List ByteArray) (i : Nat) (hi : i = us.length) (ks : List Int) (rs : List ByteArray) : Xbd us ((i : Int), ks, rs) = some (.done (.out (ks, rs))) := by
 unfold Xbd
 simp only
 rw [snA]
def Xuz (ks : List Int) : Option Bool := sel ((ks.length : Int) == 3) (req (0 ≤ (0 : Int) ∧ (0 : Int) < ks.length) <| req ((0 : Int).toNat < ks.length) <| sel ((ks.getD ((0 : Int).toNat) 0) != 7) (some true) (req (0 ≤ (1 : Int) ∧ (1 : Int) < ks.length) <| req ((1 : Int).toNat < ks.length) <| sel ((ks.getD ((1 : Int).toNat) 0) != 8) (some true) (req (0 ≤ (2 : Int) ∧ (2 : Int) < ks.length) <| req ((2 : Int).toNat < ks.length) <| sel ((ks.getD ((2 : Int).toNat) 0) != 5) (some true) (some false)))) (sel ((ks.length : Int) != 1) (some true) (req (0 ≤ (0 : Int) ∧ (0 : Int) < ks.length) <| req ((0 : Int).toNat < ks.length) <| some ((ks.getD ((0 : Int).toNat) 0) != 1)))
theorem Yv0 (k : Int) : Xuz [k] = some (k != 1) := rfl
theorem Yrh (a b c : Int) : Xuz [a, b, c] = some (a != 7 || (b != 8 || c != 5)) := by
 show (sel (a != 7) (some true) (sel (b != 8) (some true) (sel (c != 5) (some true) (some false)))) = _
 cases (a != 7) <;> cases (b != 8) <;> cases (c != 5) <;> rfl
noncomputable def Yph (a : Xdk) (key : Bool) (q : Seq) (r : Par) (row : ByteArray) : Option (Int × Seq × Par × Xuq × Yaq) :=
 bnd (Xf6 q r row) fun q18 =>
 sel (!q18.2.2) (some (5, ⟨0, 0, [], []⟩, ⟨0, false, false, false⟩, ⟨0, 0, 0⟩, Xt6)) (
 bnd (sel key (some false) (some (!a.Live))) fun v19 =>
 sel v19 (some (6, ⟨0, 0, [], []⟩, ⟨0, false, false, false⟩, ⟨0, 0, 0⟩, Xt6)) (
 bnd (sel key (some false) (some (q18.1.Frame != a.Frame))) fun v20 =>
 sel v20 (some (7, ⟨0, 0, [], []⟩, ⟨0, false, false, false⟩, ⟨0, 0, 0⟩, Xt6)) (
 req (0 ≤ q18.2.1 ∧ q18.2.1 ≤ (row.size : Int) ∧ (row.size : Int) ≤ (row.size : Int)) <|
 bnd (Xdv q) fun q21 =>
 bnd (Xl6 r ⟨key, q18.1.Qp, row.extract q18.2.1.toNat (row.size : Int).toNat⟩ q21) fun q22 =>
 sel (!q22) (some (8, ⟨0, 0, [], []⟩, ⟨0, false, false, false⟩, ⟨0, 0, 0⟩, Xt6)) (
 some (0, q, r, q18.1, ⟨key, q18.1.Qp, row.extract q18.2.1.toNat (row.size : Int).toNat⟩)))))
theorem Yr4 (A B C : ByteArray) : ([A, B, C] : List ByteArray).getD ((0 : Int).toNat) Xb0 = A ∧ ([A, B, C] : List ByteArray).getD ((1 : Int).toNat) Xb0 = B ∧ ([A, B, C] : List ByteArray).getD ((2 : Int).toNat) Xb0 = C ∧ (([A, B, C] : List ByteArray).length : Int) = 3 ∧ Xaa .i64 (3 - 1) = 2 ∧ (∀ {β : Type} (x : Option β), req (0 ≤ (0 : Int) ∧ (0 : Int) < 3) x = x) ∧ (∀ {β : Type} (x : Option β), req (0 ≤ (1 : Int) ∧ (1 : Int) < 3) x = x) ∧ (∀ {β : Type} (x : Option β), req (0 ≤ (2 : Int) ∧ (2 : Int) < 3) x = x) ∧ (∀ {β : Type} (x : Option β), req ((0 : Int).toNat < ([A, B, C] : List ByteArray).length) x = x) ∧ (∀ {β : Type} (x : Option β), req ((1 : Int).toNat < ([A, B, C] : List ByteArray).length) x = x) ∧ (∀ {β : Type} (x : Option β), req ((2 : Int).toNat < ([A, B, C] : List ByteArray).length) x = x) := by
 refine ⟨rfl, rfl, rfl, rfl, wkA, fun x => rqA, fun x => rqA, fun x => rqA, fun x => Xa2 (by simp), fun x => Xa2 (by simp), fun x => Xa2 (by simp)⟩
theorem Ywi (A : ByteArray) : ([A] : List ByteArray).getD ((0 : Int).toNat) Xb0 = A ∧ (([A] : List ByteArray).length : Int) = 1 ∧ Xaa .i64 (1 - 1) = 0 ∧ (∀ {β : Type} (x : Option β), req (0 ≤ (0 : Int) ∧ (0 : Int) < 1) x = x) ∧ (∀ {β : Type} (x : Option β), req ((0 : Int).toNat < ([A] : List ByteArray).length) x = x) := by
 refine ⟨rfl, rfl, wkA, fun x => rqA, fun x => Xa2 (by simp)⟩
theorem Yub (a : Xdk) (us : List ByteArray) (p : Par) (A B C : ByteArray) (h : loop (Xbd us) (0, [], []) = some (.out ([7, 8, 5], [A, B, C]))) : Xb1 a us p = bnd (Xj5 A 0) fun q14 => bnd (Xj4 B 0) fun q15 => bnd (sel q14.2.2 (sel (q14.2.1 != (A.size : Int)) (some true) (sel q15.2.2 (sel (q15.2.1 != (B.size : Int)) (some true) (bnd (Xdw q14.1) fun q17 => sel (q17 != 1) (some true) (sel q15.1.Confined (sel (q15.1.Large == p.Large) (some (!(q15.1.Exact == p.Exact))) (some true)) (some true)))) (some true))) (some true)) fun v16 => sel v16 (some (3, ⟨0, 0, [], []⟩, ⟨0, false, false, false⟩, ⟨0, 0, 0⟩, Xt6)) (Yph a true q14.1 q15.1 C) := by
 obtain ⟨g0, g1, g2, n, w, r0, r1, r2, t0, t1, t2⟩ := Yr4 A B C
 have hk : Xuz [7, 8, 5] = some false := Yrh 7 8 5
 have e3 : ((([7, 8, 5] : List Int).length : Int) == 3) = true := rfl
 unfold Xuz at hk
 unfold Xb1 Yph
 rw [h, Xab]
 simp only [Yh8]
 rw [hk, Xab, Xap]
 simp only [e3, Xaw, n, w, r0, r1, r2, t0, t1, t2, g0, g1, g2]
theorem Yuc (a : Xdk) (us : List ByteArray) (p : Par) (A : ByteArray) (h : loop (Xbd us) (0, [], []) = some (.out ([1], [A]))) : Xb1 a us p = sel (!a.Has) (some (4, ⟨0, 0, [], []⟩, ⟨0, false, false, false⟩, ⟨0, 0, 0⟩, Xt6)) (Yph a false a.Seq a.Par A) := by
 obtain ⟨g0, n, w, r0, t0⟩ := Ywi A
 have hk : Xuz [1] = some false := Yv0 1
 have e3 : ((([1] : List Int).length : Int) == 3) = false := rfl
 unfold Xuz at hk
 unfold Xb1 Yph
 rw [h, Xab]
 simp only [Yh8]
 rw [hk, Xab, Xap]
 simp only [e3, Xap, n, w, r0, t0, g0]
theorem Yid {q : Seq} (h : Xb8 q = 1) : Xdv q = some (Xg3 q) ∧ Xgn q 0 = some (Xg3 q) := by
 have hm : maxLen = 9223372036854775807 := rfl
 obtain ⟨c, r, ec, er, hc, hr, esz⟩ := Ynn h
 have so := Xpw h
 obtain ⟨x, y, hx, hy, lx, ly, eT, _⟩ := Xth so (by rw [ec]; simp; omega) (by rw [er]; simp; omega) 0 ⟨Int.le_refl _, by omega⟩
 refine ⟨Xq6 q (by rw [ec]; simp; omega) (by rw [er]; simp; omega), ?_⟩
 obtain ⟨o1, o2, _⟩ := Xa8 so
 have sq : Xg3 q = c * r := by
  unfold Xg3 Yan
  rw [if_pos o1, if_pos o2, ec, er]
  simp [Xoz]
 rw [ec] at hx lx eT
 rw [er] at ly eT
 have x0 : x = 0 := by simp at lx; exact lx
 have y0 : y = 0 := by simp at ly; exact ly
 subst x0 y0
 rw [sq]
 exact eT
theorem Yr5 {a : Xdk} {us : List ByteArray} {p : Par} (h1 : a.Seq.Cols.length ≤ 1048576) (h2 : a.Seq.Rows.length ≤ 1048576) (ha : Xei a = true) (hp : Xkm p = true) {co : Int} {q : Seq} {r : Par} {h : Xuq} {t : Yaq} (e : Xb1 a us p = some (co, q, r, h, t)) (hco : co ≠ 0) : Xby a us p = some (Xkn a, co, Xt6) := by
 have hm : maxLen = 9223372036854775807 := rfl
 unfold Xby
 rw [Xmd a h1 h2, Xab, Xkr a (by omega) (by omega), Xab, ha, Xaw, Xdm, Xab, hp, Xab, Bool.not_true, Xap, e, Xab]
 simp only
 rw [Xbq (by rw [bne_iff_ne]; exact hco), Ya0 a h1 h2, Xab, if_pos ha]
theorem Yor {a : Xdk} {us : List ByteArray} {p : Par} (h1 : a.Seq.Cols.length ≤ 1048576) (h2 : a.Seq.Rows.length ≤ 1048576) (ha : Xei a = true) (hp : Xkm p = true) {q : Seq} {r : Par} {h : Xuq} {t : Yaq} {f : Int} (e : Xb1 a us p = some (0, q, r, h, t)) (hc : q.Cols.length ≤ 1048576) (hr : q.Rows.length ≤ 1048576) (hf : Xox h.Frame q.Bits = some f) : Xby a us p = some (⟨true, true, q, r, f, Zad a.Count, a.Gone⟩, 0, t) := by
 have hm : maxLen = 9223372036854775807 := rfl
 unfold Xby
 rw [Xmd a h1 h2, Xab, Xkr a (by omega) (by omega), Xab, ha, Xaw, Xdm, Xab, hp, Xab, Bool.not_true, Xap, e, Xab]
 simp only
 rw [Xbf (by rfl), (Ymj q hc hr).2, Xab, hf, Xab, Xtz _ (Xrz ha).1, Xab]
theorem Yo5 (H T : List Int) : (strOfNums (H ++ T)).extract ((H.length : Int)).toNat ((((H ++ T).length : Nat) : Int)).toNat = strOfNums T := by
 have h1 : (strOfNums H).size = H.length := strOfNums_size H
 have h2 : (strOfNums T).size = T.length := strOfNums_size T
 rw [Int.toNat_natCast, Int.toNat_natCast, ← Xdd, List.length_append, ← h1, ← h2]
 exact ByteArray.extract_append_eq_right rfl rfl
theorem Zaf {s : Xa5} {pic : Pic} {key : Bool} {l : List Xam} {now : Pic} (hs : Xa9 s = true) (h : Yu1 s pic key l now) : Xl6 s.Par ⟨key, Xsi s.Rate key, strOfNums (Xiq l (Xiu s key))⟩ (Xg3 s.Seq) = some true := by
 obtain ⟨t1, so, po, _⟩ := Xcd hs
 have hn : (l.length : Int) = Xg3 s.Seq := Option.some.inj (h.cnt.symm.trans (Yid t1).2)
 have e := Yon (A := []) (L := Xiq l (Xiu s key)) h.sq (Yn4 hs key) h.len rfl (Ycn _ _) (by have := (Xpu hs h).2.2.2; omega)
 have e' : Xia (strOfNums (Xiq l (Xiu s key))) 0 (Xg3 s.Seq) ⟨key, Xsi s.Rate key, s.Par.Large, s.Par.Exact⟩ = some (l, true) := by
  rw [← hn]; exact e
 unfold Xl6 Xp2
 rw [Xab, e', Xab, Xdm, Xab, po, Xaw, Xab]
def Yr2 (s : Xa5) (key : Bool) (l : List Xam) : Yaq := ⟨key, Xsi s.Rate key, strOfNums (Xiq l (Xiu s key))⟩
theorem Yn7 {s : Xa5} {pic : Pic} {key : Bool} {l : List Xam} {now : Pic} (hs : Xa9 s = true) (h : Yu1 s pic key l now) : Xf6 s.Seq s.Par (strOfNums (Xh6 s key l)) = some (⟨0, s.Frame, Xsi s.Rate key⟩, ((Xvc s.Seq s.Par ⟨0, s.Frame, Xsi s.Rate key⟩).length : Int), true) := by
 obtain ⟨r1, r2, _⟩ := Xpu hs h
 exact Yjm (Yn5 hs key) rfl r2 r1
theorem Ypi {a : Xdk} {s : Xa5} {pic : Pic} {key : Bool} {l : List Xam} {now : Pic} (hs : Xa9 s = true) (h : Yu1 s pic key l now) (hl : key = true ∨ a.Live = true ∧ a.Frame = s.Frame) : Yph a key s.Seq s.Par (strOfNums (Xh6 s key l)) = some (0, s.Seq, s.Par, ⟨0, s.Frame, Xsi s.Rate key⟩, Yr2 s key l) := by
 obtain ⟨t1, _⟩ := Xcd hs
 have ex : (strOfNums (Xh6 s key l)).extract (((Xvc s.Seq s.Par ⟨0, s.Frame, Xsi s.Rate key⟩).length : Int)).toNat ((((Xh6 s key l).length : Nat) : Int)).toNat = strOfNums (Xiq l (Xiu s key)) := Yo5 _ _
 have hle : (Xvc s.Seq s.Par ⟨0, s.Frame, Xsi s.Rate key⟩).length ≤ (Xh6 s key l).length := by unfold Xh6; rw [List.length_append]; omega
 have c1 : (sel key (some false) (some (!a.Live))) = some false := by
  cases key with
  | true => rfl
  | false =>
   rcases hl with hl | hl
   ·
    cases hl
   ·
    rw [hl.1]; rfl
 have c2 : (sel key (some false) (some (s.Frame != a.Frame))) = some false := by
  cases key with
  | true => rfl
  | false =>
   rcases hl with hl | hl
   ·
    cases hl
   ·
    rw [hl.2, bne_self_eq_false]; rfl
 unfold Yph
 rw [Yn7 hs h, Xab]
 simp only
 rw [Bool.not_true, Xap, c1, Xab, Xap, c2, Xab, Xap, strOfNums_size, rqA, (Yid t1).1, Xab, ex, Zaf hs h, Xab, Bool.not_true, Xap]
 rfl
theorem Yyh {s : Xa5} {pic : Pic} {l : List Xam} {now : Pic} (hs : Xa9 s = true) (h : Yu1 s pic true l now) : loop (Xbd (Xdt s true l)) (0, [], []) = some (.out ([7, 8, 5], [strOfNums (Xxs s.Seq), strOfNums (Yc7 s.Par), strOfNums (Xh6 s true l)])) := by
 obtain ⟨t1, so, po, _⟩ := Xcd hs
 obtain ⟨r1, r2, _⟩ := Xpu hs h
 have hu : Xdt s true l = [strOfNums (7 :: Xsg (Xxs s.Seq)), strOfNums (8 :: Xsg (Yc7 s.Par)), strOfNums (5 :: Xsg (Xh6 s true l))] := rfl
 have u7 := Xpz (k := 7) rfl (Xxs s.Seq) (Ynw s.Seq) (Ylx so)
 have u8 := Xpz (k := 8) rfl (Yc7 s.Par) (Yno s.Par) (by rw [Yfu]; omega)
 have u5 := Xpz (k := 5) rfl (Xh6 s true l) r2 r1
 rw [hu]
 generalize strOfNums (7 :: Xsg (Xxs s.Seq)) = x at u7
 generalize strOfNums (8 :: Xsg (Yc7 s.Par)) = y at u8
 generalize strOfNums (5 :: Xsg (Xh6 s true l)) = z at u5
 exact lgo (Yfo [x, y, z] 0 (by simp) (by omega) [] [] rfl rfl u7) (lgo (Yfo [x, y, z] 1 (by simp) (by omega) [7] [strOfNums (Xxs s.Seq)] rfl rfl u8) (lgo (Yfo [x, y, z] 2 (by simp) (by omega) [7, 8] [strOfNums (Xxs s.Seq), strOfNums (Yc7 s.Par)] rfl rfl u5) (Xgl (Ypv [x, y, z] 3 rfl [7, 8, 5] [strOfNums (Xxs s.Seq), strOfNums (Yc7 s.Par), strOfNums (Xh6 s true l)]))))
theorem Yuk {s : Xa5} {pic : Pic} {l : List Xam} {now : Pic} (hs : Xa9 s = true) (h : Yu1 s pic false l now) : loop (Xbd (Xdt s false l)) (0, [], []) = some (.out ([1], [strOfNums (Xh6 s false l)])) := by
 obtain ⟨r1, r2, _⟩ := Xpu hs h
 have hu : Xdt s false l = [strOfNums (1 :: Xsg (Xh6 s false l))] := rfl
 have u1 := Xpz (k := 1) rfl (Xh6 s false l) r2 r1
 rw [hu]
 generalize strOfNums (1 :: Xsg (Xh6 s false l)) = x at u1
 exact lgo (Yfo [x] 0 (by simp) (by omega) [] [] rfl rfl u1) (Xgl (Ypv [x] 1 rfl [1] [strOfNums (Xh6 s false l)]))
def Xqx (a : Xdk) (s : Xa5) : Xdk := ⟨true, true, s.Seq, s.Par, (s.Frame + 1) % 2 ^ s.Seq.Bits.toNat, Zad a.Count, a.Gone⟩
theorem Yqo {s : Xa5} (hs : Xa9 s = true) : Xox s.Frame s.Seq.Bits = some ((s.Frame + 1) % 2 ^ s.Seq.Bits.toNat) ∧ s.Seq.Cols.length ≤ 1048576 ∧ s.Seq.Rows.length ≤ 1048576 := by
 obtain ⟨t1, so, po, _, hf, _⟩ := Xcd hs
 obtain ⟨q1, q2, b1, b2⟩ := Xa8 so
 have n1 := Xbb q1
 have n2 := Xbb q2
 obtain ⟨z1, z2, z3, z4, z5⟩ := Xj0 s.Seq.Bits ⟨b1, b2⟩
 have hf0 := hf.1
 have hfs := Xwz z4 hf.2
 refine ⟨?_, by omega, by omega⟩
 unfold Xox
 rw [rqA, z3, Xa2 (Ys5 z5), wkA (e := s.Frame + 1), Xbu (by omega)]
theorem Yu5 {a : Xdk} (ha : Xei a = true) (h1 : a.Seq.Cols.length ≤ 1048576) (h2 : a.Seq.Rows.length ≤ 1048576) {s : Xa5} {pic : Pic} {l : List Xam} {now : Pic} (hs : Xa9 s = true) (h : Yu1 s pic true l now) {p : Par} (hp : Xkm p = true) (hc : s.Par.Confined = true) (hL : p.Large = s.Par.Large) (hE : p.Exact = s.Par.Exact) : Xby a (Xdt s true l) p = some (Xqx a s, 0, Yr2 s true l) := by
 have hm : maxLen = 9223372036854775807 := rfl
 obtain ⟨t1, so, po, _⟩ := Xcd hs
 obtain ⟨sa, sc, sr⟩ := Yqo hs
 have e := Yub a (Xdt s true l) p _ _ _ (Yyh hs h)
 rw [Yl6 so, Xab, Yl5 po, Xab] at e
 simp only at e
 rw [Xaw, strOfNums_size, bne_self_eq_false, Xap, Xaw, strOfNums_size, Yfu, show ((9 : Int) != ((9 : Nat) : Int)) = false from rfl, Xap, Xhn _ (by omega) (by omega), Xab, t1, show ((1 : Int) != 1) = false from rfl, Xap, hc, Xaw, hL, hE, beq_self_eq_true, Xaw, beq_self_eq_true, Bool.not_true, Xab, Xap] at e
 exact Yor h1 h2 ha hp (e.trans (Ypi hs h (.inl rfl))) sc sr sa
theorem Yqz {a : Xdk} (ha : Xei a = true) (h1 : a.Seq.Cols.length ≤ 1048576) (h2 : a.Seq.Rows.length ≤ 1048576) {s : Xa5} {pic : Pic} {l : List Xam} {now : Pic} (hs : Xa9 s = true) (h : Yu1 s pic false l now) {p : Par} (hp : Xkm p = true) (hH : a.Has = true) (eS : a.Seq = s.Seq) (eP : a.Par = s.Par) :
  (a.Live = true → a.Frame = s.Frame → Xby a (Xdt s false l) p = some (Xqx a s, 0, Yr2 s false l)) ∧
  (a.Live = false → Xby a (Xdt s false l) p = some (Xkn a, 6, Xt6)) ∧
  (a.Live = true → s.Frame ≠ a.Frame → Xby a (Xdt s false l) p = some (Xkn a, 7, Xt6)) := by
 obtain ⟨sa, sc, sr⟩ := Yqo hs
 have e := Yuc a (Xdt s false l) p _ (Yuk hs h)
 rw [hH, Bool.not_true, Xap, eS, eP] at e
 refine ⟨fun a1 a2 => Yor h1 h2 ha hp (e.trans (Ypi hs h (.inr ⟨a1, a2⟩))) sc sr sa, fun a1 => Yr5 h1 h2 ha hp (co := 6) (q := ⟨0, 0, [], []⟩) (r := ⟨0, false, false, false⟩) (h := ⟨0, 0, 0⟩) (t := Xt6) (e.trans ?_) (by decide), fun a1 a2 => Yr5 h1 h2 ha hp (co := 7) (q := ⟨0, 0, [], []⟩) (r := ⟨0, false, false, false⟩) (h := ⟨0, 0, 0⟩) (t := Xt6) (e.trans ?_) (by decide)⟩
 ·
  unfold Yph
  rw [Yn7 hs h, Xab]
  simp only
  rw [Bool.not_true, Xap, Xap, a1, Xab]
  rfl
 ·
  have hb : (s.Frame != a.Frame) = true := by rw [bne_iff_ne]; exact a2
  unfold Yph
  rw [Yn7 hs h, Xab]
  simp only
  rw [Bool.not_true, Xap, Xap, a1, Xab, Bool.not_true, Xap, Xap, Xab, hb, Xaw]
theorem Yct {a : Xdk} (ha : Xei a = true) {s : Xa5} (hs : Xa9 s = true) : Xei (Xqx a s) = true := by
 obtain ⟨t1, so, po, _, hf, _⟩ := Xcd hs
 obtain ⟨_, _, b1, b2⟩ := Xa8 so
 obtain ⟨z1, z2, z3, z4, z5⟩ := Xj0 s.Seq.Bits ⟨b1, b2⟩
 have m0 := Int.emod_nonneg (s.Frame + 1) (Ys5 z5)
 have m1 := Int.emod_lt_of_pos (s.Frame + 1) (Yzk z5)
 obtain ⟨c1, c2⟩ := Xrz ha
 unfold Xei Xqx
 simp only
 rw [Ysc c1, c2, if_pos trivial, decide_eq_true t1, po, decide_eq_true ⟨m0, m1⟩]
 rfl
theorem Yoq {a : Xdk} (ha : Xei a = true) (hH : a.Has = true) : Xei (Xkn a) = true := by
 obtain ⟨c1, c2⟩ := Xrz ha
 obtain ⟨t1, po, hf⟩ := Yqy ha hH
 unfold Xei Xkn
 simp only
 rw [c1, Ysc c2, if_pos hH, decide_eq_true t1, po, decide_eq_true hf]
 rfl
def Yfh : Xdk := ⟨false, false, ⟨0, 0, [], []⟩, ⟨0, false, false, false⟩, 0, 0, 0⟩
theorem Yqx : Xei Yfh = true := rfl
def Yq5 (s : Xa5) : Xa5 := ⟨s.Seq, ⟨s.Par.Qp, s.Par.Large, s.Par.Exact, true⟩, s.Rate, s.Frame, s.Since, s.Every, s.Reach, s.Has, s.Ref⟩
theorem Yt5 {s : Xa5} (h : Xa9 s = true) : Xa9 (Yq5 s) = true := h
theorem Yq6 {s : Xa5} (ok : Xa9 s = true) (hb : s.Seq.Bits = 3) (hh : s.Has = false) (hsi : s.Since = 0) : Run s.Seq ⟨s.Par.Qp, s.Par.Large, s.Par.Exact, true⟩ 0 (Yq5 s) := ⟨Yt5 ok, hb, rfl, rfl, fun _ => hh, fun h => by omega, by show s.Since ≤ 0; omega⟩
def Yx5 (Yjh : Bool) (i : Int) (s : Xa5) (a : Xdk) : (Bool × Int × Int × Int × Int × Bool × Bool × Bool × Int × Int × Int × Int × Int × Int × Int × Bool × Int × Int × ByteArray × Bool × Bool × Int × Int × Int × Bool × Bool × Bool × Int × Int × Int × (List Int) × (List Int) × (List Int) × (List Int)) :=
 (Yjh, i, s.Seq.Level, s.Seq.Bits, s.Par.Qp, s.Par.Large, s.Par.Exact, s.Par.Confined, s.Rate.Qp, s.Rate.Target, s.Rate.Debt, s.Frame, s.Since, s.Every, s.Reach, s.Has, s.Ref.Wide, s.Ref.High, s.Ref.Dots, a.Has, a.Live, a.Seq.Level, a.Seq.Bits, a.Par.Qp, a.Par.Large, a.Par.Exact, a.Par.Confined, a.Frame, a.Count, a.Gone, s.Seq.Cols, s.Seq.Rows, a.Seq.Cols, a.Seq.Rows)
def Yz7 (a : Xdk) : (Bool × Bool × Int × Int × Int × Bool × Bool × Bool × Int × Int × Int × (List Int) × (List Int)) := (a.Has, a.Live, a.Seq.Level, a.Seq.Bits, a.Par.Qp, a.Par.Large, a.Par.Exact, a.Par.Confined, a.Frame, a.Count, a.Gone, a.Seq.Cols, a.Seq.Rows)
structure Gap (gap k : Nat) (Yjh : Bool) (s : Xa5) (a : Xdk) : Prop where
 ok : Xei a = true
 z0 : k = 0 → a = Yfh ∧ Yjh = true
 has : 1 ≤ k → a.Has = true ∧ a.Seq = s.Seq ∧ a.Par = s.Par
 on : 1 ≤ k → Yjh = true → a.Live = true ∧ a.Frame = s.Frame
 off : Yjh = false → gap < k ∧ (a.Live = true → a.Frame ≠ s.Frame)
theorem Gap.size {gap k : Nat} {Yjh : Bool} {s : Xa5} {a : Xdk} (G : Gap gap k Yjh s a) (hs : Xa9 s = true) : a.Seq.Cols.length ≤ 1048576 ∧ a.Seq.Rows.length ≤ 1048576 := by
 obtain ⟨t1, so, _⟩ := Xcd hs
 obtain ⟨q1, q2, _⟩ := Xa8 so
 have n1 := Xbb q1
 have n2 := Xbb q2
 by_cases hk : k = 0
 ·
  rw [(G.z0 hk).1]; simp [Yfh]
 ·
  rw [(G.has (by omega)).2.1]; omega
theorem Ysj {q2 : Xa5 × List Pic × List Bool} {q3 : List Int} {q : Seq} {p : Par} (hp : ∀ x ∈ q2.2.1, Xtm x q = true) (hw : q2.2.2.length = q2.2.1.length) (h5 : q2.2.1.length ≤ 5) (hcp : p.Confined = true) (gap : Nat) (hg : 1 ≤ gap) (hgap : Xaa .i64 (1 + ((q3.getD ((0 : Int).toNat) 0).tmod (Xaa .i64 ((q2.2.1.length : Int) - 1)))) = (gap : Int)) : ∀ n k : Nat, k + n = q2.2.1.length → ∀ (s : Xa5) (a : Xdk) (Yjh : Bool), Run q p k s → Gap gap k Yjh s a → ∃ b, loop (Xbp q2 q3) (Yx5 Yjh (k : Int) s a) = some (.out (Yz7 b)) ∧ Xei b = true ∧ (1 ≤ q2.2.1.length → b.Has = true) ∧ b.Seq.Cols.length ≤ 1048576 ∧ b.Seq.Rows.length ≤ 1048576
 | 0, k, hk, s, a, Yjh, R, G => by
  obtain ⟨z1, z2⟩ := G.size R.ok
  refine ⟨a, Xgl ?_, G.ok, fun h => (G.has (by omega)).1, z1, z2⟩
  unfold Xbp Yx5
  simp only
  rw [snA]
  rfl
 | n + 1, k, hk, s, a, Yjh, R, G => by
  have hm : maxLen = 9223372036854775807 := rfl
  have pt := Xcd R.ok
  obtain ⟨s1, s2, b1, b2⟩ := Xa8 pt.2.1
  have l1 := Xbb s1
  have l2 := Xbb s2
  obtain ⟨z1, z2⟩ := G.size R.ok
  have hlt : k < q2.2.1.length := by omega
  have hfit : Xtm (q2.2.1.getD k Zbb) s.Seq = true := by rw [R.eS]; exact hp _ (by rw [Xcf _ k hlt]; exact List.getElem_mem _)
  have hsn := R.high
  generalize hpic : q2.2.1.getD k Zbb = pic at hfit
  generalize hwant : q2.2.2.getD k Yz3 = want
  obtain ⟨l, now, S, e1⟩ := Yf2 (want := want) R.ok hfit (.inr (by omega))
  have R' := R.next (by omega) S
  have hul := Yn8 s (Xbs s want) l
  have hul3 : (Xdt s (Xbs s want) l).length ≤ 3 := by rw [hul]; split <;> omega
  have hf : 0 ≤ s.Frame ∧ s.Frame < 8 := by
   have := pt.2.2.2.2.1
   rw [R.bits] at this
   exact this
  have hf8 : (Xof s (Xbs s want) l now).Frame = (s.Frame + 1) % 8 := by
   show (s.Frame + 1) % 2 ^ s.Seq.Bits.toNat = _
   rw [R.bits]; rfl
  have hc : s.Par.Confined = true := by rw [R.eP]; exact hcp
  have hpar := pt.2.2.1
  have es : (⟨(⟨s.Seq.Level, s.Seq.Bits, s.Seq.Cols, s.Seq.Rows⟩ : Seq), (⟨s.Par.Qp, s.Par.Large, s.Par.Exact, s.Par.Confined⟩ : Par), (⟨s.Rate.Qp, s.Rate.Target, s.Rate.Debt⟩ : Rate), s.Frame, s.Since, s.Every, s.Reach, s.Has, (⟨s.Ref.Wide, s.Ref.High, s.Ref.Dots⟩ : Pic)⟩ : Xa5) = s := rfl
  have ea : (⟨a.Has, a.Live, (⟨a.Seq.Level, a.Seq.Bits, a.Seq.Cols, a.Seq.Rows⟩ : Seq), (⟨a.Par.Qp, a.Par.Large, a.Par.Exact, a.Par.Confined⟩ : Par), a.Frame, a.Count, a.Gone⟩ : Xdk) = a := rfl
  -- one step
  have go : ∀ (live' : Bool) (b : Xdk), Xbp q2 q3 (Yx5 Yjh (k : Int) s a) = some (.go (Yx5 live' ((k + 1 : Nat) : Int) (Xof s (Xbs s want) l now) b)) → Gap gap (k + 1) live' (Xof s (Xbs s want) l now) b → ∃ b, loop (Xbp q2 q3) (Yx5 Yjh (k : Int) s a) = some (.out (Yz7 b)) ∧ Xei b = true ∧ (1 ≤ q2.2.1.length → b.Has = true) ∧ b.Seq.Cols.length ≤ 1048576 ∧ b.Seq.Rows.length ≤ 1048576 := fun live' b e G' => by
   obtain ⟨x, ih, x2⟩ := Ysj hp hw h5 hcp gap hg hgap n (k + 1) (by omega) _ b live' R' G'
   exact ⟨x, lgo e ih, x2⟩
  by_cases hkg : k = gap
  ·
   -- left out
   have hlive : Yjh = true := by
    cases hx : Yjh with
    | true => rfl
    | false => have := (G.off hx).1; omega
   have on := G.on (by omega) hlive
   have hh := G.has (by omega)
   refine go false a ?_ ⟨G.ok, fun h => by omega, fun _ => hh, fun _ h => (by cases h), fun _ => ⟨by omega, fun _ => by rw [hf8, on.2]; omega⟩⟩
   unfold Xbp Yx5
   simp only [Int.toNat_natCast, Yh8]
   rw [syA, rqA, rqA, rqA, rqA, es, hwant, hpic, show (⟨pic.Wide, pic.High, pic.Dots⟩ : Pic) = pic from rfl, e1, Xab]
   simp only
   rw [Bool.not_true, Xap, hgap, Xbq (by rw [beq_iff_eq]; omega), wkA]
   rfl
  ·
   have step : ∀ (live' : Bool) (b : Xdk) (co : Int) (t : Yaq), Xby a (Xdt s (Xbs s want) l) s.Par = some (b, co, t) → live' = (if Xbs s want = true then true else Yjh) → (co == 0) = live' → b.Live = live' → (live' = false → co = 6 ∨ co = 7) → Xbp q2 q3 (Yx5 Yjh (k : Int) s a) = some (.go (Yx5 live' ((k + 1 : Nat) : Int) (Xof s (Xbs s want) l now) b)) := fun live' b co t eA e2 e3 e4 e5 => by
    have e21 : (sel (((Xdt s (Xbs s want) l).length : Int) == 3) (some true) (some Yjh)) = some live' := by
     rw [hul, e2]
     cases Xbs s want <;> rfl
    have e22 : (sel ((co == 0) == live') (sel (b.Live == live') (sel live' (some false) (sel (co != 7) (some (co != 6)) (some false))) (some true)) (some true)) = some false := by
     rw [e3, e4, beq_self_eq_true, Xaw, Xaw]
     cases hl : live' with
     | true => rfl
     | false =>
      rw [Xap]
      rcases e5 hl with h | h <;> rw [h] <;> rfl
    unfold Xbp Yx5
    simp only [Int.toNat_natCast, Yh8]
    rw [syA, rqA, rqA, rqA, rqA, es, hwant, hpic, show (⟨pic.Wide, pic.High, pic.Dots⟩ : Pic) = pic from rfl, e1, Xab]
    simp only
    rw [Bool.not_true, Xap, hgap, Xbf (by rw [beq_eq_false_iff_ne]; omega), List.nil_append, Xa2 (show (([] : List ByteArray).length + (Xdt s (Xbs s want) l).length) * 16 ≤ 140737488355328 ∧ ([] : List ByteArray).length + (Xdt s (Xbs s want) l).length ≤ maxLen by rw [List.length_nil]; omega), ea, show (Xof s (Xbs s want) l now).Par = s.Par from rfl, eA, Xab, e21, Xab]
    simp only
    rw [e22, Xab, Xap, wkA]
    rfl
   cases hkey : Xbs s want with
   | true =>
    rw [hkey] at S step go
    have a1 := Yu5 G.ok z1 z2 R.ok S hpar hc (p := s.Par) rfl rfl
    refine go true (Xqx a s) (step true _ _ _ a1 rfl rfl rfl (fun h => by cases h)) ⟨Yct G.ok R.ok, fun h => by omega, fun _ => ⟨rfl, rfl, rfl⟩, fun _ _ => ⟨rfl, rfl⟩, fun h => by cases h⟩
   | false =>
    have hk1 : 1 ≤ k := by
     by_cases h0 : k = 0
     ·
      subst h0
      rw [R.first want] at hkey
      cases hkey
     ·
      omega
    obtain ⟨g1, g2, g3⟩ := G.has hk1
    rw [hkey] at S step go
    obtain ⟨i1, i2, i3⟩ := Yqz G.ok z1 z2 R.ok S hpar (p := s.Par) g1 g2 g3
    cases hl : Yjh with
    | true =>
     rw [hl] at step go
     obtain ⟨o1, o2⟩ := G.on hk1 hl
     exact go true (Xqx a s) (step true _ _ _ (i1 o1 o2) rfl rfl rfl (fun h => by cases h)) ⟨Yct G.ok R.ok, fun h => by omega, fun _ => ⟨rfl, rfl, rfl⟩, fun _ _ => ⟨rfl, rfl⟩, fun h => by cases h⟩
    | false =>
     rw [hl] at step go
     obtain ⟨o1, o2⟩ := G.off hl
     have fin : Gap gap (k + 1) false (Xof s false l now) (Xkn a) := ⟨Yoq G.ok g1, fun h => by omega, fun _ => ⟨g1, g2, g3⟩, fun _ h => (by cases h), fun _ => ⟨by omega, fun h => by cases h⟩⟩
     cases hx : a.Live with
     | true => exact go false (Xkn a) (step false _ _ _ (i3 hx (fun h => o2 hx h.symm)) rfl rfl rfl (fun _ => .inr rfl)) fin
     | false => exact go false (Xkn a) (step false _ _ _ (i2 hx) rfl rfl rfl (fun _ => .inl rfl)) fin
theorem FnAfterGap {p0 : List Int} (h0 : p0.length ≤ maxLen ∧ ∀ y ∈ p0, (Lit.int .u8 y).wf = true) : Xlb p0 = some true := by
 have hm : maxLen = 9223372036854775807 := rfl
 unfold Xlb
 rw [Yrj, Xab]
 by_cases hbig : (p0.length : Int) > 1048576
 ·
  rw [Xbi hbig]
 rw [Xar hbig]
 obtain ⟨s0, pics, wants, e, ok0, hb0, hh0, hf0, hsi0, hev, hp, hw, h2, h5⟩ := Yb6 p0 (by omega)
 obtain ⟨pl, ep, l12, hpl⟩ := Yaf p0 (by omega)
 have hp0 := (hpl (pl.getD 0 0) (by rw [Xcf pl 0 (by omega)]; exact List.getElem_mem _)).1
 have R := Yq6 ok0 hb0 hh0 hsi0
 rw [e, Xab, ep, Xab]
 simp only
 have m0 := Int.emod_nonneg (pl.getD 0 0) (show (pics.length : Int) - 1 ≠ 0 by omega)
 have m1 := Int.emod_lt_of_pos (pl.getD 0 0) (show 0 < (pics.length : Int) - 1 by omega)
 have hgap : Xaa .i64 (1 + ((pl.getD ((0 : Int).toNat) 0).tmod (Xaa .i64 ((pics.length : Int) - 1)))) = (((1 + (pl.getD 0 0) % ((pics.length : Int) - 1)).toNat : Nat) : Int) := by
  rw [show (0 : Int).toNat = 0 from rfl, wkA (e := (pics.length : Int) - 1), Xbu hp0, wkA]
  omega
 have G : Gap (1 + (pl.getD 0 0) % ((pics.length : Int) - 1)).toNat 0 true (Yq5 s0) Yfh := ⟨Yqx, fun _ => ⟨rfl, rfl⟩, fun h => by omega, fun h => by omega, fun h => by cases h⟩
 obtain ⟨b, hb, okb, hasb, c1, c2⟩ := Ysj (q2 := (s0, pics, wants)) (q3 := pl) hp hw h5 rfl _ (by omega) hgap pics.length 0 (by simp) _ _ _ R G
 rw [rqA, Xa2 (show (0 : Int).toNat < pl.length by rw [show (0 : Int).toNat = 0 from rfl]; omega), Xa2 (by rw [wkA]; omega)]
 refine (Xf2 hb).trans ?_
 have eb : (⟨b.Has, b.Live, (⟨b.Seq.Level, b.Seq.Bits, b.Seq.Cols, b.Seq.Rows⟩ : Seq), (⟨b.Par.Qp, b.Par.Large, b.Par.Exact, b.Par.Confined⟩ : Par), b.Frame, b.Count, b.Gone⟩ : Xdk) = b := rfl
 unfold Yz7
 simp only
 rw [eb, Xkr b (by omega) (by omega), okb, Xab, Xaw, hasb (by simp only; omega), Xab]
end Go.Proofs.YtnhflbeahbcklaaGreat.A.Pure
