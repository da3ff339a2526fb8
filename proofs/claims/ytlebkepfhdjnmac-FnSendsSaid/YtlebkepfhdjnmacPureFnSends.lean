/- The pure statement of the law FnSends, part 2: over numbers, texts and lists alone, what the law computes is true. Conditions: the sizes of what a machine holds. -/
import Derived.Test.YtlebkepfhdjnmacPureFnSendsx0
namespace Go.Proofs.Ytlebkepfhdjnmac.A.Pure
open Go Go.Proofs Go.Proofs.YtlebkepfhdjnmacAL Go.RowKit
set_option linter.unusedVariables false
set_option linter.unusedSimpArgs false
set_option maxHeartbeats 1000000
theorem Yb3 (qp : Int) (h0 : 0 ≤ qp ∧ qp ≤ 40) : Xf1 qp = some (Xmp qp) := by
 have := Yej ⟨qp.toNat, by omega⟩
 simp only at this
 rwa [show ((qp.toNat : Nat) : Int) = qp by omega] at this
theorem Xp6 (qp : Int) (h0 : 0 ≤ qp ∧ qp ≤ 40) : Xf1 qp = Xc6 qp := by rw [Yb3 qp h0, Ycn qp h0]
theorem Xr9 (u v : Nat) (hu : u < 8) (hv : v < 8) : Xj7 u v = some (Xa3 u v) := by
 have h := Yau ⟨u, hu⟩ ⟨v, hv⟩
 simp only at h
 unfold Xj7
 rw [Xai, Xab, decide_eq_true (by omega), Xav, Xai, Xab, decide_eq_true (by omega), Bool.not_true, Xab, Xaq]
 unfold Xa3 at h ⊢
 cases e : it Xkm 10 (1, (IntKind.wrap .i64 (BitVec.ofInt (IntKind.bits .i64) (u : Int) &&& BitVec.ofInt (IntKind.bits .i64) (v : Int)).toNat)) with
 | none => rw [e] at h; simp only at h; omega
 | some q => rw [Xg1.2 ⟨10, e⟩, Xab]
theorem Yee : ∀ u v : Fin 8, Xjq (u.val : Int) (v.val : Int) = some (Xa3 (u.val : Int) (v.val : Int)) := by decide +kernel
theorem Xwh (u v : Nat) (hu : u < 8) (hv : v < 8) : Xjq u v = some (Xa3 u v) := Yee ⟨u, hu⟩ ⟨v, hv⟩
def Ye7 (qp p : Int) : Option Int :=
 bnd (Xmh p) fun q1 => bnd (Xa2 q1 10 16 13) fun a1 => bnd (Xa2 q1 11 18 14) fun a2 => bnd (Xa2 q1 13 20 16) fun a3 => bnd (Xa2 q1 14 23 18) fun a4 => bnd (Xa2 q1 16 25 20) fun a5 => bnd (Xa2 q1 18 29 23) fun a6 =>
 it (Xex qp) 10 ((sel (qp.tmod 6 == 0) a1 (sel (qp.tmod 6 == 1) a2 (sel (qp.tmod 6 == 2) a3 (sel (qp.tmod 6 == 3) a4 (sel (qp.tmod 6 == 4) a5 (sel (qp.tmod 6 == 5) a6 0)))))), 0)
theorem Yma : ∀ q : Fin 41, ∀ p : Fin 16, (Ye7 (q.val : Int) (p.val : Int)).isSome = true ∧ Xkt (q.val : Int) (p.val : Int) = Ye7 (q.val : Int) (p.val : Int) := by decide +kernel
theorem Ydo (qp p : Int) (h0 : 0 ≤ qp ∧ qp ≤ 40) (hp : 0 ≤ p ∧ p ≤ 15) : Xkt qp p = Xk0 qp p := by
 have := Yma ⟨qp.toNat, by omega⟩ ⟨p.toNat, by omega⟩
 simp only at this
 rw [show ((qp.toNat : Nat) : Int) = qp by omega, show ((p.toNat : Nat) : Int) = p by omega] at this
 obtain ⟨h1, h2⟩ := this
 rw [h2]
 cases e : Ye7 qp p with
 | none => rw [e] at h1; cases h1
 | some o =>
  unfold Ye7 at e
  unfold Xk0
  obtain ⟨k, ek, k0, k1⟩ := Xnl p hp
  rw [ek, Xab] at e ⊢
  rw [Xai, Xab, decide_eq_true h0, Xav, decide_eq_false (by omega), Xab, Xaq, rqA]
  obtain ⟨a1, e1, b1⟩ := Xay k 10 16 13
  obtain ⟨a2, e2, b2⟩ := Xay k 11 18 14
  obtain ⟨a3, e3, b3⟩ := Xay k 13 20 16
  obtain ⟨a4, e4, b4⟩ := Xay k 14 23 18
  obtain ⟨a5, e5, b5⟩ := Xay k 16 25 20
  obtain ⟨a6, e6, b6⟩ := Xay k 18 29 23
  rw [e1, e2, e3, e4, e5, e6] at e ⊢
  simp only [Xab, Yjn] at e ⊢
  rw [Yh7 10 e, Xab]
def Xob (n : Int) (v16 : Int × List Int) : Option (Lp (Int × List Int) (List Int)) :=
 sel (decide (v16.1 ≤ (Xaa .i64 ((Xaa .i64 (2 * n)) - 2)))) (
 bnd (it (Xip n v16) 20 (0, v16.2)) fun v42 =>
 some (.go (Xaa .i64 (v16.1 + 1), v42))) (
 some (.done v16.2))
theorem Yhb {n : Int} {v : Int × List Int} {x : Lp (Int × List Int) (List Int)} (h : Xob n v = some x) : Xfs n v = some x := by
 unfold Xob at h
 unfold Xfs
 rcases Xhn h with ⟨hb, h⟩ | ⟨hb, h⟩
 ·
  rw [hb, Xav]
  obtain ⟨a, h1, h2⟩ := Xbj h
  rw [Xg1.2 ⟨20, h1⟩, Xab]
  exact h2
 ·
  rw [hb, Xaq]; exact h
def Xxw (n : Int) : List Int := (it (Xob n) 20 (0, [])).getD []
theorem Ypp : (it (Xob 4) 20 (0, [])).isSome = true ∧ (Xxw 4).length = 16 := by decide +kernel
theorem Ypq : (it (Xob 8) 20 (0, [])).isSome = true ∧ (Xxw 8).length = 64 := by decide +kernel
theorem Ymc : ∀ i : Fin 16, (Xxw 4).getD i.val 0 = Xb4 4 (i.val : Int) := by decide +kernel
theorem Yha : ∀ i : Fin 64, (Xxw 8).getD i.val 0 = Xb4 8 (i.val : Int) := by decide +kernel
theorem Xn4 (n : Int) (hn : n = 4 ∨ n = 8) : Xfn n = some (Xxw n) ∧ ((Xxw n).length : Int) = n * n ∧ ∀ i : Nat, (i : Int) < n * n → (Xxw n).getD i 0 = Xb4 n i := by
 have h : (it (Xob n) 20 (0, [])).isSome = true ∧ ((Xxw n).length : Int) = n * n := by
  rcases hn with rfl | rfl
  ·
   have := Ypp; exact ⟨this.1, by omega⟩
  ·
   have := Ypq; exact ⟨this.1, by omega⟩
 refine ⟨?_, h.2, fun i hi => ?_⟩
 ·
  obtain ⟨o, ho⟩ := Option.isSome_iff_exists.1 h.1
  have hl := Yh7 20 (Yni (fun v y => Yhb (n := n)) 20 _ ho)
  unfold Xfn
  rw [hl, Xab]
  unfold Xxw; rw [ho]; rfl
 ·
  rcases hn with rfl | rfl
  ·
   exact Ymc ⟨i, by omega⟩
  ·
   exact Yha ⟨i, by omega⟩
theorem Xp7 (n : Int) (hn : n = 4 ∨ n = 8) (l : List Int) (hl : (l.length : Int) = n * n) : Xee n l = Xcu n l := by
 obtain ⟨e, h1, h2⟩ := Xn4 n hn
 have hw : Xaa .i64 (n * n) = n * n := by rcases hn with rfl | rfl <;> exact wkA
 have hn2 : n * n ≤ 64 := by rcases hn with rfl | rfl <;> omega
 unfold Xee Xcu
 rw [e]
 have : loop (Xgo l (Xxw n)) (0, List.replicate (l.length : Int).toNat 0) = loop (Xbl n l) (0, List.replicate (l.length : Int).toNat 0) := by
  refine Xjz (fun v => (∃ i : Nat, v.1 = (i : Int) ∧ i ≤ l.length) ∧ v.2.length = l.length) ?_ ?_ ⟨⟨0, rfl, by omega⟩, by simp⟩
  ·
   intro ⟨i, s⟩ ⟨⟨k, ek, hk⟩, hs⟩
   simp only at hs ek
   subst ek
   unfold Xgo Xbl
   simp only [Int.toNat_natCast]
   rw [hw]
   by_cases hi : (k : Int) < n * n
   ·
    have hp := Xea n hn k hi
    have h3 := h2 k hi
    simp only [h3]
    rw [syA, Xbp hi, Xdh n hn k hi, Xab, rqA, rqA]
   ·
    rw [snA, Xan hi]
  ·
   intro ⟨i, s⟩ v' ⟨⟨k, ek, hk⟩, hs⟩ he
   simp only at hs ek
   subst ek
   unfold Xbl at he
   simp only [Int.toNat_natCast] at he
   rw [hw] at he
   by_cases hi : (k : Int) < n * n
   ·
    have hp := Xea n hn k hi
    rw [Xbp hi, Xdh n hn k hi, Xab, rqA, rqA, rqA, wkA] at he
    cases he
    exact ⟨⟨k + 1, rfl, by omega⟩, by rw [List.length_set]; exact hs⟩
   ·
    rw [Xan hi] at he; cases he
 simp only [Xab, this]
theorem Xoo (n : Int) (hn : n = 4 ∨ n = 8) (l : List Int) (hl : (l.length : Int) = n * n) : Xfz n l = Xec n l := by
 have hm : maxLen = 9223372036854775807 := rfl
 obtain ⟨e, h1, h2⟩ := Xn4 n hn
 have hw : Xaa .i64 (n * n) = n * n := by rcases hn with rfl | rfl <;> exact wkA
 have hn2 : n * n ≤ 64 := by rcases hn with rfl | rfl <;> omega
 unfold Xfz Xec
 rw [e]
 have : loop (Xil l (Xxw n)) (0, ([] : List Int)) = loop (Xbz n l) (0, ([] : List Int)) := by
  refine Xjz (fun v => ∃ i : Nat, v.1 = (i : Int) ∧ i ≤ l.length) ?_ ?_ ⟨0, rfl, by omega⟩
  ·
   intro ⟨i, s⟩ ⟨k, ek, hk⟩
   simp only at ek
   subst ek
   unfold Xil Xbz
   simp only [Int.toNat_natCast]
   rw [hw]
   by_cases hi : (k : Int) < n * n
   ·
    have hp := Xea n hn k hi
    have h3 := h2 k hi
    simp only [h3]
    rw [syA, Xbp hi, Xdh n hn k hi, Xab, rqA, rqA]
   ·
    rw [snA, Xan hi]
  ·
   intro ⟨i, s⟩ v' ⟨k, ek, hk⟩ he
   simp only at ek
   subst ek
   unfold Xbz at he
   simp only [Int.toNat_natCast] at he
   rw [hw] at he
   by_cases hi : (k : Int) < n * n
   ·
    have hp := Xea n hn k hi
    rw [Xbp hi, Xdh n hn k hi, Xab, rqA] at he
    obtain ⟨_, he⟩ := Xaw he
    rw [wkA] at he
    cases he
    exact ⟨k + 1, rfl, by omega⟩
   ·
    rw [Xan hi] at he; cases he
 simp only [Xab, this]
def Ycw (t : Nat → Int) : Nat → Int
 | 0 => 0
 | k + 1 => Xaa .i64 (Ycw t k + t k)
def Yos (p : List Int) (i v k : Nat) : Int := Xaa .i64 (Xa3 v k * p.getD (8 * i + k) 0)
def Yol (p : List Int) (u v k : Nat) : Int := Xaa .i64 (Xa3 u k * p.getD (8 * k + v) 0)
def Xot (p : List Int) : List Int := (List.range 64).map fun j => Ycw (Yos p (j / 8) (j % 8)) 8
def Xgv (p : List Int) : List Int := (List.range 64).map fun j => Ycw (Yol (Xot p) (j / 8) (j % 8)) 8
theorem Yga (p : List Int) : (Xot p).length = 64 := by simp [Xot]
theorem Xok (p : List Int) : (Xgv p).length = 64 := by simp [Xgv]
theorem Yhj {f1 : Int × List Int → Option (Lp (Int × List Int) (List Int))} {f2 : Int × List Int → Int × List Int → Option (Lp (Int × List Int) (List Int))} {f3 : Int × List Int → Int × List Int → Int × List Int → Option (Lp (Int × List Int) (List Int))} (t : Nat → Nat → Nat → Int)
  (h1 : ∀ v, f1 v = sel (decide (v.1 < 8)) (bnd (loop (f2 v) (0, v.2)) fun w => some (.go (Xaa .i64 (v.1 + 1), w))) (some (.done v.2)))
  (h2 : ∀ v w, f2 v w = sel (decide (w.1 < 8)) (bnd (loop (f3 v w) (0, w.2)) fun x => some (.go (Xaa .i64 (w.1 + 1), x))) (some (.done w.2)))
  (h3 : ∀ (i v k : Nat) (a b s : List Int), i < 8 → v < 8 → k < 8 → s.length = 64 → f3 ((i : Int), a) ((v : Int), b) ((k : Int), s) = some (.go (((k + 1 : Nat) : Int), s.set (8 * i + v) (Xaa .i64 (s.getD (8 * i + v) 0 + t i v k)))))
  (h4 : ∀ (i v : Nat) (a b s : List Int), f3 ((i : Int), a) ((v : Int), b) (8, s) = some (.done s)) : loop f1 (0, List.replicate 64 0) = some ((List.range 64).map fun j => Ycw (t (j / 8) (j % 8)) 8) := by
 obtain ⟨o, e, o1, o2, _⟩ := Xjd (f := f1) 8 (fun i s => s.length = 64 ∧ (∀ j, j < 8 * i → s.getD j 0 = Ycw (t (j / 8) (j % 8)) 8) ∧ ∀ j, 8 * i ≤ j → s.getD j 0 = 0) (by
  intro i s hi ⟨g1, g2, g3⟩
  obtain ⟨r, er, r1, r2, r3⟩ := Xjd (f := f2 ((i : Int), s)) 8 (fun v s => s.length = 64 ∧ (∀ j, j < 8 * i + v → s.getD j 0 = Ycw (t (j / 8) (j % 8)) 8) ∧ ∀ j, 8 * i + v ≤ j → s.getD j 0 = 0) (by
   intro v s' hv ⟨k1, k2, k3⟩
   obtain ⟨q, eq, q1, q2, q3⟩ := Xjd (f := f3 ((i : Int), s) ((v : Int), s')) 8 (fun k s => s.length = 64 ∧ (∀ j, j ≠ 8 * i + v → s.getD j 0 = s'.getD j 0) ∧ s.getD (8 * i + v) 0 = Ycw (t i v) k) (by
    intro k s'' hk ⟨m1, m2, m3⟩
    refine ⟨_, h3 i v k s s' s'' hi hv hk m1, by rw [List.length_set]; exact m1, fun j hj => ?_, ?_⟩
    ·
     rw [Xdn _ _ _ _ (by omega), if_neg (fun h => hj h.symm)]; exact m2 j hj
    ·
     rw [Xdn _ _ _ _ (by omega), if_pos rfl, m3]; rfl) (fun z _ => h4 i v s s' z) s' ⟨k1, fun _ _ => rfl, by rw [k3 _ (Nat.le_refl _)]; rfl⟩
   refine ⟨q, by rw [h2, Xbp (by simp only; omega), eq, Xab, wk (by simp only; omega) (by simp only; omega)]; rfl, q1, fun j hj => ?_, fun j hj => ?_⟩
   ·
    by_cases h : j = 8 * i + v
    ·
     rw [h, q3, show (8 * i + v) / 8 = i by omega, show (8 * i + v) % 8 = v by omega]
    ·
     rw [q2 j h]; exact k2 j (by omega)
   ·
    rw [q2 j (by omega)]; exact k3 j (by omega)) (fun z _ => by rw [h2, Xan (by simp)]) s ⟨g1, g2, g3⟩
  refine ⟨r, by rw [h1, Xbp (by simp only; omega), er, Xab, wk (by simp only; omega) (by simp only; omega)]; rfl, r1, fun j hj => r2 j (by omega), fun j hj => r3 j (by omega)⟩) (fun z _ => by rw [h1, Xan (by simp)]) (List.replicate 64 0) ⟨by simp, fun j hj => by omega, fun j _ => by
   by_cases h : j < 64
   ·
    rw [Xc2 _ _ (by rw [List.length_replicate]; exact h)]; exact List.getElem_replicate ..
   ·
    rw [List.getD_eq_getElem?_getD, List.getElem?_eq_none (by rw [List.length_replicate]; omega)]; rfl⟩
 rw [e]
 congr 1
 exact Xni o1 (by simp) fun j hj => by rw [o2 j (by omega), Xb8 (fun j => Ycw (t (j / 8) (j % 8)) 8) hj]
theorem Xwp (p : List Int) (hp : p.length = 64) : Xn7 p = some (Xgv p) := by
 unfold Xn7
 rw [rqA]
 have e1 : loop (Xo3 p) (0, List.replicate (64 : Int).toNat 0) = some (Xot p) :=
  Yhj (f2 := Xo4 p) (f3 := Xis p) (fun i v k => Yos p i v k) (fun _ => rfl) (fun _ _ => rfl) (fun i v k a b s hi hv hk hs => by
   unfold Xis
   simp only
   rw [syA, wkA (e := 8 * (i : Int)), wkA (e := 8 * (i : Int) + (v : Int)), wkA (e := 8 * (i : Int) + (k : Int)), rqA, rqA, Xwh v k hv hk, Xab, rqA, rqA, rqA, wkA (e := (k : Int) + 1), show (8 * (i : Int) + (v : Int)).toNat = 8 * i + v by omega, show (8 * (i : Int) + (k : Int)).toNat = 8 * i + k by omega]
   rfl) (fun i v a b s => by unfold Xis; rw [Xan (by simp)])
 have e2 : loop (Xnf (Xot p)) (0, List.replicate (64 : Int).toNat 0) = some (Xgv p) :=
  Yhj (f2 := Xng (Xot p)) (f3 := Xhb (Xot p)) (fun i v k => Yol (Xot p) i v k) (fun _ => rfl) (fun _ _ => rfl) (fun i v k a b s hi hv hk hs => by
   have hl := Yga p
   unfold Xhb
   simp only
   rw [syA, wkA (e := 8 * (i : Int)), wkA (e := 8 * (i : Int) + (v : Int)), wkA (e := 8 * (k : Int)), wkA (e := 8 * (k : Int) + (v : Int)), rqA, rqA, Xwh i k hi hk, Xab, rqA, rqA, rqA, rqA, wkA (e := (k : Int) + 1), show (8 * (i : Int) + (v : Int)).toNat = 8 * i + v by omega, show (8 * (k : Int) + (v : Int)).toNat = 8 * k + v by omega]
   rfl) (fun i v a b s => by unfold Xhb; rw [Xan (by simp)])
 rw [e1, Xab, rqA, e2, Xab]
theorem Ycs (p : List Int) (hp : p.length = 64) (i v : Nat) (hi : i < 8) (hv : v < 8) : Xmm p i v = some (Ycw (Yos p i v) 8) := by
 obtain ⟨o, e, h⟩ := Xmv (f := Xej p i v) 8 (fun k s => s = Ycw (Yos p i v) k) (by
  intro k s hk g
  subst g
  unfold Xej
  simp only
  rw [syA, wkA (e := 8 * (i : Int)), wkA (e := 8 * (i : Int) + (k : Int)), rqA, Xr9 v k hv hk, Xab, wkA (e := (k : Int) + 1), show (8 * (i : Int) + (k : Int)).toNat = 8 * i + k by omega, Int.mul_comm (p.getD _ _)]
  exact ⟨_, rfl, rfl⟩) (by intro s; unfold Xej; rw [Xan (by simp)]) 0 rfl
 unfold Xmm
 rw [e, Xab, h]
theorem Xez (p : List Int) (hp : p.length = 64) : Xh9 p = some (Xgv p) := by
 have hm : maxLen = 9223372036854775807 := rfl
 unfold Xh9
 obtain ⟨o, e, ho⟩ := Xdd (f := Xc8 p) 8 (fun i s => s = (List.range (8 * i)).map fun j => Ycw (Yos p (j / 8) (j % 8)) 8) (by
  intro i s hi g
  subst g
  obtain ⟨r, er, hr⟩ := Xdd (f := Xc9 p ((i : Int), (List.range (8 * i)).map fun j => Ycw (Yos p (j / 8) (j % 8)) 8)) 8 (fun v s => s = (List.range (8 * i + v)).map fun j => Ycw (Yos p (j / 8) (j % 8)) 8) (by
   intro v s hv g
   subst g
   unfold Xc9
   simp only
   rw [syA, Ycs p hp i v hi hv, Xab, Xbe (by simp only [List.length_singleton, List.length_map, List.length_range]; omega), wkA (e := (v : Int) + 1)]
   refine ⟨_, rfl, ?_⟩
   rw [show 8 * i + (v + 1) = (8 * i + v) + 1 by omega, List.range_succ, List.map_append, List.map_singleton, show (8 * i + v) / 8 = i by omega, show (8 * i + v) % 8 = v by omega]) (by intro s; unfold Xc9; rw [Xan (by simp)]) _ rfl
  rw [Nat.add_zero] at er
  unfold Xc8
  simp only
  rw [syA, er, Xab, wkA (e := (i : Int) + 1)]
  exact ⟨_, rfl, by rw [hr, show 8 * (i + 1) = 8 * i + 8 by omega]⟩) (by intro s; unfold Xc8; rw [Xan (by simp)]) [] rfl
 have ho' : o = Xot p := by rw [ho]; rfl
 rw [e, Xab, ho']
 obtain ⟨o2, e2, ho2⟩ := Xdd (f := Xcp (Xot p)) 8 (fun i s => s = (List.range (8 * i)).map fun j => Ycw (Yol (Xot p) (j / 8) (j % 8)) 8) (by
  intro i s hi g
  subst g
  obtain ⟨r, er, hr⟩ := Xdd (f := Xcq (Xot p) ((i : Int), (List.range (8 * i)).map fun j => Ycw (Yol (Xot p) (j / 8) (j % 8)) 8)) 8 (fun v s => s = (List.range (8 * i + v)).map fun j => Ycw (Yol (Xot p) (j / 8) (j % 8)) 8) (by
   intro v s hv g
   obtain ⟨c, ec, hc⟩ := Xmv (f := Xcr (Xot p) ((i : Int), (List.range (8 * i)).map fun j => Ycw (Yol (Xot p) (j / 8) (j % 8)) 8) ((v : Int), s)) 8 (fun k x => x = Ycw (Yol (Xot p) i v) k) (by
    intro k x hk g
    subst g
    have hl := Yga p
    unfold Xcr
    simp only
    rw [syA, Xr9 i k hi hk, Xab, wkA (e := 8 * (k : Int)), wkA (e := 8 * (k : Int) + (v : Int)), rqA, rqA, wkA (e := (k : Int) + 1), show (8 * (k : Int) + (v : Int)).toNat = 8 * k + v by omega]
    exact ⟨_, rfl, rfl⟩) (by intro s; unfold Xcr; rw [Xan (by simp)]) 0 rfl
   subst g
   unfold Xcq
   simp only
   rw [syA, ec, Xab, Xbe (by simp only [List.length_singleton, List.length_map, List.length_range]; omega), wkA (e := (v : Int) + 1)]
   refine ⟨_, rfl, ?_⟩
   rw [hc, show 8 * i + (v + 1) = (8 * i + v) + 1 by omega, List.range_succ, List.map_append, List.map_singleton, show (8 * i + v) / 8 = i by omega, show (8 * i + v) % 8 = v by omega]) (by intro s; unfold Xcq; rw [Xan (by simp)]) _ rfl
  rw [Nat.add_zero] at er
  unfold Xcp
  simp only
  rw [syA, er, Xab, wkA (e := (i : Int) + 1)]
  exact ⟨_, rfl, by rw [hr, show 8 * (i + 1) = 8 * i + 8 by omega]⟩) (by intro s; unfold Xcp; rw [Xan (by simp)]) [] rfl
 rw [e2, Xab, ho2]
 rfl
theorem Xnq (l : List Int) (n B : Int) (hn : (l.length : Int) = n) (hn2 : n ≤ 1000000) (h : inB B l) : Xbf l n (-B) B = some true := by
 rw [Xin l n (-B) B (by omega), hn, beq_self_eq_true, Bool.and_true]
 congr 1
 rw [List.all_eq_true]
 intro x hx
 rw [decide_eq_true_eq]; exact h x hx
theorem Xuv (o : List Int) {f : Int × List Int → Option (Lp (Int × List Int) (List Int))} (n : Nat) (hn : n ≤ 64) (hl : o.length = n) (hf : ∀ v : Int × List Int, f v = sel (decide (v.1 < (n : Int))) (req (0 ≤ v.1 ∧ v.1 < v.2.length) <| req (v.1.toNat < v.2.length) <| bnd (Xdi (Xaa .i64 ((v.2.getD v.1.toNat 0) + 32)) 64) fun q => req (0 ≤ v.1 ∧ v.1 < v.2.length) <| req (v.1.toNat < v.2.length) <| some (.go (Xaa .i64 (v.1 + 1), (v.2.set v.1.toNat q)))) (some (.done v.2))) : bnd (Xh5 o) (fun q => some q.2) = bnd (loop f (0, o)) fun q => some q := by
 unfold Xh5
 have : Xmb o = f := by
  funext v
  rw [hf, ← hl]; rfl
 rw [this]
 cases loop f (0, o) <;> rfl
theorem Xyt (p : List Int) (hl : p.length = 64) (hb : inB 10000000 p) : Xg7 p = Xeg p := by
 unfold Xg7 Xeg
 rw [Xnq p 64 10000000 (by omega) (by omega) hb, Xbc p 64 10000000 (by omega) (by omega) (by omega) hb, Xab, Xab, Bool.not_true, Xaq, Xaq, Xwp p hl, Xez p hl, Xab, Xab]
 exact Xuv (Xgv p) 64 (by omega) (Xok p) (fun _ => rfl)
theorem Yhk (p : List Int) (hl : p.length = 64) (hb : inB 1000 p) : Xns p = Xj6 p := by
 unfold Xns Xj6
 rw [Xnq p 64 1000 (by omega) (by omega) hb, Xbc p 64 1000 (by omega) (by omega) (by omega) hb, Xab, Xab, Bool.not_true, Xaq, Xaq, Xwp p hl, Xez p hl, Xab]
def tgA (q : Int → Int → Int → Int → Option (Int × Int × Int × Int)) (v4 : (Int × (List Int))) : Option (Lp (Int × (List Int)) (List Int)) :=
 sel (decide (v4.1 < 16)) (
 req (0 ≤ v4.1 ∧ v4.1 < v4.2.length) <|
 req (v4.1.toNat < v4.2.length) <|
 req (0 ≤ (Xaa .i64 (v4.1 + 1)) ∧ (Xaa .i64 (v4.1 + 1)) < v4.2.length) <|
 req ((Xaa .i64 (v4.1 + 1)).toNat < v4.2.length) <|
 req (0 ≤ (Xaa .i64 (v4.1 + 2)) ∧ (Xaa .i64 (v4.1 + 2)) < v4.2.length) <|
 req ((Xaa .i64 (v4.1 + 2)).toNat < v4.2.length) <|
 req (0 ≤ (Xaa .i64 (v4.1 + 3)) ∧ (Xaa .i64 (v4.1 + 3)) < v4.2.length) <|
 req ((Xaa .i64 (v4.1 + 3)).toNat < v4.2.length) <|
 bnd (q (v4.2.getD v4.1.toNat 0) (v4.2.getD ((Xaa .i64 (v4.1 + 1)).toNat) 0) (v4.2.getD ((Xaa .i64 (v4.1 + 2)).toNat) 0) (v4.2.getD ((Xaa .i64 (v4.1 + 3)).toNat) 0)) fun q8 =>
 req (0 ≤ v4.1 ∧ v4.1 ≤ (Xaa .i64 (v4.1 + 4)) ∧ (Xaa .i64 (v4.1 + 4)) ≤ (v4.2.length : Int)) <|
 req ((v4.1.toNat + ((Xaa .i64 (v4.1 + 4)).toNat - v4.1.toNat) ≤ v4.2.length ∧ ([q8.1, q8.2.1, q8.2.2.1, q8.2.2.2]).length ≤ ((Xaa .i64 (v4.1 + 4)).toNat - v4.1.toNat))) <|
 some (.go (Xaa .i64 (v4.1 + 4), (over v4.2 v4.1.toNat ([q8.1, q8.2.1, q8.2.2.1, q8.2.2.2]))))) (
 some (.done v4.2))
def tgB (v17 : (Int × (List Int))) (q26 : (Int × Int × Int × Int)) (v28 : (Int × (List Int))) : Option (Lp (Int × (List Int)) (List Int)) :=
 sel (decide (v28.1 < 4)) (
 req (0 ≤ v28.1 ∧ v28.1 < ([q26.1, q26.2.1, q26.2.2.1, q26.2.2.2] : List Int).length) <|
 req (0 ≤ (Xaa .i64 (v17.1 + (Xaa .i64 (4 * v28.1)))) ∧ (Xaa .i64 (v17.1 + (Xaa .i64 (4 * v28.1)))) < v28.2.length) <|
 req ((Xaa .i64 (v17.1 + (Xaa .i64 (4 * v28.1)))).toNat < v28.2.length) <|
 some (.go (Xaa .i64 (v28.1 + 1), (v28.2.set ((Xaa .i64 (v17.1 + (Xaa .i64 (4 * v28.1)))).toNat) (([q26.1, q26.2.1, q26.2.2.1, q26.2.2.2] : List Int).getD v28.1.toNat 0))))) (
 some (.done v28.2))
noncomputable def tgC (q : Int → Int → Int → Int → Option (Int × Int × Int × Int)) (v17 : (Int × (List Int))) : Option (Lp (Int × (List Int)) (List Int)) :=
 sel (decide (v17.1 < 4)) (
 req (0 ≤ v17.1 ∧ v17.1 < v17.2.length) <|
 req (v17.1.toNat < v17.2.length) <|
 req (0 ≤ (Xaa .i64 (v17.1 + 4)) ∧ (Xaa .i64 (v17.1 + 4)) < v17.2.length) <|
 req ((Xaa .i64 (v17.1 + 4)).toNat < v17.2.length) <|
 req (0 ≤ (Xaa .i64 (v17.1 + 8)) ∧ (Xaa .i64 (v17.1 + 8)) < v17.2.length) <|
 req ((Xaa .i64 (v17.1 + 8)).toNat < v17.2.length) <|
 req (0 ≤ (Xaa .i64 (v17.1 + 12)) ∧ (Xaa .i64 (v17.1 + 12)) < v17.2.length) <|
 req ((Xaa .i64 (v17.1 + 12)).toNat < v17.2.length) <|
 bnd (q (v17.2.getD v17.1.toNat 0) (v17.2.getD ((Xaa .i64 (v17.1 + 4)).toNat) 0) (v17.2.getD ((Xaa .i64 (v17.1 + 8)).toNat) 0) (v17.2.getD ((Xaa .i64 (v17.1 + 12)).toNat) 0)) fun q26 =>
 bnd (loop (tgB v17 q26) (0, v17.2)) fun v30 =>
 some (.go (Xaa .i64 (v17.1 + 1), v30))) (
 some (.done v17.2))
noncomputable def Yoc (q : Int → Int → Int → Int → Option (Int × Int × Int × Int)) (p0 : (List Int)) : Option (List Int) :=
 bnd (Xgp p0) fun q1 =>
 bnd (loop (tgA q) (0, q1)) fun v7 =>
 bnd (loop (tgC q) (0, v7)) fun v25 =>
 some v25
theorem Ymo : Xcb = Yoc Xdo := rfl
theorem Ymp : Xdc = Yoc Xjk := rfl
abbrev Q4 := Int × Int × Int × Int
def Ygz (q : Q4) (i : Nat) : Int := [q.1, q.2.1, q.2.2.1, q.2.2.2].getD i 0
def Xrj (t : Int → Int → Int → Int → Q4) (p : List Int) : List Int := (List.range 16).map fun j => Ygz (t (p.getD (4 * (j / 4)) 0) (p.getD (4 * (j / 4) + 1) 0) (p.getD (4 * (j / 4) + 2) 0) (p.getD (4 * (j / 4) + 3) 0)) (j % 4)
def Xti (p : List Int) : List Int := (List.range 16).map fun j => p.getD (j % 4 * 4 + j / 4) 0
theorem Xoa (t : Int → Int → Int → Int → Q4) (p : List Int) : (Xrj t p).length = 16 := by simp [Xrj]
theorem Xqa (p : List Int) : (Xti p).length = 16 := by simp [Xti]
theorem Ygx {l m : List Int} {i : Nat} (h : i + m.length ≤ l.length) (j : Nat) : (over l i m).getD j 0 = if i ≤ j ∧ j < i + m.length then m.getD (j - i) 0 else l.getD j 0 := by
 rw [List.getD_eq_getElem?_getD, Yjh h]
 split <;> rw [List.getD_eq_getElem?_getD]
theorem Yju {q : Int → Int → Int → Int → Option Q4} {t : Int → Int → Int → Int → Q4} (hq : ∀ a b c d, q a b c d = some (t a b c d)) (p : List Int) (hp : p.length = 16) : Yoc q p = some (Xti (Xrj t (Xti (Xrj t p)))) := by
 have hm : maxLen = 9223372036854775807 := rfl
 unfold Yoc Xgp
 rw [Xbe (by simp only [List.length_nil]; omega), Xab, List.nil_append]
 have hA : loop (tgA q) (0, p) = some (Xrj t p) := by
  have key : ∀ r : Nat, r ≤ 4 → ∀ s : List Int, s.length = 16 → (∀ j, j < 4 * r → s.getD j 0 = (Xrj t p).getD j 0) → (∀ j, 4 * r ≤ j → s.getD j 0 = p.getD j 0) → loop (tgA q) (((4 * r : Nat) : Int), s) = some (Xrj t p) := by
   refine Xg0 _ ?_ ?_
   ·
    intro s h1 h2 _
    refine Xib ?_
    unfold tgA
    rw [Xan (by simp), Xni h1 (Xoa t p) h2]
   ·
    intro r hr ih s h1 h2 h3
    refine lgo (y := (((4 * (r + 1) : Nat) : Int), over s (4 * r) [Ygz (t (p.getD (4 * r) 0) (p.getD (4 * r + 1) 0) (p.getD (4 * r + 2) 0) (p.getD (4 * r + 3) 0)) 0, Ygz (t (p.getD (4 * r) 0) (p.getD (4 * r + 1) 0) (p.getD (4 * r + 2) 0) (p.getD (4 * r + 3) 0)) 1, Ygz (t (p.getD (4 * r) 0) (p.getD (4 * r + 1) 0) (p.getD (4 * r + 2) 0) (p.getD (4 * r + 3) 0)) 2, Ygz (t (p.getD (4 * r) 0) (p.getD (4 * r + 1) 0) (p.getD (4 * r + 2) 0) (p.getD (4 * r + 3) 0)) 3])) ?_ (ih _ ?_ ?_ ?_)
    ·
     unfold tgA
     simp only
     rw [syA, wkA (e := ((4 * r : Nat) : Int) + 1), wkA (e := ((4 * r : Nat) : Int) + 2), wkA (e := ((4 * r : Nat) : Int) + 3), wkA (e := ((4 * r : Nat) : Int) + 4)]
     rw [rqA, rqA, rqA, rqA, rqA, rqA, rqA, rqA, hq, Xab, rqA, Xbe (by simp only [List.length_cons, List.length_nil]; omega)]
     rw [show (((4 * r : Nat) : Int) + 1).toNat = 4 * r + 1 by omega, show (((4 * r : Nat) : Int) + 2).toNat = 4 * r + 2 by omega, show (((4 * r : Nat) : Int) + 3).toNat = 4 * r + 3 by omega, Int.toNat_natCast, h3 _ (by omega), h3 _ (by omega), h3 _ (by omega), h3 _ (by omega)]
     rfl
    ·
     rw [Yai (by simp only [List.length_cons, List.length_nil]; omega)]; exact h1
    ·
     intro j hj
     rw [Ygx (by simp only [List.length_cons, List.length_nil]; omega)]
     simp only [List.length_cons, List.length_nil]
     by_cases h : 4 * r ≤ j
     ·
      rw [if_pos (by omega)]
      unfold Xrj
      rw [Xb8 _ (by omega), show 4 * (j / 4) = 4 * r by omega]
      obtain h | h | h | h : j = 4 * r ∨ j = 4 * r + 1 ∨ j = 4 * r + 2 ∨ j = 4 * r + 3 := by omega
      ·
       rw [h, show 4 * r - 4 * r = 0 by omega, show (4 * r) % 4 = 0 by omega]; rfl
      ·
       rw [h, show 4 * r + 1 - 4 * r = 1 by omega, show (4 * r + 1) % 4 = 1 by omega]; rfl
      ·
       rw [h, show 4 * r + 2 - 4 * r = 2 by omega, show (4 * r + 2) % 4 = 2 by omega]; rfl
      ·
       rw [h, show 4 * r + 3 - 4 * r = 3 by omega, show (4 * r + 3) % 4 = 3 by omega]; rfl
     ·
      rw [if_neg (by omega)]; exact h2 j (by omega)
    ·
     intro j hj
     rw [Ygx (by simp only [List.length_cons, List.length_nil]; omega), if_neg (by simp only [List.length_cons, List.length_nil]; omega)]
     exact h3 j (by omega)
  exact key 0 (by omega) p hp (fun j hj => by omega) fun _ _ => rfl
 rw [hA, Xab]
 generalize hR : Xrj t p = R
 have hl : R.length = 16 := by rw [← hR]; exact Xoa t p
 have hC : loop (tgC q) (0, R) = some (Xti (Xrj t (Xti R))) := by
  have at4 : ∀ j : Nat, j < 16 → (Xti (Xrj t (Xti R))).getD j 0 = Ygz (t (R.getD (j % 4) 0) (R.getD (j % 4 + 4) 0) (R.getD (j % 4 + 8) 0) (R.getD (j % 4 + 12) 0)) (j / 4) := by
   intro j hj
   rw [Xti, Xb8 _ hj, Xrj, Xb8 _ (by omega), Xti, Xb8 _ (by omega), Xb8 _ (by omega), Xb8 _ (by omega), Xb8 _ (by omega)]
   rw [show (j % 4 * 4 + j / 4) / 4 = j % 4 by omega, show (j % 4 * 4 + j / 4) % 4 = j / 4 by omega, show 4 * (j % 4) % 4 * 4 + 4 * (j % 4) / 4 = j % 4 by omega, show (4 * (j % 4) + 1) % 4 * 4 + (4 * (j % 4) + 1) / 4 = j % 4 + 4 by omega, show (4 * (j % 4) + 2) % 4 * 4 + (4 * (j % 4) + 2) / 4 = j % 4 + 8 by omega, show (4 * (j % 4) + 3) % 4 * 4 + (4 * (j % 4) + 3) / 4 = j % 4 + 12 by omega]
  obtain ⟨o, e, o1, o2, _⟩ := Xjd (f := tgC q) 4 (fun c s => s.length = 16 ∧ (∀ j, j < 16 → j % 4 < c → s.getD j 0 = (Xti (Xrj t (Xti R))).getD j 0) ∧ ∀ j, j < 16 → c ≤ j % 4 → s.getD j 0 = R.getD j 0) (by
   intro c s hc ⟨g1, g2, g3⟩
   obtain ⟨r, er, r1, r2, r3⟩ := Xjd (f := tgB ((c : Int), s) (t (R.getD c 0) (R.getD (c + 4) 0) (R.getD (c + 8) 0) (R.getD (c + 12) 0))) 4 (fun i s' => s'.length = 16 ∧ (∀ j, j < 16 → j % 4 ≠ c → s'.getD j 0 = s.getD j 0) ∧ ∀ j, j < 16 → j % 4 = c → j / 4 < i → s'.getD j 0 = Ygz (t (R.getD c 0) (R.getD (c + 4) 0) (R.getD (c + 8) 0) (R.getD (c + 12) 0)) (j / 4)) (by
    intro i s' hi ⟨k1, k2, k3⟩
    unfold tgB
    simp only
    rw [syA, Xbe (by simp only [List.length_cons, List.length_nil]; omega), wkA (e := 4 * (i : Int)), wkA (e := (c : Int) + 4 * (i : Int)), rqA, rqA, wkA (e := (i : Int) + 1), show ((c : Int) + 4 * (i : Int)).toNat = c + 4 * i by omega, Int.toNat_natCast]
    refine ⟨_, rfl, by rw [List.length_set]; exact k1, fun j hj hjc => ?_, fun j hj hjc hji => ?_⟩
    ·
     rw [Xdn _ _ _ _ (by omega), if_neg (by omega)]; exact k2 j hj hjc
    ·
     rw [Xdn _ _ _ _ (by omega)]
     by_cases h : c + 4 * i = j
     ·
      rw [if_pos h, show j / 4 = i by omega]; rfl
     ·
      rw [if_neg h]; exact k3 j hj hjc (by omega)) (fun z _ => by unfold tgB; rw [Xan (by simp)]) s ⟨g1, fun _ _ _ => rfl, fun j hj hjc hji => by omega⟩
   unfold tgC
   simp only
   rw [syA, wkA (e := (c : Int) + 4), wkA (e := (c : Int) + 8), wkA (e := (c : Int) + 12), rqA, rqA, rqA, rqA, rqA, rqA, rqA, rqA, hq, Xab, show ((c : Int) + 4).toNat = c + 4 by omega, show ((c : Int) + 8).toNat = c + 8 by omega, show ((c : Int) + 12).toNat = c + 12 by omega, Int.toNat_natCast, g3 c (by omega) (by omega), g3 (c + 4) (by omega) (by omega), g3 (c + 8) (by omega) (by omega), g3 (c + 12) (by omega) (by omega), er, Xab, wkA (e := (c : Int) + 1)]
   refine ⟨r, rfl, r1, fun j hj hjc => ?_, fun j hj hjc => ?_⟩
   ·
    by_cases h : j % 4 = c
    ·
     rw [r3 j hj h (by omega), at4 j hj, h]
    ·
     rw [r2 j hj h]; exact g2 j hj (by omega)
   ·
    rw [r2 j hj (by omega)]; exact g3 j hj (by omega)) (fun z _ => by unfold tgC; rw [Xan (by simp)]) R ⟨hl, fun j hj hjc => by omega, fun _ _ _ => rfl⟩
  rw [e]
  congr 1
  exact Xni o1 (Xqa _) fun j hj => o2 j hj (by omega)
 rw [hC, Xab]
theorem Xi3 (p : List Int) (hl : p.length = 16) : Xe5 p = some (Xti p) := by
 unfold Xe5
 rw [rqA]
 obtain ⟨o, e, o1, o2⟩ := Xjd (f := Xdu p) 16 (fun i s => s.length = 16 ∧ ∀ j, j < 16 → j % 4 * 4 + j / 4 < i → s.getD j 0 = p.getD (j % 4 * 4 + j / 4) 0) (by
  intro i s hi ⟨g1, g2⟩
  unfold Xdu
  simp only
  rw [syA, rqA, rqA, rqA, Xcg (by omega), Xbk (by omega), wkA (e := (i : Int) / 4), wkA (e := (i : Int) % 4 * 4), wkA (e := (i : Int) % 4 * 4 + (i : Int) / 4), rqA, rqA, wkA (e := (i : Int) + 1), Int.toNat_natCast, show ((i : Int) % 4 * 4 + (i : Int) / 4).toNat = i % 4 * 4 + i / 4 by omega]
  refine ⟨_, rfl, by rw [List.length_set]; exact g1, fun j hj hji => ?_⟩
  rw [Xdn _ _ _ _ (by omega)]
  by_cases h : i % 4 * 4 + i / 4 = j
  ·
   rw [if_pos h, show j % 4 * 4 + j / 4 = i by omega]
  ·
   rw [if_neg h]; exact g2 j hj (by omega)) (fun z _ => by unfold Xdu; rw [Xan (by simp)]) (List.replicate (16 : Int).toNat 0) ⟨by simp, fun j hj h => by omega⟩
 rw [e, Xab]
 congr 1
 exact Xni o1 (Xqa p) fun j hj => by rw [o2 j hj (by omega), Xti, Xb8 _ hj]
theorem Yg4 {f : Int × List Int → Option (Lp (Int × List Int) (List Int))} {t : Int → Int → Int → Int → Q4} (p : List Int) (h : ∀ (i : Nat) (s : List Int), i < 4 → s.length = 4 * i → f ((i : Int), s) = some (.go (((i + 1 : Nat) : Int), s ++ [(t (p.getD (4 * i) 0) (p.getD (4 * i + 1) 0) (p.getD (4 * i + 2) 0) (p.getD (4 * i + 3) 0)).1, (t (p.getD (4 * i) 0) (p.getD (4 * i + 1) 0) (p.getD (4 * i + 2) 0) (p.getD (4 * i + 3) 0)).2.1, (t (p.getD (4 * i) 0) (p.getD (4 * i + 1) 0) (p.getD (4 * i + 2) 0) (p.getD (4 * i + 3) 0)).2.2.1, (t (p.getD (4 * i) 0) (p.getD (4 * i + 1) 0) (p.getD (4 * i + 2) 0) (p.getD (4 * i + 3) 0)).2.2.2]))) (he : ∀ s, f (4, s) = some (.done s)) : loop f (0, []) = some (Xrj t p) := by
 obtain ⟨o, e, ho⟩ := Xjd (f := f) 4 (fun i s => s = (List.range (4 * i)).map fun j => Ygz (t (p.getD (4 * (j / 4)) 0) (p.getD (4 * (j / 4) + 1) 0) (p.getD (4 * (j / 4) + 2) 0) (p.getD (4 * (j / 4) + 3) 0)) (j % 4)) (by
  intro i s hi g
  refine ⟨_, h i s hi (by rw [g]; simp), ?_⟩
  rw [g, show 4 * (i + 1) = 4 * i + 1 + 1 + 1 + 1 by omega]
  simp only [List.range_succ, List.map_append, List.map_singleton, List.append_assoc]
  rw [show (4 * i + 1 + 1 + 1) / 4 = i by omega, show (4 * i + 1 + 1) / 4 = i by omega, show (4 * i + 1) / 4 = i by omega, show 4 * i / 4 = i by omega, show (4 * i + 1 + 1 + 1) % 4 = 3 by omega, show (4 * i + 1 + 1) % 4 = 2 by omega, show (4 * i + 1) % 4 = 1 by omega, show 4 * i % 4 = 0 by omega]
  rfl) (fun z _ => he z) [] rfl
 rw [e, ho]; rfl
def t4F (a b c d : Int) : Q4 := (Xaa .i64 ((Xaa .i64 ((Xaa .i64 (a + b)) + c)) + d), Xaa .i64 ((Xaa .i64 ((Xaa .i64 ((Xaa .i64 (2 * a)) + b)) - c)) - (Xaa .i64 (2 * d))), Xaa .i64 ((Xaa .i64 ((Xaa .i64 (a - b)) - c)) + d), Xaa .i64 ((Xaa .i64 ((Xaa .i64 (a - (Xaa .i64 (2 * b)))) + (Xaa .i64 (2 * c)))) - d))
theorem Ybx (a b c d : Int) : Xjk a b c d = some (t4F a b c d) := rfl
def Yc2 (a b : Int) : Int := Xaa .i64 (if a.tmod b < 0 then Xaa .i64 (a.tdiv b) - 1 else a.tdiv b)
theorem Xq4 (a b : Int) (hb : b ≠ 0) : Xdi a b = some (Yc2 a b) := by
 unfold Xdi Yc2
 rw [Xbe hb, Xbe hb, Ykj]
 split <;> rfl
def t4B (a b c d : Int) : Q4 := (Xaa .i64 ((Xaa .i64 (a + c)) + (Xaa .i64 (b + Yc2 d 2))), Xaa .i64 ((Xaa .i64 (a - c)) + (Xaa .i64 (Yc2 b 2 - d))), Xaa .i64 ((Xaa .i64 (a - c)) - (Xaa .i64 (Yc2 b 2 - d))), Xaa .i64 ((Xaa .i64 (a + c)) - (Xaa .i64 (b + Yc2 d 2))))
theorem Xtp (a b c d : Int) : Xdo a b c d = some (t4B a b c d) := by
 unfold Xdo
 rw [Yhx, Xq4 b 2 (by omega), Xq4 d 2 (by omega), Xab, Xab]; rfl
theorem Xpz (p : List Int) (hl : p.length = 16) : Xgt p = some (Xrj t4B p) := by
 have hm : maxLen = 9223372036854775807 := rfl
 unfold Xgt
 rw [Yg4 (f := Xc7 p) (t := t4B) p (by
  intro i s hi hs
  unfold Xc7
  simp only
  rw [syA, wkA (e := 4 * (i : Int)), wkA (e := 4 * (i : Int) + 1), wkA (e := 4 * (i : Int) + 2), wkA (e := 4 * (i : Int) + 3), rqA, rqA, rqA, rqA, show (4 * (i : Int)).toNat = 4 * i by omega, show (4 * (i : Int) + 1).toNat = 4 * i + 1 by omega, show (4 * (i : Int) + 2).toNat = 4 * i + 2 by omega, show (4 * (i : Int) + 3).toNat = 4 * i + 3 by omega, Xq4 _ 2 (by omega), Xab, Xq4 _ 2 (by omega), Xab, wkA (e := (i : Int) + 1), Xbe (by simp only [List.length_cons, List.length_nil]; omega)]
  rfl) (by intro s; unfold Xc7; rw [Xan (by simp)]), Xab]
theorem Xqs (p : List Int) (hl : p.length = 16) : Xh8 p = some (Xrj t4F p) := by
 have hm : maxLen = 9223372036854775807 := rfl
 unfold Xh8
 rw [Yg4 (f := Xdv p) (t := t4F) p (by
  intro i s hi hs
  unfold Xdv
  simp only
  rw [syA, wkA (e := 4 * (i : Int)), wkA (e := 4 * (i : Int) + 1), wkA (e := 4 * (i : Int) + 2), wkA (e := 4 * (i : Int) + 3), rqA, rqA, rqA, rqA, show (4 * (i : Int)).toNat = 4 * i by omega, show (4 * (i : Int) + 1).toNat = 4 * i + 1 by omega, show (4 * (i : Int) + 2).toNat = 4 * i + 2 by omega, show (4 * (i : Int) + 3).toNat = 4 * i + 3 by omega, wkA (e := (i : Int) + 1), Xbe (by simp only [List.length_cons, List.length_nil]; omega)]
  rfl) (by intro s; unfold Xdv; rw [Xan (by simp)]), Xab]
theorem Ybn (p : List Int) (hl : p.length = 16) (hb : inB 10000000 p) : Xih p = Xi0 p := by
 unfold Xih Xi0
 rw [Xnq p 16 10000000 (by omega) (by omega) hb, Xbc p 16 10000000 (by omega) (by omega) (by omega) hb, Xab, Xab, Bool.not_true, Xaq, Xaq, Ymo, Yju Xtp p hl, Xpz p hl, Xab, Xab, Xi3 _ (Xoa _ _), Xab, Xpz _ (Xqa _), Xab, Xi3 _ (Xoa _ _), Xab]
 exact Xuv _ 16 (by omega) (Xqa _) (fun _ => rfl)
theorem Yjx (p : List Int) (hl : p.length = 16) (hb : inB 1000 p) : Xqd p = Xqp p := by
 unfold Xqd Xqp
 rw [Xnq p 16 1000 (by omega) (by omega) hb, Xbc p 16 1000 (by omega) (by omega) (by omega) hb, Xab, Xab, Bool.not_true, Xaq, Xaq, Ymp, Yju Ybx p hl, Xqs p hl, Xab, Xab, Xi3 _ (Xoa _ _), Xab, Xqs _ (Xqa _), Xab, Xi3 _ (Xoa _ _), Xab]
theorem Ykf {β : Type} {c : Prop} [Decidable c] {k k' : Option β} (h : c → k = k') : req c k = req c k' := by
 by_cases hc : c
 ·
  rw [Xbe hc, Xbe hc, h hc]
 ·
  unfold req; rw [if_neg hc, if_neg hc]
theorem Xjh {β : Type} {c : Prop} [Decidable c] {k k' : Option β} (h0 : c) (h : k = k') : req c k = k' := by rw [Xbe h0, h]
theorem Xuu {β : Type} {b : Bool} {x x' y y' : β} (h : b = true → x = x') (h2 : b = false → y = y') : sel b x y = sel b x' y' := by
 cases b
 ·
  exact h2 rfl
 ·
  exact h rfl
theorem Yj2 {α β : Type} {x x' : Option α} {f f' : α → Option β} (h : x = x') (h2 : ∀ a, x' = some a → f a = f' a) : bnd x f = bnd x' f' := by
 subst h
 cases x with
 | none => rfl
 | some a => exact h2 a rfl
theorem Ylt {V O : Type} {f : V → Option (Lp V O)} (I : V → Prop) (J : O → Prop) (h1 : ∀ v v', I v → f v = some (.go v') → I v') (h2 : ∀ v o, I v → f v = some (.done o) → J o) {v : V} {o : O} (h : loop f v = some o) (hv : I v) : J o := by
 obtain ⟨k, hk⟩ := Xg1.1 h
 clear h
 induction k generalizing v with
 | zero => cases hk
 | succ k ih =>
  rw [it] at hk
  cases e : f v with
  | none => rw [e] at hk; cases hk
  | some s =>
   rw [e] at hk
   cases s with
   | go y => exact ih (h1 v y hv e) hk
   | done o' => cases hk; exact h2 v o hv e
theorem Xyw (l qp p : Int) (h0 : 0 ≤ qp ∧ qp ≤ 40) (hp : 0 ≤ p ∧ p ≤ 15) : Xg9 l qp p = Xhe l qp p := by
 unfold Xg9 Xhe
 rw [Xak, Xai, Ydo qp p h0 hp]
theorem Xyv (l qp : Int) (h0 : 0 ≤ qp ∧ qp ≤ 40) : Xg8 l qp = Xeh l qp := by
 unfold Xg8 Xeh
 rw [Xak, Xai, Xp6 qp h0]
theorem Yav (x : Int) (h : -1000000000000 ≤ x ∧ x ≤ 1000000000000) : Xkw x = Xfe x := by
 unfold Xkw Xfe
 rw [wkA]
 by_cases hx : x < 0
 ·
  rw [Xbp hx, if_pos (by omega)]
 ·
  rw [Xan hx, if_neg (by omega)]
theorem Ymd : ∀ q : Fin 41, ∀ p : Fin 16, Xku (q.val : Int) (p.val : Int) = Xk1 (q.val : Int) (p.val : Int) := by decide +kernel
theorem Ydp (qp p : Int) (h0 : 0 ≤ qp ∧ qp ≤ 40) (hp : 0 ≤ p ∧ p ≤ 15) : Xku qp p = Xk1 qp p := by
 have := Ymd ⟨qp.toNat, by omega⟩ ⟨p.toNat, by omega⟩
 simp only at this
 rwa [show ((qp.toNat : Nat) : Int) = qp by omega, show ((p.toNat : Nat) : Int) = p by omega] at this
theorem Yhd (x w : Int) : Xmc x w = Xfq w x := rfl
theorem Xwy (w qp : Int) (h0 : 0 ≤ qp ∧ qp ≤ 40) : Xfx w qp = Xdt w qp := by
 unfold Xfx Xdt
 rw [Xak, Xai, Xak, Xai, Xp6 qp h0]
 by_cases hw : -20000 ≤ w ∧ w ≤ 20000
 ·
  rw [Yav w (by omega)]; rfl
 ·
  rw [decide_eq_false hw]; rfl
theorem Yr0 (qp : Int) (h0 : 0 ≤ qp ∧ qp ≤ 40) : Xaa .u64 (Xaa .i64 (15 + (Xaa .i64 (qp.tdiv 6)))) = Xaa .i64 (15 + (Xaa .i64 (qp.tdiv 6))) := by
 have h : ∀ q : Fin 41, Xaa .u64 (Xaa .i64 (15 + (Xaa .i64 ((q.val : Int).tdiv 6)))) = Xaa .i64 (15 + (Xaa .i64 ((q.val : Int).tdiv 6))) := by decide +kernel
 have := h ⟨qp.toNat, by omega⟩
 simp only at this
 rwa [show ((qp.toNat : Nat) : Int) = qp by omega] at this
theorem Xwz (w qp p : Int) (h0 : 0 ≤ qp ∧ qp ≤ 40) (hp : 0 ≤ p ∧ p ≤ 15) : Xf0 w qp p = Xgh w qp p := by
 unfold Xf0 Xgh
 have h15 := Yr0 qp h0
 simp only [Xak, Xai, Ydp qp p h0 hp, h15, Yhd]
 by_cases hw : -20000 ≤ w ∧ w ≤ 20000
 ·
  simp only [Yav w (by omega)]
 ·
  simp only [decide_eq_false hw, Xab, Xaq, Xav]
def Xur (k : Int) (v7 : Int × List Int) : Option (Lp (Int × List Int) (List Int)) :=
 sel (decide (v7.1 < 4)) (
 bnd (it (Xlg k v7) 10 (0, v7.2)) fun v18 =>
 some (.go (Xaa .i64 (v7.1 + 1), v18))) (
 some (.done v7.2))
theorem Yg2 {k : Int} {v : Int × List Int} {x : Lp (Int × List Int) (List Int)} (h : Xur k v = some x) : Xhl k v = some x := by
 unfold Xur at h
 unfold Xhl
 rcases Xhn h with ⟨hb, h⟩ | ⟨hb, h⟩
 ·
  rw [hb, Xav]
  obtain ⟨a, h1, h2⟩ := Xbj h
  rw [Xg1.2 ⟨10, h1⟩, Xab]
  exact h2
 ·
  rw [hb, Xaq]; exact h
def Xiv (k : Int) : List Int := (it (Xur k) 10 (0, [])).getD []
def Xkz (k i : Int) : Int := (Xaa .i64 ((Xaa .i64 ((Xaa .i64 (8 * (Xaa .i64 ((Xaa .i64 ((Xaa .i64 (k.tdiv 2)) * 4)) + (Xaa .i64 (i.tdiv 4)))))) + (Xaa .i64 ((k.tmod 2) * 4)))) + (i.tmod 4)))
theorem Yib : ∀ k : Fin 4, (it (Xur (k.val : Int)) 10 (0, [])).isSome = true ∧ (Xiv (k.val : Int)).length = 16 ∧ ∀ i : Fin 16, (Xiv (k.val : Int)).getD i.val 0 = Xkz (k.val : Int) (i.val : Int) ∧ 0 ≤ Xkz (k.val : Int) (i.val : Int) ∧ Xkz (k.val : Int) (i.val : Int) < 64 := by decide +kernel
theorem Xl8 (k : Nat) (hk : k < 4) : Xh2 k = some (Xiv k) ∧ (Xiv k).length = 16 ∧ ∀ i : Nat, i < 16 → (Xiv k).getD i 0 = Xkz k i ∧ 0 ≤ Xkz k i ∧ Xkz k i < 64 := by
 obtain ⟨h1, h2, h3⟩ := Yib ⟨k, hk⟩
 refine ⟨?_, h2, fun i hi => h3 ⟨i, hi⟩⟩
 obtain ⟨o, ho⟩ := Option.isSome_iff_exists.1 h1
 have hl := Yh7 10 (Yni (fun v y => Yg2 (k := (k : Int))) 10 _ ho)
 unfold Xh2
 rw [hl, Xab]
 unfold Xiv; simp only at ho; rw [ho]; rfl
theorem Xpk (p : List Int) (c : Xdm) (hc : Xe1 c = true) (hp : Xwu p = true) : Xfy p c = Xbd p c := by
 have hq := Xkr hc
 obtain ⟨hl, hb⟩ := Xsx hp
 unfold Xfy Xbd
 rw [Xby, Xdf, Xnz p (by omega), hp, hc, Xbc p 64 5000 (by omega) (by omega) (by omega) hb]
 simp only [Xab, Xav, Bool.not_true, Xaq]
 rw [Xp7 8 (Or.inr rfl) p (by omega)]
 refine Xuu (fun _ => rfl) fun _ => Xuu (fun _ => ?_) fun _ => ?_
 ·
  obtain ⟨w, ew, w1, w2⟩ := Xey 8 (Or.inr rfl) p 5000 (by omega) (by omega) hb
  rw [ew, Xab, Xab]
  have hloop : loop (Xd5 c (w, true)) (0, (w, true).1) = loop (Xa0 c) (0, (w, true).1) := by
   have : Xd5 c (w, true) = Xa0 c := by
    funext v
    unfold Xd5 Xa0
    simp only [Xyv _ _ hq, w1, hl]
    rfl
   rw [this]
  rw [hloop]
  obtain ⟨l, el, l1, l2⟩ := Xki (f := Xa0 c) 64 (fun x => -5000 ≤ x ∧ x ≤ 5000) (fun x => -5760000 ≤ x ∧ x ≤ 5760000) (by
   intro i l hi hll hx
   obtain ⟨d, ed, d1, d2⟩ := Xod (l.getD i 0) c.Qp hx hq
   unfold Xa0
   simp only [Int.toNat_natCast]
   rw [syA, rqA, rqA, ed, Xab, rqA, rqA, wkA (e := (i : Int) + 1)]
   exact ⟨d, rfl, d1, d2⟩) (by intro s; unfold Xa0; rw [Xan (by simp)]) w (by omega) w2
  simp only [el, Xab]
  rw [Xyt l l1 (Xkg l2 (by omega))]
 ·
  refine Ykf fun _ => Yj2 ?_ fun _ _ => rfl
  refine Xjz (fun v => (∃ k : Nat, v.1 = (k : Int) ∧ k ≤ 4) ∧ v.2.length = 64) ?_ ?_ ⟨⟨0, rfl, by omega⟩, by simp⟩
  ·
   intro ⟨k0, s⟩ ⟨⟨k, ek, hk⟩, hs⟩
   simp only at ek hs
   subst ek
   unfold Xhv Xco
   simp only
   refine Xuu (fun hk4 => ?_) fun _ => rfl
   have hk4 : k < 4 := by have := of_decide_eq_true hk4; omega
   rw [wkA (e := 16 * (k : Int)), wkA (e := 16 * (k : Int) + 16)]
   refine Ykf fun _ => ?_
   rw [show (16 * (k : Int)).toNat = 16 * k by omega, show (16 * (k : Int) + 16).toNat - 16 * k = 16 by omega]
   have hcut : ((p.drop (16 * k)).take 16).length = 16 := by rw [List.length_take, List.length_drop]; omega
   obtain ⟨a, ea, a1, a2⟩ := Xey 4 (Or.inl rfl) ((p.drop (16 * k)).take 16) 5000 (by omega) (by omega) (Yi4 (Yi2 hb _) _)
   rw [Xp7 4 (Or.inl rfl) _ (by omega), ea, Xab, Xab]
   have hloop : loop (Xdp c (a, true)) (0, (a, true).1) = loop (Xa6 c) (0, (a, true).1) := by
    have : Xdp c (a, true) = Xa6 c := by
     funext v
     unfold Xdp Xa6
     simp only [show ((a.length : Nat) : Int) = 16 by omega]
     refine Xuu (fun h16 => ?_) fun _ => rfl
     have := of_decide_eq_true h16
     refine Ykf fun h0 => Ykf fun _ => ?_
     rw [Xyw _ _ _ hq (by omega)]
    rw [this]
   rw [hloop]
   obtain ⟨l, el, l1, l2⟩ := Xki (f := Xa6 c) 16 (fun x => -5000 ≤ x ∧ x ≤ 5000) (fun x => -10000000 ≤ x ∧ x ≤ 10000000) (by
    intro i l hi hll hx
    obtain ⟨d, ed, d1, d2⟩ := Xoe (l.getD i 0) c.Qp i hx hq (by omega)
    unfold Xa6
    simp only [Int.toNat_natCast]
    rw [syA, rqA, rqA, ed, Xab, rqA, rqA, wkA (e := (i : Int) + 1)]
    exact ⟨d, rfl, d1, d2⟩) (by intro s; unfold Xa6; rw [Xan (by simp)]) a (by omega) a2
   obtain ⟨b, eb, b1, b2⟩ := Xpw l l1 l2
   obtain ⟨q1, q2, q3⟩ := Xl8 k hk4
   simp only [el, Xab]
   rw [Ybn l l1 l2, eb, Xab, Xab, q1, Xab]
   refine Yj2 ?_ fun _ _ => rfl
   have : Xe7 b (Xiv k) = Xbh ((k : Int), s) b := by
    funext v
    unfold Xe7 Xbh
    simp only [show (((Xiv k).length : Nat) : Int) = 16 by omega]
    refine Xuu (fun h16 => ?_) fun _ => rfl
    have h16 := of_decide_eq_true h16
    by_cases h0 : 0 ≤ v.1
    ·
     obtain ⟨i, hi⟩ : ∃ i : Nat, v.1 = (i : Int) := ⟨v.1.toNat, by omega⟩
     obtain ⟨v1, v2⟩ := v
     simp only at hi h0 h16
     subst hi
     obtain ⟨r1, r2, r3⟩ := q3 i (by omega)
     have e1 : (Xaa .i64 ((Xaa .i64 ((Xaa .i64 (8 * (Xaa .i64 ((Xaa .i64 ((Xaa .i64 ((k : Int).tdiv 2)) * 4)) + (Xaa .i64 ((i : Int).tdiv 4)))))) + (Xaa .i64 (((k : Int).tmod 2) * 4)))) + ((i : Int).tmod 4))) = Xkz k i := rfl
     simp only [Int.toNat_natCast, r1, e1]
     refine Xjh (by omega) (Xjh (by omega) (Xjh (by omega) (Xjh (by omega) ?_)))
     refine (Xjh (by omega) (Xjh (by omega) (Xjh (by omega) (Xjh (by omega) (Xjh (by omega) (Xjh (by omega) ?_)))))).symm
     rfl
    ·
     unfold req
     rw [if_neg (by omega), if_pos (by omega), if_pos (by omega), if_pos (by omega), if_pos (by omega), if_neg (by omega)]
   rw [this]
  ·
   intro ⟨k0, s⟩ v' ⟨⟨k, ek, hk⟩, hs⟩ he
   simp only at ek hs
   subst ek
   unfold Xco at he
   simp only at he
   rcases Xhn he with ⟨hb4, he⟩ | ⟨_, he⟩
   ·
    have hk4 : k < 4 := by have := of_decide_eq_true hb4; omega
    obtain ⟨_, he⟩ := Xaw he
    obtain ⟨a, _, he⟩ := Xbj he
    obtain ⟨l, _, he⟩ := Xbj he
    obtain ⟨b, _, he⟩ := Xbj he
    obtain ⟨r, hr, he⟩ := Xbj he
    rw [wkA (e := (k : Int) + 1)] at he
    cases he
    refine ⟨⟨k + 1, rfl, by omega⟩, ?_⟩
    refine Ylt (f := Xbh ((k : Int), s) b) (fun v => v.2.length = 64) (fun o => o.length = 64) ?_ ?_ hr hs
    ·
     intro v v' hv he
     unfold Xbh at he
     rcases Xhn he with ⟨_, he⟩ | ⟨_, he⟩
     ·
      obtain ⟨_, he⟩ := Xaw he
      obtain ⟨_, he⟩ := Xaw he
      obtain ⟨_, he⟩ := Xaw he
      obtain ⟨_, he⟩ := Xaw he
      obtain ⟨_, he⟩ := Xaw he
      obtain ⟨_, he⟩ := Xaw he
      obtain ⟨_, he⟩ := Xaw he
      obtain ⟨_, he⟩ := Xaw he
      cases he
      simp only [List.length_set]; exact hv
     ·
      cases he
    ·
     intro v o hv he
     unfold Xbh at he
     rcases Xhn he with ⟨_, he⟩ | ⟨_, he⟩
     ·
      obtain ⟨_, he⟩ := Xaw he
      obtain ⟨_, he⟩ := Xaw he
      obtain ⟨_, he⟩ := Xaw he
      obtain ⟨_, he⟩ := Xaw he
      obtain ⟨_, he⟩ := Xaw he
      obtain ⟨_, he⟩ := Xaw he
      obtain ⟨_, he⟩ := Xaw he
      obtain ⟨_, he⟩ := Xaw he
      cases he
     ·
      cases he; exact hv
   ·
    cases he
theorem Yje {S O : Type} {f g : Int × S → Option (Lp (Int × S) O)} (n : Nat) (I : Nat → S → Prop) (h : ∀ (i : Nat) (s : S), i ≤ n → I i s → f ((i : Int), s) = g ((i : Int), s)) (hI : ∀ (i : Nat) (s : S) (v' : Int × S), i ≤ n → I i s → g ((i : Int), s) = some (.go v') → v'.1 = ((i + 1 : Nat) : Int) ∧ i + 1 ≤ n ∧ I (i + 1) v'.2) {s0 : S} (h0 : I 0 s0) : loop f (0, s0) = loop g (0, s0) := by
 refine Xjz (fun v => ∃ i : Nat, v.1 = (i : Int) ∧ i ≤ n ∧ I i v.2) ?_ ?_ ⟨0, rfl, by omega, h0⟩
 ·
  intro ⟨k, s⟩ ⟨i, e, hi, hs⟩
  simp only at e hs
  subst e
  exact h i s hi hs
 ·
  intro ⟨k, s⟩ v' ⟨i, e, hi, hs⟩ he
  simp only at e hs
  subst e
  obtain ⟨a, b, c⟩ := hI i s v' hi hs he
  exact ⟨i + 1, a, b, c⟩
theorem Yg3 (p : List Int) (hl : p.length = 64) (k : Nat) (hk : k < 4) : loop (Xep p (Xiv k)) (0, ([] : List Int)) = Xgl p k := by
 obtain ⟨q1, q2, q3⟩ := Xl8 k hk
 unfold Xgl
 rw [Yje (f := Xep p (Xiv k)) (g := Xbw p k) 16 (fun _ _ => True) ?_ ?_ trivial]
 ·
  cases loop (Xbw p k) (0, ([] : List Int)) <;> rfl
 ·
  intro i s hi _
  unfold Xep Xbw
  simp only [show (((Xiv k).length : Nat) : Int) = 16 by omega]
  refine Xuu (fun h16 => ?_) fun _ => rfl
  have h16 := of_decide_eq_true h16
  obtain ⟨r1, r2, r3⟩ := q3 i (by omega)
  have e1 : (Xaa .i64 ((Xaa .i64 ((Xaa .i64 (8 * (Xaa .i64 ((Xaa .i64 ((Xaa .i64 ((k : Int).tdiv 2)) * 4)) + (Xaa .i64 ((i : Int).tdiv 4)))))) + (Xaa .i64 (((k : Int).tmod 2) * 4)))) + ((i : Int).tmod 4))) = Xkz k i := rfl
  simp only [Int.toNat_natCast, r1, e1]
  refine Xjh (by omega) (Xjh (by omega) (Xjh (by omega) ?_))
  refine (Xjh (by omega) (Xjh (by omega) (Xjh (by omega) (Xjh (by omega) (Xjh (by omega) ?_))))).symm
  rfl
 ·
  intro i s v' hi _ he
  unfold Xbw at he
  rcases Xhn he with ⟨hb, he⟩ | ⟨_, he⟩
  ·
   have h16 := of_decide_eq_true hb
   simp only at h16 he
   obtain ⟨_, he⟩ := Xaw he
   obtain ⟨_, he⟩ := Xaw he
   obtain ⟨_, he⟩ := Xaw he
   obtain ⟨_, he⟩ := Xaw he
   obtain ⟨_, he⟩ := Xaw he
   obtain ⟨_, he⟩ := Xaw he
   injection he with he
   injection he with he
   subst he
   exact ⟨wkA, by omega, trivial⟩
  ·
   cases he
theorem Xrm (p : List Int) (c : Xdm) (hc : Xe1 c = true) (hl : p.length = 64) (hb : inB 255 p) : Xe8 p c = Xbt p c := by
 have hq := Xkr hc
 unfold Xe8 Xbt
 rw [Xby, Xdf, Xnq p 64 255 (by omega) (by omega) hb, hc, Xbc p 64 255 (by omega) (by omega) (by omega) hb]
 simp only [Xab, Xav, Bool.not_true, Xaq]
 rw [Xoo 8 (Or.inr rfl) p (by omega)]
 refine Xuu (fun _ => rfl) fun _ => Xuu (fun _ => ?_) fun _ => ?_
 ·
  obtain ⟨w, ew, w1⟩ := Xuz p hl hb
  rw [Yhk p hl (Xkg hb (by omega)), ew, Xab, Xab]
  have : Xhj c w = Xa9 c := by
   funext v
   unfold Xhj Xa9
   simp only [Xwy _ _ hq, w1]
   rfl
  rw [this]
  obtain ⟨l, el, l1, l2⟩ := Xki (f := Xa9 c) 64 (fun _ => True) (fun x => -5000 ≤ x ∧ x ≤ 5000) (by
   intro i l hi hll _
   obtain ⟨d, ed, d1, d2⟩ := Xm8 (l.getD i 0) c.Qp hq
   unfold Xa9
   simp only [Int.toNat_natCast]
   rw [syA, rqA, rqA, ed, Xab, rqA, rqA, wkA (e := (i : Int) + 1)]
   exact ⟨d, rfl, d1, d2⟩) (by intro s; unfold Xa9; rw [Xan (by simp)]) w w1 (fun _ _ => trivial)
  rw [el, Xab, Xab, Xoo 8 (Or.inr rfl) l (by omega)]
 ·
  refine Yj2 ?_ fun _ _ => rfl
  refine Yje 4 (fun _ _ => True) ?_ ?_ trivial
  ·
   intro k s hk _
   unfold Xjm Xdl
   refine Xuu (fun h4 => ?_) fun _ => rfl
   have hk4 : k < 4 := by have := of_decide_eq_true h4; simp only at this; omega
   obtain ⟨q1, q2, q3⟩ := Xl8 k hk4
   simp only [q1, Xab]
   rw [Yg3 p hl k hk4]
   obtain ⟨a, ea, a1, a2⟩ := Xnb p k hk4 255 hl hb
   obtain ⟨b, eb, b1, b2⟩ := Xwx a a1 a2
   rw [ea, Xab, Xab, Yjx a a1 (Xkg a2 (by omega)), eb, Xab, Xab]
   have : Xgn c b = Xbu c := by
    funext v
    unfold Xgn Xbu
    simp only [show ((b.length : Nat) : Int) = 16 by omega]
    refine Xuu (fun h16 => ?_) fun _ => rfl
    have := of_decide_eq_true h16
    refine Ykf fun h0 => Ykf fun _ => ?_
    rw [Xwz _ _ _ hq (by omega)]
   rw [this]
   obtain ⟨l, el, l1, l2⟩ := Xki (f := Xbu c) 16 (fun x => -9180 ≤ x ∧ x ≤ 9180) (fun x => -5000 ≤ x ∧ x ≤ 5000) (by
    intro i l hi hll hx
    obtain ⟨d, ed, d1, d2⟩ := Xm9 (l.getD i 0) c.Qp i hx hq (by omega)
    unfold Xbu
    simp only [Int.toNat_natCast]
    rw [syA, rqA, rqA, ed, Xab, rqA, rqA, wkA (e := (i : Int) + 1)]
    exact ⟨d, rfl, d1, d2⟩) (by intro s; unfold Xbu; rw [Xan (by simp)]) b b1 b2
   rw [el, Xab, Xab, Xoo 4 (Or.inl rfl) l (by omega)]
  ·
   intro k s v' hk _ he
   unfold Xdl at he
   rcases Xhn he with ⟨hb4, he⟩ | ⟨_, he⟩
   ·
    have hk4 := of_decide_eq_true hb4
    simp only at hk4 he
    obtain ⟨a, _, he⟩ := Xbj he
    obtain ⟨l, _, he⟩ := Xbj he
    obtain ⟨b, _, he⟩ := Xbj he
    obtain ⟨r, _, he⟩ := Xbj he
    obtain ⟨_, he⟩ := Xaw he
    injection he with he
    injection he with he
    subst he
    exact ⟨wkA, by omega, trivial⟩
   ·
    cases he
theorem Yf1 {p : Pic} (ok : Xb5 p = true) (x y : Int) : Xd8 p x y = Xd0 p x y := by rw [Xz0 ok, Xgs ok]
theorem Xqj {p : Pic} (ok : Xb5 p = true) {x y : Int} (hx : x.tmod 8 = 0) (hy : y.tmod 8 = 0) (h : Xcy p x y = true) : Xbr p x y = some true := Xlf ok x y hx hy h
theorem Xta {p : Pic} (ok : Xb5 p = true) {x y : Int} (hx : x.tmod 8 = 0) (hy : y.tmod 8 = 0) (h : Xcy p x y = true) : Xhz p x y = Xe4 p x y := by
 unfold Xhz Xe4
 rw [Xb9, ok, Xqj ok hx hy h, Xd2 ok hx hy h]
 have : Xig p x y = Xew p x y := by
  funext v
  unfold Xig Xew
  simp only [Yf1 ok]
 simp only [Xab, Xav, Bool.not_true, Xaq, this, Yf1 ok]
theorem Xys {e : Xg4} (h : Xpl e) : Xh0 e = some true := by
 obtain ⟨h1, h2, h3, h4, h5, h6⟩ := h
 have side : ∀ l : List Int, (l.length = 0 ∨ l.length = 8) → (∀ x ∈ l, 0 ≤ x ∧ x ≤ 255) → bnd (sel (decide ((l.length : Int) > 0)) (bnd (Xbf l 8 0 255) fun q10 => some (!q10)) (some false)) (fun v9 => some v9) = some false := by
  intro l hl hb
  rcases hl with e | e
  ·
   rw [snA]; rfl
  ·
   rw [syA, Xin l 8 0 255 (by omega)]
   have : (l.all fun x => decide (0 ≤ x ∧ x ≤ 255)) = true := List.all_eq_true.2 fun x hx => decide_eq_true (hb x hx)
   rw [this, e]; rfl
 have go : ∀ (i : Nat) (l : List Int), i < 2 → ([e.Above, e.Left]).getD i Xyi = l → (l.length = 0 ∨ l.length = 8) → (∀ x ∈ l, 0 ≤ x ∧ x ≤ 255) → Xeo e (i : Int) = some (.go ((i + 1 : Nat) : Int)) := by
  intro i l hi hg hl hb
  unfold Xeo
  simp only [Int.toNat_natCast, hg]
  have hs := side l hl hb
  rw [Xbp (by simp only [List.length_cons, List.length_nil]; omega), Xbe (by simp only [List.length_cons, List.length_nil]; omega), Xbe (by simp only [List.length_cons, List.length_nil]; omega)]
  obtain ⟨a, ea, hs⟩ := Xbj hs
  injection hs with hs
  subst hs
  rw [ea, Xab, Xaq, wkA]
  rfl
 unfold Xh0
 have : loop (Xeo e) 0 = some (.out ()) := by
  refine lgo (go 0 e.Above (by omega) rfl h1 h3) (lgo (go 1 e.Left (by omega) rfl h2 h4) (Xib ?_))
  unfold Xeo
  rw [Xan (by simp)]
 rw [this, Xab, Xak, Xab, decide_eq_true ⟨h5, h6⟩]
def Yjs (l : List Int) : Nat → Int
 | 0 => 0
 | n + 1 => Yjs l n + l.getD n 0
theorem Xre {l : List Int} (h : ∀ x ∈ l, 0 ≤ x ∧ x ≤ 255) : ∀ n : Nat, n ≤ l.length → 0 ≤ Yjs l n ∧ Yjs l n ≤ 255 * n
 | 0, _ => by simp [Yjs]
 | n + 1, hn => by
  have a := Xre h n (by omega)
  have b := h (l.getD n 0) (by rw [Xc2 l n (by omega)]; exact List.getElem_mem _)
  rw [Yjs]; omega
theorem Yfi {f : Int × Int → Option (Lp (Int × Int) Int)} {l : List Int} (hl : l.length ≤ 64) (h : ∀ x ∈ l, 0 ≤ x ∧ x ≤ 255) (hf : ∀ v, f v = sel (decide (v.2 < (l.length : Int))) (req (0 ≤ v.2 ∧ v.2 < l.length) <| some (.go (Xaa .i64 (v.1 + (l.getD v.2.toNat 0)), Xaa .i64 (v.2 + 1)))) (some (.done v.1))) (a : Int) (ha : 0 ≤ a ∧ a ≤ 100000) : loop f (a, 0) = some (a + Yjs l l.length) := by
 obtain ⟨o, e, ho⟩ := Xmv (f := f) l.length (fun i s => s = a + Yjs l i) (by
  intro i s hi g
  have r := Xre h i (by omega)
  have b := h (l.getD i 0) (by rw [Xc2 l i (by omega)]; exact List.getElem_mem _)
  rw [hf]
  simp only [Int.toNat_natCast]
  rw [syA, rqA, wkA (e := s + l.getD i 0), wkA (e := (i : Int) + 1)]
  exact ⟨_, rfl, by rw [Yjs]; omega⟩) (by intro s; rw [hf, Xan (by simp)]) a (by simp [Yjs])
 rw [e, ho]
theorem Xum {l : List Int} (hl : l.length ≤ 64) (h : ∀ x ∈ l, 0 ≤ x ∧ x ≤ 255) : Xh6 l = some (Yjs l l.length) := by
 unfold Xh6
 rw [Yfi (f := Xo2 l) hl h (fun _ => rfl) 0 (by omega), Xab, Int.zero_add]
theorem Yly {e : Xg4} (h : Xpl e) : (sel (decide ((Xaa .i64 ((e.Above.length : Int) + (e.Left.length : Int))) > 0)) (bnd (Xh6 e.Above) fun q5 => bnd (Xh6 e.Left) fun q6 => req ((2 : Int) ≠ 0) <| req ((Xaa .i64 ((e.Above.length : Int) + (e.Left.length : Int))) ≠ 0) <|
  some (Xaa .i64 ((Xaa .i64 ((Xaa .i64 (q5 + q6)) + (Xaa .i64 ((Xaa .i64 ((e.Above.length : Int) + (e.Left.length : Int))).tdiv 2)))).tdiv (Xaa .i64 ((e.Above.length : Int) + (e.Left.length : Int)))))) (some 128)) = Xmn e := by
 obtain ⟨h1, h2, h3, h4, h5, h6⟩ := h
 unfold Xmn
 have r1 := Xre h3 e.Above.length (Nat.le_refl _)
 have r2 := Xre h4 e.Left.length (Nat.le_refl _)
 rw [wkA (e := (e.Above.length : Int) + (e.Left.length : Int))]
 by_cases hz : (e.Above.length : Int) + (e.Left.length : Int) = 0
 ·
  rw [snA, Xc5 (by simpa using hz)]
 ·
  rw [syA, Xb6 (by simpa using hz), Xum (by omega) h3, Xab, Xum (by omega) h4, Xab, rqA, Xbe hz, rqA, Xbk (a := (e.Above.length : Int) + (e.Left.length : Int)) (by omega), wkA (e := ((e.Above.length : Int) + (e.Left.length : Int)) / 2),
   Yfi (f := Xhg e) (by omega) h3 (fun _ => rfl) _ (by omega), Xab, Yfi (f := Xhh e) (by omega) h4 (fun _ => rfl) _ (by omega), Xab, Xbe hz, wkA (e := Yjs e.Above e.Above.length + Yjs e.Left e.Left.length), wkA (e := Yjs e.Above e.Above.length + Yjs e.Left e.Left.length + ((e.Above.length : Int) + (e.Left.length : Int)) / 2)]
  congr 3; omega
theorem Ygw (l : List Int) (hl : l.length = 0 ∨ l.length = 8) : ∃ g, Xju l = some g ∧ g.length = 8 ∧ ∀ k : Nat, k < 8 → Xek l k = some (g.getD k 0) := by
 unfold Xju
 rcases hl with e | e
 ·
  refine ⟨_, Xc5 (by rw [e]; rfl), rfl, fun k hk => ?_⟩
  unfold Xek
  rw [Xc5 (by rw [e]; rfl)]
  congr 1
  obtain rfl | rfl | rfl | rfl | rfl | rfl | rfl | rfl : k = 0 ∨ k = 1 ∨ k = 2 ∨ k = 3 ∨ k = 4 ∨ k = 5 ∨ k = 6 ∨ k = 7 := by omega
  all_goals rfl
 ·
  refine ⟨l, Xb6 (by rw [e]; rfl), e, fun k hk => ?_⟩
  unfold Xek
  rw [Xb6 (by rw [e]; rfl), rqA, Int.toNat_natCast]
theorem Ydv (n a b : Int) : Xd4 n a b = Xeb n a b := by rw [Xif, Xdr]
def Xvb (m mid v : Int) (A B : List Int) (i : Nat) : Int := sel (m == 0) mid (sel (m == 1) (A.getD (i % 8) 0) (sel (m == 2) (B.getD (i / 8) 0) (Xbn (Xaa .i64 (Xaa .i64 (B.getD (i / 8) 0 + A.getD (i % 8) 0) - v)) 0 255)))
theorem Yka {f1 : Int × List Int → Option (Lp (Int × List Int) (List Int))} {f2 : Int × List Int → Int × List Int → Option (Lp (Int × List Int) (List Int))} (g : Nat → Int)
  (h1 : ∀ v, f1 v = sel (decide (v.1 < 8)) (bnd (loop (f2 v) (0, v.2)) fun w => some (.go (Xaa .i64 (v.1 + 1), w))) (some (.done v.2)))
  (h2 : ∀ (r c : Nat) (a s : List Int), r < 8 → c < 8 → s.length = 8 * r + c → f2 ((r : Int), a) ((c : Int), s) = some (.go (((c + 1 : Nat) : Int), s ++ [g (8 * r + c)])))
  (h3 : ∀ (r : Nat) (a s : List Int), f2 ((r : Int), a) (8, s) = some (.done s)) : loop f1 (0, []) = some ((List.range 64).map g) := by
 obtain ⟨o, e, ho⟩ := Xdd (f := f1) 8 (fun r s => s = (List.range (8 * r)).map g) (by
  intro r s hr hs
  obtain ⟨q, eq, hq⟩ := Xjd (f := f2 ((r : Int), s)) 8 (fun c s' => s' = (List.range (8 * r + c)).map g) (by
   intro c s' hc hs'
   exact ⟨_, h2 r c s s' hr hc (by rw [hs']; simp), by rw [hs', show 8 * r + (c + 1) = (8 * r + c) + 1 by omega, List.range_succ, List.map_append]; rfl⟩) (fun z _ => h3 r s z) s hs
  rw [h1]
  refine ⟨q, ?_, by rw [hq, show 8 * (r + 1) = 8 * r + 8 by omega]⟩
  simp only
  rw [syA, eq, Xab, wkA]
  rfl) (by intro s; rw [h1, Xan (by simp)]) [] rfl
 rw [e, ho]
theorem Yfs (m : Int) (hm0 : 0 ≤ m ∧ m ≤ 3) {e : Xg4} (h : Xpl e) : ∃ g, Xe2 m e = some g ∧ Xdg m e = some g := by
 have hm : maxLen = 9223372036854775807 := rfl
 obtain ⟨mid, em, m1, m2⟩ := Xsb h
 obtain ⟨A, eA, hA, fA⟩ := Ygw e.Above h.1
 obtain ⟨B, eB, hB, fB⟩ := Ygw e.Left h.2.1
 obtain ⟨v, ev⟩ : ∃ v, sel (decide (e.Corner < 0)) (some (128 : Int)) (some e.Corner) = some v := by rw [Yjn]; exact ⟨_, rfl⟩
 refine ⟨(List.range 64).map (Xvb m mid v A B), ?_, ?_⟩
 ·
  unfold Xe2
  rw [Xys h, Xab, Xav, Xak, Xab, decide_eq_true hm0, Bool.not_true, Xab, Xaq, Yly h, em, Xab, eA, Xab, eB, Xab, ev, Xab, Yka (f1 := Xla m mid A B v) (f2 := Xfh m mid A B v) (Xvb m mid v A B) (fun _ => rfl) ?_ ?_, Xab]
  ·
   intro r c a s hr hc hs
   unfold Xfh Xvb
   simp only [Int.toNat_natCast, Xif, Xab]
   rw [syA, wkA (e := (c : Int) + 1), show (8 * r + c) % 8 = c by omega, show (8 * r + c) / 8 = r by omega]
   cases (m == 0) with
   | true => rw [Xav, Xbe (by simp only [List.length_singleton]; omega), Xab]; rfl
   | false =>
    rw [Xaq]
    cases (m == 1) with
    | true => rw [Xav, rqA, Xbe (by simp only [List.length_singleton]; omega), Xab]; rfl
    | false =>
     rw [Xaq]
     cases (m == 2) with
     | true => rw [Xav, rqA, Xbe (by simp only [List.length_singleton]; omega), Xab]; rfl
     | false => rw [Xaq, rqA, rqA, Xbe (by simp only [List.length_singleton]; omega), Xab]; rfl
  ·
   intro r a s
   unfold Xfh
   rw [Xan (by simp)]
 ·
  unfold Xdg
  rw [Xho h, Xab, Xav, Xai, Xab, decide_eq_true hm0, Bool.not_true, Xab, Xaq, ev, Xab]
  obtain ⟨o, eo, ho⟩ := Xdd (f := Xds m e v) 64 (fun i s => s = (List.range i).map (Xvb m mid v A B)) (by
   intro i s hi hs
   have hlen : s.length = i := by rw [hs]; simp
   refine ⟨s ++ [Xvb m mid v A B i], ?_, by rw [hs, List.range_succ, List.map_append]; rfl⟩
   unfold Xds Xvb
   simp only
   rw [syA, rqA, Xcg (by omega), show (i : Int) % 8 = ((i % 8 : Nat) : Int) by omega, fA _ (by omega), Xab, rqA, Xbk (by omega), wkA (e := (i : Int) / 8), show (i : Int) / 8 = ((i / 8 : Nat) : Int) by omega, fB _ (by omega), Xab, wkA (e := (i : Int) + 1), em]
   cases (m == 0) with
   | true => rw [Xav, Xab, Xbe (by simp only [List.length_singleton]; omega), Xab]; rfl
   | false =>
    rw [Xaq]
    cases (m == 1) with
    | true => rw [Xav, Xbe (by simp only [List.length_singleton]; omega), Xab]; rfl
    | false =>
     rw [Xaq]
     cases (m == 2) with
     | true => rw [Xav, Xbe (by simp only [List.length_singleton]; omega), Xab]; rfl
     | false => rw [Xaq, Xdr, Xab, Xbe (by simp only [List.length_singleton]; omega), Xab]; rfl) (by intro s; unfold Xds; rw [Xan (by simp)]) [] rfl
  rw [eo, Xab, ho]
theorem Xon (m : Int) (hm0 : 0 ≤ m ∧ m ≤ 3) {e : Xg4} (h : Xpl e) : Xe2 m e = Xdg m e := by
 obtain ⟨g, h1, h2⟩ := Yfs m hm0 h
 rw [h1, h2]
theorem Xwg (g b : List Int) (hg : Xbi g = true) (hl : b.length = 64) (hb : inB 10000000 b) : Xjl g b = Xgg g b := by
 obtain ⟨g1, g2⟩ := Xa8 hg
 unfold Xjl Xgg
 rw [Xd1 g hg, Xf2 g (by omega), hg, Xnq b 64 10000000 (by omega) (by omega) hb, Xbc b 64 10000000 (by omega) (by omega) (by omega) hb]
 have : Xkb g b = Xct g b := by
  funext v
  unfold Xkb Xct
  simp only [Ydv, show ((g.length : Nat) : Int) = 64 by omega]
 simp only [Xab, Xav, Bool.not_true, Xaq, this]
theorem Ybc {s : Xam} (h : Xqv s = true) (h1 : s.Kind = 0) : s.Dx = 0 ∧ s.Dy = 0 := by
 unfold Xqv at h
 rw [h1] at h
 simp at h
 exact ⟨h.2.1, h.2.2.1⟩
theorem Yjo {s : Xam} (h : Xqv s = true) : (-16 ≤ s.Dx ∧ s.Dx ≤ 16) ∧ (-16 ≤ s.Dy ∧ s.Dy ≤ 16) := by
 have hk := Xoi h
 obtain h1 | h1 | h1 : s.Kind = 0 ∨ s.Kind = 1 ∨ s.Kind = 2 := by omega
 ·
  obtain ⟨a, b⟩ := Ybc h h1; omega
 ·
  obtain ⟨a, b, _⟩ := Xph h h1; exact ⟨a, b⟩
 ·
  unfold Xqv at h
  rw [h1] at h
  simp at h
  omega
theorem Yhy (s : Xam) (c : Xdm) : Xdq s c = some (Xnp s c) := by
 unfold Xdq Xnp
 cases c.Key <;> rfl
structure Yq8 (now ref : Pic) (l t x y : Int) (c : Xdm) (q : Xam) : Prop where
 ok : Xb5 now = true
 hx : x.tmod 8 = 0
 hy : y.tmod 8 = 0
 h0 : Xcy now x y = true
 hl : 0 ≤ l ∧ l ≤ 256
 ht : 0 ≤ t ∧ t ≤ 256
 hc : Xe1 c = true
 hs : q.Levels.length ≤ 1048576
theorem Xl0 {now ref : Pic} {l t x y : Int} {c : Xdm} {q : Xam} (h : Yq8 now ref l t x y c q) (hq : Xqv q = true) (hL : Xnp q c = true) (hr : c.Key = false → Xb5 ref = true) : ∃ d, Xca now ref l t c x y q = some (d, true) ∧ Xb0 now ref l t c x y q = some (d, true) ∧ Xbi d = true := by
 obtain ⟨ok, hx, hy, h0, hl, ht, hc, hs⟩ := h
 obtain ⟨k1, k2, k3⟩ := Xat ok
 have h0' := h0
 unfold Xcy at h0'
 rw [decide_eq_true_eq] at h0'
 have dxy := Yjo hq
 unfold Xb0 Xca
 rw [Xd2 ok hx hy h0, Xab, Xav, Xai, Xab, decide_eq_true hl, Xav, Xai, Xab, decide_eq_true ht, Xav, Xpy, Xab, hq, Xav, Xby, Xab, hc, Bool.not_true, Xab, Xaq]
 rw [Xb9, Xab, ok, Xav, Xqj ok hx hy h0, Xab, Xav, Xak, Xab, decide_eq_true hl, Xav, Xak, Xab, decide_eq_true ht, Xav, Xlc q (by omega), Xab, hq, Xav, Xdf, Xab, hc, Xav, Yhy, Xab, hL, Xav]
 by_cases h2 : q.Kind = 2
 ·
  obtain ⟨hm, hlv⟩ := Xrd hq h2
  obtain ⟨e, ee, he⟩ := Xmg ok hx hy h0
  obtain ⟨b, eb, b1, b2⟩ := Xfu q.Levels c hc hlv
  obtain ⟨g, eg, hg⟩ := Xgf q.Mode hm he
  obtain ⟨j, ej, hj⟩ := Xr6 g b hg b1 b2
  refine ⟨j, ?_, ?_, hj⟩
  ·
   rw [Xb6 (b := q.Kind != 2) (by simpa using h2), Xab, Xaq, Xb6 (by rw [h2]; rfl), Xpk q.Levels c hc hlv, eb, Xab, Xb6 (by rw [h2]; rfl), Xta ok hx hy h0, ee, Xab, Xon q.Mode hm he, eg, Xab, Xwg g b hg b1 b2, ej, Xab]
  ·
   rw [Xc5 (by simpa using h2), ee, Xab, eb, Xab, eg, Xab, ej, Xab]
 ·
  have hK : c.Key = false := by
   unfold Xnp at hL
   cases hk : c.Key with
   | false => rfl
   | true => rw [hk] at hL; simp at hL; exact absurd hL h2
  have rok := hr hK
  rw [Xc5 (b := q.Kind != 2) (by simpa using h2), Xb9, Xab, rok, Bool.not_true, Xab, Xaq]
  rw [Xb6 (b := q.Kind == 2) (by simpa using h2), hK, Xaq, Xfd, Xab, rok, Bool.not_true, Xab, Xaq]
  rw [wkA (e := l + x), wkA (e := l + x + q.Dx), wkA (e := t + y), wkA (e := t + y + q.Dy), Xgd rok _ _ (by omega) (by omega), Xab, Xfa rok _ _ (by omega) (by omega), Xab, Xfa rok _ _ (by omega) (by omega)]
  by_cases h3 : q.Kind = 0
  ·
   obtain ⟨z1, z2⟩ := Ybc hq h3
   rw [Xc5 (b := q.Kind == 0) (by simpa using h3), Xc5 (b := q.Kind == 0) (by simpa using h3), z1, z2, Int.add_zero, Int.add_zero]
   exact ⟨_, rfl, rfl, Xd3 _ _ _⟩
  ·
   have h1 : q.Kind = 1 := by have := Xoi hq; omega
   obtain ⟨_, _, hlv⟩ := Xph hq h1
   obtain ⟨b, eb, b1, b2⟩ := Xfu q.Levels c hc hlv
   obtain ⟨j, ej, hj⟩ := Xr6 _ b (Xd3 ref (l + x + q.Dx) (t + y + q.Dy)) b1 b2
   rw [Xb6 (b := q.Kind == 0) (by simpa using h3), Xb6 (b := q.Kind == 0) (by simpa using h3), Xpk q.Levels c hc hlv, eb, Xab, Xab, Xc5 (b := q.Kind == 1) (by simpa using h1), Xab, Xwg _ b (Xd3 _ _ _) b1 b2, ej, Xab]
   exact ⟨_, rfl, rfl, hj⟩
theorem Ynt {β : Type} {a b c : Prop} [Decidable a] [Decidable b] [Decidable c] (hb : b) (hc : c) (k : Option β) : req a (req b (req c k)) = req b (req c (req a k)) := by
 rw [Xbe hb, Xbe hc, Xbe hb, Xbe hc]
theorem Yiw {p : Pic} (ok : Xb5 p = true) : p.Dots.size ≤ 65536 := by
 obtain ⟨k1, k2, k3⟩ := Xat ok
 have := Xc1 k1 k2
 omega
theorem Yg1 {p : Pic} {x y : Int} {d : List Int} (hd : Xbi d = true) (hp : p.Dots.size ≤ maxLen) : Xq2 p x y d = Xff p x y d := by
 obtain ⟨d1, d2⟩ := Xa8 hd
 unfold Xq2 Xff Xub
 rw [Xbe hp, Xab, Xbe hp]
 have : Xo1 p x y d = Xcv p x y d := by
  funext v
  unfold Xo1 Xcv
  simp only [show ((d.length : Nat) : Int) = 64 by omega]
  exact Xuu (fun _ => Ynt (by omega) (by omega) _) fun _ => rfl
 rw [this]
theorem Ylv (n : Nat) (x : Int) : ((List.range n).map fun _ => x) = List.replicate n x := by
 apply List.ext_getElem
 ·
  simp
 ·
  intro i h1 h2; simp
theorem Xwk (w h : Int) (hw : 1 ≤ w ∧ w ≤ 256) (hh : 1 ≤ h ∧ h ≤ 256) : Xnt w h = some ⟨w, h, strOfNums (List.replicate (w * h).toNat 128)⟩ := by
 have ar := Xc1 hw hh
 unfold Xnt
 rw [Xak, Xab, decide_eq_true hw, Xav, Xak, Xab, decide_eq_true hh, Bool.not_true, Xab, Xaq, wkA (e := w * h), rqA]
 rw [Xq7 (f := Xks w h) (w * h).toNat (fun _ => 128) (List.replicate (w * h).toNat 0) (by simp) ?_ ?_, Xab, Ylv]
 ·
  intro i s hi hs _
  unfold Xks
  simp only [List.length_replicate, Int.toNat_natCast]
  rw [wkA (e := w * h), syA, rqA, rqA, wkA]
  rfl
 ·
  intro s hs
  unfold Xks
  simp only [List.length_replicate]
  rw [wkA (e := w * h), snA]
def Xnr (p : Pic) (r : Ydn) : Bool := decide (1 ≤ r.Wide ∧ r.Wide ≤ p.Wide) && (decide (1 ≤ r.High ∧ r.High ≤ p.High) && (decide (0 ≤ r.Left ∧ r.Left ≤ p.Wide - r.Wide) && decide (0 ≤ r.Top ∧ r.Top ≤ p.High - r.High)))
theorem Xue {p : Pic} (ok : Xb5 p = true) (r : Ydn) : Xb7 p r = some (Xnr p r) := by
 obtain ⟨k1, k2, k3⟩ := Xat ok
 unfold Xb7 Xnr
 rw [Xak, Xak, Xab, Xab]
 by_cases h1 : 1 ≤ r.Wide ∧ r.Wide ≤ p.Wide
 ·
  rw [decide_eq_true h1, Xav, Bool.true_and]
  by_cases h2 : 1 ≤ r.High ∧ r.High ≤ p.High
  ·
   rw [decide_eq_true h2, Xav, Bool.true_and, wkA (e := p.Wide - r.Wide), wkA (e := p.High - r.High), Xak, Xak, Xab, Xab, Xgb, Xab]
  ·
   rw [decide_eq_false h2, Xaq, Bool.false_and]; rfl
 ·
  rw [decide_eq_false h1, Xaq, Bool.false_and]; rfl
theorem Xhy {p : Pic} {r : Ydn} (h : Xnr p r = true) : (1 ≤ r.Wide ∧ r.Wide ≤ p.Wide) ∧ (1 ≤ r.High ∧ r.High ≤ p.High) ∧ (0 ≤ r.Left ∧ r.Left ≤ p.Wide - r.Wide) ∧ (0 ≤ r.Top ∧ r.Top ≤ p.High - r.High) := by
 unfold Xnr at h
 simp only [Bool.and_eq_true, decide_eq_true_eq] at h
 exact h
def Xfv (p : Pic) (r : Ydn) : Nat → List Int
 | 0 => []
 | n + 1 => Xfv p r n ++ Xaz (p.Dots.extract ((r.Top + n) * p.Wide + r.Left).toNat ((r.Top + n) * p.Wide + r.Left + r.Wide).toNat)
theorem Yhu {p : Pic} {r : Ydn} (ok : Xb5 p = true) (h : Xnr p r = true) (n : Nat) (hn : (n : Int) < r.High) : 0 ≤ (r.Top + n) * p.Wide ∧ (r.Top + n) * p.Wide + r.Left + r.Wide ≤ p.Dots.size ∧ (r.Top + n) * p.Wide ≤ 65536 ∧ (Xaz (p.Dots.extract ((r.Top + n) * p.Wide + r.Left).toNat ((r.Top + n) * p.Wide + r.Left + r.Wide).toNat)).length = r.Wide.toNat := by
 obtain ⟨k1, k2, k3⟩ := Xat ok
 obtain ⟨a1, a2, a3, a4⟩ := Xhy h
 have ar := Xc1 k1 k2
 have b1 : 0 ≤ (r.Top + n) * p.Wide := Int.mul_nonneg (by omega) (by omega)
 have b2 : (r.Top + n) * p.Wide ≤ (p.High - 1) * p.Wide := Int.mul_le_mul_of_nonneg_right (by omega) (by omega)
 have b3 : (p.High - 1) * p.Wide = p.Wide * p.High - p.Wide := by rw [Int.sub_mul, Int.one_mul, Int.mul_comm]
 refine ⟨b1, by omega, by omega, ?_⟩
 rw [Xbm, ByteArray.size_extract]
 omega
theorem Xl2 {p : Pic} {r : Ydn} (ok : Xb5 p = true) (h : Xnr p r = true) : ∀ n : Nat, (n : Int) ≤ r.High → ((Xfv p r n).length : Int) = n * r.Wide
 | 0, _ => by simp [Xfv]
 | n + 1, hn => by
  have a := Xhy h
  have b := Yhu ok h n (by omega)
  rw [Xfv, List.length_append, Int.natCast_add, Xl2 ok h n (by omega), b.2.2.2, Int.natCast_add, Int.add_mul]
  simp only [Int.natCast_one, Int.one_mul]
  omega
theorem Ym7 {p : Pic} {r : Ydn} {f : Int × List Int → Option (Lp (Int × List Int) (List Int))} (ok : Xb5 p = true) (h : Xnr p r = true) (hf : f = Xlr p r) : loop f (r.Top, []) = some (Xfv p r r.High.toNat) := by
 have hm : maxLen = 9223372036854775807 := rfl
 obtain ⟨k1, k2, k3⟩ := Xat ok
 obtain ⟨a1, a2, a3, a4⟩ := Xhy h
 subst hf
 have key : ∀ n : Nat, n ≤ r.High.toNat → loop (Xlr p r) (r.Top + n, Xfv p r n) = some (Xfv p r r.High.toNat) := by
  refine Xg0 _ ?_ ?_
  ·
   refine Xib ?_
   unfold Xlr
   rw [wkA (e := r.Top + r.High), Xan (by simp only; omega)]
  ·
   intro n hn ih
   refine lgo (y := (r.Top + ((n + 1 : Nat) : Int), Xfv p r (n + 1))) ?_ ih
   obtain ⟨b1, b2, b3, b4⟩ := Yhu ok h n (by omega)
   have cl := Xl2 ok h n (by omega)
   have cw : (n : Int) * r.Wide ≤ 256 * r.Wide := Int.mul_le_mul_of_nonneg_right (by omega) (by omega)
   unfold Xlr
   simp only
   rw [wkA (e := r.Top + r.High), syA, wkA (e := (r.Top + n) * p.Wide), wkA (e := (r.Top + n) * p.Wide + r.Left), wkA (e := (r.Top + n) * p.Wide + r.Left + r.Wide), rqA, Xbe (by rw [b4]; omega), wkA (e := r.Top + n + 1), show r.Top + ((n + 1 : Nat) : Int) = r.Top + n + 1 by omega]
   rfl
 have := key 0 (by omega)
 simpa [Xfv] using this
def Yqc (p : Pic) (r : Ydn) : Pic := ⟨r.Wide, r.High, strOfNums (Xfv p r r.High.toNat)⟩
theorem Yo7 {p : Pic} {r : Ydn} (ok : Xb5 p = true) (h : Xnr p r = true) : Xb5 (Yqc p r) = true := by
 obtain ⟨k1, k2, k3⟩ := Xat ok
 obtain ⟨a1, a2, a3, a4⟩ := Xhy h
 refine Xq6 (by show 1 ≤ r.Wide ∧ r.Wide ≤ 256; omega) (by show 1 ≤ r.High ∧ r.High ≤ 256; omega) ?_
 show ((strOfNums _).size : Int) = r.Wide * r.High
 rw [strOfNums_size, Xl2 ok h _ (by omega), Int.mul_comm]
 congr 1; omega
theorem Yd2 {p : Pic} {r : Ydn} (ok : Xb5 p = true) (h : Xnr p r = true) : Xlv p r = some (Yqc p r, true) := by
 obtain ⟨k1, k2, k3⟩ := Xat ok
 obtain ⟨a1, a2, a3, a4⟩ := Xhy h
 have ar := Xc1 (w := r.Wide) (h := r.High) (by omega) (by omega)
 unfold Xlv
 rw [Xb9, Xab, ok, Xav, Xue ok, Xab, h, Bool.not_true, Xab, Xaq, wkA (e := r.Wide * r.High), rqA]
 have := Ym7 (f := Xou p r) ok h rfl
 rw [show List.replicate (0 : Int).toNat (0 : Int) = [] from rfl, this, Xab]
 rfl
theorem Xkf (n : Int) : Xf3 n = some (Xuw n) := by
 unfold Xf3 Xuw
 rw [rqA, Xak, Xab, Xgb, Xab, Yhr]
theorem Ydh {w h : Int} (hw : Xuw w = true) (hh : Xuw h = true) (i : Nat) (hi : (i : Int) < w / 8 * (h / 8)) : (8 ≤ w ∧ w ≤ 64) ∧ (8 ≤ h ∧ h ≤ 64) ∧ 1 ≤ w / 8 ∧ w / 8 ≤ 8 ∧ 1 ≤ h / 8 ∧ h / 8 ≤ 8 ∧ 0 ≤ (i : Int) % (w / 8) * 8 ∧ (i : Int) % (w / 8) * 8 ≤ w - 8 ∧ 0 ≤ (i : Int) / (w / 8) * 8 ∧ (i : Int) / (w / 8) * 8 ≤ h - 8 := by
 unfold Xuw at hw hh
 rw [Bool.and_eq_true, decide_eq_true_eq, decide_eq_true_eq] at hw hh
 rw [Xcg (by omega)] at hw hh
 have h1 : 1 ≤ w / 8 ∧ w / 8 ≤ 8 := by omega
 have h2 : 1 ≤ h / 8 ∧ h / 8 ≤ 8 := by omega
 have m0 : 0 ≤ (i : Int) % (w / 8) := Int.emod_nonneg _ (by omega)
 have m1 : (i : Int) % (w / 8) < w / 8 := Int.emod_lt_of_pos _ (by omega)
 have d0 : 0 ≤ (i : Int) / (w / 8) := Int.ediv_nonneg (by omega) (by omega)
 have d1 : (i : Int) / (w / 8) < h / 8 := Int.ediv_lt_of_lt_mul (by omega) (by rw [Int.mul_comm]; exact hi)
 exact ⟨hw.2, hh.2, h1.1, h1.2, h2.1, h2.2, by omega, by omega, by omega, by omega⟩
theorem Xcm {w : Int} (hw : Xuw w = true) : w % 8 = 0 ∧ 8 ≤ w ∧ w ≤ 64 := by
 unfold Xuw at hw
 rw [Bool.and_eq_true, decide_eq_true_eq, decide_eq_true_eq] at hw
 rw [Xcg (by omega)] at hw
 exact ⟨hw.1, hw.2⟩
theorem Ya5 (l : List Int) : Xe6 l = some (Xbi l) := by
 unfold Xe6 Xbi
 by_cases h : l.length = 64
 ·
  rw [Xb6 (by simp only [bne_eq_false_iff_eq]; omega), Xyg Yhv l (Xdw l) (by
   intro i hi
   unfold Xdw
   rw [syA, rqA, Xai, Xab, wkA, Int.toNat_natCast]
   rfl) (by unfold Xdw; rw [snA]), Xab, decide_eq_true h, Bool.true_and]
  cases l.all Yhv <;> rfl
 ·
  rw [Xc5 (by simp only [bne_iff_ne, ne_eq]; omega), decide_eq_false h, Bool.false_and]
theorem Yod (m : Int) (h : 0 ≤ m ∧ m ≤ 3) : ∃ s, Xjr m = some s ∧ Xj8 m = some s := by
 have e1 : Xj8 m = some (((strOfNums (ueL m.toNat)).size : Nat) : Int) := by
  unfold Xj8 Xv8
  rw [Xai, Xab, decide_eq_true (by omega), Bool.not_true, Xaq]
  have : Xof m = some (strOfNums (ueL m.toNat)) := by
   have := Xpg m.toNat (by omega)
   rwa [show ((m.toNat : Nat) : Int) = m by omega] at this
  rw [this, Xab, Xab]
 have e2 : Xjr m = some (((strOfNums (ueL m.toNat)).size : Nat) : Int) := by
  unfold Xjr Xlw
  rw [Xak, Xab, decide_eq_true (by omega), Bool.not_true, Xaq]
  have : Xlh m = some (strOfNums (ueL m.toNat)) := by
   have := Xjx m.toNat (by omega)
   rwa [show ((m.toNat : Nat) : Int) = m by omega] at this
  rw [this, Xab, Xab]
 exact ⟨_, e2, e1⟩
theorem Xyq {w : List Int} (hw : Xbi w = true) {e : Xg4} (h : Xpl e) : Xg6 w e = Xhd w e := by
 have hwl := (Xa8 hw).1
 unfold Xg6 Xhd
 rw [Xys h, Xho h, Xf2 w (by omega), Ya5, hw]
 have : loop (Xgm w e) (0, -1, 0) = loop (Xdk w e) (0, -1, 0) := by
  refine Xjz (fun v => 0 ≤ v.2.2 ∧ v.2.2 ≤ 4) ?_ ?_ (by simp)
  ·
   intro ⟨m, c, i⟩ ⟨h1, h2⟩
   simp only at h1 h2
   unfold Xgm Xdk
   simp only
   by_cases hi : i < 4
   ·
    obtain ⟨g, eg, hg⟩ := Xgf i ⟨h1, by omega⟩ h
    obtain ⟨s, e1, e2⟩ := Yod i ⟨h1, by omega⟩
    rw [Xbp (show i ≤ 3 by omega), Xbp hi, Xon i ⟨h1, by omega⟩ h, eg, Xab, Xab, Xoz hw hg, Xpc hw hg, Xab, Xab, e1, e2]
   ·
    rw [Xan (show ¬ i ≤ 3 by omega), Xan hi]
  ·
   intro ⟨m, c, i⟩ v' ⟨h1, h2⟩ he
   simp only at h1 h2
   unfold Xdk at he
   rcases Xhn he with ⟨hb, he⟩ | ⟨_, he⟩
   ·
    have hi := of_decide_eq_true hb
    simp only at hi
    obtain ⟨q, _, he⟩ := Xbj he
    injection he with he
    injection he with he
    subst he
    simp only
    rw [wkA]; omega
   ·
    cases he
 simp only [Xab, Xav, Bool.not_true, Xaq, this]
theorem Ybm {p : Pic} {w : List Int} {x y r : Int} (ok : Xb5 p = true) (hw : Xbi w = true) (hr : 0 ≤ r ∧ r ≤ 4) (hx : x.tmod 8 = 0) (hy : y.tmod 8 = 0) (h0 : Xcy p x y = true) : Xdb p w x y r = Xlq p w x y r := by
 obtain ⟨k1, k2, k3⟩ := Xat ok
 have hwl := (Xa8 hw).1
 have h0' := h0
 unfold Xcy at h0'
 rw [decide_eq_true_eq] at h0'
 unfold Xdb Xlq
 rw [Xb9, Xab, ok, Xav, Xf2 w (by omega), Xab, hw, Xav, Xak, Xab, decide_eq_true hr, Xav, Xlf ok x y hx hy h0, Xab, Bool.not_true, Xab, Xaq]
 rw [Xd1 w hw, Xab, Xav, Xai, Xab, decide_eq_true hr, Xav, Xd2 ok hx hy h0, Xab, Bool.not_true, Xab, Xaq, wkA (e := 0 - r)]
 refine Yj2 ?_ fun _ _ => rfl
 refine Xjz (fun s => -r ≤ s.2.2.2 ∧ s.2.2.2 ≤ r + 1) ?_ ?_ (by simp only; omega)
 ·
  intro s ⟨g1, g2⟩
  unfold Xen Xj3
  refine Xuu (fun hs => ?_) fun _ => rfl
  have hs := of_decide_eq_true hs
  rw [wkA (e := 0 - r)]
  refine Yj2 ?_ fun _ _ => rfl
  refine Xjz (fun v => -r ≤ v.2.2.2 ∧ v.2.2.2 ≤ r + 1) ?_ ?_ (by simp only; omega)
  ·
   intro v ⟨f1, f2⟩
   unfold Xci Xj4
   refine Xuu (fun hv => ?_) fun _ => rfl
   have hv := of_decide_eq_true hv
   rw [wkA (e := x + v.2.2.2), wkA (e := y + s.2.2.2), Xwl ok, Xp1 ok, Xab, Xab]
   refine Yj2 ?_ fun _ _ => rfl
   refine Xuu (fun _ => rfl) fun _ => ?_
   have hb := Xd3 p (x + v.2.2.2) (y + s.2.2.2)
   rw [Xgd ok _ _ (by omega) (by omega), Xfa ok _ _ (by omega) (by omega), Xab, Xab, Xpc hw hb, Xoz hw hb, Xab, Xab, Xr8 _ (by omega), Xkc _ (by omega), Xab, Xab, Xr8 _ (by omega), Xkc _ (by omega), Xab]
  ·
   intro v v' ⟨f1, f2⟩ he
   unfold Xj4 at he
   rcases Xhn he with ⟨hb, he⟩ | ⟨_, he⟩
   ·
    have hi := of_decide_eq_true hb
    obtain ⟨q, _, he⟩ := Xbj he
    injection he with he
    injection he with he
    subst he
    simp only
    rw [wkA]; omega
   ·
    cases he
 ·
  intro s v' ⟨g1, g2⟩ he
  unfold Xj3 at he
  rcases Xhn he with ⟨hb, he⟩ | ⟨_, he⟩
  ·
   have hi := of_decide_eq_true hb
   obtain ⟨q, _, he⟩ := Xbj he
   injection he with he
   injection he with he
   subst he
   simp only
   rw [wkA]; omega
  ·
   cases he
def Xp4 (a b : List Int) : List Int := (List.range 64).map fun i => a.getD i 0 - b.getD i 0
theorem Xev (a b : List Int) : (Xp4 a b).length = 64 := by simp [Xp4]
theorem Xo7 (a b : List Int) {i : Nat} (hi : i < 64) : (Xp4 a b).getD i 0 = a.getD i 0 - b.getD i 0 := Xb8 _ hi
theorem Xkh {a b : List Int} (ha : Xbi a = true) (hb : Xbi b = true) : inB 255 (Xp4 a b) := by
 intro x hx
 obtain ⟨i, hi, rfl⟩ := List.mem_map.1 hx
 rw [List.mem_range] at hi
 have p := (Xa8 ha).2 i hi
 have q := (Xa8 hb).2 i hi
 omega
theorem Ygp {a b : List Int} (ha : Xbi a = true) (hb : Xbi b = true) {f : Int × List Int → Option (Lp (Int × List Int) (List Int))} (hf : ∀ v, f v = sel (decide (v.1 < 64)) (req (0 ≤ v.1 ∧ v.1 < a.length) <| req (0 ≤ v.1 ∧ v.1 < b.length) <| req ((v.2.length + ([Xaa .i64 ((a.getD v.1.toNat 0) - (b.getD v.1.toNat 0))]).length) * 8 ≤ 140737488355328 ∧ v.2.length + ([Xaa .i64 ((a.getD v.1.toNat 0) - (b.getD v.1.toNat 0))]).length ≤ maxLen) <| some (.go (Xaa .i64 (v.1 + 1), (v.2 ++ ([Xaa .i64 ((a.getD v.1.toNat 0) - (b.getD v.1.toNat 0))]))))) (some (.done v.2))) : loop f (0, []) = some (Xp4 a b) := by
 have hm : maxLen = 9223372036854775807 := rfl
 obtain ⟨a1, a2⟩ := Xa8 ha
 obtain ⟨b1, b2⟩ := Xa8 hb
 have := Yds (f := f) 64 (fun i => a.getD i 0 - b.getD i 0) [] (by
  intro i hi
  have x := a2 i hi
  have y := b2 i hi
  rw [hf]
  simp only [Int.toNat_natCast]
  rw [syA, rqA, rqA, Xbe (by simp only [List.length_append, List.length_nil, List.length_map, List.length_range, List.length_singleton]; omega), wkA (e := a.getD i 0 - b.getD i 0), wkA (e := (i : Int) + 1)]
  rfl) (by rw [hf, Xan (by simp)])
 rw [List.nil_append] at this
 exact this
theorem Xpt {a b : List Int} (ha : Xbi a = true) (hb : Xbi b = true) : Xfb a b = some (Xp4 a b) := by
 have a1 := (Xa8 ha).1
 unfold Xfb
 rw [Ygp ha hb (f := Xhk a b) (fun v => by unfold Xhk; rw [show ((a.length : Nat) : Int) = 64 by omega]), Xab]
theorem Xi9 {a b : List Int} (ha : Xbi a = true) (hb : Xbi b = true) : Xk4 a b = some (Xp4 a b) := by
 have a1 := (Xa8 ha).1
 unfold Xk4
 rw [Ygp ha hb (f := Xmo a b) (fun v => by unfold Xmo; rw [show ((a.length : Nat) : Int) = 64 by omega]), Xab]
theorem Xqu (l : List Int) (hl : l.length ≤ 1000000) : Xnd l = some (l.all fun x => x == 0) := by
 unfold Xnd
 rw [Xyg (fun x => x == 0) l (Xjc l) (by
  intro i hi
  unfold Xjc
  rw [syA, rqA, Int.toNat_natCast, wkA]
  rfl) (by unfold Xjc; rw [snA]), Xab]
 cases l.all (fun x => x == 0) <;> rfl
theorem Yng {a b : List Int} (ha : Xbi a = true) (hb : Xbi b = true) : (Xl3 a b 64 == 0) = ((Xp4 a b).all fun x => x == 0) := by
 have key : ∀ n : Nat, n ≤ 64 → (Xl3 a b n = 0 ↔ ∀ i, i < n → a.getD i 0 - b.getD i 0 = 0) := by
  intro n
  induction n with
  | zero => intro _; exact ⟨fun _ i hi => by omega, fun _ => rfl⟩
  | succ n ih =>
   intro hn
   have g := Xhx ha hb n (by omega)
   have e : Xl3 a b (n + 1) = Xl3 a b n + Xmr (a.getD n 0 - b.getD n 0) := rfl
   have ab : 0 ≤ Xmr (a.getD n 0 - b.getD n 0) ∧ (Xmr (a.getD n 0 - b.getD n 0) = 0 ↔ a.getD n 0 - b.getD n 0 = 0) := by unfold Xmr; split <;> omega
   rw [e]
   constructor
   ·
    intro h i hi
    rcases Nat.lt_or_ge i n with h1 | h1
    ·
     exact (ih (by omega)).1 (by omega) i h1
    ·
     have : i = n := by omega
     subst this
     exact ab.2.1 (by omega)
   ·
    intro h
    have h1 := (ih (by omega)).2 fun i hi => h i (by omega)
    have h2 := ab.2.2 (h n (by omega))
    omega
 rw [Bool.eq_iff_iff, beq_iff_eq, List.all_eq_true, key 64 (by omega)]
 constructor
 ·
  intro h x hx
  obtain ⟨i, hi, rfl⟩ := List.mem_map.1 hx
  rw [List.mem_range] at hi
  rw [beq_iff_eq]; exact h i hi
 ·
  intro h i hi
  have := h ((Xp4 a b).getD i 0) (by rw [Xc2 _ i (by rw [Xev]; exact hi)]; exact List.getElem_mem _)
  rw [beq_iff_eq, Xo7 a b hi] at this
  exact this
theorem Yjz (l : List Int) (hl : l.length = 64) : Xbf l 64 0 0 = some (l.all fun x => x == 0) := by
 rw [Xin l 64 0 0 (by omega), show ((l.length : Int) == 64) = true by rw [beq_iff_eq]; omega, Bool.and_true]
 congr 2
 funext x
 rw [Bool.eq_iff_iff, decide_eq_true_eq, beq_iff_eq]; omega
structure Yoy (now ref : Pic) (w : List Int) (x y : Int) (c : Xdm) (r : Int) : Prop where
 ok : Xb5 now = true
 hx : x.tmod 8 = 0
 hy : y.tmod 8 = 0
 h0 : Xcy now x y = true
 hw : Xbi w = true
 hc : Xe1 c = true
 hr : 0 ≤ r ∧ r ≤ 4
 hk : c.Key = false → Xb5 ref = true ∧ ref.Wide = now.Wide ∧ ref.High = now.High
inductive Xmu (now ref : Pic) (w : List Int) (x y : Int) (c : Xdm) (r : Int) : Xam → Prop
 | same (hK : c.Key = false) (h : ∀ i : Nat, i < 64 → w.getD i 0 = (Xmw ref x y 64).getD i 0) : Xmu now ref w x y c r ⟨0, 0, 0, 0, []⟩
 | still (hK : c.Key = false) (l : List Int) (h : Xbt (Xp4 w (Xmw ref x y 64)) c = some (l, true)) (hl : Xwu l = true) (hz : ∀ i : Nat, i < 64 → l.getD i 0 = 0) : Xmu now ref w x y c r ⟨0, 0, 0, 0, []⟩
 | move (hK : c.Key = false) (dx dy : Int) (hdx : -r ≤ dx ∧ dx ≤ r) (hdy : -r ≤ dy ∧ dy ≤ r) (hh : Xcy ref (x + dx) (y + dy) = true) (l : List Int) (h : Xbt (Xp4 w (Xmw ref (x + dx) (y + dy) 64)) c = some (l, true)) (hl : Xwu l = true) (hn : ¬ ∀ i : Nat, i < 64 → w.getD i 0 = (Xmw ref x y 64).getD i 0) : Xmu now ref w x y c r ⟨1, 0, dx, dy, l⟩
 | guess (e : Xg4) (he : Xe4 now x y = some (e, true)) (hp : Xpl e) (m : Int) (hm : 0 ≤ m ∧ m ≤ 3) (g : List Int) (hg : Xdg m e = some g) (hd : Xbi g = true) (l : List Int) (h : Xbt (Xp4 w g) c = some (l, true)) (hl : Xwu l = true) (hn : c.Key = false → ¬ ∀ i : Nat, i < 64 → w.getD i 0 = (Xmw ref x y 64).getD i 0) : Xmu now ref w x y c r ⟨2, m, 0, 0, l⟩
theorem Xmu.ok {now ref : Pic} {w : List Int} {x y : Int} {c : Xdm} {r : Int} {q : Xam} (hr : 0 ≤ r ∧ r ≤ 4) (h : Xmu now ref w x y c r q) : Xqv q = true ∧ Xnp q c = true ∧ q.Levels.length ≤ 64 := by
 cases h with
 | same hK _ => exact ⟨rfl, by unfold Xnp; rw [hK]; rfl, by simp⟩
 | still hK l _ _ _ => exact ⟨rfl, by unfold Xnp; rw [hK]; rfl, by simp⟩
 | move hK dx dy hdx hdy hh l h hl hn => exact ⟨Ymk (by omega) (by omega) hl, by unfold Xnp; rw [hK]; rfl, by simp only; have := (Xsx hl).1; omega⟩
 | guess e he hp m hm g hg hd l h hl hn => exact ⟨Ykq hm hl, by unfold Xnp; simp, by simp only; have := (Xsx hl).1; omega⟩
theorem Yjw {l : List Int} (hl : l.length = 64) : (l.all fun x => x == 0) = true ↔ ∀ i : Nat, i < 64 → l.getD i 0 = 0 := by
 rw [List.all_eq_true]
 constructor
 ·
  intro h i hi
  have := h (l.getD i 0) (by rw [Xc2 l i (by omega)]; exact List.getElem_mem _)
  rwa [beq_iff_eq] at this
 ·
  intro h x hx
  obtain ⟨i, hi, rfl⟩ := List.getElem_of_mem hx
  rw [beq_iff_eq, ← Xc2 l i hi 0]
  exact h i (by omega)
theorem Ydk {p : Pic} {w : List Int} {x y r : Int} (ok : Xb5 p = true) (hw : Xbi w = true) (hr : 0 ≤ r ∧ r ≤ 4) (hx : x.tmod 8 = 0) (hy : y.tmod 8 = 0) (h0 : Xcy p x y = true) :
  ∃ b, Xdb p w x y r = some b ∧ Xlq p w x y r = some b ∧ (-r ≤ b.1 ∧ b.1 ≤ r) ∧ (-r ≤ b.2.1 ∧ b.2.1 ≤ r) ∧ Xcy p (x + b.1) (y + b.2.1) = true := by
 obtain ⟨b, e, h1, h2, h3, _⟩ := Xw2 ok hw hr hx hy h0
 exact ⟨b, e, by rw [← Ybm ok hw hr hx hy h0]; exact e, h1, h2, h3⟩
theorem Xln {now ref : Pic} {w : List Int} {x y : Int} {c : Xdm} {r : Int} (H : Yoy now ref w x y c r) : ∃ q d, Xed now ref w x y c r = some (q, d, true) ∧ Xkn now ref w x y c r = some (q, d, true) ∧ Xmu now ref w x y c r q ∧ Xca now ref 0 0 c x y q = some (d, true) ∧ Xbi d = true := by
 obtain ⟨ok, hx, hy, h0, hw, hc, hr, hk⟩ := H
 have hwl := (Xa8 hw).1
 obtain ⟨e, ee, he⟩ := Xmg ok hx hy h0
 obtain ⟨m, co, eb, hm⟩ := Xv2 hw he
 obtain ⟨g, eg, hg⟩ := Xgf m hm he
 obtain ⟨l, el, hl⟩ := Xpx (Xp4 w g) c hc (Xev w g) (Xkh hw hg)
 have hh := h0
 unfold Xcy at hh
 rw [decide_eq_true_eq] at hh
 obtain ⟨k1, k2, k3⟩ := Xat ok
 -- the square
 have main : ∃ q, Xmu now ref w x y c r q ∧ Xno now ref w x y c r = some q ∧
   (sel (!c.Key) (bnd (Xbq ref x y) fun q15 => bnd (Xm2 w q15) fun q16 => sel (q16 == 0) (some ((0 : Int), (0 : Int), (0 : Int), (0 : Int), ([] : List Int))) (bnd (Xdb ref w x y r) fun q17 => sel (decide (q17.2.2 ≤ co)) (bnd (Xbq ref (Xaa .i64 (x + q17.1)) (Xaa .i64 (y + q17.2.1))) fun q18 => bnd (Xfb w q18) fun q19 => bnd (Xe8 q19 c) fun q20 =>
    bnd (sel (q17.1 == 0) (sel (q17.2.1 == 0) (bnd (Xbf q20.1 64 0 0) fun q22 => some q22) (some false)) (some false)) fun v21 => sel v21 (some (0, 0, 0, 0, [])) (some (1, 0, q17.1, q17.2.1, q20.1))) (some (2, m, 0, 0, l)))) (some (2, m, 0, 0, l))) = some (q.Kind, q.Mode, q.Dx, q.Dy, q.Levels) := by
  unfold Xno
  cases hK : c.Key with
  | true =>
   refine ⟨⟨2, m, 0, 0, l⟩, .guess e ee he m hm g eg hg l el hl (fun h => by rw [hK] at h; cases h), ?_, rfl⟩
   rw [Xav, Xab, Xaq, ee, Xab, eb, Xab, Bool.not_true]
   simp only [Ynj, Xaq, eg, Xab, Xi9 hw hg, el]
  | false =>
   obtain ⟨rok, rw', rh⟩ := hk hK
   have hb := Xd3 ref x y
   have r0 : Xcy ref x y = true := by unfold Xcy; rw [decide_eq_true_eq, rw', rh]; exact hh
   have gz := Yng hw hb
   have lz := Yjw (Xev w (Xmw ref x y 64))
   rw [Bool.not_false, Xav, Xaq, Xfa rok x y (by omega) (by omega), Xab, Xoz hw hb, Xab, Xgd rok x y (by omega) (by omega), Xab, Xi9 hw hb, Xab, Xqu _ (by rw [Xev]; omega), Xab, Xab, gz]
   cases hz : ((Xp4 w (Xmw ref x y 64)).all fun x => x == 0) with
   | true =>
    refine ⟨⟨0, 0, 0, 0, []⟩, .same hK fun i hi => ?_, rfl, rfl⟩
    have := lz.1 hz i hi
    rw [Xo7 _ _ hi] at this; omega
   | false =>
    have hne : ¬ ∀ i : Nat, i < 64 → w.getD i 0 = (Xmw ref x y 64).getD i 0 := fun hall => by
     have := lz.2 fun i hi => by rw [Xo7 _ _ hi, hall i hi]; omega
     rw [hz] at this; cases this
    obtain ⟨b, bi, bs, b1, b2, b3⟩ := Ydk rok hw hr hx hy r0
    rw [Xaq, Xaq, ee, Xab, eb, Xab, bi, Xab]
    simp only [Ynj, Xav, bs, Xab]
    by_cases hco : b.2.2 ≤ co
    ·
     have hb2 := Xd3 ref (x + b.1) (y + b.2.1)
     obtain ⟨l2, el2, hl2⟩ := Xpx (Xp4 w (Xmw ref (x + b.1) (y + b.2.1) 64)) c hc (Xev _ _) (Xkh hw hb2)
     have hl2n := (Xsx hl2).1
     rw [Xbp hco, Xbp hco, wkA (e := x + b.1), wkA (e := y + b.2.1), Xgd rok _ _ (by omega) (by omega), Xfa rok _ _ (by omega) (by omega), Xab, Xab, Xpt hw hb2, Xi9 hw hb2, Xab, Xab, Xrm _ c hc (Xev _ _) (Xkh hw hb2), el2, Xab, Xab, Yjz l2 hl2n, Xab, Xqu l2 (by omega), Xab]
     simp only [Xgb, Xab]
     cases hst : (b.1 == 0 && (b.2.1 == 0 && l2.all fun x => x == 0)) with
     | true =>
      simp only [Bool.and_eq_true, beq_iff_eq] at hst
      obtain ⟨z1, z2, z3⟩ := hst
      rw [z1, z2, Int.add_zero, Int.add_zero] at el2
      exact ⟨⟨0, 0, 0, 0, []⟩, .still hK l2 el2 hl2 ((Yjw hl2n).1 z3), rfl, rfl⟩
     | false => exact ⟨⟨1, 0, b.1, b.2.1, l2⟩, .move hK b.1 b.2.1 b1 b2 b3 l2 el2 hl2 hne, rfl, rfl⟩
    ·
     rw [Xan hco, Xan hco]
     refine ⟨⟨2, m, 0, 0, l⟩, .guess e ee he m hm g eg hg l el hl (fun _ => hne), ?_, rfl⟩
     simp only [eg, Xab, Xi9 hw hg, el]
 obtain ⟨q, hq, es, ei⟩ := main
 obtain ⟨q1, q2, q3⟩ := hq.ok hr
 obtain ⟨d, di, ds, hd⟩ := Xl0 (now := now) (ref := ref) (l := 0) (t := 0) (x := x) (y := y) (c := c) (q := q) ⟨ok, hx, hy, h0, by omega, by omega, hc, by omega⟩ q1 q2 (fun h => (hk h).1)
 refine ⟨q, d, ?_, ?_, hq, di, hd⟩
 ·
  unfold Xed
  have hl7 : (sel c.Key (some false) (bnd (Xb3 ref) fun q8 => sel q8 (sel (ref.Wide != now.Wide) (some true) (some (ref.High != now.High))) (some true))) = some false := by
   cases hK : c.Key with
   | true => rfl
   | false =>
    obtain ⟨a1, a2, a3⟩ := hk hK
    rw [Xaq, Xb9, Xab, a1, a2, a3, Xav, bne_self_eq_false, Xaq, bne_self_eq_false]
  rw [Xb9, Xab, ok, Xav, Xqj ok hx hy h0, Xab, Xav, Xf2 w (by omega), Xab, hw, Xav, Xdf, Xab, hc, Xav, Xak, Xab, decide_eq_true hr, Bool.not_true, Xab, Xaq, hl7, Xab, Xaq, Xta ok hx hy h0, ee, Xab, Xyq hw he, eb, Xab, Xon m hm he, eg, Xab, Xpt hw hg, Xab, Xrm _ c hc (Xev _ _) (Xkh hw hg), el, Xab]
  simp only
  rw [ei, Xab]
  simp only
  rw [show (⟨q.Kind, q.Mode, q.Dx, q.Dy, q.Levels⟩ : Xam) = q from rfl, di, Xab]
  rfl
 ·
  unfold Xkn
  have hl7 : (sel c.Key (some false) (bnd (Xnc now ref) fun q6 => some (!q6))) = some false := by
   cases hK : c.Key with
   | true => rfl
   | false =>
    obtain ⟨a1, a2, a3⟩ := hk hK
    rw [Xaq, Ya8, Xab, Ynm ok a1 a2 a3]; rfl
  rw [Xd2 ok hx hy h0, Xab, Xav, Xd1 w hw, Xab, Xav, Xby, Xab, hc, Xav, Xai, Xab, decide_eq_true hr, Xav, hl7, Xab, Xaq, es, Xab, ds, Xab]
theorem Ymb : ∀ j : Fin 64, ∃ i : Fin 64, (Xxw 8).getD i.val 0 = (j.val : Int) := by decide +kernel
theorem Yat (j : Nat) (hj : j < 64) : ∃ i : Nat, i < 64 ∧ Xb4 8 i = (j : Int) := by
 obtain ⟨i, hi⟩ := Ymb ⟨j, hj⟩
 refine ⟨i.val, i.isLt, ?_⟩
 rw [← Yha i]; exact hi
def Xhm (l : List Int) : List Int := (List.range 64).map fun (i : Nat) => l.getD (Xb4 8 i).toNat 0
theorem Xr7 (l : List Int) (hl : l.length = 64) : Xec 8 l = some (Xhm l, true) := by
 have hm : maxLen = 9223372036854775807 := rfl
 have hw : Xaa .i64 (8 * 8) = 64 := wkA
 unfold Xec
 have hc : (sel ((8 : Int) != 4) (sel ((8 : Int) != 8) (some true) (some ((l.length : Int) != (Xaa .i64 (8 * 8))))) (some ((l.length : Int) != (Xaa .i64 (8 * 8))))) = some false := by
  rw [hw, hl]; rfl
 have := Yds (f := Xbz 8 l) 64 (fun i => l.getD (Xb4 8 i).toNat 0) [] (by
  intro i hi
  have hp := Xea 8 (Or.inr rfl) i (by omega)
  unfold Xbz
  simp only
  rw [hw, syA, Xdh 8 (Or.inr rfl) i (by omega), Xab, rqA, Xbe (by simp only [List.length_append, List.length_nil, List.length_map, List.length_range, List.length_singleton]; omega), wkA]
  rfl) (by unfold Xbz; rw [hw, Xan (by simp)])
 rw [List.nil_append] at this
 rw [hc, Xab, Xaq, this, Xab]
 rfl
theorem Xs0 (l : List Int) {i : Nat} (hi : i < 64) : (Xhm l).getD i 0 = l.getD (Xb4 8 i).toNat 0 := Xb8 _ hi
theorem Ybf (p : List Int) (hp : p.length = 64) : Xcu 8 (Xhm p) = some (p, true) := by
 have hw : Xaa .i64 (8 * 8) = 64 := wkA
 have hl : (Xhm p).length = 64 := by simp [Xhm]
 unfold Xcu
 have hc : (sel ((8 : Int) != 4) (sel ((8 : Int) != 8) (some true) (some (((Xhm p).length : Int) != (Xaa .i64 (8 * 8))))) (some (((Xhm p).length : Int) != (Xaa .i64 (8 * 8))))) = some false := by
  rw [hw, hl]; rfl
 rw [hc, Xab, Xaq, rqA, Int.toNat_natCast]
 obtain ⟨o, e, h1, h2⟩ := Xjd (f := Xbl 8 (Xhm p)) 64 (fun i s => s.length = 64 ∧ ∀ j : Nat, j < i → s.getD (Xb4 8 j).toNat 0 = p.getD (Xb4 8 j).toNat 0) (by
  intro i s hi ⟨g1, g2⟩
  have hp := Xea 8 (Or.inr rfl) i (by omega)
  unfold Xbl
  simp only
  rw [hw, syA, Xdh 8 (Or.inr rfl) i (by omega), Xab, rqA, rqA, rqA, wkA, Int.toNat_natCast, Xs0 p hi]
  refine ⟨_, rfl, by rw [List.length_set]; exact g1, fun j hj => ?_⟩
  rw [Xdn _ _ _ _ (by omega)]
  by_cases h : (Xb4 8 i).toNat = (Xb4 8 j).toNat
  ·
   rw [if_pos h, h]
  ·
   rw [if_neg h]
   have : j ≠ i := fun e => h (by rw [e])
   exact g2 j (by omega)) (fun s _ => by unfold Xbl; rw [hw, Xan (by simp)]) (List.replicate (Xhm p).length 0) ⟨by rw [List.length_replicate]; exact hl, fun j hj => by omega⟩
 rw [e, Xab]
 congr 2
 refine Xni h1 hp fun j hj => ?_
 obtain ⟨i, hi, hs⟩ := Yat j hj
 have := h2 i hi
 rwa [hs, Int.toNat_natCast] at this
theorem Xu7 {p l : List Int} {c : Xdm} (hc : Xe1 c = true) (hE : c.Exact = true) (hp : p.length = 64) (hb : inB 255 p) (h : Xbt p c = some (l, true)) (hl : Xwu l = true) : Xbd l c = some (p, true) ∧ l = Xhm p := by
 have e : l = Xhm p := by
  unfold Xbt at h
  rw [Xby, Xab, hc, Xav, Xbc p 64 255 (by omega) (by omega) (by omega) hb, Xab, Bool.not_true, Xab, Xaq, hE, Xav, Xr7 p hp, Xab] at h
  injection h with h
  injection h with h _
  exact h.symm
 refine ⟨?_, e⟩
 obtain ⟨l1, l2⟩ := Xsx hl
 unfold Xbd
 rw [Xby, Xab, hc, Xav, Xbc l 64 5000 (by omega) (by omega) (by omega) l2, Xab, Bool.not_true, Xab, Xaq, hE, Xav, e, Ybf p hp, Xab]
def Xo6 (g b : List Int) : List Int := (List.range 64).map fun i => Xbn (g.getD i 0 + b.getD i 0) 0 255
theorem Xr5 (g b : List Int) (hg : Xbi g = true) (hl : b.length = 64) (hb : inB 10000000 b) : Xgg g b = some (Xo6 g b) := by
 have hm : maxLen = 9223372036854775807 := rfl
 obtain ⟨g1, g2⟩ := Xa8 hg
 unfold Xgg
 rw [Xd1 g hg, Xab, Xav, Xbc b 64 10000000 (by omega) (by omega) (by omega) hb, Xab, Bool.not_true, Xab, Xaq]
 have := Yds (f := Xct g b) 64 (fun i => Xbn (g.getD i 0 + b.getD i 0) 0 255) [] (by
  intro i hi
  have ha := Xf8 hb (i := i) (by omega)
  have hd := g2 i hi
  unfold Xct
  simp only [Int.toNat_natCast]
  rw [syA, rqA, rqA, wkA (e := g.getD i 0 + b.getD i 0), Xdr, Xab, Xbe (by simp only [List.length_append, List.length_nil, List.length_map, List.length_range, List.length_singleton]; omega), wkA (e := (i : Int) + 1)]
  rfl) (by unfold Xct; rw [Xan (by simp)])
 rw [List.nil_append] at this
 rw [this, Xab]; rfl
theorem Yj3 {n : Int} (h : 0 ≤ n ∧ n ≤ 255) : Xbn n 0 255 = n := by
 unfold Xbn
 repeat' split
 all_goals omega
theorem Yac {w g : List Int} (hw : Xbi w = true) : Xo6 g (Xp4 w g) = w := by
 obtain ⟨w1, w2⟩ := Xa8 hw
 refine Xni (by simp [Xo6]) w1 fun i hi => ?_
 have := w2 i hi
 rw [Xo6, Xb8 _ hi, Xo7 _ _ hi, Yj3 (by omega)]; omega
theorem Xrn {now ref : Pic} {l t x y : Int} {c : Xdm} {q : Xam} (h : Yq8 now ref l t x y c q) (hq : Xqv q = true) (hL : Xnp q c = true) (hr : c.Key = false → Xb5 ref = true) : ∃ d, Xb0 now ref l t c x y q = some (d, true) ∧ Xbi d = true ∧
  ((q.Kind = 0 ∧ c.Key = false ∧ d = Xmw ref (l + x) (t + y) 64) ∨ (q.Kind = 1 ∧ c.Key = false ∧ ∃ b, Xbd q.Levels c = some (b, true) ∧ d = Xo6 (Xmw ref (l + x + q.Dx) (t + y + q.Dy) 64) b) ∨ (q.Kind = 2 ∧ ∃ e b g, Xe4 now x y = some (e, true) ∧ Xpl e ∧ Xbd q.Levels c = some (b, true) ∧ Xdg q.Mode e = some g ∧ Xbi g = true ∧ d = Xo6 g b)) := by
 obtain ⟨d, _, ed, hd⟩ := Xl0 h hq hL hr
 obtain ⟨ok, hx, hy, h0, hl, ht, hc, hs⟩ := h
 obtain ⟨k1, k2, k3⟩ := Xat ok
 have h0' := h0
 unfold Xcy at h0'
 rw [decide_eq_true_eq] at h0'
 have dxy := Yjo hq
 refine ⟨d, ed, hd, ?_⟩
 unfold Xb0 at ed
 rw [Xd2 ok hx hy h0, Xab, Xav, Xai, Xab, decide_eq_true hl, Xav, Xai, Xab, decide_eq_true ht, Xav, Xpy, Xab, hq, Xav, Xby, Xab, hc, Bool.not_true, Xab, Xaq] at ed
 by_cases h2 : q.Kind = 2
 ·
  obtain ⟨hm, hlv⟩ := Xrd hq h2
  obtain ⟨e, ee, he⟩ := Xmg ok hx hy h0
  obtain ⟨b, eb, b1, b2⟩ := Xfu q.Levels c hc hlv
  obtain ⟨g, eg, hg⟩ := Xgf q.Mode hm he
  rw [Xc5 (by simpa using h2), ee, Xab, eb, Xab, eg, Xab, Xr5 g b hg b1 b2, Xab] at ed
  injection ed with ed
  injection ed with ed _
  exact .inr (.inr ⟨h2, e, b, g, ee, he, eb, eg, hg, ed.symm⟩)
 ·
  have hK : c.Key = false := by
   unfold Xnp at hL
   cases hk : c.Key with
   | false => rfl
   | true => rw [hk] at hL; simp at hL; exact absurd hL h2
  have rok := hr hK
  rw [Xb6 (b := q.Kind == 2) (by simpa using h2), hK, Xaq, Xfd, Xab, rok, Bool.not_true, Xab, Xaq, wkA (e := l + x), wkA (e := l + x + q.Dx), wkA (e := t + y), wkA (e := t + y + q.Dy), Xgd rok _ _ (by omega) (by omega), Xab] at ed
  by_cases h3 : q.Kind = 0
  ·
   obtain ⟨z1, z2⟩ := Ybc hq h3
   rw [Xc5 (b := q.Kind == 0) (by simpa using h3), z1, z2, Int.add_zero, Int.add_zero] at ed
   injection ed with ed
   injection ed with ed _
   exact .inl ⟨h3, hK, ed.symm⟩
  ·
   have h1 : q.Kind = 1 := by have := Xoi hq; omega
   obtain ⟨_, _, hlv⟩ := Xph hq h1
   obtain ⟨b, eb, b1, b2⟩ := Xfu q.Levels c hc hlv
   rw [Xb6 (b := q.Kind == 0) (by simpa using h3), eb, Xab, Xr5 _ b (Xd3 _ _ _) b1 b2, Xab] at ed
   injection ed with ed
   injection ed with ed _
   exact .inr (.inl ⟨h1, hK, b, eb, ed.symm⟩)
theorem Yj7 {now ref : Pic} {w : List Int} {x y : Int} {c : Xdm} {r : Int} {q : Xam} (H : Yoy now ref w x y c r) (hE : c.Exact = true) (hq : Xmu now ref w x y c r q) {d : List Int} (hd : Xb0 now ref 0 0 c x y q = some (d, true)) : d = w := by
 obtain ⟨q1, q2, q3⟩ := hq.ok H.hr
 have SD : Yq8 now ref 0 0 x y c q := ⟨H.ok, H.hx, H.hy, H.h0, by omega, by omega, H.hc, by omega⟩
 obtain ⟨d', e', _, hv⟩ := Xrn SD q1 q2 (fun h => (H.hk h).1)
 rw [hd] at e'
 injection e' with e'
 injection e' with e' _
 subst e'
 have wl := (Xa8 H.hw).1
 rw [Int.zero_add, Int.zero_add] at hv
 cases hq with
 | same hK h =>
  rcases hv with ⟨_, _, e⟩ | ⟨k, _⟩ | ⟨k, _⟩
  ·
   rw [e]; exact (Xni wl (Xl1 _ _ _ _) h).symm
  ·
   simp at k
  ·
   simp at k
 | still hK l h hl hz =>
  rcases hv with ⟨_, _, e⟩ | ⟨k, _⟩ | ⟨k, _⟩
  ·
   obtain ⟨_, es⟩ := Xu7 H.hc hE (Xev _ _) (Xkh H.hw (Xd3 ref x y)) h hl
   rw [e]
   refine Xni (Xl1 _ _ _ _) wl fun j hj => ?_
   obtain ⟨i, hi, hs⟩ := Yat j hj
   have := hz i hi
   rw [es, Xs0 _ hi, hs, Int.toNat_natCast, Xo7 _ _ hj] at this
   omega
  ·
   simp at k
  ·
   simp at k
 | move hK dx dy hdx hdy hh l h hl hn =>
  rcases hv with ⟨k, _⟩ | ⟨_, _, b, eb, e⟩ | ⟨k, _⟩
  ·
   simp at k
  ·
   obtain ⟨ex, _⟩ := Xu7 H.hc hE (Xev _ _) (Xkh H.hw (Xd3 ref (x + dx) (y + dy))) h hl
   simp only at eb e
   rw [ex] at eb
   injection eb with eb
   injection eb with eb _
   rw [e, ← eb]; exact Yac H.hw
  ·
   simp at k
 | guess e he hp m hm g hg hgd l h hl hn =>
  rcases hv with ⟨k, _⟩ | ⟨k, _⟩ | ⟨_, e2, b, g2, ee, _, eb, eg, _, ed⟩
  ·
   simp at k
  ·
   simp at k
  ·
   obtain ⟨ex, _⟩ := Xu7 H.hc hE (Xev _ _) (Xkh H.hw hgd) h hl
   simp only at eb eg
   rw [he] at ee
   injection ee with ee
   injection ee with ee _
   rw [← ee, hg] at eg
   injection eg with eg
   rw [ex] at eb
   injection eb with eb
   injection eb with eb _
   rw [ed, ← eb, ← eg]; exact Yac H.hw
theorem Ya7 (u : Xa7) (hu : Xk9 u) : ∃ c u', Xk3 u = some (c, u') ∧ Xe1 c = true ∧ Xk9 u' := by
 unfold Xk3
 obtain ⟨p, u1, e1, hp, h1⟩ := Xs6 u hu
 obtain ⟨b, u2, e2, h2⟩ := Xml u1 2 h1
 rw [e1, Xab, e2, Xab]
 refine ⟨_, _, rfl, ?_, h2⟩
 unfold Xe1
 exact hp
theorem Xx1 (b : List Int) (hb : b.length ≤ 1048576) : ∃ c, Xiy b = some c ∧ Xe1 c = true := by
 unfold Xiy
 obtain ⟨u, e, hu⟩ := Xnn b hb
 obtain ⟨c, u', e2, hc, _⟩ := Ya7 u hu
 rw [e, Xab, e2, Xab]
 exact ⟨_, rfl, hc⟩
theorem Xuq {W x y : Int} (hx : 0 ≤ x ∧ x < W) : (y * W + x) / W = y ∧ (y * W + x) % W = x := by
 have hW : 0 < W := by omega
 constructor
 ·
  rw [Int.add_comm, Int.add_mul_ediv_right _ _ (by omega), Int.ediv_eq_zero_of_lt hx.1 hx.2, Int.zero_add]
 ·
  rw [Int.add_comm, Int.add_mul_emod_self_right, Int.emod_eq_of_lt hx.1 hx.2]
theorem Xm6 {W H x y : Int} (hx : 0 ≤ x ∧ x < W) (hy : 0 ≤ y ∧ y < H) : 0 ≤ y * W + x ∧ y * W + x < W * H := by
 have a : 0 ≤ y * W := Int.mul_nonneg hy.1 (by omega)
 have b : y * W ≤ (H - 1) * W := Int.mul_le_mul_of_nonneg_right (by omega) (by omega)
 have c : (H - 1) * W = W * H - W := by rw [Int.sub_mul, Int.one_mul, Int.mul_comm]
 omega
theorem Yc1 {n m : Int} (h : 0 ≤ n ∧ n ≤ m) : Xbn n 0 m = n := by
 unfold Xbn
 repeat' split
 all_goals omega
theorem Xmy {p : Pic} {x y : Int} (hx : 0 ≤ x ∧ x < p.Wide) (hy : 0 ≤ y ∧ y < p.High) : Xlo p x y = Xp5 p.Dots (y * p.Wide + x) := by
 unfold Xlo
 rw [Yc1 (by omega), Yc1 (by omega)]
theorem Xj0 (s : ByteArray) (k : Nat) (hk : k < s.size) : (Xaz s).getD k 0 = Xp5 s k := by
 have := Xy2 (Xaz s) (by intro x hx; obtain ⟨b, _, rfl⟩ := List.mem_map.1 hx; have := b.toNat_lt; omega) k (by rw [Xbm]; exact hk)
 rw [Xwe] at this
 exact this.symm
theorem Xqy (s : ByteArray) : Yfy (Xaz s) := fun x hx => by
 obtain ⟨b, _, rfl⟩ := List.mem_map.1 hx
 have := b.toNat_lt
 omega
theorem Yk8 {l : List Int} (h : Yfy l) (i : Nat) {y : Int} (hy : 0 ≤ y ∧ y ≤ 255) : Yfy (l.set i y) := fun x hx => by
 rcases List.mem_or_eq_of_mem_set hx with hx | hx
 ·
  exact h x hx
 ·
  rw [hx]; exact hy
theorem Yor {p q : Pic} (hp : Xb5 p = true) (hq : Xb5 q = true) (hw : p.Wide = q.Wide) (hh : p.High = q.High) (h : ∀ x y : Int, 0 ≤ x ∧ x < p.Wide → 0 ≤ y ∧ y < p.High → Xlo p x y = Xlo q x y) : p = q := by
 obtain ⟨p1, p2, p3⟩ := Xat hp
 obtain ⟨q1, q2, q3⟩ := Xat hq
 have hd : p.Dots = q.Dots := by
  rw [← Xwe p.Dots, ← Xwe q.Dots]
  congr 1
  have hsz : p.Dots.size = q.Dots.size := by
   have : (p.Dots.size : Int) = q.Dots.size := by rw [p3, q3, hw, hh]
   omega
  refine Xni (n := p.Dots.size) (Xbm _) ((Xbm _).trans hsz.symm) fun k hk => ?_
  have hkW : (k : Int) < p.Wide * p.High := by omega
  have m0 := Int.emod_nonneg (k : Int) (show p.Wide ≠ 0 by omega)
  have m1 := Int.emod_lt_of_pos (k : Int) (show 0 < p.Wide by omega)
  have d0 : 0 ≤ (k : Int) / p.Wide := Int.ediv_nonneg (by omega) (by omega)
  have d1 : (k : Int) / p.Wide < p.High := Int.ediv_lt_of_lt_mul (by omega) (by rw [Int.mul_comm]; exact hkW)
  have e := h ((k : Int) % p.Wide) ((k : Int) / p.Wide) ⟨m0, m1⟩ ⟨d0, d1⟩
  rw [Xmy ⟨m0, m1⟩ ⟨d0, d1⟩, Xmy (by rw [← hw]; exact ⟨m0, m1⟩) (by rw [← hh]; exact ⟨d0, d1⟩), ← hw, Int.ediv_mul_add_emod] at e
  rw [Xj0 _ k hk, Xj0 _ k (by omega)]
  exact e
 cases p; cases q
 simp only at hw hh hd
 rw [hw, hh, hd]
def Ylk (x y X Y : Int) : Bool := decide (x ≤ X ∧ X < x + 8 ∧ y ≤ Y ∧ Y < y + 8)
theorem Ynr {p : Pic} {x y : Int} {d : List Int} (ok : Xb5 p = true) (h0 : Xcy p x y = true) (hd : Xbi d = true) : ∃ p', Xff p x y d = some p' ∧ Xb5 p' = true ∧ p'.Wide = p.Wide ∧ p'.High = p.High ∧ ∀ X Y : Int, 0 ≤ X ∧ X < p.Wide → 0 ≤ Y ∧ Y < p.High → Xlo p' X Y = if Ylk x y X Y = true then d.getD ((Y - y) * 8 + (X - x)).toNat 0 else Xlo p X Y := by
 obtain ⟨k1, k2, k3⟩ := Xat ok
 have ar := Xc1 k1 k2
 have hm : maxLen = 9223372036854775807 := rfl
 obtain ⟨d1, d2⟩ := Xa8 hd
 have h0' := h0
 unfold Xcy at h0'
 rw [decide_eq_true_eq] at h0'
 have hn := Xbm p.Dots
 unfold Xff
 rw [rqA]
 obtain ⟨o, e, o1, o2, o3⟩ := Xjd (f := Xcv p x y d) 64 (fun i s => s.length = p.Dots.size ∧ Yfy s ∧ ∀ X Y : Int, 0 ≤ X ∧ X < p.Wide → 0 ≤ Y ∧ Y < p.High → s.getD (Y * p.Wide + X).toNat 0 = if Ylk x y X Y = true ∧ ((Y - y) * 8 + (X - x)).toNat < i then d.getD ((Y - y) * 8 + (X - x)).toNat 0 else (Xaz p.Dots).getD (Y * p.Wide + X).toNat 0) (by
  intro i s hi ⟨g1, g2, g3⟩
  have di := d2 i hi
  have hxx : 0 ≤ x + (i : Int) % 8 ∧ x + (i : Int) % 8 < p.Wide := by omega
  have hyy : 0 ≤ y + (i : Int) / 8 ∧ y + (i : Int) / 8 < p.High := by omega
  have pin := Xm6 hxx hyy
  have b1 : 0 ≤ (y + (i : Int) / 8) * p.Wide := Int.mul_nonneg (by omega) (by omega)
  have b2 : (y + (i : Int) / 8) * p.Wide ≤ (p.High - 1) * p.Wide := Int.mul_le_mul_of_nonneg_right (by omega) (by omega)
  have b3 : (p.High - 1) * p.Wide = p.Wide * p.High - p.Wide := by rw [Int.sub_mul, Int.one_mul, Int.mul_comm]
  unfold Xcv
  simp only
  rw [syA, rqA, rqA, rqA, Xbk (by omega), Xcg (by omega), wkA (e := (i : Int) / 8), wkA (e := y + (i : Int) / 8), wkA (e := (y + (i : Int) / 8) * p.Wide), wkA (e := (y + (i : Int) / 8) * p.Wide + x), wkA (e := (y + (i : Int) / 8) * p.Wide + x + (i : Int) % 8), rqA, rqA, wkA (e := (i : Int) + 1), Int.toNat_natCast, w8 di.1 di.2]
  refine ⟨_, rfl, by rw [List.length_set]; exact g1, Yk8 g2 _ di, fun X Y hX hY => ?_⟩
  have pXY := Xm6 hX hY
  rw [Xdn _ _ _ _ (by omega)]
  by_cases heq : ((y + (i : Int) / 8) * p.Wide + x + (i : Int) % 8).toNat = (Y * p.Wide + X).toNat
  ·
   rw [if_pos heq]
   have heq' : (y + (i : Int) / 8) * p.Wide + (x + (i : Int) % 8) = Y * p.Wide + X := by omega
   have q1 := Xuq (y := y + (i : Int) / 8) hxx
   have q2 := Xuq (y := Y) hX
   rw [heq'] at q1
   have eY : Y = y + (i : Int) / 8 := q2.1.symm.trans q1.1
   have eX : X = x + (i : Int) % 8 := q2.2.symm.trans q1.2
   have hin : Ylk x y X Y = true := by unfold Ylk; rw [decide_eq_true_eq]; omega
   have hpl : ((Y - y) * 8 + (X - x)).toNat = i := by omega
   rw [if_pos ⟨hin, by omega⟩, hpl]
  ·
   rw [if_neg heq, g3 X Y hX hY]
   by_cases hin : Ylk x y X Y = true
   ·
    have hin' := hin
    unfold Ylk at hin'
    rw [decide_eq_true_eq] at hin'
    by_cases hlt : ((Y - y) * 8 + (X - x)).toNat < i
    ·
     rw [if_pos ⟨hin, hlt⟩, if_pos ⟨hin, by omega⟩]
    ·
     have hne : ((Y - y) * 8 + (X - x)).toNat ≠ i := fun h => heq (by
      have eY : Y = y + (i : Int) / 8 := by omega
      have eX : X = x + (i : Int) % 8 := by omega
      rw [eY, eX]; congr 1; omega)
     rw [if_neg (fun h => hlt h.2), if_neg (fun h => by omega)]
   ·
    rw [if_neg (fun h => hin h.1), if_neg (fun h => hin h.1)]) (fun s _ => by unfold Xcv; rw [Xan (by simp)]) (Xaz p.Dots) ⟨hn, Xqy _, fun X Y hX hY => by rw [if_neg (fun h => by omega)]⟩
 refine ⟨_, (Xgz e).trans rfl, Xq6 k1 k2 (by simp only; rw [strOfNums_size]; omega), rfl, rfl, fun X Y hX hY => ?_⟩
 have pXY := Xm6 hX hY
 rw [Xmy (p := ⟨p.Wide, p.High, strOfNums o⟩) hX hY, Xmy hX hY]
 simp only
 have e1 : Xp5 (strOfNums o) (Y * p.Wide + X) = o.getD (Y * p.Wide + X).toNat 0 := by
  have := Xy2 o o2 (Y * p.Wide + X).toNat (by omega)
  rwa [show (((Y * p.Wide + X).toNat : Nat) : Int) = Y * p.Wide + X by omega] at this
 have e2 : Xp5 p.Dots (Y * p.Wide + X) = (Xaz p.Dots).getD (Y * p.Wide + X).toNat 0 := by
  rw [Xj0 _ _ (by omega), show (((Y * p.Wide + X).toNat : Nat) : Int) = Y * p.Wide + X by omega]
 rw [e1, e2, o3 X Y hX hY]
 by_cases hin : Ylk x y X Y = true
 ·
  have hin' := hin
  unfold Ylk at hin'
  rw [decide_eq_true_eq] at hin'
  rw [if_pos ⟨hin, by omega⟩, if_pos hin]
 ·
  rw [if_neg (fun h => hin h.1), if_neg hin]
theorem Ylc {p : Pic} {r : Ydn} (ok : Xb5 p = true) (h : Xnr p r = true) (X Y : Int) (hX : 0 ≤ X ∧ X < r.Wide) (hY : 0 ≤ Y ∧ Y < r.High) : Xlo (Yqc p r) X Y = Xlo p (r.Left + X) (r.Top + Y) := by
 obtain ⟨k1, k2, k3⟩ := Xat ok
 obtain ⟨a1, a2, a3, a4⟩ := Xhy h
 have key : ∀ n : Nat, (n : Int) ≤ r.High → Yfy (Xfv p r n) ∧ ∀ X Y : Int, 0 ≤ X ∧ X < r.Wide → 0 ≤ Y ∧ Y < n → (Xfv p r n).getD (Y * r.Wide + X).toNat 0 = Xlo p (r.Left + X) (r.Top + Y) := by
  intro n
  induction n with
  | zero => intro _; exact ⟨fun x hx => by simp [Xfv] at hx, fun X Y hX hY => by omega⟩
  | succ n ih =>
   intro hn
   obtain ⟨i1, i2⟩ := ih (by omega)
   obtain ⟨b1, b2, b3, b4⟩ := Yhu ok h n (by omega)
   have cl := Xl2 ok h n (by omega)
   refine ⟨fun x hx => ?_, fun X Y hX hY => ?_⟩
   ·
    rw [Xfv] at hx
    rcases List.mem_append.1 hx with hx | hx
    ·
     exact i1 x hx
    ·
     exact Xqy _ x hx
   ·
    have pXY := Xm6 (H := (n : Int) + 1) (y := Y) hX (by omega)
    rw [Xfv, List.getD_eq_getElem?_getD, List.getElem?_append]
    by_cases hlt : Y < n
    ·
     have := Xm6 (H := n) hX (y := Y) (by omega)
     have h2 : r.Wide * n = n * r.Wide := Int.mul_comm _ _
     rw [if_pos (by omega), ← List.getD_eq_getElem?_getD]
     exact i2 X Y hX (by omega)
    ·
     have eY : Y = n := by omega
     subst eY
     rw [if_neg (by omega), ← List.getD_eq_getElem?_getD]
     have hk : ((n : Int) * r.Wide + X).toNat - (Xfv p r n).length = X.toNat := by omega
     rw [hk, Xj0 _ _ (by rw [Xbm] at b4; omega), Xmy (p := p) (x := r.Left + X) (y := r.Top + n) (by omega) (by omega)]
     unfold Xp5
     have hs : (p.Dots.extract ((r.Top + n) * p.Wide + r.Left).toNat ((r.Top + n) * p.Wide + r.Left + r.Wide).toNat).size = r.Wide.toNat := by rw [← Xbm]; exact b4
     rw [dif_pos (by rw [hs]; omega), dif_pos (show ((r.Top + (n : Int)) * p.Wide + (r.Left + X)).toNat < p.Dots.size by omega)]
     rw [ByteArray.getElem_extract]
     congr 2
     congr 1
     omega
 obtain ⟨c1, c2⟩ := key r.High.toNat (by omega)
 have cl := Xl2 ok h r.High.toNat (by omega)
 have pXY := Xm6 hX hY
 have cm : ((r.High.toNat : Nat) : Int) * r.Wide = r.Wide * r.High := by rw [Int.mul_comm]; congr 1; omega
 rw [Xmy (p := Yqc p r) hX hY]
 show Xp5 (strOfNums (Xfv p r r.High.toNat)) (Y * r.Wide + X) = _
 have := Xy2 _ c1 (Y * r.Wide + X).toNat (by omega)
 rw [show (((Y * r.Wide + X).toNat : Nat) : Int) = Y * r.Wide + X by omega] at this
 rw [this]
 exact c2 X Y hX (by omega)
theorem Yld {p : Pic} (ok : Xb5 p = true) : Xnr p ⟨0, 0, p.Wide, p.High⟩ = true ∧ Yqc p ⟨0, 0, p.Wide, p.High⟩ = p := by
 obtain ⟨k1, k2, k3⟩ := Xat ok
 have hh : Xnr p ⟨0, 0, p.Wide, p.High⟩ = true := by
  unfold Xnr
  simp only [Bool.and_eq_true, decide_eq_true_eq]
  omega
 refine ⟨hh, Yor (Yo7 ok hh) ok rfl rfl fun X Y hX hY => ?_⟩
 rw [Ylc ok hh X Y hX hY]
 simp only [Int.zero_add]
def tX (W : Int) (i : Nat) : Int := (i : Int) % (W / 8) * 8
def tY (W : Int) (i : Nat) : Int := (i : Int) / (W / 8) * 8
structure Ykt (src ref : Pic) (c : Xdm) (r : Int) : Prop where
 ok : Xb5 src = true
 hw : Xuw src.Wide = true
 hh : Xuw src.High = true
 hc : Xe1 c = true
 hr : 0 ≤ r ∧ r ≤ 4
 hk : c.Key = false → Xb5 ref = true ∧ ref.Wide = src.Wide ∧ ref.High = src.High
inductive Xjf (src ref : Pic) (c : Xdm) (r : Int) : Nat → List Xam → Pic → Prop
 | zero : Xjf src ref c r 0 [] ⟨src.Wide, src.High, strOfNums (List.replicate (src.Wide * src.High).toNat 128)⟩
 | succ {n : Nat} {l : List Xam} {now : Pic} (h : Xjf src ref c r n l now) (hn : (n : Int) < src.Wide / 8 * (src.High / 8)) (q : Xam) (d : List Int) (now' : Pic)
   (hi : Xed now ref (Xmw src (tX src.Wide n) (tY src.Wide n) 64) (tX src.Wide n) (tY src.Wide n) c r = some (q, d, true)) (hs : Xkn now ref (Xmw src (tX src.Wide n) (tY src.Wide n) 64) (tX src.Wide n) (tY src.Wide n) c r = some (q, d, true)) (hq : Xmu now ref (Xmw src (tX src.Wide n) (tY src.Wide n) 64) (tX src.Wide n) (tY src.Wide n) c r q)
   (hd : Xca now ref 0 0 c (tX src.Wide n) (tY src.Wide n) q = some (d, true)) (hp : Xff now (tX src.Wide n) (tY src.Wide n) d = some now') : Xjf src ref c r (n + 1) (l ++ [q]) now'
theorem Ypc {w h : Int} (hw : 1 ≤ w ∧ w ≤ 256) (hh : 1 ≤ h ∧ h ≤ 256) : Xb5 ⟨w, h, strOfNums (List.replicate (w * h).toNat 128)⟩ = true := by
 have ar := Xc1 hw hh
 refine Xq6 hw hh ?_
 simp only
 rw [strOfNums_size, List.length_replicate]; omega
theorem Ye9 {src ref now : Pic} {c : Xdm} {r : Int} (H : Ykt src ref c r) {n : Nat} (hn : (n : Int) < src.Wide / 8 * (src.High / 8)) (ok : Xb5 now = true) (hw : now.Wide = src.Wide) (hh : now.High = src.High) : Yoy now ref (Xmw src (tX src.Wide n) (tY src.Wide n) 64) (tX src.Wide n) (tY src.Wide n) c r := by
 obtain ⟨p1, p2, p3, p4, p5, p6, p7, p8, p9, p10⟩ := Ydh H.hw H.hh n hn
 refine ⟨ok, by unfold tX; rw [Xcg p7]; omega, by unfold tY; rw [Xcg p9]; omega, by unfold Xcy tX tY; rw [decide_eq_true_eq, hw, hh]; exact ⟨p7, p8, p9, p10⟩, Xd3 _ _ _, H.hc, H.hr, fun hK => ?_⟩
 obtain ⟨a, b, c⟩ := H.hk hK
 exact ⟨a, by rw [b, hw], by rw [c, hh]⟩
theorem Xjf.pic {src ref : Pic} {c : Xdm} {r : Int} (H : Ykt src ref c r) {n : Nat} {l : List Xam} {now : Pic} (h : Xjf src ref c r n l now) : Xb5 now = true ∧ now.Wide = src.Wide ∧ now.High = src.High ∧ l.length = n ∧ (∀ q ∈ l, Xqv q = true ∧ Xnp q c = true ∧ q.Levels.length ≤ 64) := by
 induction h with
 | zero =>
  obtain ⟨k1, k2, k3⟩ := Xat H.ok
  exact ⟨Ypc k1 k2, rfl, rfl, rfl, fun q hq => by simp at hq⟩
 | succ h hn q d now' hi hs hq hd hp ih =>
  obtain ⟨ok, w, hh, hl, hall⟩ := ih
  have SF := Ye9 H hn ok w hh
  obtain ⟨q2, d2, e2, _, _, _, hd64⟩ := Xln SF
  rw [hi] at e2
  injection e2 with e2
  injection e2 with e2 e3
  injection e3 with e3 _
  subst e2; subst e3
  obtain ⟨p', ep, p1, p2, p3⟩ := Xsc ok SF.h0 hd64
  rw [hp] at ep
  injection ep with ep
  subst ep
  refine ⟨p1, by rw [p2, w], by rw [p3, hh], by rw [List.length_append, hl]; rfl, fun x hx => ?_⟩
  rcases List.mem_append.1 hx with hx | hx
  ·
   exact hall x hx
  ·
   rw [List.mem_singleton.1 hx]; exact hq.ok H.hr
theorem Xjf.step {src ref : Pic} {c : Xdm} {r : Int} (H : Ykt src ref c r) {n : Nat} {l : List Xam} {now : Pic} (h : Xjf src ref c r n l now) (hn : (n : Int) < src.Wide / 8 * (src.High / 8)) : ∃ q d now', Xed now ref (Xmw src (tX src.Wide n) (tY src.Wide n) 64) (tX src.Wide n) (tY src.Wide n) c r = some (q, d, true) ∧ Xkn now ref (Xmw src (tX src.Wide n) (tY src.Wide n) 64) (tX src.Wide n) (tY src.Wide n) c r = some (q, d, true) ∧ Xbi d = true ∧ Xff now (tX src.Wide n) (tY src.Wide n) d = some now' ∧ Xjf src ref c r (n + 1) (l ++ [q]) now' := by
 obtain ⟨ok, w, hh, hl, _⟩ := h.pic H
 have SF := Ye9 H hn ok w hh
 obtain ⟨q, d, e1, e2, hq, ed, hd64⟩ := Xln SF
 obtain ⟨p', ep, p1, p2, p3⟩ := Xsc ok SF.h0 hd64
 exact ⟨q, d, p', e1, e2, hd64, ep, .succ h hn q d p' e1 e2 hq ed ep⟩
theorem Yq1 {W : Int} (hW : Xuw W = true) (a b : Nat) (hb : (b : Int) < W / 8) : tX W ((W / 8).toNat * a + b) = 8 * b ∧ tY W ((W / 8).toNat * a + b) = 8 * a := by
 have s := Xcm hW
 have e : (((W / 8).toNat * a + b : Nat) : Int) = (a : Int) * (W / 8) + b := by
  rw [Int.natCast_add, Int.natCast_mul, show (((W / 8).toNat : Nat) : Int) = W / 8 by omega, Int.mul_comm]
 have d := Xuq (W := W / 8) (x := b) (y := a) ⟨by omega, hb⟩
 unfold tX tY
 rw [e, d.1, d.2]
 omega
theorem Yov {W H : Int} (hW : Xuw W = true) (a b : Nat) (hb : (b : Int) < W / 8) (ha : (a : Int) < H / 8) : (((W / 8).toNat * a + b : Nat) : Int) < W / 8 * (H / 8) := by
 have s := Xcm hW
 have p := Xm6 (W := W / 8) (H := H / 8) (x := b) (y := a) ⟨by omega, hb⟩ ⟨by omega, ha⟩
 rw [Int.natCast_add, Int.natCast_mul, show (((W / 8).toNat : Nat) : Int) = W / 8 by omega, Int.mul_comm (W / 8)]
 exact p.2
theorem Xxl {src ref : Pic} {c : Xdm} {r : Int} (H : Ykt src ref c r) : ∃ l now, Xkv src ref c r = some (l, now, true) ∧ Xjf src ref c r ((src.Wide / 8).toNat * (src.High / 8).toNat) l now := by
 have hm : maxLen = 9223372036854775807 := rfl
 have sw := Xcm H.hw
 have sh := Xcm H.hh
 obtain ⟨k1, k2, k3⟩ := Xat H.ok
 -- one row
 have row : ∀ a : Nat, (a : Int) < src.High / 8 → ∀ (l : List Xam) (now : Pic), Xjf src ref c r ((src.Wide / 8).toNat * a) l now → ∃ l' now', loop (Xdz src ref c r ((8 * a : Nat), l, now.Wide, now.High, now.Dots)) (0, l, now.Wide, now.High, now.Dots) = some (.out (l', now'.Wide, now'.High, now'.Dots)) ∧ Xjf src ref c r ((src.Wide / 8).toNat * (a + 1)) l' now' := by
  intro a ha l now hT
  have key : ∀ b : Nat, b ≤ (src.Wide / 8).toNat → ∀ (l2 : List Xam) (now2 : Pic), Xjf src ref c r ((src.Wide / 8).toNat * a + b) l2 now2 → ∃ l' now', loop (Xdz src ref c r ((8 * a : Nat), l, now.Wide, now.High, now.Dots)) (((8 * b : Nat) : Int), l2, now2.Wide, now2.High, now2.Dots) = some (.out (l', now'.Wide, now'.High, now'.Dots)) ∧ Xjf src ref c r ((src.Wide / 8).toNat * (a + 1)) l' now' := by
   refine Xg0 _ ?_ ?_
   ·
    intro l2 now2 h2
    refine ⟨l2, now2, Xib ?_, by rw [Nat.mul_add, Nat.mul_one]; exact h2⟩
    unfold Xdz
    rw [Xan (by simp only; omega)]
   ·
    intro b hb ih l2 now2 h2
    have hbI : (b : Int) < src.Wide / 8 := by omega
    obtain ⟨eX, eY⟩ := Yq1 H.hw a b hbI
    obtain ⟨q, d, now', e1, _, hd, ep, hT'⟩ := h2.step H (Yov H.hw a b hbI ha)
    rw [eX, eY] at e1 ep
    obtain ⟨ok2, w2, hh2, hl2, _⟩ := h2.pic H
    obtain ⟨l', n', el, hT2⟩ := ih (l2 ++ [q]) now' hT'
    refine ⟨l', n', lgo (y := (((8 * (b + 1) : Nat) : Int), l2 ++ [q], now'.Wide, now'.High, now'.Dots)) ?_ el, hT2⟩
    have lb : l2.length ≤ 1000 := by
     have := Yov H.hw a b hbI ha
     have : src.Wide / 8 * (src.High / 8) ≤ 8 * 8 := Int.mul_le_mul (by omega) (by omega) (by omega) (by omega)
     omega
    unfold Xdz
    simp only
    rw [show ((8 * a : Nat) : Int) = 8 * (a : Int) by omega, show ((8 * b : Nat) : Int) = 8 * (b : Int) by omega, syA, Xfa H.ok _ _ (by omega) (by omega), Xab, show (⟨now2.Wide, now2.High, now2.Dots⟩ : Pic) = now2 from rfl, e1, Xab]
    simp only
    rw [Bool.not_true, Xaq, Xbe (by simp only [List.length_singleton]; omega), Yg1 hd (by have := Yiw ok2; omega), ep, Xab, wkA, show ((8 * (b + 1) : Nat) : Int) = 8 * (b : Int) + 8 by omega]
  exact key 0 (by omega) l now hT
 have rows : ∀ a : Nat, a ≤ (src.High / 8).toNat → ∀ (l : List Xam) (now : Pic), Xjf src ref c r ((src.Wide / 8).toNat * a) l now → ∃ l' now', loop (Xdy src ref c r) (((8 * a : Nat) : Int), l, now.Wide, now.High, now.Dots) = some (.out (l', now'.Wide, now'.High, now'.Dots)) ∧ Xjf src ref c r ((src.Wide / 8).toNat * (src.High / 8).toNat) l' now' := by
  refine Xg0 _ ?_ ?_
  ·
   intro l now h
   refine ⟨l, now, Xib ?_, h⟩
   unfold Xdy
   rw [Xan (by simp only; omega)]
  ·
   intro a ha ih l now h
   obtain ⟨l', n', el, hT⟩ := row a (by omega) l now h
   obtain ⟨l2, n2, el2, hT2⟩ := ih l' n' hT
   refine ⟨l2, n2, lgo (y := (((8 * (a + 1) : Nat) : Int), l', n'.Wide, n'.High, n'.Dots)) ?_ el2, hT2⟩
   unfold Xdy
   rw [Xbp (by simp only; omega)]
   simp only
   rw [el, Xab]
   simp only
   rw [wkA, show ((8 * (a + 1) : Nat) : Int) = ((8 * a : Nat) : Int) + 8 by omega]
 obtain ⟨l, now, e, hT⟩ := rows 0 (by omega) [] ⟨src.Wide, src.High, strOfNums (List.replicate (src.Wide * src.High).toNat 128)⟩ (by rw [Nat.mul_zero]; exact .zero)
 refine ⟨l, now, ?_, hT⟩
 unfold Xkv
 have hl7 : (sel c.Key (some false) (bnd (Xb3 ref) fun q8 => sel q8 (sel (ref.Wide != src.Wide) (some true) (some (ref.High != src.High))) (some true))) = some false := by
  cases hK : c.Key with
  | true => rfl
  | false =>
   obtain ⟨a1, a2, a3⟩ := H.hk hK
   rw [Xaq, Xb9, Xab, a1, a2, a3, Xav, bne_self_eq_false, Xaq, bne_self_eq_false]
 rw [Xb9, Xab, H.ok, Xav, Xkf, Xab, H.hw, Xav, Xkf, Xab, H.hh, Xav, Xdf, Xab, H.hc, Xav, Xak, Xab, decide_eq_true H.hr, Bool.not_true, Xab, Xaq, hl7, Xab, Xaq, Xwk _ _ k1 k2, Xab]
 have e' : loop (Xdy src ref c r) (0, [], src.Wide, src.High, strOfNums (List.replicate (src.Wide * src.High).toNat 128)) = some (.out (l, now.Wide, now.High, now.Dots)) := e
 rw [e', Xab]
theorem Xjf.dots {src ref : Pic} {c : Xdm} {r : Int} (H : Ykt src ref c r) (P : Int → Int → Int → Prop)
  (hP : ∀ (n : Nat) (now : Pic) (q : Xam) (d : List Int), (n : Int) < src.Wide / 8 * (src.High / 8) → Yoy now ref (Xmw src (tX src.Wide n) (tY src.Wide n) 64) (tX src.Wide n) (tY src.Wide n) c r → Xmu now ref (Xmw src (tX src.Wide n) (tY src.Wide n) 64) (tX src.Wide n) (tY src.Wide n) c r q → Xb0 now ref 0 0 c (tX src.Wide n) (tY src.Wide n) q = some (d, true) → ∀ i : Nat, i < 64 → P (tX src.Wide n + ((i % 8 : Nat) : Int)) (tY src.Wide n + ((i / 8 : Nat) : Int)) (d.getD i 0))
  {n : Nat} {l : List Xam} {now : Pic} (h : Xjf src ref c r n l now) : ∀ X Y : Int, 0 ≤ X ∧ X < src.Wide → 0 ≤ Y ∧ Y < src.High → Y / 8 * (src.Wide / 8) + X / 8 < n → P X Y (Xlo now X Y) := by
 induction h with
 | zero =>
  intro X Y hX hY hlt
  have := Int.mul_nonneg (show 0 ≤ Y / 8 by omega) (show 0 ≤ src.Wide / 8 by omega)
  omega
 | succ h hn q d now' hi hs hq hd hp ih =>
  rename_i n0 l0 now0
  obtain ⟨ok, w, hh, hl, hall⟩ := h.pic H
  have SF := Ye9 H hn ok w hh
  obtain ⟨q2, d2, e2, _, _, _, hd64⟩ := Xln SF
  rw [hi] at e2
  injection e2 with e2
  injection e2 with e2 e3
  injection e3 with e3 _
  subst e2; subst e3
  obtain ⟨p', ep, p1, p2, p3, p4⟩ := Ynr ok SF.h0 hd64
  rw [hp] at ep
  injection ep with ep
  subst ep
  obtain ⟨q1, q2', q3⟩ := hq.ok H.hr
  obtain ⟨d', ei', es', _⟩ := Xl0 (now := now0) (ref := ref) (l := 0) (t := 0) (x := tX src.Wide n0) (y := tY src.Wide n0) (c := c) (q := q) ⟨ok, SF.hx, SF.hy, SF.h0, by omega, by omega, H.hc, by omega⟩ q1 q2' (fun hK => (H.hk hK).1)
  rw [hd] at ei'
  injection ei' with ei'
  injection ei' with ei' _
  subst ei'
  have hPd := hP n0 now0 q d hn SF hq es'
  intro X Y hX hY hlt
  rw [p4 X Y (by rw [w]; exact hX) (by rw [hh]; exact hY)]
  have sw := Xcm H.hw
  have dv := Xuq (W := src.Wide / 8) (x := X / 8) (y := Y / 8) ⟨by omega, by omega⟩
  by_cases hin : Ylk (tX src.Wide n0) (tY src.Wide n0) X Y = true
  ·
   rw [if_pos hin]
   unfold Ylk at hin
   rw [decide_eq_true_eq] at hin
   have := hPd ((Y - tY src.Wide n0) * 8 + (X - tX src.Wide n0)).toNat (by omega)
   have e1 : tX src.Wide n0 + (((((Y - tY src.Wide n0) * 8 + (X - tX src.Wide n0)).toNat % 8 : Nat)) : Int) = X := by omega
   have e2 : tY src.Wide n0 + (((((Y - tY src.Wide n0) * 8 + (X - tX src.Wide n0)).toNat / 8 : Nat)) : Int) = Y := by omega
   rw [e1, e2] at this
   exact this
  ·
   rw [if_neg hin]
   refine ih X Y hX hY ?_
   have hne : Y / 8 * (src.Wide / 8) + X / 8 ≠ n0 := fun e => hin (by
    rw [e] at dv
    unfold Ylk tX tY
    rw [dv.1, dv.2, decide_eq_true_eq]
    omega)
   omega
theorem Xjf.all {src ref : Pic} {c : Xdm} {r : Int} (H : Ykt src ref c r) (P : Int → Int → Int → Prop)
  (hP : ∀ (n : Nat) (now : Pic) (q : Xam) (d : List Int), (n : Int) < src.Wide / 8 * (src.High / 8) → Yoy now ref (Xmw src (tX src.Wide n) (tY src.Wide n) 64) (tX src.Wide n) (tY src.Wide n) c r → Xmu now ref (Xmw src (tX src.Wide n) (tY src.Wide n) 64) (tX src.Wide n) (tY src.Wide n) c r q → Xb0 now ref 0 0 c (tX src.Wide n) (tY src.Wide n) q = some (d, true) → ∀ i : Nat, i < 64 → P (tX src.Wide n + ((i % 8 : Nat) : Int)) (tY src.Wide n + ((i / 8 : Nat) : Int)) (d.getD i 0))
  {l : List Xam} {now : Pic} (h : Xjf src ref c r ((src.Wide / 8).toNat * (src.High / 8).toNat) l now) : ∀ X Y : Int, 0 ≤ X ∧ X < src.Wide → 0 ≤ Y ∧ Y < src.High → P X Y (Xlo now X Y) := by
 intro X Y hX hY
 refine h.dots H P hP X Y hX hY ?_
 have sw := Xcm H.hw
 have sh := Xcm H.hh
 have p := Xm6 (W := src.Wide / 8) (H := src.High / 8) (x := X / 8) (y := Y / 8) ⟨by omega, by omega⟩ ⟨by omega, by omega⟩
 rw [Int.natCast_mul, show (((src.Wide / 8).toNat : Nat) : Int) = src.Wide / 8 by omega, show (((src.High / 8).toNat : Nat) : Int) = src.High / 8 by omega]
 exact p.2
theorem Yk7 (p : Pic) (x y : Int) {i : Nat} (hi : i < 64) : (Xmw p x y 64).getD i 0 = Xlo p (x + ((i % 8 : Nat) : Int)) (y + ((i / 8 : Nat) : Int)) := Xb8 _ hi
theorem Xjf.same {src ref : Pic} {c : Xdm} {r : Int} (H : Ykt src ref c r) (hd : ∀ (now : Pic) (w : List Int) (x y : Int) (q : Xam) (d : List Int), Yoy now ref w x y c r → w = Xmw src x y 64 → Xmu now ref w x y c r q → Xb0 now ref 0 0 c x y q = some (d, true) → d = w) {l : List Xam} {now : Pic} (h : Xjf src ref c r ((src.Wide / 8).toNat * (src.High / 8).toNat) l now) : now = src := by
 obtain ⟨ok, w, hh, _, _⟩ := h.pic H
 refine Yor ok H.ok w hh fun X Y hX hY => ?_
 rw [w] at hX
 rw [hh] at hY
 refine h.all H (fun X Y v => v = Xlo src X Y) (fun n now q d hn SF hq hs i hi => ?_) X Y hX hY
 rw [hd now _ _ _ q d SF rfl hq hs]
 exact Yk7 _ _ _ hi
theorem Ydg {src : Pic} (hw : Xuw src.Wide = true) (hh : Xuw src.High = true) : (((src.Wide / 8).toNat * (src.High / 8).toNat : Nat) : Int) = src.Wide / 8 * (src.High / 8) ∧ 1 ≤ src.Wide / 8 * (src.High / 8) ∧ src.Wide / 8 * (src.High / 8) ≤ 64 := by
 have a := Xcm hw
 have b := Xcm hh
 have m1 : src.Wide / 8 * (src.High / 8) ≤ 8 * 8 := Int.mul_le_mul (by omega) (by omega) (by omega) (by omega)
 have m2 : 1 * 1 ≤ src.Wide / 8 * (src.High / 8) := Int.mul_le_mul (by omega) (by omega) (by omega) (by omega)
 rw [Int.natCast_mul, show (((src.Wide / 8).toNat : Nat) : Int) = src.Wide / 8 by omega, show (((src.High / 8).toNat : Nat) : Int) = src.High / 8 by omega]
 exact ⟨rfl, by omega, by omega⟩
theorem Yme {n : Int} (h : n = 8 ∨ n = 16) : Xuw n = true := by rcases h with rfl | rfl <;> rfl
theorem Ykd (p : Pic) : ((p.Wide == p.Wide) && ((p.High == p.High) && (p.Dots.toList == p.Dots.toList))) = true := by
 simp only [beq_self_eq_true, Bool.and_self]
theorem Xjf.still {src : Pic} {c : Xdm} {r : Int} (H : Ykt src src c r) (hK : c.Key = false) {n : Nat} {l : List Xam} {now : Pic} (h : Xjf src src c r n l now) : l = List.replicate n ⟨0, 0, 0, 0, []⟩ := by
 induction h with
 | zero => rfl
 | succ h hn q d now' hi hs hq hd hp ih =>
  have : q = ⟨0, 0, 0, 0, []⟩ := by
   cases hq with
   | same => rfl
   | still => rfl
   | move _ _ _ _ _ _ _ _ _ hn => exact absurd (fun _ _ => rfl) hn
   | guess _ _ _ _ _ _ _ _ _ _ _ hn => exact absurd (fun _ _ => rfl) (hn hK)
  rw [ih, this, List.replicate_succ']
theorem Ylf (a b : List Int) (i : Nat) : (a ++ b).getD (a.length + i) 0 = b.getD i 0 := by
 rw [List.getD_eq_getElem?_getD, List.getD_eq_getElem?_getD, List.getElem?_append_right (by omega)]
 congr 2; omega
theorem Yle (a b : List Int) (i : Nat) (hi : i < a.length) : (a ++ b).getD i 0 = a.getD i 0 := by
 rw [List.getD_eq_getElem?_getD, List.getD_eq_getElem?_getD, List.getElem?_append_left hi]
theorem Yqn (v x : Int) (h0 : 0 ≤ v) (h1 : v ≤ 1000000000000000000) (hx : x = 0 ∨ x = 1) : IntKind.wrap .i64 (BitVec.ofInt (IntKind.bits .i64) (v * 2) ||| BitVec.ofInt (IntKind.bits .i64) x).toNat = v * 2 + x := by
 obtain ⟨a, rfl⟩ : ∃ a : Nat, v = a := ⟨v.toNat, by omega⟩
 obtain ⟨b, rfl⟩ : ∃ b : Nat, x = b := ⟨x.toNat, by omega⟩
 have h : (BitVec.ofInt 64 ((a : Int) * 2) ||| BitVec.ofInt 64 (b : Int)).toNat = a * 2 + b := by
  rw [BitVec.toNat_or, BitVec.toNat_ofInt, BitVec.toNat_ofInt]
  have e1 : (((a : Int) * 2) % ((2 ^ 64 : Nat) : Int)).toNat = a * 2 := by omega
  have e2 : ((b : Int) % ((2 ^ 64 : Nat) : Int)).toNat = b := by omega
  rw [e1, e2]
  have := Nat.two_pow_add_eq_or_of_lt (i := 1) (b := b) (by omega) a
  rw [show 2 ^ 1 * a = a * 2 by omega] at this
  exact this.symm
 show IntKind.wrap .i64 ((BitVec.ofInt 64 ((a : Int) * 2) ||| BitVec.ofInt 64 (b : Int)).toNat : Int) = _
 rw [h, ← Xpj, wkA]
 omega
theorem Yl3 {i : Nat} (h : i ≤ 40) : (2 : Int) ^ i ≤ 1099511627776 := by
 have h2 : (2 : Nat) ^ i ≤ 1099511627776 := Nat.pow_le_pow_right (n := 2) (by omega) h
 have := Int.ofNat_le.2 h2
 rw [Int.natCast_pow] at this
 exact this
theorem Yie {L a f b : List Int} (hL : L = a ++ (f ++ b)) (hb : Xw0 L) (hl : L.length ≤ 400000) (hf : f.length ≤ 41) : Xiq ⟨strOfNums L, (a.length : Int), false⟩ (f.length : Int) = some (Ybh f, ⟨strOfNums L, ((a.length + f.length : Nat) : Int), false⟩) := by
 have hLl : L.length = a.length + (f.length + b.length) := by rw [hL]; simp only [List.length_append]
 have hfb : Xw0 f := fun x hx => hb x (by rw [hL]; simp [hx])
 unfold Xiq
 simp only
 rw [Xaq, strOfNums_size, wkA, Xab, snA]
 have key : ∀ i : Nat, i ≤ f.length → loop (Xfj ⟨strOfNums L, (a.length : Int), false⟩ (f.length : Int)) (Ybh (f.take i), (i : Int)) = some (Ybh f) := by
  refine Xg0 _ ?_ ?_
  ·
   refine Xib ?_
   unfold Xfj
   simp only
   rw [snA, List.take_length]
  ·
   intro i hi ih
   refine lgo ?_ ih
   have hx : L.getD (a.length + i) 0 = f.getD i 0 := by rw [hL, Ylf, Yle _ _ _ hi]
   have hbt : Xp5 (strOfNums L) ((a.length : Int) + i) = f.getD i 0 := by
    rw [show (a.length : Int) + i = ((a.length + i : Nat) : Int) by omega, Xy2 L (Xfg hb) _ (by omega), hx]
   have h2 : f.getD i 0 = 48 ∨ f.getD i 0 = 49 := hfb _ (by rw [Xc2 f i hi]; exact List.getElem_mem hi)
   have ht : Xw0 (f.take i) := fun x hx => hfb x (List.mem_of_mem_take hx)
   have hr := Ymr ht
   have hp : (2 : Int) ^ (f.take i).length ≤ 1099511627776 := Yl3 (by rw [List.length_take]; omega)
   have hv : Ybh (f.take (i + 1)) = Ybh (f.take i) * 2 + (f.getD i 0 - 48) := by
    rw [List.take_add_one, Ybi, Xc2 f i hi, List.getElem?_eq_getElem hi]
    simp [Ybh]
   unfold Xfj
   simp only
   rw [syA, rqA, wkA (e := (a.length : Int) + i), Xbe (by rw [strOfNums_size]; omega), hbt, w8 (by omega) (by omega), wkA (e := f.getD i 0 - 48), show (2 : Int) ^ min (1 : Int).toNat (IntKind.bits .i64) = 2 from rfl, wkA (e := Ybh (f.take i) * 2), Yqn _ _ (by omega) (by omega) (by omega), wkA, hv]
   rfl
 have := key 0 (by omega)
 rw [List.take_zero] at this
 refine (Xgz this).trans ?_
 rw [wkA]
 rfl
theorem Yk6 (m : Nat) (h : m ≠ 0) : ∃ r, Yfn m = 49 :: r := by
 induction m using Nat.strongRecOn with
 | _ m ih =>
  rw [Yfn, dif_neg h]
  by_cases h1 : m / 2 = 0
  ·
   have : m = 1 := by omega
   subst this
   rw [Yfn, dif_pos h1]
   exact ⟨[], rfl⟩
  ·
   obtain ⟨r, e⟩ := ih (m / 2) (by omega) h1
   rw [e]
   exact ⟨r ++ [48 + ((m % 2 : Nat) : Int)], rfl⟩
theorem Yp3 (m : Nat) : Ybh (Yfn m) = m := by
 induction m using Nat.strongRecOn with
 | _ m ih =>
  rw [Yfn]
  by_cases h : m = 0
  ·
   rw [dif_pos h, h]; rfl
  ·
   rw [dif_neg h, Ybi, ih (m / 2) (by omega)]
   simp [Ybh]
   omega
theorem Xoc {L a b : List Int} {n : Nat} (hL : L = a ++ (ueL n ++ b)) (hb : Xw0 L) (hl : L.length ≤ 400000) (hn : n ≤ 1000000) : Xcz ⟨strOfNums L, (a.length : Int), false⟩ = some ((n : Int), ⟨strOfNums L, ((a.length + (ueL n).length : Nat) : Int), false⟩) := by
 have hLl : L.length = a.length + ((ueL n).length + b.length) := by rw [hL]; simp only [List.length_append]
 have f1 := Ydz (m := n + 1) (j := 20) (by omega)
 have f2 := Xyj (m := n + 1) (by omega)
 have ul : (ueL n).length = Xp9 (n + 1) - 1 + Xp9 (n + 1) := by unfold ueL; rw [List.length_append, List.length_replicate, Ydu]
 obtain ⟨r, er⟩ := Yk6 (n + 1) (by omega)
 have hc : ∀ i : Nat, i < (ueL n).length → L.getD (a.length + i) 0 = (ueL n).getD i 0 := fun i hi => by rw [hL, Ylf, Yle _ _ _ hi]
 have key : ∀ i : Nat, i ≤ Xp9 (n + 1) - 1 → loop (Xf5 ⟨strOfNums L, (a.length : Int), false⟩) (i : Int) = some ((Xp9 (n + 1) - 1 : Nat) : Int) := by
  refine Xg0 _ ?_ ?_
  ·
   refine Xib ?_
   have hx : (ueL n).getD (Xp9 (n + 1) - 1) 0 = 49 := by
    have := Ylf (List.replicate (Xp9 (n + 1) - 1) 48) (Yfn (n + 1)) 0
    rw [List.length_replicate] at this
    unfold ueL
    exact this.trans (by rw [er]; rfl)
   unfold Xf5
   simp only
   rw [Xaq, wkA, strOfNums_size, syA, rqA, show (a.length : Int) + ((Xp9 (n + 1) - 1 : Nat) : Int) = ((a.length + (Xp9 (n + 1) - 1) : Nat) : Int) by omega, Xy2 L (Xfg hb) _ (by omega), hc _ (by omega), hx, Xab]
   rfl
  ·
   intro i hi ih
   refine lgo ?_ ih
   have hx : (ueL n).getD i 0 = 48 := by
    unfold ueL
    rw [Yle _ _ _ (by rw [List.length_replicate]; exact hi), Xc2 _ i (by rw [List.length_replicate]; exact hi), List.getElem_replicate]
   unfold Xf5
   simp only
   rw [Xaq, wkA (e := (a.length : Int) + i), strOfNums_size, syA, rqA, show (a.length : Int) + (i : Int) = ((a.length + i : Nat) : Int) by omega, Xy2 L (Xfg hb) _ (by omega), hc _ (by omega), hx, Xab, wkA]
   rfl
 have hf := Yie hL hb hl (by omega)
 have hv : Ybh (ueL n) = (n : Int) + 1 := by unfold ueL; rw [Ybi, Yp4, Yp3, Int.zero_mul, Int.zero_add]; omega
 unfold Xcz
 refine (Xgz (key 0 (by omega))).trans ?_
 simp only
 rw [snA, Xab, wkA (e := 2 * ((Xp9 (n + 1) - 1 : Nat) : Int)), wkA (e := 2 * ((Xp9 (n + 1) - 1 : Nat) : Int) + 1), show 2 * ((Xp9 (n + 1) - 1 : Nat) : Int) + 1 = ((ueL n).length : Int) by omega, hf, Xab]
 simp only
 rw [Xaq, hv, wkA, Xab, snA, show (n : Int) + 1 - 1 = n by omega]
theorem Xv1 {L a b : List Int} {n : Int} (hL : L = a ++ (seL n ++ b)) (hb : Xw0 L) (hl : L.length ≤ 400000) (hn : -500000 ≤ n ∧ n ≤ 500000) : Xd9 ⟨strOfNums L, (a.length : Int), false⟩ = some (n, ⟨strOfNums L, ((a.length + (seL n).length : Nat) : Int), false⟩) := by
 have hf := Xq0 n hn
 unfold Xd9
 rw [Xoc hL hb hl hf, Xab]
 have ho : Xl5 ((Xy6 n : Nat) : Int) = some (n, true) := by
  unfold Xl5
  rw [Xak, Xab, decide_eq_true (by omega), Bool.not_true, Xaq, rqA, Xcg (by omega)]
  unfold Xy6
  split
  ·
   rw [Xc5 (by rw [beq_iff_eq]; omega), rqA, wkA (e := (((2 * n - 1).toNat : Nat) : Int) + 1), Xbk (by omega), wkA]
   congr 2; omega
  ·
   rw [Xb6 (by rw [beq_eq_false_iff_ne]; omega), rqA, wkA (e := 0 - _)]
   have : (0 - (((-2 * n).toNat : Nat) : Int)).tdiv 2 = n := by
    rw [show (0 - (((-2 * n).toNat : Nat) : Int)) = n * 2 by omega]
    exact Int.mul_tdiv_cancel n (by omega)
   rw [this, wkA]
 simp only
 rw [ho, Xab]
 rfl
theorem Ypi (l : List Int) (hl : l.length ≤ 64) : nz l ≤ 64 := by have := Yl2 l; omega
theorem Xww {L a b l : List Int} (hL : L = a ++ (Xg2 l ++ b)) (hb : Xw0 L) (hl : L.length ≤ 400000) (hall : l.all Yfp = true) (h64 : l.length ≤ 64) : Xfo ⟨strOfNums L, (a.length : Int), false⟩ (l.length : Int) = some (l, ⟨strOfNums L, ((a.length + (Xg2 l).length : Nat) : Int), false⟩) := by
 have key : ∀ (r pre : List Int) (g : Nat) (a' b' : List Int), l = pre ++ r → g ≤ pre.length → L = a' ++ (Xlp g r ++ b') → loop (Xer (l.length : Int)) (((pre.length - g : Nat) : Int), (nz r : Int), strOfNums L, (a'.length : Int), false, pre ++ List.replicate r.length 0) = some (l, strOfNums L, ((a'.length + (Xlp g r).length : Nat) : Int), false) := by
  intro r
  induction r with
  | nil =>
   intro pre g a' b' h1 h2 h3
   refine Xib ?_
   unfold Xer
   simp only
   rw [Xan (by rw [nz]; omega), Xab, Xaq, h1]
   simp only [Xlp, List.length_nil, List.replicate_zero, Nat.add_zero]
  | cons x r ih =>
   intro pre g a' b' h1 h2 h3
   have hlen : l.length = pre.length + (r.length + 1) := by rw [h1]; simp
   have hx : -5000 ≤ x ∧ x ≤ 5000 := Yev.1 (List.all_eq_true.1 hall x (by rw [h1]; simp))
   by_cases e : x = 0
   ·
    rw [Xlp, if_pos e] at h3
    have := ih (pre ++ [x]) (g + 1) a' b' (by rw [h1]; simp) (by simp; omega) h3
    rw [nz, if_pos e, Xlp, if_pos e, ← this, List.length_append, List.length_singleton, show pre.length + 1 - (g + 1) = pre.length - g by omega, List.append_assoc, List.length_cons, List.replicate_succ, e]
    rfl
   ·
    rw [Xlp, if_neg e] at h3
    have u1 := Xlk g (by omega)
    have u2 := Xs1 x (by omega)
    have u3 := Yl2 r
    have e1 := Xoc (L := L) (a := a') (b := seL x ++ Xlp 0 r ++ b') (n := g) (by rw [h3]; simp only [List.append_assoc]) hb hl (by omega)
    have e2 := Xv1 (L := L) (a := a' ++ ueL g) (b := Xlp 0 r ++ b') (n := x) (by rw [h3]; simp only [List.append_assoc]) hb hl (by omega)
    have := ih (pre ++ [x]) 0 (a' ++ ueL g ++ seL x) b' (by rw [h1]; simp) (by simp) (by rw [h3]; simp only [List.append_assoc])
    rw [List.length_append] at e2
    simp only [List.length_append, List.length_singleton] at this
    rw [nz, if_neg e, Xlp, if_neg e]
    refine lgo ?_ (this.trans ?_)
    ·
     unfold Xer
     simp only
     rw [syA, Bool.not_false, Xab, Xav, e1, Xab]
     simp only
     rw [e2, Xab]
     simp only
     have hp : ((pre.length - g : Nat) : Int) + (g : Int) = (pre.length : Int) := by omega
     rw [hp, wkA (e := (pre.length : Int)), snA, Xb6 (by rw [beq_eq_false_iff_ne]; exact e), Xak, Xab, decide_eq_true (by omega), Bool.not_true, Xab, Xaq, Int.toNat_natCast, Xbe (by simp only [List.length_append, List.length_replicate, List.length_cons]; omega), Xbe (by simp only [List.length_append, List.length_replicate, List.length_cons]; omega), wkA, wkA, List.length_cons, List.replicate_succ, Yih]
     rw [show ((nz r + 1 : Nat) : Int) - 1 = (nz r : Int) by omega, show pre ++ [x] ++ List.replicate r.length 0 = pre ++ x :: List.replicate r.length 0 by simp, show ((pre.length + 1 - 0 : Nat) : Int) = (pre.length : Int) + 1 by omega]
    ·
     simp only [List.length_append]
     rw [show a'.length + (ueL g).length + (seL x).length + (Xlp 0 r).length = a'.length + ((ueL g).length + (seL x).length + (Xlp 0 r).length) by omega]
 have hz := Ypi l h64
 have e0 := Xoc (L := L) (a := a) (b := Xlp 0 l ++ b) (n := nz l) (by rw [hL]; unfold Xg2; simp only [List.append_assoc]) hb hl (by omega)
 have := key l [] 0 (a ++ ueL (nz l)) b rfl (by simp) (by rw [hL]; unfold Xg2; simp only [List.append_assoc])
 unfold Xfo
 rw [rqA, e0, Xab]
 simp only
 rw [List.length_append] at this
 simp only [List.nil_append, List.length_nil] at this
 rw [Int.toNat_natCast]
 refine (Xgz this).trans ?_
 simp only
 unfold Xg2
 rw [List.length_append, Nat.add_assoc]
theorem Xr4 {L a b l : List Int} {c : Xdm} (hL : L = a ++ (Yfo l c ++ b)) (hb : Xw0 L) (hl : L.length ≤ 400000) (h : Xwu l = true) : Xce ⟨strOfNums L, (a.length : Int), false⟩ c = some (l, ⟨strOfNums L, ((a.length + (Yfo l c).length : Nat) : Int), false⟩) := by
 have hm : maxLen = 9223372036854775807 := rfl
 obtain ⟨h1, h2⟩ := Xlz h
 unfold Xce
 rw [Yhc, Xab]
 unfold Yfo at hL ⊢
 by_cases e : (c.Large || c.Exact) = true
 ·
  rw [if_pos e] at hL
  rw [Xc5 e, if_pos e]
  have := Xww hL hb hl h2 (by omega)
  rw [h1] at this
  exact (Xgz this).trans rfl
 ·
  rw [if_neg e] at hL
  rw [Xb6 (by simpa using e), if_neg e]
  have step : ∀ (n : Nat) (s q : List Int) (a' b' : List Int), n < 4 → q.length = 16 → q.all Yfp = true → s.length ≤ 64 → L = a' ++ (Xg2 q ++ b') → Xb1 ((n : Int), strOfNums L, (a'.length : Int), false, s) = some (.go (((n + 1 : Nat) : Int), strOfNums L, (((a' ++ Xg2 q).length : Nat) : Int), false, s ++ q)) := by
   intro n s q a' b' hn hq hqa hs hLL
   have := Xww hLL hb hl hqa (by omega)
   rw [hq] at this
   unfold Xb1
   simp only
   rw [syA]
   refine (Xgz this).trans ?_
   simp only
   rw [rqA, wkA, List.length_append]
   rfl
  have q0 : (l.take 16).length = 16 := by rw [List.length_take]; omega
  have q1 : ((l.drop 16).take 16).length = 16 := by rw [List.length_take, List.length_drop]; omega
  have q2 : ((l.drop 32).take 16).length = 16 := by rw [List.length_take, List.length_drop]; omega
  have q3 : (l.drop 48).length = 16 := by rw [List.length_drop]; omega
  have hcat : l.take 16 ++ (l.drop 16).take 16 ++ (l.drop 32).take 16 ++ l.drop 48 = l := by
   have e1 : (l.drop 32).take 16 ++ l.drop 48 = l.drop 32 := by
    have := List.take_append_drop 16 (l.drop 32)
    rwa [List.drop_drop] at this
   have e2 : (l.drop 16).take 16 ++ l.drop 32 = l.drop 16 := by
    have := List.take_append_drop 16 (l.drop 16)
    rwa [List.drop_drop] at this
   rw [List.append_assoc, e1, List.append_assoc, e2, List.take_append_drop]
  have g0 := step 0 [] _ a (Xg2 ((l.drop 16).take 16) ++ Xg2 ((l.drop 32).take 16) ++ Xg2 (l.drop 48) ++ b) (by omega) q0 (Xid h2 _) (by simp) (by rw [hL]; simp only [List.append_assoc])
  have g1 := step 1 ([] ++ l.take 16) _ (a ++ Xg2 (l.take 16)) (Xg2 ((l.drop 32).take 16) ++ Xg2 (l.drop 48) ++ b) (by omega) q1 (Xid (Xic h2 _) _) (by simp only [List.length_append, List.length_nil]; omega) (by rw [hL]; simp only [List.append_assoc])
  have g2 := step 2 ([] ++ l.take 16 ++ (l.drop 16).take 16) _ (a ++ Xg2 (l.take 16) ++ Xg2 ((l.drop 16).take 16)) (Xg2 (l.drop 48) ++ b) (by omega) q2 (Xid (Xic h2 _) _) (by simp only [List.length_append, List.length_nil]; omega) (by rw [hL]; simp only [List.append_assoc])
  have g3 := step 3 ([] ++ l.take 16 ++ (l.drop 16).take 16 ++ (l.drop 32).take 16) _ (a ++ Xg2 (l.take 16) ++ Xg2 ((l.drop 16).take 16) ++ Xg2 ((l.drop 32).take 16)) b (by omega) q3 (Xic h2 _) (by simp only [List.length_append, List.length_nil]; omega) (by rw [hL]; simp only [List.append_assoc])
  have l4 : ∀ s, Xb1 (((4 : Nat) : Int), s) = some (.done (s.2.2.2, s.1, s.2.1, s.2.2.1)) := by intro s; unfold Xb1; simp only; rw [snA]
  have e : loop Xb1 (((0 : Nat) : Int), strOfNums L, (a.length : Int), false, []) = _ := (Xfr g0).trans ((Xfr g1).trans ((Xfr g2).trans ((Xfr g3).trans (Xmf (l4 _)))))
  refine (Xgz e).trans ?_
  simp only [List.nil_append, hcat]
  simp only [List.length_append, Nat.add_assoc]
theorem Ymj {s : Xam} (h : Xqv s = true) (h1 : s.Kind = 0) : s = ⟨0, 0, 0, 0, []⟩ := by
 unfold Xqv at h
 rw [if_pos h1, decide_eq_true_eq] at h
 obtain ⟨k, m, x, y, l⟩ := s
 simp only at h h1
 obtain ⟨a, b, c, d⟩ := h
 rw [h1, a, b, c, List.length_eq_zero_iff.1 d]
theorem Ycf {L a b : List Int} {s : Xam} {c : Xdm} (hL : L = a ++ (sqL s c ++ b)) (hb : Xw0 L) (hl : L.length ≤ 400000) (h : Xqv s = true) (hlet : Xnp s c = true) : Xfk ⟨strOfNums L, (a.length : Int), false⟩ c = some (s, ⟨strOfNums L, ((a.length + (sqL s c).length : Nat) : Int), false⟩) := by
 have hk := Xoi h
 have hl6 : s.Levels.length ≤ 64 := by
  by_cases h0 : s.Kind = 0
  ·
   rw [Ymj h h0]; simp
  ·
   by_cases h1 : s.Kind = 1
   ·
    have := Xlz (Xph h h1).2.2; omega
   ·
    have := Xlz (Xrd h (by omega)).2; omega
 have hok := Xlc s (by omega)
 rw [h] at hok
 unfold Xfk
 simp only
 obtain ⟨p, hp, hL2, e1⟩ : ∃ p : List Int, p = (if c.Key = true then [] else ueL s.Kind.toNat) ∧ L = (a ++ p) ++ ((if s.Kind = 1 then seL s.Dx ++ seL s.Dy ++ Yfo s.Levels c else if s.Kind = 2 then ueL s.Mode.toNat ++ Yfo s.Levels c else []) ++ b) ∧ (sel (!c.Key) (bnd (Xcz ⟨strOfNums L, (a.length : Int), false⟩) fun q2 => some (q2.2.row_, q2.2.at_, q2.2.bad_, q2.1)) (some (strOfNums L, (a.length : Int), false, 2))) = some (strOfNums L, (((a ++ p).length : Nat) : Int), false, s.Kind) := by
  refine ⟨_, rfl, by rw [hL]; unfold sqL; simp only [List.append_assoc], ?_⟩
  cases hK : c.Key with
  | true =>
   unfold Xnp at hlet
   rw [hK, Bool.not_true, Bool.false_or, beq_iff_eq] at hlet
   rw [Bool.not_true, Xaq, if_pos rfl, List.append_nil, hlet]
  | false =>
   have := Xoc (L := L) (a := a) (n := s.Kind.toNat) (b := (if s.Kind = 1 then seL s.Dx ++ seL s.Dy ++ Yfo s.Levels c else if s.Kind = 2 then ueL s.Mode.toNat ++ Yfo s.Levels c else []) ++ b) (by rw [hL]; unfold sqL; rw [hK, if_neg (by decide)]; simp only [List.append_assoc]) hb hl (by omega)
   rw [Bool.not_false, Xav, this, Xab, if_neg (by decide), List.length_append]
   simp only
   rw [show ((s.Kind.toNat : Nat) : Int) = s.Kind by omega]
 rw [e1, Xab]
 simp only
 have e2 : (sel false (some (strOfNums L, (((a ++ p).length : Nat) : Int), false, (0 : Int), (0 : Int), (0 : Int), ([] : List Int))) (
   sel (s.Kind == 1) (
   bnd (Xd9 (⟨strOfNums L, (((a ++ p).length : Nat) : Int), false⟩ : Xms)) fun q4 =>
   bnd (Xd9 q4.2) fun q5 =>
   bnd (Xce q5.2 c) fun q6 =>
   some (q6.2.row_, q6.2.at_, q6.2.bad_, 0, q4.1, q5.1, q6.1)) (
   sel (s.Kind == 2) (
   bnd (Xcz (⟨strOfNums L, (((a ++ p).length : Nat) : Int), false⟩ : Xms)) fun q7 =>
   bnd (Xce q7.2 c) fun q8 =>
   some (q8.2.row_, q8.2.at_, q8.2.bad_, q7.1, 0, 0, q8.1)) (
   some (strOfNums L, (((a ++ p).length : Nat) : Int), false, 0, 0, 0, []))))) = some (strOfNums L, ((a.length + (sqL s c).length : Nat) : Int), false, s.Mode, s.Dx, s.Dy, s.Levels) := by
  rw [Xaq]
  unfold sqL
  rw [← hp]
  by_cases h1 : s.Kind = 1
  ·
   obtain ⟨x1, x2, x3⟩ := Xph h h1
   have hm0 : s.Mode = 0 := by
    unfold Xqv at h
    rw [if_neg (by omega), if_pos h1] at h
    simp only [Bool.and_eq_true, decide_eq_true_eq] at h
    exact h.1
   rw [if_pos h1] at hL2
   have y1 := Xv1 (L := L) (a := a ++ p) (b := seL s.Dy ++ Yfo s.Levels c ++ b) (n := s.Dx) (by rw [hL2]; simp only [List.append_assoc]) hb hl (by omega)
   have y2 := Xv1 (L := L) (a := a ++ p ++ seL s.Dx) (b := Yfo s.Levels c ++ b) (n := s.Dy) (by rw [hL2]; simp only [List.append_assoc]) hb hl (by omega)
   have y3 := Xr4 (L := L) (a := a ++ p ++ seL s.Dx ++ seL s.Dy) (b := b) (l := s.Levels) (c := c) (by rw [hL2]; simp only [List.append_assoc]) hb hl x3
   rw [List.length_append (as := a ++ p)] at y2
   rw [List.length_append (as := a ++ p ++ seL s.Dx), List.length_append (as := a ++ p)] at y3
   rw [Xc5 (by rw [beq_iff_eq]; exact h1), y1, Xab]
   simp only
   rw [y2, Xab]
   simp only
   rw [y3, Xab, if_pos h1, hm0]
   simp only [List.length_append, Nat.add_assoc]
  ·
   rw [Xb6 (by rw [beq_eq_false_iff_ne]; exact h1), if_neg h1]
   rw [if_neg h1] at hL2
   by_cases h2 : s.Kind = 2
   ·
    obtain ⟨x1, x3⟩ := Xrd h h2
    have hd0 : s.Dx = 0 ∧ s.Dy = 0 := by
     unfold Xqv at h
     rw [if_neg (by omega), if_neg (by omega), if_pos h2] at h
     simp only [Bool.and_eq_true, decide_eq_true_eq] at h
     exact ⟨h.2.1, h.2.2.1⟩
    rw [if_pos h2] at hL2
    have y1 := Xoc (L := L) (a := a ++ p) (b := Yfo s.Levels c ++ b) (n := s.Mode.toNat) (by rw [hL2]; simp only [List.append_assoc]) hb hl (by omega)
    have y3 := Xr4 (L := L) (a := a ++ p ++ ueL s.Mode.toNat) (b := b) (l := s.Levels) (c := c) (by rw [hL2]; simp only [List.append_assoc]) hb hl x3
    rw [List.length_append (as := a ++ p)] at y3
    rw [Xc5 (by rw [beq_iff_eq]; exact h2), y1, Xab]
    simp only
    rw [y3, Xab, if_pos h2, hd0.1, hd0.2, show ((s.Mode.toNat : Nat) : Int) = s.Mode by omega]
    simp only [List.length_append, Nat.add_assoc]
   ·
    have h0 := Ymj h (by omega)
    rw [Xb6 (by rw [beq_eq_false_iff_ne]; exact h2), if_neg h2, List.append_nil, List.length_append]
    rw [h0]
 rw [e2, Xab]
 simp only
 rw [Xaq, show (⟨s.Kind, s.Mode, s.Dx, s.Dy, s.Levels⟩ : Xam) = s from rfl, hok, Xab, Xab]
 rfl
theorem Xty {l : List Xam} {c : Xdm} (hs : Ybb l c = true) (hc : Xe1 c = true) (hl : 1 ≤ l.length ∧ l.length ≤ 64) (h64 : ∀ q ∈ l, q.Levels.length ≤ 64) : Xij (strOfNums (Xmq l c)) 0 (l.length : Int) c = some (l, true) := by
 have hm : maxLen = 9223372036854775807 := rfl
 have hLl := Ydj hs
 generalize hLe : Xmq l c = L at hLl
 have hb : Xw0 L := by rw [← hLe]; exact Ydi l c
 have hL4 : L.length ≤ 400000 := by omega
 have key : ∀ (r pre : List Xam) (a : List Int), l = pre ++ r → L = a ++ Xmq r c → loop (Xfi (l.length : Int) c) ((pre.length : Int), strOfNums L, (a.length : Int), false, pre) = some (.out (strOfNums L, (L.length : Int), false, l)) := by
  intro r
  induction r with
  | nil =>
   intro pre a h1 h2
   refine Xib ?_
   rw [List.append_nil] at h1
   rw [Xmq, List.append_nil] at h2
   unfold Xfi
   simp only
   rw [Xan (by rw [h1]; omega), h1, h2]
  | cons s r ih =>
   intro pre a h1 h2
   have hlen : l.length = pre.length + (r.length + 1) := by rw [h1]; simp
   have hmem : s ∈ l := by rw [h1]; simp
   have hq := List.all_eq_true.1 hs s hmem
   simp only [Bool.and_eq_true] at hq
   obtain ⟨q1, q2, q3⟩ := hq
   rw [Xmq] at h2
   have hsc := Ycf h2 hb hL4 q1 q3
   have := ih (pre ++ [s]) (a ++ sqL s c) (by rw [h1]; simp) (by rw [h2]; simp only [List.append_assoc])
   refine lgo ?_ this
   unfold Xfi
   simp only
   rw [syA, hsc, Xab]
   simp only
   rw [Xbe (by simp only [List.length_singleton]; omega), Xaq, wkA, List.length_append, List.length_append, List.length_singleton]
   rfl
 have := key l [] [] rfl (by rw [hLe]; rfl)
 unfold Xij Xo0
 rw [Yd9 L hb hL4, Xab, Xav, Xak, Xab, strOfNums_size, decide_eq_true (by omega), Xab, Xab, Xak, Xab, decide_eq_true (by omega), Xav, Xdf, Xab, hc, Xab, Bool.not_true, Xaq]
 refine (Xgz this).trans ?_
 simp only
 rw [bne_self_eq_false, Xaq]
theorem Xjf.back {src ref : Pic} {c : Xdm} {r : Int} (H : Ykt src ref c r) {n : Nat} {l : List Xam} {now : Pic} (h : Xjf src ref c r n l now) : ∀ rest : List Xam, (l ++ rest).length ≤ 64 → loop (Xc4 ⟨0, 0, src.Wide, src.High⟩ c (l ++ rest) (0, 0, ref.Wide, ref.High, ref.Dots)) (0, src.Wide, src.High, strOfNums (List.replicate (src.Wide * src.High).toNat 128)) = loop (Xc4 ⟨0, 0, src.Wide, src.High⟩ c (l ++ rest) (0, 0, ref.Wide, ref.High, ref.Dots)) ((n : Int), now.Wide, now.High, now.Dots) := by
 induction h with
 | zero => intro rest _; rfl
 | succ h hn q d now' hi hs hq hd hp ih =>
  rename_i n0 l0 now0
  intro rest hlen
  rw [List.append_assoc] at hlen ⊢
  rw [ih ([q] ++ rest) hlen]
  obtain ⟨ok, w, hh, hl, hall⟩ := h.pic H
  have SF := Ye9 H hn ok w hh
  obtain ⟨q2, d2, e2, _, _, _, hd64⟩ := Xln SF
  rw [hi] at e2
  injection e2 with e2
  injection e2 with e2 e3
  injection e3 with e3 _
  subst e2; subst e3
  have sw := Xcm H.hw
  have sh := Xcm H.hh
  obtain ⟨p1, p2, p3, p4, p5, p6, p7, p8, p9, p10⟩ := Ydh H.hw H.hh n0 hn
  have hx : (l0 ++ ([q] ++ rest)).getD n0 Xji = q := by rw [← hl]; exact Xtk l0 q _ rest
  have hn2 : (l0 ++ ([q] ++ rest)).length = n0 + 1 + rest.length := by simp only [List.length_append, List.length_singleton, hl]; omega
  refine Xfr ?_
  unfold Xc4
  simp only [Int.toNat_natCast, hx]
  rw [syA, rqA, rqA, Xbk (a := src.Wide) (by omega), wkA (e := src.Wide / 8), rqA, rqA, rqA, Xcg (a := (n0 : Int)) (by omega), Xbk (a := (n0 : Int)) (by omega), wkA (e := (n0 : Int) % (src.Wide / 8) * 8), wkA (e := (n0 : Int) / (src.Wide / 8)), wkA (e := (n0 : Int) / (src.Wide / 8) * 8), wkA (e := (n0 : Int) + 1), show (⟨now0.Wide, now0.High, now0.Dots⟩ : Pic) = now0 from rfl, show (⟨ref.Wide, ref.High, ref.Dots⟩ : Pic) = ref from rfl, show (⟨q.Kind, q.Mode, q.Dx, q.Dy, q.Levels⟩ : Xam) = q from rfl]
  have hd' : Xca now0 ref 0 0 c ((n0 : Int) % (src.Wide / 8) * 8) ((n0 : Int) / (src.Wide / 8) * 8) q = some (d, true) := hd
  have hp' : Xff now0 ((n0 : Int) % (src.Wide / 8) * 8) ((n0 : Int) / (src.Wide / 8) * 8) d = some now' := hp
  rw [hd', Xab]
  simp only
  rw [Bool.not_true, Xaq, Yg1 hd64 (by have := Yiw ok; have hm : maxLen = 9223372036854775807 := rfl; omega), hp', Xab]
  rfl
theorem Xxk {src ref : Pic} {c : Xdm} {r : Int} (H : Ykt src ref c r) {l : List Xam} {now : Pic} (h : Xjf src ref c r ((src.Wide / 8).toNat * (src.High / 8).toNat) l now) : Xim ref ⟨0, 0, src.Wide, src.High⟩ c true l = some (now, true) := by
 obtain ⟨ok, w, hh, hl, hall⟩ := h.pic H
 obtain ⟨t1, t2, t3⟩ := Ydg H.hw H.hh
 have sw := Xcm H.hw
 have sh := Xcm H.hh
 have hb := h.back H [] (by rw [List.append_nil]; omega)
 rw [List.append_nil] at hb
 have hend : loop (Xc4 ⟨0, 0, src.Wide, src.High⟩ c l (0, 0, ref.Wide, ref.High, ref.Dots)) ((((src.Wide / 8).toNat * (src.High / 8).toNat : Nat) : Int), now.Wide, now.High, now.Dots) = some (.out (now.Wide, now.High, now.Dots)) := by
  refine Xib ?_
  unfold Xc4
  rw [Xan (by simp only; omega)]
 unfold Xim
 simp only
 rw [Xkf, Xab, H.hw, Xav, Xkf, Xab, H.hh, Xav, Xak, Xab, decide_eq_true (by omega), Xav, Xab, Xav, Xdf, Xab, H.hc, Xav, rqA, rqA, Xbk (a := src.Wide) (by omega), Xbk (a := src.High) (by omega), wkA (e := src.Wide / 8), wkA (e := src.High / 8), wkA (e := src.Wide / 8 * (src.High / 8)), show (((l.length : Nat) : Int) != src.Wide / 8 * (src.High / 8)) = false by rw [bne_eq_false_iff_eq]; omega, Xab, Xaq]
 have e1 : (sel c.Key (some false) (bnd (Xb3 ref) fun q8 => sel q8 (bnd (Xb7 ref ⟨0, 0, src.Wide, src.High⟩) fun q9 => some (!q9)) (some true))) = some false ∧ (sel true (sel (!c.Key) (bnd (Xlv ref ⟨0, 0, src.Wide, src.High⟩) fun q11 => some ((0 : Int), (0 : Int), q11.1.Wide, q11.1.High, q11.1.Dots)) (some (0, 0, ref.Wide, ref.High, ref.Dots))) (some (0, 0, ref.Wide, ref.High, ref.Dots))) = some (0, 0, ref.Wide, ref.High, ref.Dots) := by
  cases hK : c.Key with
  | true => exact ⟨rfl, rfl⟩
  | false =>
   obtain ⟨a1, a2, a3⟩ := H.hk hK
   obtain ⟨b1, b2⟩ := Yld a1
   rw [a2, a3] at b1 b2
   refine ⟨?_, ?_⟩
   ·
    rw [Xaq, Xb9, Xab, a1, Xav, Xue a1, Xab, b1]; rfl
   ·
    rw [Xav, Bool.not_false, Xav, Yd2 a1 b1, Xab, b2]
 rw [e1.1, Xab, Xaq, e1.2, Xab, Xwk _ _ (by omega) (by omega), Xab]
 simp only
 rw [hb, hend, Xab]
def Xoj (t : Nat → Int) : Nat → Int
 | 0 => 0
 | k + 1 => Xoj t k + t k
theorem Xgu {t u : Nat → Int} : ∀ n : Nat, (∀ k, k < n → t k = u k) → Xoj t n = Xoj u n
 | 0, _ => rfl
 | n + 1, h => by rw [Xoj, Xoj, Xgu n (fun k hk => h k (by omega)), h n (by omega)]
theorem Yfh (t u : Nat → Int) : ∀ n : Nat, Xoj (fun k => t k + u k) n = Xoj t n + Xoj u n
 | 0 => rfl
 | n + 1 => by rw [Xoj, Xoj, Xoj, Yfh t u n]; omega
theorem Xu3 (a : Int) (t : Nat → Int) : ∀ n : Nat, Xoj (fun k => a * t k) n = a * Xoj t n
 | 0 => by rw [Xoj, Xoj, Int.mul_zero]
 | n + 1 => by rw [Xoj, Xoj, Xu3 a t n, Int.mul_add]
theorem Yhh : ∀ n : Nat, Xoj (fun _ => 0) n = 0
 | 0 => rfl
 | n + 1 => by rw [Xoj, Yhh n]; rfl
theorem Ybe (X : Nat → Nat → Int) (m : Nat) : ∀ n : Nat, Xoj (fun k => Xoj (fun a => X a k) m) n = Xoj (fun a => Xoj (fun k => X a k) n) m
 | 0 => (Yhh m).symm
 | n + 1 => by
  rw [Xoj, Ybe X m n, ← Yfh]
  rfl
theorem Yin {t : Nat → Int} {B : Int} : ∀ n : Nat, (∀ k, k < n → -B ≤ t k ∧ t k ≤ B) → -(n * B) ≤ Xoj t n ∧ Xoj t n ≤ n * B
 | 0, _ => by simp [Xoj]
 | n + 1, h => by
  have a := Yin n (fun k hk => h k (by omega))
  have b := h n (by omega)
  rw [Xoj, show ((n + 1 : Nat) : Int) * B = n * B + B by rw [Int.natCast_add, Int.add_mul]; simp]
  omega
def eT (f : Nat → Int) (u : Nat) : Int := Xoj (fun k => Xa3 (u : Int) (k : Int) * f k) 8
theorem Xth {f g : Nat → Int} (h : ∀ k, k < 8 → f k = g k) (u : Nat) : eT f u = eT g u := Xgu 8 fun k hk => by rw [h k hk]
theorem Yom (f g : Nat → Int) (u : Nat) : eT (fun k => f k + g k) u = eT f u + eT g u := by
 unfold eT
 rw [← Yfh]
 exact Xgu 8 fun k _ => by rw [Int.mul_add]
theorem Yo8 {f : Nat → Int} {B : Int} (h : ∀ k, k < 8 → -B ≤ f k ∧ f k ≤ B) {u : Nat} (hu : u < 8) : -(8 * B) ≤ eT f u ∧ eT f u ≤ 8 * B :=
 Yin 8 fun k hk => (Xup (h k hk) (Yau ⟨u, hu⟩ ⟨k, hk⟩)).2
theorem Yo9 (X : Nat → Nat → Int) (u v : Nat) : eT (fun i => eT (fun k => X i k) v) u = eT (fun k => eT (fun i => X i k) u) v := by
 have a : ∀ i : Nat, Xa3 (u : Int) (i : Int) * Xoj (fun k => Xa3 (v : Int) (k : Int) * X i k) 8 = Xoj (fun k => Xa3 (u : Int) (i : Int) * (Xa3 (v : Int) (k : Int) * X i k)) 8 := fun i => (Xu3 _ _ 8).symm
 have b : ∀ k : Nat, Xa3 (v : Int) (k : Int) * Xoj (fun i => Xa3 (u : Int) (i : Int) * X i k) 8 = Xoj (fun i => Xa3 (u : Int) (i : Int) * (Xa3 (v : Int) (k : Int) * X i k)) 8 := fun k => by
  rw [← Xu3]
  exact Xgu 8 fun i _ => by rw [Int.mul_left_comm]
 exact (Xgu 8 (fun i _ => a i)).trans ((Ybe (fun i k => Xa3 (u : Int) (i : Int) * (Xa3 (v : Int) (k : Int) * X i k)) 8 8).symm.trans (Xgu 8 (fun k _ => b k)).symm)
theorem Yrm : ∀ u a : Fin 8, Xoj (fun k => Xa3 (u.val : Int) (k : Int) * Xa3 (k : Int) (a.val : Int)) 8 = if u.val = a.val then 8 else 0 := by decide +kernel
theorem Yhi (f : Nat → Int) (u : Nat) : ∀ n : Nat, Xoj (fun a => f a * (if u = a then 8 else 0)) n = if u < n then 8 * f u else 0
 | 0 => rfl
 | n + 1 => by
  rw [Xoj, Yhi f u n]
  by_cases h : u = n
  ·
   rw [if_neg (by omega), if_pos h, if_pos (by omega), h]; omega
  ·
   rw [if_neg h]
   by_cases h2 : u < n
   ·
    rw [if_pos h2, if_pos (by omega)]; omega
   ·
    rw [if_neg h2, if_neg (by omega)]; omega
theorem Yqf (f : Nat → Int) {u : Nat} (hu : u < 8) : eT (eT f) u = 8 * f u := by
 have a : ∀ k : Nat, Xa3 (u : Int) (k : Int) * Xoj (fun b => Xa3 (k : Int) (b : Int) * f b) 8 = Xoj (fun b => Xa3 (u : Int) (k : Int) * (Xa3 (k : Int) (b : Int) * f b)) 8 := fun k => (Xu3 _ _ 8).symm
 have b : ∀ b : Nat, b < 8 → Xoj (fun k => Xa3 (u : Int) (k : Int) * (Xa3 (k : Int) (b : Int) * f b)) 8 = f b * (if u = b then 8 else 0) := fun b hb => by
  rw [← Yrm ⟨u, hu⟩ ⟨b, hb⟩, ← Xu3]
  exact Xgu 8 fun k _ => by rw [Int.mul_comm (f b), Int.mul_assoc]
 refine (Xgu 8 (fun k _ => a k)).trans ((Ybe (fun b k => Xa3 (u : Int) (k : Int) * (Xa3 (k : Int) (b : Int) * f b)) 8 8).trans ((Xgu 8 b).trans ?_))
 rw [Yhi, if_pos hu]
def eS (X : Nat → Nat → Int) (u v : Nat) : Int := eT (fun i => eT (X i) v) u
theorem Ym8 {X Y : Nat → Nat → Int} (h : ∀ i k, i < 8 → k < 8 → X i k = Y i k) (u v : Nat) : eS X u v = eS Y u v := Xth (fun i hi => Xth (fun k hk => h i k hi hk) v) u
theorem Yqd (X Y : Nat → Nat → Int) (u v : Nat) : eS (fun i k => X i k + Y i k) u v = eS X u v + eS Y u v := by
 unfold eS
 rw [← Yom]
 exact Xth (fun i _ => Yom (X i) (Y i) v) u
theorem Yqe {X : Nat → Nat → Int} {B : Int} (h : ∀ i k, i < 8 → k < 8 → -B ≤ X i k ∧ X i k ≤ B) {u v : Nat} (hu : u < 8) (hv : v < 8) : -(64 * B) ≤ eS X u v ∧ eS X u v ≤ 64 * B := by
 have := Yo8 (B := 8 * B) (f := fun i => eT (X i) v) (fun i hi => Yo8 (fun k hk => h i k hi hk) hv) hu
 unfold eS
 omega
theorem Yrh (X : Nat → Nat → Int) {u v : Nat} (hu : u < 8) (hv : v < 8) : eS (eS X) u v = 64 * X u v := by
 unfold eS
 have a : ∀ i, eT (fun k => eT (fun a => eT (X a) k) i) v = eT (fun a => 8 * X a v) i := fun i => by
  rw [← Yo9 (fun a k => eT (X a) k) i v]
  exact Xth (fun a _ => Yqf (X a) hv) i
 rw [Xth (fun i _ => a i) u]
 exact (Yqf (fun a => 8 * X a v) hu).trans (by omega)
theorem Yho {t u : Nat → Int} {B : Int} (hB : B ≤ 1000000000000) (h : ∀ k, k < 8 → t k = u k ∧ -B ≤ u k ∧ u k ≤ B) : ∀ n : Nat, n ≤ 8 → Ycw t n = Xoj u n
 | 0, _ => rfl
 | n + 1, hn => by
  have a := h n (by omega)
  have b := Yin (t := u) (B := B) n (fun k hk => (h k (by omega)).2)
  have c : (n : Int) * B ≤ 8 * 1000000000000 := by
   have : (n : Int) * B ≤ (n : Int) * 1000000000000 := Int.mul_le_mul_of_nonneg_left hB (by omega)
   omega
  rw [Ycw, Yho hB h n (by omega), Xoj, a.1, wkA]
def Xql (p : List Int) (i k : Nat) : Int := p.getD (8 * i + k) 0
theorem Ynh {p : List Int} {B : Int} (hB : B ≤ 100000000000) (hl : p.length = 64) (hb : inB B p) {i v : Nat} (hi : i < 8) (hv : v < 8) : (Xot p).getD (8 * i + v) 0 = eT (Xql p i) v := by
 unfold Xot
 rw [Xb8 _ (by omega), show (8 * i + v) / 8 = i by omega, show (8 * i + v) % 8 = v by omega]
 refine Yho (B := B) (by omega) (fun k hk => ?_) 8 (by omega)
 have hp := Xf8 hb (i := 8 * i + k) (by omega)
 have := (Xup hp (Yau ⟨v, hv⟩ ⟨k, hk⟩)).2
 exact ⟨by unfold Yos Xql; rw [wk (by simp only at this; omega) (by simp only at this; omega)], this⟩
theorem Yfj {p : List Int} {B : Int} (hB : B ≤ 10000000000) (hl : p.length = 64) (hb : inB B p) {u v : Nat} (hu : u < 8) (hv : v < 8) : (Xgv p).getD (8 * u + v) 0 = eS (Xql p) u v := by
 unfold Xgv
 rw [Xb8 _ (by omega), show (8 * u + v) / 8 = u by omega, show (8 * u + v) % 8 = v by omega]
 refine Yho (B := 8 * B) (by omega) (fun k hk => ?_) 8 (by omega)
 have hh := Ynh (by omega) hl hb hk hv
 have hp := Yo8 (f := Xql p k) (B := B) (fun j hj => Xf8 hb (i := 8 * k + j) (by omega)) hv
 have := (Xup hp (Yau ⟨u, hu⟩ ⟨k, hk⟩)).2
 exact ⟨by unfold Yol; rw [hh, wk (by simp only at this; omega) (by simp only at this; omega)], this⟩
def Xn9 (s x : Int) : Int := if x < 0 then 0 - (Xmr x + s / 2) / s else (Xmr x + s / 2) / s
theorem Ynk {s x : Int} (hs : 10 ≤ s ∧ s ≤ 1152) : -(s / 2) ≤ Xn9 s x * s - x ∧ Xn9 s x * s - x ≤ s / 2 := by
 have h1 := Int.ediv_mul_le (Xmr x + s / 2) (show s ≠ 0 by omega)
 have h2 := Int.lt_ediv_add_one_mul_self (Xmr x + s / 2) (show 0 < s by omega)
 rw [Int.add_mul, Int.one_mul] at h2
 unfold Xn9
 have ha : Xmr x = if x < 0 then -x else x := rfl
 by_cases h : x < 0
 ·
  rw [if_pos h] at ha ⊢
  rw [Int.sub_mul, Int.zero_mul]
  omega
 ·
  rw [if_neg h] at ha ⊢
  omega
theorem Ybo {w qp s : Int} (hw : -20000 ≤ w ∧ w ≤ 20000) (h0 : 0 ≤ qp ∧ qp ≤ 40) (es : Xc6 qp = some s) (hs : 10 ≤ s ∧ s ≤ 1152) : Xdt w qp = some (Xn9 s w) := by
 unfold Xdt
 rw [Xai, Xab, decide_eq_true hw, Xav, Xai, Xab, decide_eq_true h0, Bool.not_true, Xab, Xaq, es, Xab, Xhq w (by omega), Xab]
 have ha : 0 ≤ Xmr w ∧ Xmr w ≤ 20000 := by unfold Xmr; split <;> omega
 unfold Xn9
 generalize Xmr w = a at *
 rw [rqA, rqA, Xbk (a := s) (by omega), wkA (e := s / 2), wkA (e := a + s / 2), Xbk (by omega)]
 have d0 : 0 ≤ (a + s / 2) / s := Int.ediv_nonneg (by omega) (by omega)
 have d1 : (a + s / 2) / s < 5000 := Int.ediv_lt_of_lt_mul (by omega) (by omega)
 rw [wkA]
 unfold Xfq
 by_cases h : w < 0
 ·
  rw [Xbp h, if_pos h, wkA, Xab]
 ·
  rw [Xan h, if_neg h, Xab]
theorem Ydm {l qp s : Int} (hl : -5000 ≤ l ∧ l ≤ 5000) (es : Xc6 qp = some s) (hs : 10 ≤ s ∧ s ≤ 1152) : Xeh l qp = some (l * s) := by
 unfold Xeh
 rw [Xai, Xab, decide_eq_true hl, Bool.not_true, Xaq, es, Xab]
 have m1 : l * s ≤ 5000 * s := Int.mul_le_mul_of_nonneg_right hl.2 (by omega)
 have m2 : -5000 * s ≤ l * s := Int.mul_le_mul_of_nonneg_right hl.1 (by omega)
 rw [wkA]
theorem Ypd {n : Nat} {g : Nat → Int} {B : Int} (h : ∀ i, i < n → -B ≤ g i ∧ g i ≤ B) : inB B ((List.range n).map g) := fun x hx => by
 obtain ⟨i, hi, rfl⟩ := List.mem_map.1 hx
 exact h i (List.mem_range.1 hi)
theorem Ydl {p : List Int} (hl : p.length = 64) (hb : inB 5760000 p) : Xeg p = some ((List.range 64).map fun i => ((Xgv p).getD i 0 + 32) / 64) := by
 unfold Xeg
 have hb2 : inB 368640000 (Xgv p) := by
  obtain ⟨o, e, _, h2⟩ := Xi5 p 5760000 (by omega) hl hb
  rw [Xez p hl] at e
  injection e with e
  rw [e]; exact h2
 rw [Xbc p 64 10000000 (by omega) (by omega) (by omega) (Xkg hb (by omega)), Xab, Bool.not_true, Xaq, Xez p hl, Xab]
 rw [Xq7 (f := Xcn) 64 (fun i => ((Xgv p).getD i 0 + 32) / 64) (Xgv p) (Xok p) (by
  intro i s hi hs hx
  have hx2 := Xf8 hb2 (i := i) (by rw [Xok]; exact hi)
  obtain ⟨d, ed, d1, d2⟩ := Xgj (s.getD i 0 + 32) 64 (by omega) (Or.inr rfl)
  unfold Xcn
  simp only [Int.toNat_natCast]
  rw [syA, rqA, rqA, wkA (e := s.getD i 0 + 32), ed, Xab, rqA, rqA, wkA (e := (i : Int) + 1), show d = ((Xgv p).getD i 0 + 32) / 64 by omega]
  rfl) (by intro s _; unfold Xcn; rw [Xan (by simp)]), Xab]
theorem Xvy {p l : List Int} {c : Xdm} (hc : Xe1 c = true) (hL : c.Large = true) (hp : p.length = 64) (hb : inB 255 p) (h : Xbt p c = some (l, true)) (hl : Xwu l = true) : ∃ s b, Xc6 c.Qp = some s ∧ (10 ≤ s ∧ s ≤ 1152) ∧ Xbd l c = some (b, true) ∧ (∀ j : Nat, j < 64 → -(s / 2) ≤ b.getD j 0 - p.getD j 0 ∧ b.getD j 0 - p.getD j 0 ≤ s / 2) ∧ ((∀ i : Nat, i < 64 → l.getD i 0 = 0) → ∀ j : Nat, j < 64 → b.getD j 0 = 0) := by
 have hE : c.Exact = false := by
  unfold Xe1 at hc
  rw [hL] at hc
  cases hE : c.Exact with
  | false => rfl
  | true => rw [hE] at hc; simp at hc
 have hq := Xkr hc
 obtain ⟨s, es, hs⟩ := Xhf c.Qp hq
 have hS : inB 16320 (Xgv p) := by
  obtain ⟨o, e, _, h2⟩ := Xi5 p 255 (by omega) hp hb
  rw [Xez p hp] at e
  injection e with e
  rw [e]; exact h2
 have hlev : ∀ i : Nat, i < 64 → -2000 ≤ Xn9 s ((Xgv p).getD i 0) ∧ Xn9 s ((Xgv p).getD i 0) ≤ 2000 := fun i hi => by
  have hx := Xf8 hS (i := i) (by rw [Xok]; exact hi)
  generalize (Xgv p).getD i 0 = x at *
  have ha : 0 ≤ Xmr x ∧ Xmr x ≤ 16320 := by unfold Xmr; split <;> omega
  unfold Xn9
  have d0 : 0 ≤ (Xmr x + s / 2) / s := Int.ediv_nonneg (by omega) (by omega)
  have d1 : (Xmr x + s / 2) / s < 2000 := Int.ediv_lt_of_lt_mul (by omega) (by omega)
  split <;> omega
 -- the levels
 have e : l = Xhm ((List.range 64).map fun i => Xn9 s ((Xgv p).getD i 0)) := by
  unfold Xbt at h
  have e8 : Xj6 p = some (Xgv p) := by
   unfold Xj6
   rw [Xbc p 64 1000 (by omega) (by omega) (by omega) (Xkg hb (by omega)), Xab, Bool.not_true, Xaq, Xez p hp, Xab]
  have el := Xq7 (f := Xa9 c) 64 (fun i => Xn9 s ((Xgv p).getD i 0)) (Xgv p) (Xok p) (by
   intro i t hi ht hx
   have hx2 := Xf8 hS (i := i) (by rw [Xok]; exact hi)
   unfold Xa9
   simp only [Int.toNat_natCast]
   rw [syA, rqA, rqA, hx, Ybo (by omega) hq es hs, Xab, rqA, rqA, wkA (e := (i : Int) + 1)]
   rfl) (by intro t _; unfold Xa9; rw [Xan (by simp)])
  rw [Xby, Xab, hc, Xav, Xbc p 64 255 (by omega) (by omega) (by omega) hb, Xab, Bool.not_true, Xab, Xaq, hE, Xaq, hL, Xav, e8, Xab, el, Xab, Xr7 _ (by simp), Xab] at h
  injection h with h
  injection h with h _
  exact h.symm
 -- and back
 have hm : ∀ x : Int, -2000 ≤ x ∧ x ≤ 2000 → -5760000 ≤ x * s ∧ x * s ≤ 5760000 := fun x hx => by
  have m1 : x * s ≤ 2000 * s := Int.mul_le_mul_of_nonneg_right hx.2 (by omega)
  have m2 : -2000 * s ≤ x * s := Int.mul_le_mul_of_nonneg_right hx.1 (by omega)
  omega
 have hw : inB 5760000 ((List.range 64).map fun i => Xn9 s ((Xgv p).getD i 0) * s) := Ypd fun i hi => hm _ (hlev i hi)
 have hwl : ((List.range 64).map fun i => Xn9 s ((Xgv p).getD i 0) * s).length = 64 := by simp
 have eb : Xbd l c = some ((List.range 64).map fun i => ((Xgv ((List.range 64).map fun i => Xn9 s ((Xgv p).getD i 0) * s)).getD i 0 + 32) / 64, true) := by
  obtain ⟨l1, l2⟩ := Xsx hl
  have el := Xq7 (f := Xa0 c) 64 (fun i => Xn9 s ((Xgv p).getD i 0) * s) ((List.range 64).map fun i => Xn9 s ((Xgv p).getD i 0)) (by simp) (by
   intro i t hi ht hx
   have := hlev i hi
   unfold Xa0
   simp only [Int.toNat_natCast]
   rw [syA, rqA, rqA, hx, Xb8 _ hi, Ydm (by omega) es hs, Xab, rqA, rqA, wkA (e := (i : Int) + 1)]
   rfl) (by intro t _; unfold Xa0; rw [Xan (by simp)])
  unfold Xbd
  rw [Xby, Xab, hc, Xav, Xbc l 64 5000 (by omega) (by omega) (by omega) l2, Xab, Bool.not_true, Xab, Xaq, hE, Xaq, hL, Xav, e, Ybf _ (by simp), Xab]
  simp only
  rw [el, Xab, Ydl hwl hw, Xab]
 refine ⟨s, _, es, hs, eb, fun j hj => ?_, fun hz j hj => ?_⟩
 ·
  rw [Xb8 _ hj]
  have ej : j = 8 * (j / 8) + j % 8 := by omega
  have hu : j / 8 < 8 := by omega
  have hv : j % 8 < 8 := by omega
  rw [ej]
  generalize j / 8 = u at *
  generalize j % 8 = v at *
  rw [Yfj (by omega) hwl hw hu hv]
  have ew : eS (Xql ((List.range 64).map fun i => Xn9 s ((Xgv p).getD i 0) * s)) u v = 64 * Xql p u v + eS (fun i k => Xn9 s ((Xgv p).getD (8 * i + k) 0) * s - (Xgv p).getD (8 * i + k) 0) u v := by
   rw [← Yrh (Xql p) hu hv, ← Yqd]
   refine Ym8 (fun i k hi hk => ?_) u v
   rw [← Yfj (by omega) hp hb hi hk]
   unfold Xql
   rw [Xb8 _ (by omega)]
   omega
  have hbd := Yqe (X := fun i k => Xn9 s ((Xgv p).getD (8 * i + k) 0) * s - (Xgv p).getD (8 * i + k) 0) (B := s / 2) (fun i k _ _ => Ynk hs) hu hv
  rw [ew]
  unfold Xql
  omega
 ·
  rw [Xb8 _ hj]
  have hw0 : ∀ i : Nat, i < 64 → Xn9 s ((Xgv p).getD i 0) * s = 0 := fun i hi => by
   obtain ⟨k, hk, hks⟩ := Yat i hi
   have := hz k hk
   rw [e, Xs0 _ hk, hks, Int.toNat_natCast, Xb8 _ hi] at this
   rw [this, Int.zero_mul]
  have ej : j = 8 * (j / 8) + j % 8 := by omega
  have hu : j / 8 < 8 := by omega
  have hv : j % 8 < 8 := by omega
  rw [ej]
  generalize j / 8 = u at *
  generalize j % 8 = v at *
  rw [Yfj (by omega) hwl hw hu hv]
  have := Yqe (X := Xql ((List.range 64).map fun i => Xn9 s ((Xgv p).getD i 0) * s)) (B := 0) (fun i k hi hk => by
   unfold Xql
   rw [Xb8 _ (by omega), hw0 _ (by omega)]
   omega) hu hv
  omega
theorem Yfx {n w h : Int} (hw : 0 ≤ w ∧ w ≤ 255) (h0 : 0 ≤ h) (hn : -h ≤ n - w ∧ n - w ≤ h) : -h ≤ Xbn n 0 255 - w ∧ Xbn n 0 255 - w ≤ h := by
 unfold Xbn
 repeat' split
 all_goals omega
theorem Yad {w g b : List Int} {h : Int} (hw : Xbi w = true) (h0 : 0 ≤ h) (hb : ∀ j : Nat, j < 64 → -h ≤ b.getD j 0 - (Xp4 w g).getD j 0 ∧ b.getD j 0 - (Xp4 w g).getD j 0 ≤ h) : ∀ i : Nat, i < 64 → -h ≤ (Xo6 g b).getD i 0 - w.getD i 0 ∧ (Xo6 g b).getD i 0 - w.getD i 0 ≤ h := by
 intro i hi
 have := hb i hi
 rw [Xo7 _ _ hi] at this
 rw [Xo6, Xb8 _ hi]
 exact Yfx ((Xa8 hw).2 i hi) h0 (by omega)
theorem Yl0 {now ref : Pic} {w : List Int} {x y : Int} {c : Xdm} {r : Int} {q : Xam} (H : Yoy now ref w x y c r) (hL : c.Large = true) (hq : Xmu now ref w x y c r q) {d : List Int} (hd : Xb0 now ref 0 0 c x y q = some (d, true)) {s : Int} (es : Xc6 c.Qp = some s) : ∀ i : Nat, i < 64 → -(s / 2) ≤ d.getD i 0 - w.getD i 0 ∧ d.getD i 0 - w.getD i 0 ≤ s / 2 := by
 have hs0 : 10 ≤ s ∧ s ≤ 1152 := by
  obtain ⟨s', e', h'⟩ := Xhf c.Qp (Xkr H.hc)
  rw [es] at e'
  injection e' with e'
  rw [e']; exact h'
 obtain ⟨q1, q2, q3⟩ := hq.ok H.hr
 have SD : Yq8 now ref 0 0 x y c q := ⟨H.ok, H.hx, H.hy, H.h0, by omega, by omega, H.hc, by omega⟩
 obtain ⟨d', e', _, hv⟩ := Xrn SD q1 q2 (fun h => (H.hk h).1)
 rw [hd] at e'
 injection e' with e'
 injection e' with e' _
 subst e'
 rw [Int.zero_add, Int.zero_add] at hv
 cases hq with
 | same hK h =>
  rcases hv with ⟨_, _, e⟩ | ⟨k, _⟩ | ⟨k, _⟩
  ·
   intro i hi
   rw [e, h i hi]
   omega
  ·
   simp at k
  ·
   simp at k
 | still hK l h hl hz =>
  rcases hv with ⟨_, _, e⟩ | ⟨k, _⟩ | ⟨k, _⟩
  ·
   obtain ⟨s', b, e1, _, _, hn, h0⟩ := Xvy H.hc hL (Xev _ _) (Xkh H.hw (Xd3 ref x y)) h hl
   rw [es] at e1
   injection e1 with e1
   subst e1
   intro i hi
   have a := hn i hi
   have b0 := h0 hz i hi
   rw [Xo7 _ _ hi] at a
   rw [e]
   omega
  ·
   simp at k
  ·
   simp at k
 | move hK dx dy hdx hdy hh l h hl hn =>
  rcases hv with ⟨k, _⟩ | ⟨_, _, b, eb, e⟩ | ⟨k, _⟩
  ·
   simp at k
  ·
   obtain ⟨s', b', e1, _, e2, hn2, _⟩ := Xvy H.hc hL (Xev _ _) (Xkh H.hw (Xd3 ref (x + dx) (y + dy))) h hl
   rw [es] at e1
   injection e1 with e1
   subst e1
   simp only at eb e
   rw [e2] at eb
   injection eb with eb
   injection eb with eb _
   rw [e, ← eb]
   exact Yad H.hw (by omega) hn2
  ·
   simp at k
 | guess e he hp m hm g hg hgd l h hl hn =>
  rcases hv with ⟨k, _⟩ | ⟨k, _⟩ | ⟨_, e2, b, g2, ee, _, eb, eg, _, ed⟩
  ·
   simp at k
  ·
   simp at k
  ·
   obtain ⟨s', b', e1, _, e3, hn2, _⟩ := Xvy H.hc hL (Xev _ _) (Xkh H.hw hgd) h hl
   rw [es] at e1
   injection e1 with e1
   subst e1
   simp only at eb eg
   rw [he] at ee
   injection ee with ee
   injection ee with ee _
   rw [← ee, hg] at eg
   injection eg with eg
   rw [e3] at eb
   injection eb with eb
   injection eb with eb _
   rw [ed, ← eb, ← eg]
   exact Yad H.hw (by omega) hn2
theorem Xjf.near {src ref : Pic} {c : Xdm} {r : Int} (H : Ykt src ref c r) (hL : c.Large = true) {l : List Xam} {now : Pic} (h : Xjf src ref c r ((src.Wide / 8).toNat * (src.High / 8).toNat) l now) {s : Int} (es : Xc6 c.Qp = some s) : ∀ i : Nat, i < src.Dots.size → -(s / 2) ≤ Xp5 now.Dots i - Xp5 src.Dots i ∧ Xp5 now.Dots i - Xp5 src.Dots i ≤ s / 2 := by
 obtain ⟨ok, w, hh, _, _⟩ := h.pic H
 obtain ⟨k1, k2, k3⟩ := Xat H.ok
 intro i hi
 have hkW : (i : Int) < src.Wide * src.High := by omega
 have m0 := Int.emod_nonneg (i : Int) (show src.Wide ≠ 0 by omega)
 have m1 := Int.emod_lt_of_pos (i : Int) (show 0 < src.Wide by omega)
 have d0 : 0 ≤ (i : Int) / src.Wide := Int.ediv_nonneg (by omega) (by omega)
 have d1 : (i : Int) / src.Wide < src.High := Int.ediv_lt_of_lt_mul (by omega) (by rw [Int.mul_comm]; exact hkW)
 have key := h.all H (fun X Y v => -(s / 2) ≤ v - Xlo src X Y ∧ v - Xlo src X Y ≤ s / 2) (fun n now q d hn SF hq hs j hj => by
  have := Yl0 SF hL hq hs es j hj
  rw [Yk7 _ _ _ hj] at this
  exact this) ((i : Int) % src.Wide) ((i : Int) / src.Wide) ⟨m0, m1⟩ ⟨d0, d1⟩
 rw [Xmy (by rw [w]; exact ⟨m0, m1⟩) (by rw [hh]; exact ⟨d0, d1⟩), Xmy ⟨m0, m1⟩ ⟨d0, d1⟩, w, Int.ediv_mul_add_emod] at key
 exact key
theorem FnSends {p0 : List Int} (h0 : p0.length ≤ maxLen ∧ ∀ y ∈ p0, (Lit.int .u8 y).wf = true) : Xm3 p0 = some true := by
 have hm : maxLen = 9223372036854775807 := rfl
 unfold Xm3
 rw [Yh5, Xab]
 by_cases hb : (p0.length : Int) > 1048576
 ·
  rw [Xbp hb]
 rw [Xan hb]
 obtain ⟨src, ref, e, pw, ph, ok, qw, qh, ok2⟩ := Xx3 p0 (by omega)
 obtain ⟨c, ec, hc⟩ := Xx1 p0 (by omega)
 obtain ⟨l, el, ll, lb⟩ := Xuy p0 (by omega)
 rw [e, Xab, ec, Xab, el, Xab]
 simp only
 have a0 : 0 ≤ l.getD 0 0 ∧ l.getD 0 0 < 10000 := lb _ (by rw [Xc2 l 0 (by omega)]; exact List.getElem_mem _)
 rw [show ((0 : Int).toNat) = 0 from rfl]
 generalize l.getD 0 0 = u at *
 have tm : 0 ≤ u.tmod 3 ∧ u.tmod 3 ≤ 2 := by rw [Xcg a0.1]; omega
 generalize u.tmod 3 = r at *
 have H : Ykt src ref c r := ⟨ok, Yme pw, Yme ph, hc, by omega, fun _ => ⟨ok2, qw, qh⟩⟩
 obtain ⟨ls, now, et, hT⟩ := Xxl H
 obtain ⟨t1, t2, t3⟩ := Ydg H.hw H.hh
 obtain ⟨ok3, nw, nh, hlen, hall⟩ := hT.pic H
 obtain ⟨k1, k2, k3⟩ := Xat ok
 obtain ⟨n1, n2, n3⟩ := Xat ok3
 have hsz : (now.Dots.size : Int) = src.Dots.size := by rw [n3, k3, nw, nh]
 have hsq : Ybb ls c = true := by
  unfold Ybb
  rw [List.all_eq_true]
  intro s hs
  obtain ⟨a, b, _⟩ := hall s hs
  rw [a, b, hc]; rfl
 have er : Xh1 ls c = some (strOfNums (Xmq ls c), true) := by
  rw [Xzx ls c (fun s hs => by have := (hall s hs).2.2; omega)]
  unfold Yio
  rw [decide_eq_true (show 1 ≤ ls.length ∧ ls.length ≤ 64 by omega), hsq]
  rfl
 have erd := Xty hsq hc (by omega) (fun q hq => (hall q hq).2.2)
 rw [hlen, t1] at erd
 have etb := Xxk H hT
 rw [rqA, rqA, rqA, et, Xab]
 simp only
 rw [er, Xab, rqA, rqA, Xbk (a := src.Wide) (by omega), Xbk (a := src.High) (by omega), wkA (e := src.Wide / 8), wkA (e := src.High / 8), wkA (e := src.Wide / 8 * (src.High / 8))]
 simp only
 rw [erd, Xab]
 simp only
 rw [etb, Xab]
 simp only
 rw [Xav, Xav, Xav, Xav, Ykd, Xb6 (by rfl), nw, bne_self_eq_false, Xaq, nh, bne_self_eq_false, Xaq, hsz, bne_self_eq_false, Xab, Xaq]
 cases hE : c.Exact with
 | true =>
  have hn := hT.same H (fun now w x y q d SF _ hq hs => Yj7 SF hE hq hs)
  rw [Xav, hn]
  simp only [beq_self_eq_true, Bool.and_self]
 | false =>
  rw [Xaq]
  have hloop : loop (Xeu (src, ref) c (ls, now, true)) 0 = some (.out ()) := by
   cases hL : c.Large with
   | false =>
    refine Xib ?_
    unfold Xeu
    rw [hL]
    simp only
    have ar := Xc1 k1 k2
    rw [syA, Xab, Xaq]
   | true =>
    obtain ⟨s, es, hs⟩ := Xhf c.Qp (Xkr hc)
    have hnear := hT.near H hL es
    have ar := Xc1 k1 k2
    refine Xqn src.Dots.size (fun i hi => ?_) ?_
    ·
     have hn := hnear i hi
     have b1 := Xqy now.Dots (Xp5 now.Dots i) (by rw [← Xj0 _ i (by omega), Xc2 _ i (by rw [Xbm]; omega)]; exact List.getElem_mem _)
     have b2 := Xqy src.Dots (Xp5 src.Dots i) (by rw [← Xj0 _ i hi, Xc2 _ i (by rw [Xbm]; omega)]; exact List.getElem_mem _)
     unfold Xeu
     rw [hL]
     simp only
     generalize Xp5 now.Dots i = x at *
     generalize Xp5 src.Dots i = z at *
     rw [syA, Xab, Xav, rqA, rqA, wkA (e := x), wkA (e := z), wkA (e := x - z)]
     have hdiff : (sel (decide (x - z < 0)) (some (Xaa .i64 (0 - (x - z)))) (some (x - z))) = some (Xmr (x - z)) := by
      unfold Xmr
      by_cases h : x - z < 0
      ·
       rw [Xbp h, if_pos h, wkA]; congr 1; omega
      ·
       rw [Xan h, if_neg h]
     have ha : Xmr (x - z) ≤ s / 2 ∧ 0 ≤ Xmr (x - z) := by unfold Xmr; split <;> omega
     rw [hdiff, Xab, Xp6 c.Qp (Xkr hc), es, Xab, wkA (e := 2 * Xmr (x - z)), snA, wkA]
     rfl
    ·
     unfold Xeu
     simp only
     rw [snA, Xab, Xaq]
  rw [hloop, Xab]
end Go.Proofs.Ytlebkepfhdjnmac.A.Pure
