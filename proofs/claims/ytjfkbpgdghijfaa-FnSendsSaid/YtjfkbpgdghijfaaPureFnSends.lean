/- The pure statement of the law FnSends, part 2: over numbers, texts and lists alone, what the law computes is true. Conditions: the sizes of what a machine holds. -/
import Derived.Test.YtjfkbpgdghijfaaPureFnSendsx0
namespace Go.Proofs.Ytjfkbpgdghijfaa.A.Pure
open Go Go.Proofs Go.Proofs.YtjfkbpgdghijfaaAL Go.RowKit
set_option linter.unusedVariables false
set_option linter.unusedSimpArgs false
set_option maxHeartbeats 1000000
theorem spec_StepOf_eq (qp : Int) (h0 : 0 ≤ qp ∧ qp ≤ 40) : spec_StepOf qp = some (stepPlace qp) := by
 have h := step_ok ⟨qp.toNat, by omega⟩
 simp only at h
 rw [show ((qp.toNat : Nat) : Int) = qp by omega] at h
 unfold spec_StepOf
 rw [spec_l01In_eq, bnd_s, decide_eq_true (by omega), Bool.not_true, sel_f, req_p (by omega)]
 have hb : (sel ((qp.tmod 6) == 0) (some (10 : Int)) (sel ((qp.tmod 6) == 1) (some 11) (sel ((qp.tmod 6) == 2) (some 13) (sel ((qp.tmod 6) == 3) (some 14) (sel ((qp.tmod 6) == 4) (some 16) (some 18)))))) = some (stepBase qp) := by
  unfold stepBase
  simp only [sel_ite, beq_iff_eq]
  repeat' split
  all_goals rfl
 rw [hb, bnd_s]
 unfold stepPlace at h ⊢
 cases e : it (spec_StepOf_l2 qp) 10 (stepBase qp, 0) with
 | none => rw [e] at h; simp only at h; omega
 | some q => rw [loop_it.2 ⟨10, e⟩, bnd_s]
theorem impl_step_all : ∀ q : Fin 41, impl_StepOf (q.val : Int) = some (stepPlace (q.val : Int)) := by decide +kernel
theorem impl_StepOf_eq (qp : Int) (h0 : 0 ≤ qp ∧ qp ≤ 40) : impl_StepOf qp = some (stepPlace qp) := by
 have := impl_step_all ⟨qp.toNat, by omega⟩
 simp only at this
 rwa [show ((qp.toNat : Nat) : Int) = qp by omega] at this
theorem StepOf_alike (qp : Int) (h0 : 0 ≤ qp ∧ qp ≤ 40) : impl_StepOf qp = spec_StepOf qp := by rw [impl_StepOf_eq qp h0, spec_StepOf_eq qp h0]
theorem spec_SignOf_eq (u v : Nat) (hu : u < 8) (hv : v < 8) : spec_SignOf u v = some (signPlace u v) := by
 have h := sign_ok ⟨u, hu⟩ ⟨v, hv⟩
 simp only at h
 unfold spec_SignOf
 rw [spec_l01In_eq, bnd_s, decide_eq_true (by omega), sel_t, spec_l01In_eq, bnd_s, decide_eq_true (by omega), Bool.not_true, bnd_s, sel_f]
 unfold signPlace at h ⊢
 cases e : it spec_SignOf_l2 10 (1, (IntKind.wrap .i64 (BitVec.ofInt (IntKind.bits .i64) (u : Int) &&& BitVec.ofInt (IntKind.bits .i64) (v : Int)).toNat)) with
 | none => rw [e] at h; simp only at h; omega
 | some q => rw [loop_it.2 ⟨10, e⟩, bnd_s]
theorem impl_sign_all : ∀ u v : Fin 8, impl_SignOf (u.val : Int) (v.val : Int) = some (signPlace (u.val : Int) (v.val : Int)) := by decide +kernel
theorem SignOf_alike (u v : Nat) (hu : u < 8) (hv : v < 8) : impl_SignOf u v = some (signPlace u v) := impl_sign_all ⟨u, hu⟩ ⟨v, hv⟩
def scaleIt (qp p : Int) : Option Int :=
 bnd (spec_KindOf p) fun q1 => bnd (spec_l08Pick q1 10 16 13) fun a1 => bnd (spec_l08Pick q1 11 18 14) fun a2 => bnd (spec_l08Pick q1 13 20 16) fun a3 => bnd (spec_l08Pick q1 14 23 18) fun a4 => bnd (spec_l08Pick q1 16 25 20) fun a5 => bnd (spec_l08Pick q1 18 29 23) fun a6 =>
 it (spec_ScaleOf_l2 qp) 10 ((sel (qp.tmod 6 == 0) a1 (sel (qp.tmod 6 == 1) a2 (sel (qp.tmod 6 == 2) a3 (sel (qp.tmod 6 == 3) a4 (sel (qp.tmod 6 == 4) a5 (sel (qp.tmod 6 == 5) a6 0)))))), 0)
theorem scale_all : ∀ q : Fin 41, ∀ p : Fin 16, (scaleIt (q.val : Int) (p.val : Int)).isSome = true ∧ impl_ScaleOf (q.val : Int) (p.val : Int) = scaleIt (q.val : Int) (p.val : Int) := by decide +kernel
theorem ScaleOf_alike (qp p : Int) (h0 : 0 ≤ qp ∧ qp ≤ 40) (hp : 0 ≤ p ∧ p ≤ 15) : impl_ScaleOf qp p = spec_ScaleOf qp p := by
 have := scale_all ⟨qp.toNat, by omega⟩ ⟨p.toNat, by omega⟩
 simp only at this
 rw [show ((qp.toNat : Nat) : Int) = qp by omega, show ((p.toNat : Nat) : Int) = p by omega] at this
 obtain ⟨h1, h2⟩ := this
 rw [h2]
 cases e : scaleIt qp p with
 | none => rw [e] at h1; cases h1
 | some o =>
  unfold scaleIt at e
  unfold spec_ScaleOf
  obtain ⟨k, ek, k0, k1⟩ := spec_KindOf_ev p hp
  rw [ek, bnd_s] at e ⊢
  rw [spec_l01In_eq, bnd_s, decide_eq_true h0, sel_t, decide_eq_false (by omega), bnd_s, sel_f, req_p (by omega)]
  obtain ⟨a1, e1, b1⟩ := spec_l08Pick_ev k 10 16 13
  obtain ⟨a2, e2, b2⟩ := spec_l08Pick_ev k 11 18 14
  obtain ⟨a3, e3, b3⟩ := spec_l08Pick_ev k 13 20 16
  obtain ⟨a4, e4, b4⟩ := spec_l08Pick_ev k 14 23 18
  obtain ⟨a5, e5, b5⟩ := spec_l08Pick_ev k 16 25 20
  obtain ⟨a6, e6, b6⟩ := spec_l08Pick_ev k 18 29 23
  rw [e1, e2, e3, e4, e5, e6] at e ⊢
  simp only [bnd_s, sel_ss] at e ⊢
  rw [loop_of 10 e, bnd_s]
def scanOrdIn (n : Int) (v16 : Int × List Int) : Option (Lp (Int × List Int) (List Int)) :=
 sel (decide (v16.1 ≤ (wrapK .i64 ((wrapK .i64 (2 * n)) - 2)))) (
 bnd (it (impl_scanOrder_l14 n v16) 20 (0, v16.2)) fun v42 =>
 some (.go (wrapK .i64 (v16.1 + 1), v42))) (
 some (.done v16.2))
theorem scanOrdIn_is {n : Int} {v : Int × List Int} {x : Lp (Int × List Int) (List Int)} (h : scanOrdIn n v = some x) : impl_scanOrder_l12 n v = some x := by
 unfold scanOrdIn at h
 unfold impl_scanOrder_l12
 rcases sel_some h with ⟨hb, h⟩ | ⟨hb, h⟩
 ·
  rw [hb, sel_t]
  obtain ⟨a, h1, h2⟩ := bnd_some h
  rw [loop_it.2 ⟨20, h1⟩, bnd_s]
  exact h2
 ·
  rw [hb, sel_f]; exact h
def scanL (n : Int) : List Int := (it (scanOrdIn n) 20 (0, [])).getD []
theorem scanL_4 : (it (scanOrdIn 4) 20 (0, [])).isSome = true ∧ (scanL 4).length = 16 := by decide +kernel
theorem scanL_8 : (it (scanOrdIn 8) 20 (0, [])).isSome = true ∧ (scanL 8).length = 64 := by decide +kernel
theorem scanL_at4 : ∀ i : Fin 16, (scanL 4).getD i.val 0 = scanPlace 4 (i.val : Int) := by decide +kernel
theorem scanL_at8 : ∀ i : Fin 64, (scanL 8).getD i.val 0 = scanPlace 8 (i.val : Int) := by decide +kernel
theorem impl_scanOrder_eq (n : Int) (hn : n = 4 ∨ n = 8) : impl_scanOrder n = some (scanL n) ∧ ((scanL n).length : Int) = n * n ∧ ∀ i : Nat, (i : Int) < n * n → (scanL n).getD i 0 = scanPlace n i := by
 have h : (it (scanOrdIn n) 20 (0, [])).isSome = true ∧ ((scanL n).length : Int) = n * n := by
  rcases hn with rfl | rfl
  ·
   have := scanL_4; exact ⟨this.1, by omega⟩
  ·
   have := scanL_8; exact ⟨this.1, by omega⟩
 refine ⟨?_, h.2, fun i hi => ?_⟩
 ·
  obtain ⟨o, ho⟩ := Option.isSome_iff_exists.1 h.1
  have hl := loop_of 20 (it_of (fun v y => scanOrdIn_is (n := n)) 20 _ ho)
  unfold impl_scanOrder
  rw [hl, bnd_s]
  unfold scanL; rw [ho]; rfl
 ·
  rcases hn with rfl | rfl
  ·
   exact scanL_at4 ⟨i, by omega⟩
  ·
   exact scanL_at8 ⟨i, by omega⟩
theorem Unscanned_alike (n : Int) (hn : n = 4 ∨ n = 8) (l : List Int) (hl : (l.length : Int) = n * n) : impl_Unscanned n l = spec_Unscanned n l := by
 obtain ⟨e, h1, h2⟩ := impl_scanOrder_eq n hn
 have hw : wrapK .i64 (n * n) = n * n := by rcases hn with rfl | rfl <;> exact wk (by omega) (by omega)
 have hn2 : n * n ≤ 64 := by rcases hn with rfl | rfl <;> omega
 unfold impl_Unscanned spec_Unscanned
 rw [e]
 have : loop (impl_Unscanned_l2 l (scanL n)) (0, List.replicate (l.length : Int).toNat 0) = loop (spec_Unscanned_l2 n l) (0, List.replicate (l.length : Int).toNat 0) := by
  refine loop_congr (fun v => (∃ i : Nat, v.1 = (i : Int) ∧ i ≤ l.length) ∧ v.2.length = l.length) ?_ ?_ ⟨⟨0, rfl, by omega⟩, by simp⟩
  ·
   intro ⟨i, s⟩ ⟨⟨k, ek, hk⟩, hs⟩
   simp only at hs ek
   subst ek
   unfold impl_Unscanned_l2 spec_Unscanned_l2
   simp only [Int.toNat_natCast]
   rw [hw]
   by_cases hi : (k : Int) < n * n
   ·
    have hp := scanPlace_in n hn k hi
    have h3 := h2 k hi
    simp only [h3]
    rw [sel_yes (by omega), sel_yes hi, spec_ScanAt_ev n hn k hi, bnd_s, req_p (by omega), req_p (by omega)]
   ·
    rw [sel_no (by omega), sel_no hi]
  ·
   intro ⟨i, s⟩ v' ⟨⟨k, ek, hk⟩, hs⟩ he
   simp only at hs ek
   subst ek
   unfold spec_Unscanned_l2 at he
   simp only [Int.toNat_natCast] at he
   rw [hw] at he
   by_cases hi : (k : Int) < n * n
   ·
    have hp := scanPlace_in n hn k hi
    rw [sel_yes hi, spec_ScanAt_ev n hn k hi, bnd_s, req_p (by omega), req_p (by omega), req_p (by omega), wk (by omega) (by omega)] at he
    cases he
    exact ⟨⟨k + 1, rfl, by omega⟩, by rw [List.length_set]; exact hs⟩
   ·
    rw [sel_no hi] at he; cases he
 simp only [bnd_s, this]
theorem Scanned_alike (n : Int) (hn : n = 4 ∨ n = 8) (l : List Int) (hl : (l.length : Int) = n * n) : impl_Scanned n l = spec_Scanned n l := by
 have hm : maxLen = 9223372036854775807 := rfl
 obtain ⟨e, h1, h2⟩ := impl_scanOrder_eq n hn
 have hw : wrapK .i64 (n * n) = n * n := by rcases hn with rfl | rfl <;> exact wk (by omega) (by omega)
 have hn2 : n * n ≤ 64 := by rcases hn with rfl | rfl <;> omega
 unfold impl_Scanned spec_Scanned
 rw [e]
 have : loop (impl_Scanned_l2 l (scanL n)) (0, ([] : List Int)) = loop (spec_Scanned_l2 n l) (0, ([] : List Int)) := by
  refine loop_congr (fun v => ∃ i : Nat, v.1 = (i : Int) ∧ i ≤ l.length) ?_ ?_ ⟨0, rfl, by omega⟩
  ·
   intro ⟨i, s⟩ ⟨k, ek, hk⟩
   simp only at ek
   subst ek
   unfold impl_Scanned_l2 spec_Scanned_l2
   simp only [Int.toNat_natCast]
   rw [hw]
   by_cases hi : (k : Int) < n * n
   ·
    have hp := scanPlace_in n hn k hi
    have h3 := h2 k hi
    simp only [h3]
    rw [sel_yes (by omega), sel_yes hi, spec_ScanAt_ev n hn k hi, bnd_s, req_p (by omega), req_p (by omega)]
   ·
    rw [sel_no (by omega), sel_no hi]
  ·
   intro ⟨i, s⟩ v' ⟨k, ek, hk⟩ he
   simp only at ek
   subst ek
   unfold spec_Scanned_l2 at he
   simp only [Int.toNat_natCast] at he
   rw [hw] at he
   by_cases hi : (k : Int) < n * n
   ·
    have hp := scanPlace_in n hn k hi
    rw [sel_yes hi, spec_ScanAt_ev n hn k hi, bnd_s, req_p (by omega)] at he
    obtain ⟨_, he⟩ := req_some he
    rw [wk (by omega) (by omega)] at he
    cases he
    exact ⟨k + 1, rfl, by omega⟩
   ·
    rw [sel_no hi] at he; cases he
 simp only [bnd_s, this]
def acc8 (t : Nat → Int) : Nat → Int
 | 0 => 0
 | k + 1 => wrapK .i64 (acc8 t k + t k)
def rowT (p : List Int) (i v k : Nat) : Int := wrapK .i64 (signPlace v k * p.getD (8 * i + k) 0)
def colT (p : List Int) (u v k : Nat) : Int := wrapK .i64 (signPlace u k * p.getD (8 * k + v) 0)
def half8 (p : List Int) : List Int := (List.range 64).map fun j => acc8 (rowT p (j / 8) (j % 8)) 8
def sums8 (p : List Int) : List Int := (List.range 64).map fun j => acc8 (colT (half8 p) (j / 8) (j % 8)) 8
theorem half8_len (p : List Int) : (half8 p).length = 64 := by simp [half8]
theorem sums8_len (p : List Int) : (sums8 p).length = 64 := by simp [sums8]
theorem sum_loops {f1 : Int × List Int → Option (Lp (Int × List Int) (List Int))} {f2 : Int × List Int → Int × List Int → Option (Lp (Int × List Int) (List Int))} {f3 : Int × List Int → Int × List Int → Int × List Int → Option (Lp (Int × List Int) (List Int))} (t : Nat → Nat → Nat → Int)
  (h1 : ∀ v, f1 v = sel (decide (v.1 < 8)) (bnd (loop (f2 v) (0, v.2)) fun w => some (.go (wrapK .i64 (v.1 + 1), w))) (some (.done v.2)))
  (h2 : ∀ v w, f2 v w = sel (decide (w.1 < 8)) (bnd (loop (f3 v w) (0, w.2)) fun x => some (.go (wrapK .i64 (w.1 + 1), x))) (some (.done w.2)))
  (h3 : ∀ (i v k : Nat) (a b s : List Int), i < 8 → v < 8 → k < 8 → s.length = 64 → f3 ((i : Int), a) ((v : Int), b) ((k : Int), s) = some (.go (((k + 1 : Nat) : Int), s.set (8 * i + v) (wrapK .i64 (s.getD (8 * i + v) 0 + t i v k)))))
  (h4 : ∀ (i v : Nat) (a b s : List Int), f3 ((i : Int), a) ((v : Int), b) (8, s) = some (.done s)) : loop f1 (0, List.replicate 64 0) = some ((List.range 64).map fun j => acc8 (t (j / 8) (j % 8)) 8) := by
 obtain ⟨o, e, o1, o2, _⟩ := st_loop2 (f := f1) 8 (fun i s => s.length = 64 ∧ (∀ j, j < 8 * i → s.getD j 0 = acc8 (t (j / 8) (j % 8)) 8) ∧ ∀ j, 8 * i ≤ j → s.getD j 0 = 0) (by
  intro i s hi ⟨g1, g2, g3⟩
  obtain ⟨r, er, r1, r2, r3⟩ := st_loop2 (f := f2 ((i : Int), s)) 8 (fun v s => s.length = 64 ∧ (∀ j, j < 8 * i + v → s.getD j 0 = acc8 (t (j / 8) (j % 8)) 8) ∧ ∀ j, 8 * i + v ≤ j → s.getD j 0 = 0) (by
   intro v s' hv ⟨k1, k2, k3⟩
   obtain ⟨q, eq, q1, q2, q3⟩ := st_loop2 (f := f3 ((i : Int), s) ((v : Int), s')) 8 (fun k s => s.length = 64 ∧ (∀ j, j ≠ 8 * i + v → s.getD j 0 = s'.getD j 0) ∧ s.getD (8 * i + v) 0 = acc8 (t i v) k) (by
    intro k s'' hk ⟨m1, m2, m3⟩
    refine ⟨_, h3 i v k s s' s'' hi hv hk m1, by rw [List.length_set]; exact m1, fun j hj => ?_, ?_⟩
    ·
     rw [getD_set_at _ _ _ _ (by omega), if_neg (fun h => hj h.symm)]; exact m2 j hj
    ·
     rw [getD_set_at _ _ _ _ (by omega), if_pos rfl, m3]; rfl) (fun z _ => h4 i v s s' z) s' ⟨k1, fun _ _ => rfl, by rw [k3 _ (Nat.le_refl _)]; rfl⟩
   refine ⟨q, by rw [h2, sel_yes (by simp only; omega), eq, bnd_s, wk (by simp only; omega) (by simp only; omega)]; rfl, q1, fun j hj => ?_, fun j hj => ?_⟩
   ·
    by_cases h : j = 8 * i + v
    ·
     rw [h, q3, show (8 * i + v) / 8 = i by omega, show (8 * i + v) % 8 = v by omega]
    ·
     rw [q2 j h]; exact k2 j (by omega)
   ·
    rw [q2 j (by omega)]; exact k3 j (by omega)) (fun z _ => by rw [h2, sel_no (by simp)]) s ⟨g1, g2, g3⟩
  refine ⟨r, by rw [h1, sel_yes (by simp only; omega), er, bnd_s, wk (by simp only; omega) (by simp only; omega)]; rfl, r1, fun j hj => r2 j (by omega), fun j hj => r3 j (by omega)⟩) (fun z _ => by rw [h1, sel_no (by simp)]) (List.replicate 64 0) ⟨by simp, fun j hj => by omega, fun j _ => by
   by_cases h : j < 64
   ·
    rw [getD_at _ _ (by rw [List.length_replicate]; exact h)]; exact List.getElem_replicate ..
   ·
    rw [List.getD_eq_getElem?_getD, List.getElem?_eq_none (by rw [List.length_replicate]; omega)]; rfl⟩
 rw [e]
 congr 1
 exact list_eq o1 (by simp) fun j hj => by rw [o2 j (by omega), getD_map (fun j => acc8 (t (j / 8) (j % 8)) 8) hj]
theorem impl_sums_eq (p : List Int) (hp : p.length = 64) : impl_sums p = some (sums8 p) := by
 unfold impl_sums
 rw [req_p (by omega)]
 have e1 : loop (impl_sums_l72 p) (0, List.replicate (64 : Int).toNat 0) = some (half8 p) :=
  sum_loops (f2 := impl_sums_l84 p) (f3 := impl_sums_l86 p) (fun i v k => rowT p i v k) (fun _ => rfl) (fun _ _ => rfl) (fun i v k a b s hi hv hk hs => by
   unfold impl_sums_l86
   simp only
   rw [sel_yes (by omega), wk (e := 8 * (i : Int)) (by omega) (by omega), wk (e := 8 * (i : Int) + (v : Int)) (by omega) (by omega), wk (e := 8 * (i : Int) + (k : Int)) (by omega) (by omega), req_p (by omega), req_p (by omega), SignOf_alike v k hv hk, bnd_s, req_p (by omega), req_p (by omega), req_p (by omega), wk (e := (k : Int) + 1) (by omega) (by omega), show (8 * (i : Int) + (v : Int)).toNat = 8 * i + v by omega, show (8 * (i : Int) + (k : Int)).toNat = 8 * i + k by omega]
   rfl) (fun i v a b s => by unfold impl_sums_l86; rw [sel_no (by simp)])
 have e2 : loop (impl_sums_l158 (half8 p)) (0, List.replicate (64 : Int).toNat 0) = some (sums8 p) :=
  sum_loops (f2 := impl_sums_l170 (half8 p)) (f3 := impl_sums_l172 (half8 p)) (fun i v k => colT (half8 p) i v k) (fun _ => rfl) (fun _ _ => rfl) (fun i v k a b s hi hv hk hs => by
   have hl := half8_len p
   unfold impl_sums_l172
   simp only
   rw [sel_yes (by omega), wk (e := 8 * (i : Int)) (by omega) (by omega), wk (e := 8 * (i : Int) + (v : Int)) (by omega) (by omega), wk (e := 8 * (k : Int)) (by omega) (by omega), wk (e := 8 * (k : Int) + (v : Int)) (by omega) (by omega), req_p (by omega), req_p (by omega), SignOf_alike i k hi hk, bnd_s, req_p (by omega), req_p (by omega), req_p (by omega), req_p (by omega), wk (e := (k : Int) + 1) (by omega) (by omega), show (8 * (i : Int) + (v : Int)).toNat = 8 * i + v by omega, show (8 * (k : Int) + (v : Int)).toNat = 8 * k + v by omega]
   rfl) (fun i v a b s => by unfold impl_sums_l172; rw [sel_no (by simp)])
 rw [e1, bnd_s, req_p (by omega), e2, bnd_s]
theorem spec_l10Row_eq (p : List Int) (hp : p.length = 64) (i v : Nat) (hi : i < 8) (hv : v < 8) : spec_l10Row p i v = some (acc8 (rowT p i v) 8) := by
 obtain ⟨o, e, h⟩ := acc_loop (f := spec_l10Row_l2 p i v) 8 (fun k s => s = acc8 (rowT p i v) k) (by
  intro k s hk g
  subst g
  unfold spec_l10Row_l2
  simp only
  rw [sel_yes (by omega), wk (e := 8 * (i : Int)) (by omega) (by omega), wk (e := 8 * (i : Int) + (k : Int)) (by omega) (by omega), req_p (by omega), spec_SignOf_eq v k hv hk, bnd_s, wk (e := (k : Int) + 1) (by omega) (by omega), show (8 * (i : Int) + (k : Int)).toNat = 8 * i + k by omega, Int.mul_comm (p.getD _ _)]
  exact ⟨_, rfl, rfl⟩) (by intro s; unfold spec_l10Row_l2; rw [sel_no (by simp)]) 0 rfl
 unfold spec_l10Row
 rw [e, bnd_s, h]
theorem spec_l10Sums_eq (p : List Int) (hp : p.length = 64) : spec_l10Sums p = some (sums8 p) := by
 have hm : maxLen = 9223372036854775807 := rfl
 unfold spec_l10Sums
 obtain ⟨o, e, ho⟩ := st_loop (f := spec_l10Sums_l12 p) 8 (fun i s => s = (List.range (8 * i)).map fun j => acc8 (rowT p (j / 8) (j % 8)) 8) (by
  intro i s hi g
  subst g
  obtain ⟨r, er, hr⟩ := st_loop (f := spec_l10Sums_l14 p ((i : Int), (List.range (8 * i)).map fun j => acc8 (rowT p (j / 8) (j % 8)) 8)) 8 (fun v s => s = (List.range (8 * i + v)).map fun j => acc8 (rowT p (j / 8) (j % 8)) 8) (by
   intro v s hv g
   subst g
   unfold spec_l10Sums_l14
   simp only
   rw [sel_yes (by omega), spec_l10Row_eq p hp i v hi hv, bnd_s, req_p (by simp only [List.length_singleton, List.length_map, List.length_range]; omega), wk (e := (v : Int) + 1) (by omega) (by omega)]
   refine ⟨_, rfl, ?_⟩
   rw [show 8 * i + (v + 1) = (8 * i + v) + 1 by omega, List.range_succ, List.map_append, List.map_singleton, show (8 * i + v) / 8 = i by omega, show (8 * i + v) % 8 = v by omega]) (by intro s; unfold spec_l10Sums_l14; rw [sel_no (by simp)]) _ rfl
  rw [Nat.add_zero] at er
  unfold spec_l10Sums_l12
  simp only
  rw [sel_yes (by omega), er, bnd_s, wk (e := (i : Int) + 1) (by omega) (by omega)]
  exact ⟨_, rfl, by rw [hr, show 8 * (i + 1) = 8 * i + 8 by omega]⟩) (by intro s; unfold spec_l10Sums_l12; rw [sel_no (by simp)]) [] rfl
 have ho' : o = half8 p := by rw [ho]; rfl
 rw [e, bnd_s, ho']
 obtain ⟨o2, e2, ho2⟩ := st_loop (f := spec_l10Sums_l146 (half8 p)) 8 (fun i s => s = (List.range (8 * i)).map fun j => acc8 (colT (half8 p) (j / 8) (j % 8)) 8) (by
  intro i s hi g
  subst g
  obtain ⟨r, er, hr⟩ := st_loop (f := spec_l10Sums_l168 (half8 p) ((i : Int), (List.range (8 * i)).map fun j => acc8 (colT (half8 p) (j / 8) (j % 8)) 8)) 8 (fun v s => s = (List.range (8 * i + v)).map fun j => acc8 (colT (half8 p) (j / 8) (j % 8)) 8) (by
   intro v s hv g
   obtain ⟨c, ec, hc⟩ := acc_loop (f := spec_l10Sums_l172 (half8 p) ((i : Int), (List.range (8 * i)).map fun j => acc8 (colT (half8 p) (j / 8) (j % 8)) 8) ((v : Int), s)) 8 (fun k x => x = acc8 (colT (half8 p) i v) k) (by
    intro k x hk g
    subst g
    have hl := half8_len p
    unfold spec_l10Sums_l172
    simp only
    rw [sel_yes (by omega), spec_SignOf_eq i k hi hk, bnd_s, wk (e := 8 * (k : Int)) (by omega) (by omega), wk (e := 8 * (k : Int) + (v : Int)) (by omega) (by omega), req_p (by omega), req_p (by omega), wk (e := (k : Int) + 1) (by omega) (by omega), show (8 * (k : Int) + (v : Int)).toNat = 8 * k + v by omega]
    exact ⟨_, rfl, rfl⟩) (by intro s; unfold spec_l10Sums_l172; rw [sel_no (by simp)]) 0 rfl
   subst g
   unfold spec_l10Sums_l168
   simp only
   rw [sel_yes (by omega), ec, bnd_s, req_p (by simp only [List.length_singleton, List.length_map, List.length_range]; omega), wk (e := (v : Int) + 1) (by omega) (by omega)]
   refine ⟨_, rfl, ?_⟩
   rw [hc, show 8 * i + (v + 1) = (8 * i + v) + 1 by omega, List.range_succ, List.map_append, List.map_singleton, show (8 * i + v) / 8 = i by omega, show (8 * i + v) % 8 = v by omega]) (by intro s; unfold spec_l10Sums_l168; rw [sel_no (by simp)]) _ rfl
  rw [Nat.add_zero] at er
  unfold spec_l10Sums_l146
  simp only
  rw [sel_yes (by omega), er, bnd_s, wk (e := (i : Int) + 1) (by omega) (by omega)]
  exact ⟨_, rfl, by rw [hr, show 8 * (i + 1) = 8 * i + 8 by omega]⟩) (by intro s; unfold spec_l10Sums_l146; rw [sel_no (by simp)]) [] rfl
 rw [e2, bnd_s, ho2]
 rfl
theorem areIn_yes (l : List Int) (n B : Int) (hn : (l.length : Int) = n) (hn2 : n ≤ 1000000) (h : inB B l) : impl_areIn l n (-B) B = some true := by
 rw [impl_areIn_eq l n (-B) B (by omega), hn, beq_self_eq_true, Bool.and_true]
 congr 1
 rw [List.all_eq_true]
 intro x hx
 rw [decide_eq_true_eq]; exact h x hx
theorem settled_alike (o : List Int) {f : Int × List Int → Option (Lp (Int × List Int) (List Int))} (n : Nat) (hn : n ≤ 64) (hl : o.length = n) (hf : ∀ v : Int × List Int, f v = sel (decide (v.1 < (n : Int))) (req (0 ≤ v.1 ∧ v.1 < v.2.length) <| req (v.1.toNat < v.2.length) <| bnd (spec_l09Down (wrapK .i64 ((v.2.getD v.1.toNat 0) + 32)) 64) fun q => req (0 ≤ v.1 ∧ v.1 < v.2.length) <| req (v.1.toNat < v.2.length) <| some (.go (wrapK .i64 (v.1 + 1), (v.2.set v.1.toNat q)))) (some (.done v.2))) : bnd (impl_settled o) (fun q => some q.2) = bnd (loop f (0, o)) fun q => some q := by
 unfold impl_settled
 have : impl_settled_l2 o = f := by
  funext v
  rw [hf, ← hl]; rfl
 rw [this]
 cases loop f (0, o) <;> rfl
theorem EightBack_alike (p : List Int) (hl : p.length = 64) (hb : inB 10000000 p) : impl_EightBack p = spec_EightBack p := by
 unfold impl_EightBack spec_EightBack
 rw [areIn_yes p 64 10000000 (by omega) (by omega) hb, l09All_yes p 64 10000000 (by omega) (by omega) (by omega) hb, bnd_s, bnd_s, Bool.not_true, sel_f, sel_f, impl_sums_eq p hl, spec_l10Sums_eq p hl, bnd_s, bnd_s]
 exact settled_alike (sums8 p) 64 (by omega) (sums8_len p) (fun _ => rfl)
theorem Eight_alike (p : List Int) (hl : p.length = 64) (hb : inB 1000 p) : impl_Eight p = spec_Eight p := by
 unfold impl_Eight spec_Eight
 rw [areIn_yes p 64 1000 (by omega) (by omega) hb, l09All_yes p 64 1000 (by omega) (by omega) (by omega) hb, bnd_s, bnd_s, Bool.not_true, sel_f, sel_f, impl_sums_eq p hl, spec_l10Sums_eq p hl, bnd_s]
def tgA (q : Int → Int → Int → Int → Option (Int × Int × Int × Int)) (v4 : (Int × (List Int))) : Option (Lp (Int × (List Int)) (List Int)) :=
sel (decide (v4.1 < 16)) (
req (0 ≤ v4.1 ∧ v4.1 < v4.2.length) <|
req (v4.1.toNat < v4.2.length) <|
req (0 ≤ (wrapK .i64 (v4.1 + 1)) ∧ (wrapK .i64 (v4.1 + 1)) < v4.2.length) <|
req ((wrapK .i64 (v4.1 + 1)).toNat < v4.2.length) <|
req (0 ≤ (wrapK .i64 (v4.1 + 2)) ∧ (wrapK .i64 (v4.1 + 2)) < v4.2.length) <|
req ((wrapK .i64 (v4.1 + 2)).toNat < v4.2.length) <|
req (0 ≤ (wrapK .i64 (v4.1 + 3)) ∧ (wrapK .i64 (v4.1 + 3)) < v4.2.length) <|
req ((wrapK .i64 (v4.1 + 3)).toNat < v4.2.length) <|
bnd (q (v4.2.getD v4.1.toNat 0) (v4.2.getD ((wrapK .i64 (v4.1 + 1)).toNat) 0) (v4.2.getD ((wrapK .i64 (v4.1 + 2)).toNat) 0) (v4.2.getD ((wrapK .i64 (v4.1 + 3)).toNat) 0)) fun q8 =>
req (0 ≤ v4.1 ∧ v4.1 ≤ (wrapK .i64 (v4.1 + 4)) ∧ (wrapK .i64 (v4.1 + 4)) ≤ (v4.2.length : Int)) <|
req ((v4.1.toNat + ((wrapK .i64 (v4.1 + 4)).toNat - v4.1.toNat) ≤ v4.2.length ∧ ([q8.1, q8.2.1, q8.2.2.1, q8.2.2.2]).length ≤ ((wrapK .i64 (v4.1 + 4)).toNat - v4.1.toNat))) <|
some (.go (wrapK .i64 (v4.1 + 4), (over v4.2 v4.1.toNat ([q8.1, q8.2.1, q8.2.2.1, q8.2.2.2]))))) (
some (.done v4.2))
def tgB (v17 : (Int × (List Int))) (q26 : (Int × Int × Int × Int)) (v28 : (Int × (List Int))) : Option (Lp (Int × (List Int)) (List Int)) :=
sel (decide (v28.1 < 4)) (
req (0 ≤ v28.1 ∧ v28.1 < ([q26.1, q26.2.1, q26.2.2.1, q26.2.2.2] : List Int).length) <|
req (0 ≤ (wrapK .i64 (v17.1 + (wrapK .i64 (4 * v28.1)))) ∧ (wrapK .i64 (v17.1 + (wrapK .i64 (4 * v28.1)))) < v28.2.length) <|
req ((wrapK .i64 (v17.1 + (wrapK .i64 (4 * v28.1)))).toNat < v28.2.length) <|
some (.go (wrapK .i64 (v28.1 + 1), (v28.2.set ((wrapK .i64 (v17.1 + (wrapK .i64 (4 * v28.1)))).toNat) (([q26.1, q26.2.1, q26.2.2.1, q26.2.2.2] : List Int).getD v28.1.toNat 0))))) (
some (.done v28.2))
noncomputable def tgC (q : Int → Int → Int → Int → Option (Int × Int × Int × Int)) (v17 : (Int × (List Int))) : Option (Lp (Int × (List Int)) (List Int)) :=
sel (decide (v17.1 < 4)) (
req (0 ≤ v17.1 ∧ v17.1 < v17.2.length) <|
req (v17.1.toNat < v17.2.length) <|
req (0 ≤ (wrapK .i64 (v17.1 + 4)) ∧ (wrapK .i64 (v17.1 + 4)) < v17.2.length) <|
req ((wrapK .i64 (v17.1 + 4)).toNat < v17.2.length) <|
req (0 ≤ (wrapK .i64 (v17.1 + 8)) ∧ (wrapK .i64 (v17.1 + 8)) < v17.2.length) <|
req ((wrapK .i64 (v17.1 + 8)).toNat < v17.2.length) <|
req (0 ≤ (wrapK .i64 (v17.1 + 12)) ∧ (wrapK .i64 (v17.1 + 12)) < v17.2.length) <|
req ((wrapK .i64 (v17.1 + 12)).toNat < v17.2.length) <|
bnd (q (v17.2.getD v17.1.toNat 0) (v17.2.getD ((wrapK .i64 (v17.1 + 4)).toNat) 0) (v17.2.getD ((wrapK .i64 (v17.1 + 8)).toNat) 0) (v17.2.getD ((wrapK .i64 (v17.1 + 12)).toNat) 0)) fun q26 =>
bnd (loop (tgB v17 q26) (0, v17.2)) fun v30 =>
some (.go (wrapK .i64 (v17.1 + 1), v30))) (
some (.done v17.2))
noncomputable def turnG (q : Int → Int → Int → Int → Option (Int × Int × Int × Int)) (p0 : (List Int)) : Option (List Int) :=
bnd (impl_copyInts p0) fun q1 =>
bnd (loop (tgA q) (0, q1)) fun v7 =>
bnd (loop (tgC q) (0, v7)) fun v25 =>
some v25
theorem turn_back : impl_turned_impl_FourBack_1 = turnG impl_FourBack_1 := rfl
theorem turn_four : impl_turned_impl_Four_1 = turnG impl_Four_1 := rfl
abbrev Q4 := Int × Int × Int × Int
def pick4 (q : Q4) (i : Nat) : Int := [q.1, q.2.1, q.2.2.1, q.2.2.2].getD i 0
def rows4 (t : Int → Int → Int → Int → Q4) (p : List Int) : List Int := (List.range 16).map fun j => pick4 (t (p.getD (4 * (j / 4)) 0) (p.getD (4 * (j / 4) + 1) 0) (p.getD (4 * (j / 4) + 2) 0) (p.getD (4 * (j / 4) + 3) 0)) (j % 4)
def flip4 (p : List Int) : List Int := (List.range 16).map fun j => p.getD (j % 4 * 4 + j / 4) 0
theorem rows4_len (t : Int → Int → Int → Int → Q4) (p : List Int) : (rows4 t p).length = 16 := by simp [rows4]
theorem flip4_len (p : List Int) : (flip4 p).length = 16 := by simp [flip4]
theorem over_getD {l m : List Int} {i : Nat} (h : i + m.length ≤ l.length) (j : Nat) : (over l i m).getD j 0 = if i ≤ j ∧ j < i + m.length then m.getD (j - i) 0 else l.getD j 0 := by
 rw [List.getD_eq_getElem?_getD, over_get h]
 split <;> rw [List.getD_eq_getElem?_getD]
theorem turnG_eq {q : Int → Int → Int → Int → Option Q4} {t : Int → Int → Int → Int → Q4} (hq : ∀ a b c d, q a b c d = some (t a b c d)) (p : List Int) (hp : p.length = 16) : turnG q p = some (flip4 (rows4 t (flip4 (rows4 t p)))) := by
 have hm : maxLen = 9223372036854775807 := rfl
 unfold turnG impl_copyInts
 rw [req_p (by simp only [List.length_nil]; omega), bnd_s, List.nil_append]
 have hA : loop (tgA q) (0, p) = some (rows4 t p) := by
  have key : ∀ r : Nat, r ≤ 4 → ∀ s : List Int, s.length = 16 → (∀ j, j < 4 * r → s.getD j 0 = (rows4 t p).getD j 0) → (∀ j, 4 * r ≤ j → s.getD j 0 = p.getD j 0) → loop (tgA q) (((4 * r : Nat) : Int), s) = some (rows4 t p) := by
   refine down_to _ ?_ ?_
   ·
    intro s h1 h2 _
    refine ldone ?_
    unfold tgA
    rw [sel_no (by simp), list_eq h1 (rows4_len t p) h2]
   ·
    intro r hr ih s h1 h2 h3
    refine lgo (y := (((4 * (r + 1) : Nat) : Int), over s (4 * r) [pick4 (t (p.getD (4 * r) 0) (p.getD (4 * r + 1) 0) (p.getD (4 * r + 2) 0) (p.getD (4 * r + 3) 0)) 0, pick4 (t (p.getD (4 * r) 0) (p.getD (4 * r + 1) 0) (p.getD (4 * r + 2) 0) (p.getD (4 * r + 3) 0)) 1, pick4 (t (p.getD (4 * r) 0) (p.getD (4 * r + 1) 0) (p.getD (4 * r + 2) 0) (p.getD (4 * r + 3) 0)) 2, pick4 (t (p.getD (4 * r) 0) (p.getD (4 * r + 1) 0) (p.getD (4 * r + 2) 0) (p.getD (4 * r + 3) 0)) 3])) ?_ (ih _ ?_ ?_ ?_)
    ·
     unfold tgA
     simp only
     rw [sel_yes (by omega), wk (e := ((4 * r : Nat) : Int) + 1) (by omega) (by omega), wk (e := ((4 * r : Nat) : Int) + 2) (by omega) (by omega), wk (e := ((4 * r : Nat) : Int) + 3) (by omega) (by omega), wk (e := ((4 * r : Nat) : Int) + 4) (by omega) (by omega)]
     rw [req_p (by omega), req_p (by omega), req_p (by omega), req_p (by omega), req_p (by omega), req_p (by omega), req_p (by omega), req_p (by omega), hq, bnd_s, req_p (by omega), req_p (by simp only [List.length_cons, List.length_nil]; omega)]
     rw [show (((4 * r : Nat) : Int) + 1).toNat = 4 * r + 1 by omega, show (((4 * r : Nat) : Int) + 2).toNat = 4 * r + 2 by omega, show (((4 * r : Nat) : Int) + 3).toNat = 4 * r + 3 by omega, Int.toNat_natCast, h3 _ (by omega), h3 _ (by omega), h3 _ (by omega), h3 _ (by omega)]
     rfl
    ·
     rw [over_length (by simp only [List.length_cons, List.length_nil]; omega)]; exact h1
    ·
     intro j hj
     rw [over_getD (by simp only [List.length_cons, List.length_nil]; omega)]
     simp only [List.length_cons, List.length_nil]
     by_cases h : 4 * r ≤ j
     ·
      rw [if_pos (by omega)]
      unfold rows4
      rw [getD_map _ (by omega), show 4 * (j / 4) = 4 * r by omega]
      obtain h | h | h | h : j = 4 * r ∨ j = 4 * r + 1 ∨ j = 4 * r + 2 ∨ j = 4 * r + 3 := by omega
      ·
       rw [h, show 4 * r - 4 * r = 0 by omega, show (4 * r) % 4 = 0 by omega]; rfl
      ·
       rw [h, show 4 * r + 1 - 4 * r = 1 by omega, show (4 * r + 1) % 4 = 1 by omega]; rfl
      ·
       rw [h, show 4 * r + 2 - 4 * r = 2 by omega, show (4 * r + 2) % 4 = 2 by omega]; rfl
      ·
       rw [h, show 4 * r + 3 - 4 * r = 3 by omega, show (4 * r + 3) % 4 = 3 by omega]; rfl
     ·
      rw [if_neg (by omega)]; exact h2 j (by omega)
    ·
     intro j hj
     rw [over_getD (by simp only [List.length_cons, List.length_nil]; omega), if_neg (by simp only [List.length_cons, List.length_nil]; omega)]
     exact h3 j (by omega)
  exact key 0 (by omega) p hp (fun j hj => by omega) fun _ _ => rfl
 rw [hA, bnd_s]
 generalize hR : rows4 t p = R
 have hl : R.length = 16 := by rw [← hR]; exact rows4_len t p
 have hC : loop (tgC q) (0, R) = some (flip4 (rows4 t (flip4 R))) := by
  have at4 : ∀ j : Nat, j < 16 → (flip4 (rows4 t (flip4 R))).getD j 0 = pick4 (t (R.getD (j % 4) 0) (R.getD (j % 4 + 4) 0) (R.getD (j % 4 + 8) 0) (R.getD (j % 4 + 12) 0)) (j / 4) := by
   intro j hj
   rw [flip4, getD_map _ hj, rows4, getD_map _ (by omega), flip4, getD_map _ (by omega), getD_map _ (by omega), getD_map _ (by omega), getD_map _ (by omega)]
   rw [show (j % 4 * 4 + j / 4) / 4 = j % 4 by omega, show (j % 4 * 4 + j / 4) % 4 = j / 4 by omega, show 4 * (j % 4) % 4 * 4 + 4 * (j % 4) / 4 = j % 4 by omega, show (4 * (j % 4) + 1) % 4 * 4 + (4 * (j % 4) + 1) / 4 = j % 4 + 4 by omega, show (4 * (j % 4) + 2) % 4 * 4 + (4 * (j % 4) + 2) / 4 = j % 4 + 8 by omega, show (4 * (j % 4) + 3) % 4 * 4 + (4 * (j % 4) + 3) / 4 = j % 4 + 12 by omega]
  obtain ⟨o, e, o1, o2, _⟩ := st_loop2 (f := tgC q) 4 (fun c s => s.length = 16 ∧ (∀ j, j < 16 → j % 4 < c → s.getD j 0 = (flip4 (rows4 t (flip4 R))).getD j 0) ∧ ∀ j, j < 16 → c ≤ j % 4 → s.getD j 0 = R.getD j 0) (by
   intro c s hc ⟨g1, g2, g3⟩
   obtain ⟨r, er, r1, r2, r3⟩ := st_loop2 (f := tgB ((c : Int), s) (t (R.getD c 0) (R.getD (c + 4) 0) (R.getD (c + 8) 0) (R.getD (c + 12) 0))) 4 (fun i s' => s'.length = 16 ∧ (∀ j, j < 16 → j % 4 ≠ c → s'.getD j 0 = s.getD j 0) ∧ ∀ j, j < 16 → j % 4 = c → j / 4 < i → s'.getD j 0 = pick4 (t (R.getD c 0) (R.getD (c + 4) 0) (R.getD (c + 8) 0) (R.getD (c + 12) 0)) (j / 4)) (by
    intro i s' hi ⟨k1, k2, k3⟩
    unfold tgB
    simp only
    rw [sel_yes (by omega), req_p (by simp only [List.length_cons, List.length_nil]; omega), wk (e := 4 * (i : Int)) (by omega) (by omega), wk (e := (c : Int) + 4 * (i : Int)) (by omega) (by omega), req_p (by omega), req_p (by omega), wk (e := (i : Int) + 1) (by omega) (by omega), show ((c : Int) + 4 * (i : Int)).toNat = c + 4 * i by omega, Int.toNat_natCast]
    refine ⟨_, rfl, by rw [List.length_set]; exact k1, fun j hj hjc => ?_, fun j hj hjc hji => ?_⟩
    ·
     rw [getD_set_at _ _ _ _ (by omega), if_neg (by omega)]; exact k2 j hj hjc
    ·
     rw [getD_set_at _ _ _ _ (by omega)]
     by_cases h : c + 4 * i = j
     ·
      rw [if_pos h, show j / 4 = i by omega]; rfl
     ·
      rw [if_neg h]; exact k3 j hj hjc (by omega)) (fun z _ => by unfold tgB; rw [sel_no (by simp)]) s ⟨g1, fun _ _ _ => rfl, fun j hj hjc hji => by omega⟩
   unfold tgC
   simp only
   rw [sel_yes (by omega), wk (e := (c : Int) + 4) (by omega) (by omega), wk (e := (c : Int) + 8) (by omega) (by omega), wk (e := (c : Int) + 12) (by omega) (by omega), req_p (by omega), req_p (by omega), req_p (by omega), req_p (by omega), req_p (by omega), req_p (by omega), req_p (by omega), req_p (by omega), hq, bnd_s, show ((c : Int) + 4).toNat = c + 4 by omega, show ((c : Int) + 8).toNat = c + 8 by omega, show ((c : Int) + 12).toNat = c + 12 by omega, Int.toNat_natCast, g3 c (by omega) (by omega), g3 (c + 4) (by omega) (by omega), g3 (c + 8) (by omega) (by omega), g3 (c + 12) (by omega) (by omega), er, bnd_s, wk (e := (c : Int) + 1) (by omega) (by omega)]
   refine ⟨r, rfl, r1, fun j hj hjc => ?_, fun j hj hjc => ?_⟩
   ·
    by_cases h : j % 4 = c
    ·
     rw [r3 j hj h (by omega), at4 j hj, h]
    ·
     rw [r2 j hj h]; exact g2 j hj (by omega)
   ·
    rw [r2 j hj (by omega)]; exact g3 j hj (by omega)) (fun z _ => by unfold tgC; rw [sel_no (by simp)]) R ⟨hl, fun j hj hjc => by omega, fun _ _ _ => rfl⟩
  rw [e]
  congr 1
  exact list_eq o1 (flip4_len _) fun j hj => o2 j hj (by omega)
 rw [hC, bnd_s]
theorem spec_l09Flip_eq (p : List Int) (hl : p.length = 16) : spec_l09Flip p = some (flip4 p) := by
 unfold spec_l09Flip
 rw [req_p (by omega)]
 obtain ⟨o, e, o1, o2⟩ := st_loop2 (f := spec_l09Flip_l2 p) 16 (fun i s => s.length = 16 ∧ ∀ j, j < 16 → j % 4 * 4 + j / 4 < i → s.getD j 0 = p.getD (j % 4 * 4 + j / 4) 0) (by
  intro i s hi ⟨g1, g2⟩
  unfold spec_l09Flip_l2
  simp only
  rw [sel_yes (by omega), req_p (by omega), req_p (by omega), req_p (by omega), tmod_pos (by omega), tdiv_pos (by omega), wk (e := (i : Int) / 4) (by omega) (by omega), wk (e := (i : Int) % 4 * 4) (by omega) (by omega), wk (e := (i : Int) % 4 * 4 + (i : Int) / 4) (by omega) (by omega), req_p (by omega), req_p (by omega), wk (e := (i : Int) + 1) (by omega) (by omega), Int.toNat_natCast, show ((i : Int) % 4 * 4 + (i : Int) / 4).toNat = i % 4 * 4 + i / 4 by omega]
  refine ⟨_, rfl, by rw [List.length_set]; exact g1, fun j hj hji => ?_⟩
  rw [getD_set_at _ _ _ _ (by omega)]
  by_cases h : i % 4 * 4 + i / 4 = j
  ·
   rw [if_pos h, show j % 4 * 4 + j / 4 = i by omega]
  ·
   rw [if_neg h]; exact g2 j hj (by omega)) (fun z _ => by unfold spec_l09Flip_l2; rw [sel_no (by simp)]) (List.replicate (16 : Int).toNat 0) ⟨by simp, fun j hj h => by omega⟩
 rw [e, bnd_s]
 congr 1
 exact list_eq o1 (flip4_len p) fun j hj => by rw [o2 j hj (by omega), flip4, getD_map _ hj]
theorem rows_list {f : Int × List Int → Option (Lp (Int × List Int) (List Int))} {t : Int → Int → Int → Int → Q4} (p : List Int) (h : ∀ (i : Nat) (s : List Int), i < 4 → s.length = 4 * i → f ((i : Int), s) = some (.go (((i + 1 : Nat) : Int), s ++ [(t (p.getD (4 * i) 0) (p.getD (4 * i + 1) 0) (p.getD (4 * i + 2) 0) (p.getD (4 * i + 3) 0)).1, (t (p.getD (4 * i) 0) (p.getD (4 * i + 1) 0) (p.getD (4 * i + 2) 0) (p.getD (4 * i + 3) 0)).2.1, (t (p.getD (4 * i) 0) (p.getD (4 * i + 1) 0) (p.getD (4 * i + 2) 0) (p.getD (4 * i + 3) 0)).2.2.1, (t (p.getD (4 * i) 0) (p.getD (4 * i + 1) 0) (p.getD (4 * i + 2) 0) (p.getD (4 * i + 3) 0)).2.2.2]))) (he : ∀ s, f (4, s) = some (.done s)) : loop f (0, []) = some (rows4 t p) := by
 obtain ⟨o, e, ho⟩ := st_loop2 (f := f) 4 (fun i s => s = (List.range (4 * i)).map fun j => pick4 (t (p.getD (4 * (j / 4)) 0) (p.getD (4 * (j / 4) + 1) 0) (p.getD (4 * (j / 4) + 2) 0) (p.getD (4 * (j / 4) + 3) 0)) (j % 4)) (by
  intro i s hi g
  refine ⟨_, h i s hi (by rw [g]; simp), ?_⟩
  rw [g, show 4 * (i + 1) = 4 * i + 1 + 1 + 1 + 1 by omega]
  simp only [List.range_succ, List.map_append, List.map_singleton, List.append_assoc]
  rw [show (4 * i + 1 + 1 + 1) / 4 = i by omega, show (4 * i + 1 + 1) / 4 = i by omega, show (4 * i + 1) / 4 = i by omega, show 4 * i / 4 = i by omega, show (4 * i + 1 + 1 + 1) % 4 = 3 by omega, show (4 * i + 1 + 1) % 4 = 2 by omega, show (4 * i + 1) % 4 = 1 by omega, show 4 * i % 4 = 0 by omega]
  rfl) (fun z _ => he z) [] rfl
 rw [e, ho]; rfl
def t4F (a b c d : Int) : Q4 := (wrapK .i64 ((wrapK .i64 ((wrapK .i64 (a + b)) + c)) + d), wrapK .i64 ((wrapK .i64 ((wrapK .i64 ((wrapK .i64 (2 * a)) + b)) - c)) - (wrapK .i64 (2 * d))), wrapK .i64 ((wrapK .i64 ((wrapK .i64 (a - b)) - c)) + d), wrapK .i64 ((wrapK .i64 ((wrapK .i64 (a - (wrapK .i64 (2 * b)))) + (wrapK .i64 (2 * c)))) - d))
theorem impl_Four_1_eq (a b c d : Int) : impl_Four_1 a b c d = some (t4F a b c d) := rfl
def downTo (a b : Int) : Int := wrapK .i64 (if a.tmod b < 0 then wrapK .i64 (a.tdiv b) - 1 else a.tdiv b)
theorem l09Down_eq (a b : Int) (hb : b ≠ 0) : spec_l09Down a b = some (downTo a b) := by
 unfold spec_l09Down downTo
 rw [req_p hb, req_p hb, sel_d]
 split <;> rfl
def t4B (a b c d : Int) : Q4 := (wrapK .i64 ((wrapK .i64 (a + c)) + (wrapK .i64 (b + downTo d 2))), wrapK .i64 ((wrapK .i64 (a - c)) + (wrapK .i64 (downTo b 2 - d))), wrapK .i64 ((wrapK .i64 (a - c)) - (wrapK .i64 (downTo b 2 - d))), wrapK .i64 ((wrapK .i64 (a + c)) - (wrapK .i64 (b + downTo d 2))))
theorem impl_FourBack_1_eq (a b c d : Int) : impl_FourBack_1 a b c d = some (t4B a b c d) := by
 unfold impl_FourBack_1
 rw [floor_alike, l09Down_eq b 2 (by omega), l09Down_eq d 2 (by omega), bnd_s, bnd_s]; rfl
theorem spec_l09Backs_eq (p : List Int) (hl : p.length = 16) : spec_l09Backs p = some (rows4 t4B p) := by
 have hm : maxLen = 9223372036854775807 := rfl
 unfold spec_l09Backs
 rw [rows_list (f := spec_l09Backs_l2 p) (t := t4B) p (by
  intro i s hi hs
  unfold spec_l09Backs_l2
  simp only
  rw [sel_yes (by omega), wk (e := 4 * (i : Int)) (by omega) (by omega), wk (e := 4 * (i : Int) + 1) (by omega) (by omega), wk (e := 4 * (i : Int) + 2) (by omega) (by omega), wk (e := 4 * (i : Int) + 3) (by omega) (by omega), req_p (by omega), req_p (by omega), req_p (by omega), req_p (by omega), show (4 * (i : Int)).toNat = 4 * i by omega, show (4 * (i : Int) + 1).toNat = 4 * i + 1 by omega, show (4 * (i : Int) + 2).toNat = 4 * i + 2 by omega, show (4 * (i : Int) + 3).toNat = 4 * i + 3 by omega, l09Down_eq _ 2 (by omega), bnd_s, l09Down_eq _ 2 (by omega), bnd_s, wk (e := (i : Int) + 1) (by omega) (by omega), req_p (by simp only [List.length_cons, List.length_nil]; omega)]
  rfl) (by intro s; unfold spec_l09Backs_l2; rw [sel_no (by simp)]), bnd_s]
theorem spec_l09Rows_eq (p : List Int) (hl : p.length = 16) : spec_l09Rows p = some (rows4 t4F p) := by
 have hm : maxLen = 9223372036854775807 := rfl
 unfold spec_l09Rows
 rw [rows_list (f := spec_l09Rows_l2 p) (t := t4F) p (by
  intro i s hi hs
  unfold spec_l09Rows_l2
  simp only
  rw [sel_yes (by omega), wk (e := 4 * (i : Int)) (by omega) (by omega), wk (e := 4 * (i : Int) + 1) (by omega) (by omega), wk (e := 4 * (i : Int) + 2) (by omega) (by omega), wk (e := 4 * (i : Int) + 3) (by omega) (by omega), req_p (by omega), req_p (by omega), req_p (by omega), req_p (by omega), show (4 * (i : Int)).toNat = 4 * i by omega, show (4 * (i : Int) + 1).toNat = 4 * i + 1 by omega, show (4 * (i : Int) + 2).toNat = 4 * i + 2 by omega, show (4 * (i : Int) + 3).toNat = 4 * i + 3 by omega, wk (e := (i : Int) + 1) (by omega) (by omega), req_p (by simp only [List.length_cons, List.length_nil]; omega)]
  rfl) (by intro s; unfold spec_l09Rows_l2; rw [sel_no (by simp)]), bnd_s]
theorem FourBack_alike (p : List Int) (hl : p.length = 16) (hb : inB 10000000 p) : impl_FourBack p = spec_FourBack p := by
 unfold impl_FourBack spec_FourBack
 rw [areIn_yes p 16 10000000 (by omega) (by omega) hb, l09All_yes p 16 10000000 (by omega) (by omega) (by omega) hb, bnd_s, bnd_s, Bool.not_true, sel_f, sel_f, turn_back, turnG_eq impl_FourBack_1_eq p hl, spec_l09Backs_eq p hl, bnd_s, bnd_s, spec_l09Flip_eq _ (rows4_len _ _), bnd_s, spec_l09Backs_eq _ (flip4_len _), bnd_s, spec_l09Flip_eq _ (rows4_len _ _), bnd_s]
 exact settled_alike _ 16 (by omega) (flip4_len _) (fun _ => rfl)
theorem Four_alike (p : List Int) (hl : p.length = 16) (hb : inB 1000 p) : impl_Four p = spec_Four p := by
 unfold impl_Four spec_Four
 rw [areIn_yes p 16 1000 (by omega) (by omega) hb, l09All_yes p 16 1000 (by omega) (by omega) (by omega) hb, bnd_s, bnd_s, Bool.not_true, sel_f, sel_f, turn_four, turnG_eq impl_Four_1_eq p hl, spec_l09Rows_eq p hl, bnd_s, bnd_s, spec_l09Flip_eq _ (rows4_len _ _), bnd_s, spec_l09Rows_eq _ (flip4_len _), bnd_s, spec_l09Flip_eq _ (rows4_len _ _), bnd_s]
theorem req_c {β : Type} {c : Prop} [Decidable c] {k k' : Option β} (h : c → k = k') : req c k = req c k' := by
 by_cases hc : c
 ·
  rw [req_p hc, req_p hc, h hc]
 ·
  unfold req; rw [if_neg hc, if_neg hc]
theorem req_pc {β : Type} {c : Prop} [Decidable c] {k k' : Option β} (h0 : c) (h : k = k') : req c k = k' := by rw [req_p h0, h]
theorem sel_c {β : Type} {b : Bool} {x x' y y' : β} (h : b = true → x = x') (h2 : b = false → y = y') : sel b x y = sel b x' y' := by
 cases b
 ·
  exact h2 rfl
 ·
  exact h rfl
theorem bnd_c {α β : Type} {x x' : Option α} {f f' : α → Option β} (h : x = x') (h2 : ∀ a, x' = some a → f a = f' a) : bnd x f = bnd x' f' := by
 subst h
 cases x with
 | none => rfl
 | some a => exact h2 a rfl
theorem loop_keep {V O : Type} {f : V → Option (Lp V O)} (I : V → Prop) (J : O → Prop) (h1 : ∀ v v', I v → f v = some (.go v') → I v') (h2 : ∀ v o, I v → f v = some (.done o) → J o) {v : V} {o : O} (h : loop f v = some o) (hv : I v) : J o := by
 obtain ⟨k, hk⟩ := loop_it.1 h
 clear h
 induction k generalizing v with
 | zero => cases hk
 | succ k ih =>
  rw [it] at hk
  cases e : f v with
  | none => rw [e] at hk; cases hk
  | some s =>
   rw [e] at hk
   cases s with
   | go y => exact ih (h1 v y hv e) hk
   | done o' => cases hk; exact h2 v o hv e
theorem SmallBack_alike (l qp p : Int) (h0 : 0 ≤ qp ∧ qp ≤ 40) (hp : 0 ≤ p ∧ p ≤ 15) : impl_SmallBack l qp p = spec_SmallBack l qp p := by
 unfold impl_SmallBack spec_SmallBack
 rw [impl_within_eq, spec_l01In_eq, ScaleOf_alike qp p h0 hp]
theorem LargeBack_alike (l qp : Int) (h0 : 0 ≤ qp ∧ qp ≤ 40) : impl_LargeBack l qp = spec_LargeBack l qp := by
 unfold impl_LargeBack spec_LargeBack
 rw [impl_within_eq, spec_l01In_eq, StepOf_alike qp h0]
theorem sized_alike (x : Int) (h : -1000000000000 ≤ x ∧ x ≤ 1000000000000) : impl_size x = spec_l08Sized x := by
 unfold impl_size spec_l08Sized
 rw [wk (by omega) (by omega)]
 by_cases hx : x < 0
 ·
  rw [sel_yes hx, if_pos (by omega)]
 ·
  rw [sel_no hx, if_neg (by omega)]
theorem share_all : ∀ q : Fin 41, ∀ p : Fin 16, impl_ShareOf (q.val : Int) (p.val : Int) = spec_ShareOf (q.val : Int) (p.val : Int) := by decide +kernel
theorem ShareOf_alike (qp p : Int) (h0 : 0 ≤ qp ∧ qp ≤ 40) (hp : 0 ≤ p ∧ p ≤ 15) : impl_ShareOf qp p = spec_ShareOf qp p := by
 have := share_all ⟨qp.toNat, by omega⟩ ⟨p.toNat, by omega⟩
 simp only at this
 rwa [show ((qp.toNat : Nat) : Int) = qp by omega, show ((p.toNat : Nat) : Int) = p by omega] at this
theorem signed_alike (x w : Int) : impl_signed x w = spec_l08Signed w x := rfl
theorem LargeLevel_alike (w qp : Int) (h0 : 0 ≤ qp ∧ qp ≤ 40) : impl_LargeLevel w qp = spec_LargeLevel w qp := by
 unfold impl_LargeLevel spec_LargeLevel
 rw [impl_within_eq, spec_l01In_eq, impl_within_eq, spec_l01In_eq, StepOf_alike qp h0]
 by_cases hw : -20000 ≤ w ∧ w ≤ 20000
 ·
  rw [sized_alike w (by omega)]; rfl
 ·
  rw [decide_eq_false hw]; rfl
theorem sh15 (qp : Int) (h0 : 0 ≤ qp ∧ qp ≤ 40) : wrapK .u64 (wrapK .i64 (15 + (wrapK .i64 (qp.tdiv 6)))) = wrapK .i64 (15 + (wrapK .i64 (qp.tdiv 6))) := by
 have h : ∀ q : Fin 41, wrapK .u64 (wrapK .i64 (15 + (wrapK .i64 ((q.val : Int).tdiv 6)))) = wrapK .i64 (15 + (wrapK .i64 ((q.val : Int).tdiv 6))) := by decide +kernel
 have := h ⟨qp.toNat, by omega⟩
 simp only at this
 rwa [show ((qp.toNat : Nat) : Int) = qp by omega] at this
theorem SmallLevel_alike (w qp p : Int) (h0 : 0 ≤ qp ∧ qp ≤ 40) (hp : 0 ≤ p ∧ p ≤ 15) : impl_SmallLevel w qp p = spec_SmallLevel w qp p := by
 unfold impl_SmallLevel spec_SmallLevel
 have h15 := sh15 qp h0
 simp only [impl_within_eq, spec_l01In_eq, ShareOf_alike qp p h0 hp, h15, signed_alike]
 by_cases hw : -20000 ≤ w ∧ w ≤ 20000
 ·
  simp only [sized_alike w (by omega)]
 ·
  simp only [decide_eq_false hw, bnd_s, sel_f, sel_t]
def quarterIn (k : Int) (v7 : Int × List Int) : Option (Lp (Int × List Int) (List Int)) :=
 sel (decide (v7.1 < 4)) (
 bnd (it (impl_quarter_l14 k v7) 10 (0, v7.2)) fun v18 =>
 some (.go (wrapK .i64 (v7.1 + 1), v18))) (
 some (.done v7.2))
theorem quarterIn_is {k : Int} {v : Int × List Int} {x : Lp (Int × List Int) (List Int)} (h : quarterIn k v = some x) : impl_quarter_l12 k v = some x := by
 unfold quarterIn at h
 unfold impl_quarter_l12
 rcases sel_some h with ⟨hb, h⟩ | ⟨hb, h⟩
 ·
  rw [hb, sel_t]
  obtain ⟨a, h1, h2⟩ := bnd_some h
  rw [loop_it.2 ⟨10, h1⟩, bnd_s]
  exact h2
 ·
  rw [hb, sel_f]; exact h
def quarterL (k : Int) : List Int := (it (quarterIn k) 10 (0, [])).getD []
def quarterAt (k i : Int) : Int := (wrapK .i64 ((wrapK .i64 ((wrapK .i64 (8 * (wrapK .i64 ((wrapK .i64 ((wrapK .i64 (k.tdiv 2)) * 4)) + (wrapK .i64 (i.tdiv 4)))))) + (wrapK .i64 ((k.tmod 2) * 4)))) + (i.tmod 4)))
theorem quarter_all : ∀ k : Fin 4, (it (quarterIn (k.val : Int)) 10 (0, [])).isSome = true ∧ (quarterL (k.val : Int)).length = 16 ∧ ∀ i : Fin 16, (quarterL (k.val : Int)).getD i.val 0 = quarterAt (k.val : Int) (i.val : Int) ∧ 0 ≤ quarterAt (k.val : Int) (i.val : Int) ∧ quarterAt (k.val : Int) (i.val : Int) < 64 := by decide +kernel
theorem impl_quarter_eq (k : Nat) (hk : k < 4) : impl_quarter k = some (quarterL k) ∧ (quarterL k).length = 16 ∧ ∀ i : Nat, i < 16 → (quarterL k).getD i 0 = quarterAt k i ∧ 0 ≤ quarterAt k i ∧ quarterAt k i < 64 := by
 obtain ⟨h1, h2, h3⟩ := quarter_all ⟨k, hk⟩
 refine ⟨?_, h2, fun i hi => h3 ⟨i, hi⟩⟩
 obtain ⟨o, ho⟩ := Option.isSome_iff_exists.1 h1
 have hl := loop_of 10 (it_of (fun v y => quarterIn_is (k := (k : Int))) 10 _ ho)
 unfold impl_quarter
 rw [hl, bnd_s]
 unfold quarterL; simp only at ho; rw [ho]; rfl
theorem LevelsBack_alike (p : List Int) (c : Cond) (hc : condOk c = true) (hp : lv64 p = true) : impl_LevelsBack p c = spec_LevelsBack p c := by
 have hq := condOk_qp hc
 obtain ⟨hl, hb⟩ := lv64_in hp
 unfold impl_LevelsBack spec_LevelsBack
 rw [spec_CondOk_eq, impl_CondOk_eq, impl_areLevels_eq p (by omega), hp, hc, l09All_yes p 64 5000 (by omega) (by omega) (by omega) hb]
 simp only [bnd_s, sel_t, Bool.not_true, sel_f]
 rw [Unscanned_alike 8 (Or.inr rfl) p (by omega)]
 refine sel_c (fun _ => rfl) fun _ => sel_c (fun _ => ?_) fun _ => ?_
 ·
  obtain ⟨w, ew, w1, w2⟩ := spec_Unscanned_ev 8 (Or.inr rfl) p 5000 (by omega) (by omega) hb
  rw [ew, bnd_s, bnd_s]
  have hloop : loop (impl_LevelsBack_l4 c (w, true)) (0, (w, true).1) = loop (spec_LevelsBack_l4 c) (0, (w, true).1) := by
   have : impl_LevelsBack_l4 c (w, true) = spec_LevelsBack_l4 c := by
    funext v
    unfold impl_LevelsBack_l4 spec_LevelsBack_l4
    simp only [LargeBack_alike _ _ hq, w1, hl]
    rfl
   rw [this]
  rw [hloop]
  obtain ⟨l, el, l1, l2⟩ := map_loop (f := spec_LevelsBack_l4 c) 64 (fun x => -5000 ≤ x ∧ x ≤ 5000) (fun x => -5760000 ≤ x ∧ x ≤ 5760000) (by
   intro i l hi hll hx
   obtain ⟨d, ed, d1, d2⟩ := spec_LargeBack_ev (l.getD i 0) c.Qp hx hq
   unfold spec_LevelsBack_l4
   simp only [Int.toNat_natCast]
   rw [sel_yes (by omega), req_p (by omega), req_p (by omega), ed, bnd_s, req_p (by omega), req_p (by omega), wk (e := (i : Int) + 1) (by omega) (by omega)]
   exact ⟨d, rfl, d1, d2⟩) (by intro s; unfold spec_LevelsBack_l4; rw [sel_no (by simp)]) w (by omega) w2
  simp only [el, bnd_s]
  rw [EightBack_alike l l1 (inB_mono l2 (by omega))]
 ·
  refine req_c fun _ => bnd_c ?_ fun _ _ => rfl
  refine loop_congr (fun v => (∃ k : Nat, v.1 = (k : Int) ∧ k ≤ 4) ∧ v.2.length = 64) ?_ ?_ ⟨⟨0, rfl, by omega⟩, by simp⟩
  ·
   intro ⟨k0, s⟩ ⟨⟨k, ek, hk⟩, hs⟩
   simp only at ek hs
   subst ek
   unfold impl_LevelsBack_l36 spec_LevelsBack_l36
   simp only
   refine sel_c (fun hk4 => ?_) fun _ => rfl
   have hk4 : k < 4 := by have := of_decide_eq_true hk4; omega
   rw [wk (e := 16 * (k : Int)) (by omega) (by omega), wk (e := 16 * (k : Int) + 16) (by omega) (by omega)]
   refine req_c fun _ => ?_
   rw [show (16 * (k : Int)).toNat = 16 * k by omega, show (16 * (k : Int) + 16).toNat - 16 * k = 16 by omega]
   have hcut : ((p.drop (16 * k)).take 16).length = 16 := by rw [List.length_take, List.length_drop]; omega
   obtain ⟨a, ea, a1, a2⟩ := spec_Unscanned_ev 4 (Or.inl rfl) ((p.drop (16 * k)).take 16) 5000 (by omega) (by omega) (inB_take (inB_drop hb _) _)
   rw [Unscanned_alike 4 (Or.inl rfl) _ (by omega), ea, bnd_s, bnd_s]
   have hloop : loop (impl_LevelsBack_l41 c (a, true)) (0, (a, true).1) = loop (spec_LevelsBack_l41 c) (0, (a, true).1) := by
    have : impl_LevelsBack_l41 c (a, true) = spec_LevelsBack_l41 c := by
     funext v
     unfold impl_LevelsBack_l41 spec_LevelsBack_l41
     simp only [show ((a.length : Nat) : Int) = 16 by omega]
     refine sel_c (fun h16 => ?_) fun _ => rfl
     have := of_decide_eq_true h16
     refine req_c fun h0 => req_c fun _ => ?_
     rw [SmallBack_alike _ _ _ hq (by omega)]
    rw [this]
   rw [hloop]
   obtain ⟨l, el, l1, l2⟩ := map_loop (f := spec_LevelsBack_l41 c) 16 (fun x => -5000 ≤ x ∧ x ≤ 5000) (fun x => -10000000 ≤ x ∧ x ≤ 10000000) (by
    intro i l hi hll hx
    obtain ⟨d, ed, d1, d2⟩ := spec_SmallBack_ev (l.getD i 0) c.Qp i hx hq (by omega)
    unfold spec_LevelsBack_l41
    simp only [Int.toNat_natCast]
    rw [sel_yes (by omega), req_p (by omega), req_p (by omega), ed, bnd_s, req_p (by omega), req_p (by omega), wk (e := (i : Int) + 1) (by omega) (by omega)]
    exact ⟨d, rfl, d1, d2⟩) (by intro s; unfold spec_LevelsBack_l41; rw [sel_no (by simp)]) a (by omega) a2
   obtain ⟨b, eb, b1, b2⟩ := spec_FourBack_ev l l1 l2
   obtain ⟨q1, q2, q3⟩ := impl_quarter_eq k hk4
   simp only [el, bnd_s]
   rw [FourBack_alike l l1 l2, eb, bnd_s, bnd_s, q1, bnd_s]
   refine bnd_c ?_ fun _ _ => rfl
   have : impl_LevelsBack_l42 b (quarterL k) = spec_LevelsBack_l42 ((k : Int), s) b := by
    funext v
    unfold impl_LevelsBack_l42 spec_LevelsBack_l42
    simp only [show (((quarterL k).length : Nat) : Int) = 16 by omega]
    refine sel_c (fun h16 => ?_) fun _ => rfl
    have h16 := of_decide_eq_true h16
    by_cases h0 : 0 ≤ v.1
    ·
     obtain ⟨i, hi⟩ : ∃ i : Nat, v.1 = (i : Int) := ⟨v.1.toNat, by omega⟩
     obtain ⟨v1, v2⟩ := v
     simp only at hi h0 h16
     subst hi
     obtain ⟨r1, r2, r3⟩ := q3 i (by omega)
     have e1 : (wrapK .i64 ((wrapK .i64 ((wrapK .i64 (8 * (wrapK .i64 ((wrapK .i64 ((wrapK .i64 ((k : Int).tdiv 2)) * 4)) + (wrapK .i64 ((i : Int).tdiv 4)))))) + (wrapK .i64 (((k : Int).tmod 2) * 4)))) + ((i : Int).tmod 4))) = quarterAt k i := rfl
     simp only [Int.toNat_natCast, r1, e1]
     refine req_pc (by omega) (req_pc (by omega) (req_pc (by omega) (req_pc (by omega) ?_)))
     refine (req_pc (by omega) (req_pc (by omega) (req_pc (by omega) (req_pc (by omega) (req_pc (by omega) (req_pc (by omega) ?_)))))).symm
     rfl
    ·
     unfold req
     rw [if_neg (by omega), if_pos (by omega), if_pos (by omega), if_pos (by omega), if_pos (by omega), if_neg (by omega)]
   rw [this]
  ·
   intro ⟨k0, s⟩ v' ⟨⟨k, ek, hk⟩, hs⟩ he
   simp only at ek hs
   subst ek
   unfold spec_LevelsBack_l36 at he
   simp only at he
   rcases sel_some he with ⟨hb4, he⟩ | ⟨_, he⟩
   ·
    have hk4 : k < 4 := by have := of_decide_eq_true hb4; omega
    obtain ⟨_, he⟩ := req_some he
    obtain ⟨a, _, he⟩ := bnd_some he
    obtain ⟨l, _, he⟩ := bnd_some he
    obtain ⟨b, _, he⟩ := bnd_some he
    obtain ⟨r, hr, he⟩ := bnd_some he
    rw [wk (e := (k : Int) + 1) (by omega) (by omega)] at he
    cases he
    refine ⟨⟨k + 1, rfl, by omega⟩, ?_⟩
    refine loop_keep (f := spec_LevelsBack_l42 ((k : Int), s) b) (fun v => v.2.length = 64) (fun o => o.length = 64) ?_ ?_ hr hs
    ·
     intro v v' hv he
     unfold spec_LevelsBack_l42 at he
     rcases sel_some he with ⟨_, he⟩ | ⟨_, he⟩
     ·
      obtain ⟨_, he⟩ := req_some he
      obtain ⟨_, he⟩ := req_some he
      obtain ⟨_, he⟩ := req_some he
      obtain ⟨_, he⟩ := req_some he
      obtain ⟨_, he⟩ := req_some he
      obtain ⟨_, he⟩ := req_some he
      obtain ⟨_, he⟩ := req_some he
      obtain ⟨_, he⟩ := req_some he
      cases he
      simp only [List.length_set]; exact hv
     ·
      cases he
    ·
     intro v o hv he
     unfold spec_LevelsBack_l42 at he
     rcases sel_some he with ⟨_, he⟩ | ⟨_, he⟩
     ·
      obtain ⟨_, he⟩ := req_some he
      obtain ⟨_, he⟩ := req_some he
      obtain ⟨_, he⟩ := req_some he
      obtain ⟨_, he⟩ := req_some he
      obtain ⟨_, he⟩ := req_some he
      obtain ⟨_, he⟩ := req_some he
      obtain ⟨_, he⟩ := req_some he
      obtain ⟨_, he⟩ := req_some he
      cases he
     ·
      cases he; exact hv
   ·
    cases he
theorem loop_nat {S O : Type} {f g : Int × S → Option (Lp (Int × S) O)} (n : Nat) (I : Nat → S → Prop) (h : ∀ (i : Nat) (s : S), i ≤ n → I i s → f ((i : Int), s) = g ((i : Int), s)) (hI : ∀ (i : Nat) (s : S) (v' : Int × S), i ≤ n → I i s → g ((i : Int), s) = some (.go v') → v'.1 = ((i + 1 : Nat) : Int) ∧ i + 1 ≤ n ∧ I (i + 1) v'.2) {s0 : S} (h0 : I 0 s0) : loop f (0, s0) = loop g (0, s0) := by
 refine loop_congr (fun v => ∃ i : Nat, v.1 = (i : Int) ∧ i ≤ n ∧ I i v.2) ?_ ?_ ⟨0, rfl, by omega, h0⟩
 ·
  intro ⟨k, s⟩ ⟨i, e, hi, hs⟩
  simp only at e hs
  subst e
  exact h i s hi hs
 ·
  intro ⟨k, s⟩ v' ⟨i, e, hi, hs⟩ he
  simp only at e hs
  subst e
  obtain ⟨a, b, c⟩ := hI i s v' hi hs he
  exact ⟨i + 1, a, b, c⟩
theorem quarter_loop (p : List Int) (hl : p.length = 64) (k : Nat) (hk : k < 4) : loop (impl_LevelsOf_l52 p (quarterL k)) (0, ([] : List Int)) = spec_l14Quarter p k := by
 obtain ⟨q1, q2, q3⟩ := impl_quarter_eq k hk
 unfold spec_l14Quarter
 rw [loop_nat (f := impl_LevelsOf_l52 p (quarterL k)) (g := spec_l14Quarter_l2 p k) 16 (fun _ _ => True) ?_ ?_ trivial]
 ·
  cases loop (spec_l14Quarter_l2 p k) (0, ([] : List Int)) <;> rfl
 ·
  intro i s hi _
  unfold impl_LevelsOf_l52 spec_l14Quarter_l2
  simp only [show (((quarterL k).length : Nat) : Int) = 16 by omega]
  refine sel_c (fun h16 => ?_) fun _ => rfl
  have h16 := of_decide_eq_true h16
  obtain ⟨r1, r2, r3⟩ := q3 i (by omega)
  have e1 : (wrapK .i64 ((wrapK .i64 ((wrapK .i64 (8 * (wrapK .i64 ((wrapK .i64 ((wrapK .i64 ((k : Int).tdiv 2)) * 4)) + (wrapK .i64 ((i : Int).tdiv 4)))))) + (wrapK .i64 (((k : Int).tmod 2) * 4)))) + ((i : Int).tmod 4))) = quarterAt k i := rfl
  simp only [Int.toNat_natCast, r1, e1]
  refine req_pc (by omega) (req_pc (by omega) (req_pc (by omega) ?_))
  refine (req_pc (by omega) (req_pc (by omega) (req_pc (by omega) (req_pc (by omega) (req_pc (by omega) ?_))))).symm
  rfl
 ·
  intro i s v' hi _ he
  unfold spec_l14Quarter_l2 at he
  rcases sel_some he with ⟨hb, he⟩ | ⟨_, he⟩
  ·
   have h16 := of_decide_eq_true hb
   simp only at h16 he
   obtain ⟨_, he⟩ := req_some he
   obtain ⟨_, he⟩ := req_some he
   obtain ⟨_, he⟩ := req_some he
   obtain ⟨_, he⟩ := req_some he
   obtain ⟨_, he⟩ := req_some he
   obtain ⟨_, he⟩ := req_some he
   injection he with he
   injection he with he
   subst he
   exact ⟨wk (by omega) (by omega), by omega, trivial⟩
  ·
   cases he
theorem LevelsOf_alike (p : List Int) (c : Cond) (hc : condOk c = true) (hl : p.length = 64) (hb : inB 255 p) : impl_LevelsOf p c = spec_LevelsOf p c := by
 have hq := condOk_qp hc
 unfold impl_LevelsOf spec_LevelsOf
 rw [spec_CondOk_eq, impl_CondOk_eq, areIn_yes p 64 255 (by omega) (by omega) hb, hc, l09All_yes p 64 255 (by omega) (by omega) (by omega) hb]
 simp only [bnd_s, sel_t, Bool.not_true, sel_f]
 rw [Scanned_alike 8 (Or.inr rfl) p (by omega)]
 refine sel_c (fun _ => rfl) fun _ => sel_c (fun _ => ?_) fun _ => ?_
 ·
  obtain ⟨w, ew, w1⟩ := spec_Eight_ev p hl hb
  rw [Eight_alike p hl (inB_mono hb (by omega)), ew, bnd_s, bnd_s]
  have : impl_LevelsOf_l4 c w = spec_LevelsOf_l4 c := by
   funext v
   unfold impl_LevelsOf_l4 spec_LevelsOf_l4
   simp only [LargeLevel_alike _ _ hq, w1]
   rfl
  rw [this]
  obtain ⟨l, el, l1, l2⟩ := map_loop (f := spec_LevelsOf_l4 c) 64 (fun _ => True) (fun x => -5000 ≤ x ∧ x ≤ 5000) (by
   intro i l hi hll _
   obtain ⟨d, ed, d1, d2⟩ := spec_LargeLevel_ev (l.getD i 0) c.Qp hq
   unfold spec_LevelsOf_l4
   simp only [Int.toNat_natCast]
   rw [sel_yes (by omega), req_p (by omega), req_p (by omega), ed, bnd_s, req_p (by omega), req_p (by omega), wk (e := (i : Int) + 1) (by omega) (by omega)]
   exact ⟨d, rfl, d1, d2⟩) (by intro s; unfold spec_LevelsOf_l4; rw [sel_no (by simp)]) w w1 (fun _ _ => trivial)
  rw [el, bnd_s, bnd_s, Scanned_alike 8 (Or.inr rfl) l (by omega)]
 ·
  refine bnd_c ?_ fun _ _ => rfl
  refine loop_nat 4 (fun _ _ => True) ?_ ?_ trivial
  ·
   intro k s hk _
   unfold impl_LevelsOf_l46 spec_LevelsOf_l26
   refine sel_c (fun h4 => ?_) fun _ => rfl
   have hk4 : k < 4 := by have := of_decide_eq_true h4; simp only at this; omega
   obtain ⟨q1, q2, q3⟩ := impl_quarter_eq k hk4
   simp only [q1, bnd_s]
   rw [quarter_loop p hl k hk4]
   obtain ⟨a, ea, a1, a2⟩ := spec_l14Quarter_ev p k hk4 255 hl hb
   obtain ⟨b, eb, b1, b2⟩ := spec_Four_ev a a1 a2
   rw [ea, bnd_s, bnd_s, Four_alike a a1 (inB_mono a2 (by omega)), eb, bnd_s, bnd_s]
   have : impl_LevelsOf_l54 c b = spec_LevelsOf_l30 c := by
    funext v
    unfold impl_LevelsOf_l54 spec_LevelsOf_l30
    simp only [show ((b.length : Nat) : Int) = 16 by omega]
    refine sel_c (fun h16 => ?_) fun _ => rfl
    have := of_decide_eq_true h16
    refine req_c fun h0 => req_c fun _ => ?_
    rw [SmallLevel_alike _ _ _ hq (by omega)]
   rw [this]
   obtain ⟨l, el, l1, l2⟩ := map_loop (f := spec_LevelsOf_l30 c) 16 (fun x => -9180 ≤ x ∧ x ≤ 9180) (fun x => -5000 ≤ x ∧ x ≤ 5000) (by
    intro i l hi hll hx
    obtain ⟨d, ed, d1, d2⟩ := spec_SmallLevel_ev (l.getD i 0) c.Qp i hx hq (by omega)
    unfold spec_LevelsOf_l30
    simp only [Int.toNat_natCast]
    rw [sel_yes (by omega), req_p (by omega), req_p (by omega), ed, bnd_s, req_p (by omega), req_p (by omega), wk (e := (i : Int) + 1) (by omega) (by omega)]
    exact ⟨d, rfl, d1, d2⟩) (by intro s; unfold spec_LevelsOf_l30; rw [sel_no (by simp)]) b b1 b2
   rw [el, bnd_s, bnd_s, Scanned_alike 4 (Or.inl rfl) l (by omega)]
  ·
   intro k s v' hk _ he
   unfold spec_LevelsOf_l26 at he
   rcases sel_some he with ⟨hb4, he⟩ | ⟨_, he⟩
   ·
    have hk4 := of_decide_eq_true hb4
    simp only at hk4 he
    obtain ⟨a, _, he⟩ := bnd_some he
    obtain ⟨l, _, he⟩ := bnd_some he
    obtain ⟨b, _, he⟩ := bnd_some he
    obtain ⟨r, _, he⟩ := bnd_some he
    obtain ⟨_, he⟩ := req_some he
    injection he with he
    injection he with he
    subst he
    exact ⟨wk (by omega) (by omega), by omega, trivial⟩
   ·
    cases he
theorem dot_alike {p : Pic} (ok : picOk p = true) (x y : Int) : impl_Pic_dot p x y = spec_DotAt p x y := by rw [impl_dot_eq ok, spec_DotAt_eq ok]
theorem isSquare_yes {p : Pic} (ok : picOk p = true) {x y : Int} (hx : x.tmod 8 = 0) (hy : y.tmod 8 = 0) (h : heldAt p x y = true) : impl_Pic_isSquare p x y = some true := impl_isSquare_eq ok x y hx hy h
theorem EdgesOf_alike {p : Pic} (ok : picOk p = true) {x y : Int} (hx : x.tmod 8 = 0) (hy : y.tmod 8 = 0) (h : heldAt p x y = true) : impl_EdgesOf p x y = spec_EdgesOf p x y := by
 unfold impl_EdgesOf spec_EdgesOf
 rw [impl_PicOk_eq, ok, isSquare_yes ok hx hy h, spec_l13Fits_yes ok hx hy h]
 have : impl_EdgesOf_l2 p x y = spec_EdgesOf_l2 p x y := by
  funext v
  unfold impl_EdgesOf_l2 spec_EdgesOf_l2
  simp only [dot_alike ok]
 simp only [bnd_s, sel_t, Bool.not_true, sel_f, this, dot_alike ok]
theorem EdgesOk_yes {e : Edges} (h : edgesP e) : impl_EdgesOk e = some true := by
 obtain ⟨h1, h2, h3, h4, h5, h6⟩ := h
 have side : ∀ l : List Int, (l.length = 0 ∨ l.length = 8) → (∀ x ∈ l, 0 ≤ x ∧ x ≤ 255) → bnd (sel (decide ((l.length : Int) > 0)) (bnd (impl_areIn l 8 0 255) fun q10 => some (!q10)) (some false)) (fun v9 => some v9) = some false := by
  intro l hl hb
  rcases hl with e | e
  ·
   rw [sel_no (by omega)]; rfl
  ·
   rw [sel_yes (by omega), impl_areIn_eq l 8 0 255 (by omega)]
   have : (l.all fun x => decide (0 ≤ x ∧ x ≤ 255)) = true := List.all_eq_true.2 fun x hx => decide_eq_true (hb x hx)
   rw [this, e]; rfl
 have go : ∀ (i : Nat) (l : List Int), i < 2 → ([e.Above, e.Left]).getD i dLInti64 = l → (l.length = 0 ∨ l.length = 8) → (∀ x ∈ l, 0 ≤ x ∧ x ≤ 255) → impl_EdgesOk_l2 e (i : Int) = some (.go ((i + 1 : Nat) : Int)) := by
  intro i l hi hg hl hb
  unfold impl_EdgesOk_l2
  simp only [Int.toNat_natCast, hg]
  have hs := side l hl hb
  rw [sel_yes (by simp only [List.length_cons, List.length_nil]; omega), req_p (by simp only [List.length_cons, List.length_nil]; omega), req_p (by simp only [List.length_cons, List.length_nil]; omega)]
  obtain ⟨a, ea, hs⟩ := bnd_some hs
  injection hs with hs
  subst hs
  rw [ea, bnd_s, sel_f, wk (by omega) (by omega)]
  rfl
 unfold impl_EdgesOk
 have : loop (impl_EdgesOk_l2 e) 0 = some (.out ()) := by
  refine lgo (go 0 e.Above (by omega) rfl h1 h3) (lgo (go 1 e.Left (by omega) rfl h2 h4) (ldone ?_))
  unfold impl_EdgesOk_l2
  rw [sel_no (by simp)]
 rw [this, bnd_s, impl_within_eq, bnd_s, decide_eq_true ⟨h5, h6⟩]
def sumI (l : List Int) : Nat → Int
 | 0 => 0
 | n + 1 => sumI l n + l.getD n 0
theorem sumI_range {l : List Int} (h : ∀ x ∈ l, 0 ≤ x ∧ x ≤ 255) : ∀ n : Nat, n ≤ l.length → 0 ≤ sumI l n ∧ sumI l n ≤ 255 * n
 | 0, _ => by simp [sumI]
 | n + 1, hn => by
  have a := sumI_range h n (by omega)
  have b := h (l.getD n 0) (by rw [getD_at l n (by omega)]; exact List.getElem_mem _)
  rw [sumI]; omega
theorem sum_loop {f : Int × Int → Option (Lp (Int × Int) Int)} {l : List Int} (hl : l.length ≤ 64) (h : ∀ x ∈ l, 0 ≤ x ∧ x ≤ 255) (hf : ∀ v, f v = sel (decide (v.2 < (l.length : Int))) (req (0 ≤ v.2 ∧ v.2 < l.length) <| some (.go (wrapK .i64 (v.1 + (l.getD v.2.toNat 0)), wrapK .i64 (v.2 + 1)))) (some (.done v.1))) (a : Int) (ha : 0 ≤ a ∧ a ≤ 100000) : loop f (a, 0) = some (a + sumI l l.length) := by
 obtain ⟨o, e, ho⟩ := acc_loop (f := f) l.length (fun i s => s = a + sumI l i) (by
  intro i s hi g
  have r := sumI_range h i (by omega)
  have b := h (l.getD i 0) (by rw [getD_at l i (by omega)]; exact List.getElem_mem _)
  rw [hf]
  simp only [Int.toNat_natCast]
  rw [sel_yes (by omega), req_p (by omega), wk (e := s + l.getD i 0) (by omega) (by omega), wk (e := (i : Int) + 1) (by omega) (by omega)]
  exact ⟨_, rfl, by rw [sumI]; omega⟩) (by intro s; rw [hf, sel_no (by simp)]) a (by simp [sumI])
 rw [e, ho]
theorem impl_sumOf_is {l : List Int} (hl : l.length ≤ 64) (h : ∀ x ∈ l, 0 ≤ x ∧ x ≤ 255) : impl_sumOf l = some (sumI l l.length) := by
 unfold impl_sumOf
 rw [sum_loop (f := impl_sumOf_l2 l) hl h (fun _ => rfl) 0 (by omega), bnd_s, Int.zero_add]
theorem mid_alike {e : Edges} (h : edgesP e) : (sel (decide ((wrapK .i64 ((e.Above.length : Int) + (e.Left.length : Int))) > 0)) (bnd (impl_sumOf e.Above) fun q5 => bnd (impl_sumOf e.Left) fun q6 => req ((2 : Int) ≠ 0) <| req ((wrapK .i64 ((e.Above.length : Int) + (e.Left.length : Int))) ≠ 0) <|
  some (wrapK .i64 ((wrapK .i64 ((wrapK .i64 (q5 + q6)) + (wrapK .i64 ((wrapK .i64 ((e.Above.length : Int) + (e.Left.length : Int))).tdiv 2)))).tdiv (wrapK .i64 ((e.Above.length : Int) + (e.Left.length : Int)))))) (some 128)) = spec_l13Mid e := by
 obtain ⟨h1, h2, h3, h4, h5, h6⟩ := h
 unfold spec_l13Mid
 have r1 := sumI_range h3 e.Above.length (Nat.le_refl _)
 have r2 := sumI_range h4 e.Left.length (Nat.le_refl _)
 rw [wk (e := (e.Above.length : Int) + (e.Left.length : Int)) (by omega) (by omega)]
 by_cases hz : (e.Above.length : Int) + (e.Left.length : Int) = 0
 ·
  rw [sel_no (by omega), sel_pos (by simpa using hz)]
 ·
  rw [sel_yes (by omega), sel_neg (by simpa using hz), impl_sumOf_is (by omega) h3, bnd_s, impl_sumOf_is (by omega) h4, bnd_s, req_p (by omega), req_p hz, req_p (by omega), tdiv_pos (a := (e.Above.length : Int) + (e.Left.length : Int)) (by omega), wk (e := ((e.Above.length : Int) + (e.Left.length : Int)) / 2) (by omega) (by omega),
   sum_loop (f := spec_l13Mid_l2 e) (by omega) h3 (fun _ => rfl) _ (by omega), bnd_s, sum_loop (f := spec_l13Mid_l4 e) (by omega) h4 (fun _ => rfl) _ (by omega), bnd_s, req_p hz, wk (e := sumI e.Above e.Above.length + sumI e.Left e.Left.length) (by omega) (by omega), wk (e := sumI e.Above e.Above.length + sumI e.Left e.Left.length + ((e.Above.length : Int) + (e.Left.length : Int)) / 2) (by omega) (by omega)]
  congr 3; omega
theorem orGrey_eq (l : List Int) (hl : l.length = 0 ∨ l.length = 8) : ∃ g, impl_orGrey l = some g ∧ g.length = 8 ∧ ∀ k : Nat, k < 8 → spec_l13Filled l k = some (g.getD k 0) := by
 unfold impl_orGrey
 rcases hl with e | e
 ·
  refine ⟨_, sel_pos (by rw [e]; rfl), rfl, fun k hk => ?_⟩
  unfold spec_l13Filled
  rw [sel_pos (by rw [e]; rfl)]
  congr 1
  obtain rfl | rfl | rfl | rfl | rfl | rfl | rfl | rfl : k = 0 ∨ k = 1 ∨ k = 2 ∨ k = 3 ∨ k = 4 ∨ k = 5 ∨ k = 6 ∨ k = 7 := by omega
  all_goals rfl
 ·
  refine ⟨l, sel_neg (by rw [e]; rfl), e, fun k hk => ?_⟩
  unfold spec_l13Filled
  rw [sel_neg (by rw [e]; rfl), req_p (by omega), Int.toNat_natCast]
theorem brought_alike (n a b : Int) : impl_Brought n a b = spec_Brought n a b := by rw [impl_Brought_eq, spec_Brought_eq]
def guessAt (m mid v : Int) (A B : List Int) (i : Nat) : Int := sel (m == 0) mid (sel (m == 1) (A.getD (i % 8) 0) (sel (m == 2) (B.getD (i / 8) 0) (brought (wrapK .i64 (wrapK .i64 (B.getD (i / 8) 0 + A.getD (i % 8) 0) - v)) 0 255)))
theorem grid_loops {f1 : Int × List Int → Option (Lp (Int × List Int) (List Int))} {f2 : Int × List Int → Int × List Int → Option (Lp (Int × List Int) (List Int))} (g : Nat → Int)
  (h1 : ∀ v, f1 v = sel (decide (v.1 < 8)) (bnd (loop (f2 v) (0, v.2)) fun w => some (.go (wrapK .i64 (v.1 + 1), w))) (some (.done v.2)))
  (h2 : ∀ (r c : Nat) (a s : List Int), r < 8 → c < 8 → s.length = 8 * r + c → f2 ((r : Int), a) ((c : Int), s) = some (.go (((c + 1 : Nat) : Int), s ++ [g (8 * r + c)])))
  (h3 : ∀ (r : Nat) (a s : List Int), f2 ((r : Int), a) (8, s) = some (.done s)) : loop f1 (0, []) = some ((List.range 64).map g) := by
 obtain ⟨o, e, ho⟩ := st_loop (f := f1) 8 (fun r s => s = (List.range (8 * r)).map g) (by
  intro r s hr hs
  obtain ⟨q, eq, hq⟩ := st_loop2 (f := f2 ((r : Int), s)) 8 (fun c s' => s' = (List.range (8 * r + c)).map g) (by
   intro c s' hc hs'
   exact ⟨_, h2 r c s s' hr hc (by rw [hs']; simp), by rw [hs', show 8 * r + (c + 1) = (8 * r + c) + 1 by omega, List.range_succ, List.map_append]; rfl⟩) (fun z _ => h3 r s z) s hs
  rw [h1]
  refine ⟨q, ?_, by rw [hq, show 8 * (r + 1) = 8 * r + 8 by omega]⟩
  simp only
  rw [sel_yes (by omega), eq, bnd_s, wk (by omega) (by omega)]
  rfl) (by intro s; rw [h1, sel_no (by simp)]) [] rfl
 rw [e, ho]
theorem GuessOf_both (m : Int) (hm0 : 0 ≤ m ∧ m ≤ 3) {e : Edges} (h : edgesP e) : ∃ g, impl_GuessOf m e = some g ∧ spec_GuessOf m e = some g := by
 have hm : maxLen = 9223372036854775807 := rfl
 obtain ⟨mid, em, m1, m2⟩ := spec_l13Mid_ev h
 obtain ⟨A, eA, hA, fA⟩ := orGrey_eq e.Above h.1
 obtain ⟨B, eB, hB, fB⟩ := orGrey_eq e.Left h.2.1
 obtain ⟨v, ev⟩ : ∃ v, sel (decide (e.Corner < 0)) (some (128 : Int)) (some e.Corner) = some v := by rw [sel_ss]; exact ⟨_, rfl⟩
 refine ⟨(List.range 64).map (guessAt m mid v A B), ?_, ?_⟩
 ·
  unfold impl_GuessOf
  rw [EdgesOk_yes h, bnd_s, sel_t, impl_within_eq, bnd_s, decide_eq_true hm0, Bool.not_true, bnd_s, sel_f, mid_alike h, em, bnd_s, eA, bnd_s, eB, bnd_s, ev, bnd_s, grid_loops (f1 := impl_GuessOf_l12 m mid A B v) (f2 := impl_GuessOf_l14 m mid A B v) (guessAt m mid v A B) (fun _ => rfl) ?_ ?_, bnd_s]
  ·
   intro r c a s hr hc hs
   unfold impl_GuessOf_l14 guessAt
   simp only [Int.toNat_natCast, impl_Brought_eq, bnd_s]
   rw [sel_yes (by omega), wk (e := (c : Int) + 1) (by omega) (by omega), show (8 * r + c) % 8 = c by omega, show (8 * r + c) / 8 = r by omega]
   cases (m == 0) with
   | true => rw [sel_t, req_p (by simp only [List.length_singleton]; omega), bnd_s]; rfl
   | false =>
    rw [sel_f]
    cases (m == 1) with
    | true => rw [sel_t, req_p (by omega), req_p (by simp only [List.length_singleton]; omega), bnd_s]; rfl
    | false =>
     rw [sel_f]
     cases (m == 2) with
     | true => rw [sel_t, req_p (by omega), req_p (by simp only [List.length_singleton]; omega), bnd_s]; rfl
     | false => rw [sel_f, req_p (by omega), req_p (by omega), req_p (by simp only [List.length_singleton]; omega), bnd_s]; rfl
  ·
   intro r a s
   unfold impl_GuessOf_l14
   rw [sel_no (by simp)]
 ·
  unfold spec_GuessOf
  rw [spec_EdgesOk_yes h, bnd_s, sel_t, spec_l01In_eq, bnd_s, decide_eq_true hm0, Bool.not_true, bnd_s, sel_f, ev, bnd_s]
  obtain ⟨o, eo, ho⟩ := st_loop (f := spec_GuessOf_l2 m e v) 64 (fun i s => s = (List.range i).map (guessAt m mid v A B)) (by
   intro i s hi hs
   have hlen : s.length = i := by rw [hs]; simp
   refine ⟨s ++ [guessAt m mid v A B i], ?_, by rw [hs, List.range_succ, List.map_append]; rfl⟩
   unfold spec_GuessOf_l2 guessAt
   simp only
   rw [sel_yes (by omega), req_p (by omega), tmod_pos (by omega), show (i : Int) % 8 = ((i % 8 : Nat) : Int) by omega, fA _ (by omega), bnd_s, req_p (by omega), tdiv_pos (by omega), wk (e := (i : Int) / 8) (by omega) (by omega), show (i : Int) / 8 = ((i / 8 : Nat) : Int) by omega, fB _ (by omega), bnd_s, wk (e := (i : Int) + 1) (by omega) (by omega), em]
   cases (m == 0) with
   | true => rw [sel_t, bnd_s, req_p (by simp only [List.length_singleton]; omega), bnd_s]; rfl
   | false =>
    rw [sel_f]
    cases (m == 1) with
    | true => rw [sel_t, req_p (by simp only [List.length_singleton]; omega), bnd_s]; rfl
    | false =>
     rw [sel_f]
     cases (m == 2) with
     | true => rw [sel_t, req_p (by simp only [List.length_singleton]; omega), bnd_s]; rfl
     | false => rw [sel_f, spec_Brought_eq, bnd_s, req_p (by simp only [List.length_singleton]; omega), bnd_s]; rfl) (by intro s; unfold spec_GuessOf_l2; rw [sel_no (by simp)]) [] rfl
  rw [eo, bnd_s, ho]
theorem GuessOf_alike (m : Int) (hm0 : 0 ≤ m ∧ m ≤ 3) {e : Edges} (h : edgesP e) : impl_GuessOf m e = spec_GuessOf m e := by
 obtain ⟨g, h1, h2⟩ := GuessOf_both m hm0 h
 rw [h1, h2]
theorem Joined_alike (g b : List Int) (hg : dots64 g = true) (hl : b.length = 64) (hb : inB 10000000 b) : impl_Joined g b = spec_Joined g b := by
 obtain ⟨g1, g2⟩ := dots64_at hg
 unfold impl_Joined spec_Joined
 rw [spec_l13Dots_yes g hg, impl_areDots_eq g (by omega), hg, areIn_yes b 64 10000000 (by omega) (by omega) hb, l09All_yes b 64 10000000 (by omega) (by omega) (by omega) hb]
 have : impl_Joined_l2 g b = spec_Joined_l2 g b := by
  funext v
  unfold impl_Joined_l2 spec_Joined_l2
  simp only [brought_alike, show ((g.length : Nat) : Int) = 64 by omega]
 simp only [bnd_s, sel_t, Bool.not_true, sel_f, this]
theorem sqOk_zero {s : Square} (h : sqOk s = true) (h1 : s.Kind = 0) : s.Dx = 0 ∧ s.Dy = 0 := by
 unfold sqOk at h
 rw [h1] at h
 simp at h
 exact ⟨h.2.1, h.2.2.1⟩
theorem sqOk_dxy {s : Square} (h : sqOk s = true) : (-16 ≤ s.Dx ∧ s.Dx ≤ 16) ∧ (-16 ≤ s.Dy ∧ s.Dy ≤ 16) := by
 have hk := sqOk_kind h
 obtain h1 | h1 | h1 : s.Kind = 0 ∨ s.Kind = 1 ∨ s.Kind = 2 := by omega
 ·
  obtain ⟨a, b⟩ := sqOk_zero h h1; omega
 ·
  obtain ⟨a, b, _⟩ := sqOk_one h h1; exact ⟨a, b⟩
 ·
  unfold sqOk at h
  rw [h1] at h
  simp at h
  omega
theorem impl_let_eq (s : Square) (c : Cond) : impl_Square_let s c = some (sqLet s c) := by
 unfold impl_Square_let sqLet
 cases c.Key <;> rfl
structure SdIn (now ref : Pic) (l t x y : Int) (c : Cond) (q : Square) : Prop where
 ok : picOk now = true
 hx : x.tmod 8 = 0
 hy : y.tmod 8 = 0
 h0 : heldAt now x y = true
 hl : 0 ≤ l ∧ l ≤ 256
 ht : 0 ≤ t ∧ t ≤ 256
 hc : condOk c = true
 hs : q.Levels.length ≤ 1048576
theorem SquareDots_both {now ref : Pic} {l t x y : Int} {c : Cond} {q : Square} (h : SdIn now ref l t x y c q) (hq : sqOk q = true) (hL : sqLet q c = true) (hr : c.Key = false → picOk ref = true) : ∃ d, impl_SquareDots now ref l t c x y q = some (d, true) ∧ spec_SquareDots now ref l t c x y q = some (d, true) ∧ dots64 d = true := by
 obtain ⟨ok, hx, hy, h0, hl, ht, hc, hs⟩ := h
 obtain ⟨k1, k2, k3⟩ := picOk_parts ok
 have h0' := h0
 unfold heldAt at h0'
 rw [decide_eq_true_eq] at h0'
 have dxy := sqOk_dxy hq
 unfold spec_SquareDots impl_SquareDots
 rw [spec_l13Fits_yes ok hx hy h0, bnd_s, sel_t, spec_l01In_eq, bnd_s, decide_eq_true hl, sel_t, spec_l01In_eq, bnd_s, decide_eq_true ht, sel_t, spec_SquareOk_eq, bnd_s, hq, sel_t, spec_CondOk_eq, bnd_s, hc, Bool.not_true, bnd_s, sel_f]
 rw [impl_PicOk_eq, bnd_s, ok, sel_t, isSquare_yes ok hx hy h0, bnd_s, sel_t, impl_within_eq, bnd_s, decide_eq_true hl, sel_t, impl_within_eq, bnd_s, decide_eq_true ht, sel_t, impl_SquareOk_eq q (by omega), bnd_s, hq, sel_t, impl_CondOk_eq, bnd_s, hc, sel_t, impl_let_eq, bnd_s, hL, sel_t]
 by_cases h2 : q.Kind = 2
 ·
  obtain ⟨hm, hlv⟩ := sqOk_two hq h2
  obtain ⟨e, ee, he⟩ := spec_EdgesOf_ev ok hx hy h0
  obtain ⟨b, eb, b1, b2⟩ := spec_LevelsBack_ev q.Levels c hc hlv
  obtain ⟨g, eg, hg⟩ := spec_GuessOf_ev q.Mode hm he
  obtain ⟨j, ej, hj⟩ := spec_Joined_ev g b hg b1 b2
  refine ⟨j, ?_, ?_, hj⟩
  ·
   rw [sel_neg (b := q.Kind != 2) (by simpa using h2), bnd_s, sel_f, sel_neg (by rw [h2]; rfl), LevelsBack_alike q.Levels c hc hlv, eb, bnd_s, sel_neg (by rw [h2]; rfl), EdgesOf_alike ok hx hy h0, ee, bnd_s, GuessOf_alike q.Mode hm he, eg, bnd_s, Joined_alike g b hg b1 b2, ej, bnd_s]
  ·
   rw [sel_pos (by simpa using h2), ee, bnd_s, eb, bnd_s, eg, bnd_s, ej, bnd_s]
 ·
  have hK : c.Key = false := by
   unfold sqLet at hL
   cases hk : c.Key with
   | false => rfl
   | true => rw [hk] at hL; simp at hL; exact absurd hL h2
  have rok := hr hK
  rw [sel_pos (b := q.Kind != 2) (by simpa using h2), impl_PicOk_eq, bnd_s, rok, Bool.not_true, bnd_s, sel_f]
  rw [sel_neg (b := q.Kind == 2) (by simpa using h2), hK, sel_f, spec_PicOk_eq, bnd_s, rok, Bool.not_true, bnd_s, sel_f]
  rw [wk (e := l + x) (by omega) (by omega), wk (e := l + x + q.Dx) (by omega) (by omega), wk (e := t + y) (by omega) (by omega), wk (e := t + y + q.Dy) (by omega) (by omega), spec_BlockOf_eq rok _ _ (by omega) (by omega), bnd_s, impl_block_eq rok _ _ (by omega) (by omega), bnd_s, impl_block_eq rok _ _ (by omega) (by omega)]
  by_cases h3 : q.Kind = 0
  ·
   obtain ⟨z1, z2⟩ := sqOk_zero hq h3
   rw [sel_pos (b := q.Kind == 0) (by simpa using h3), sel_pos (b := q.Kind == 0) (by simpa using h3), z1, z2, Int.add_zero, Int.add_zero]
   exact ⟨_, rfl, rfl, blkL_dots _ _ _⟩
  ·
   have h1 : q.Kind = 1 := by have := sqOk_kind hq; omega
   obtain ⟨_, _, hlv⟩ := sqOk_one hq h1
   obtain ⟨b, eb, b1, b2⟩ := spec_LevelsBack_ev q.Levels c hc hlv
   obtain ⟨j, ej, hj⟩ := spec_Joined_ev _ b (blkL_dots ref (l + x + q.Dx) (t + y + q.Dy)) b1 b2
   rw [sel_neg (b := q.Kind == 0) (by simpa using h3), sel_neg (b := q.Kind == 0) (by simpa using h3), LevelsBack_alike q.Levels c hc hlv, eb, bnd_s, bnd_s, sel_pos (b := q.Kind == 1) (by simpa using h1), bnd_s, Joined_alike _ b (blkL_dots _ _ _) b1 b2, ej, bnd_s]
   exact ⟨_, rfl, rfl, hj⟩
theorem req_swap {β : Type} {a b c : Prop} [Decidable a] [Decidable b] [Decidable c] (hb : b) (hc : c) (k : Option β) : req a (req b (req c k)) = req b (req c (req a k)) := by
 rw [req_p hb, req_p hc, req_p hb, req_p hc]
theorem dots_len {p : Pic} (ok : picOk p = true) : p.Dots.size ≤ 65536 := by
 obtain ⟨k1, k2, k3⟩ := picOk_parts ok
 have := area_small k1 k2
 omega
theorem put_alike {p : Pic} {x y : Int} {d : List Int} (hd : dots64 d = true) (hp : p.Dots.size ≤ maxLen) : impl_put p x y d = spec_l16Put p x y d := by
 obtain ⟨d1, d2⟩ := dots64_at hd
 unfold impl_put spec_l16Put impl_dots
 rw [req_p hp, bnd_s, req_p hp]
 have : impl_put_l2 p x y d = spec_l16Put_l2 p x y d := by
  funext v
  unfold impl_put_l2 spec_l16Put_l2
  simp only [show ((d.length : Nat) : Int) = 64 by omega]
  exact sel_c (fun _ => req_swap (by omega) (by omega) _) fun _ => rfl
 rw [this]
theorem map_const (n : Nat) (x : Int) : ((List.range n).map fun _ => x) = List.replicate n x := by
 apply List.ext_getElem
 ·
  simp
 ·
  intro i h1 h2; simp
theorem impl_Grey_eq (w h : Int) (hw : 1 ≤ w ∧ w ≤ 256) (hh : 1 ≤ h ∧ h ≤ 256) : impl_Grey w h = some ⟨w, h, strOfNums (List.replicate (w * h).toNat 128)⟩ := by
 have ar := area_small hw hh
 unfold impl_Grey
 rw [impl_within_eq, bnd_s, decide_eq_true hw, sel_t, impl_within_eq, bnd_s, decide_eq_true hh, Bool.not_true, bnd_s, sel_f, wk (e := w * h) (by omega) (by omega), req_p (by omega)]
 rw [place_loop (f := impl_Grey_l2 w h) (w * h).toNat (fun _ => 128) (List.replicate (w * h).toNat 0) (by simp) ?_ ?_, bnd_s, map_const]
 ·
  intro i s hi hs _
  unfold impl_Grey_l2
  simp only [List.length_replicate, Int.toNat_natCast]
  rw [wk (e := w * h) (by omega) (by omega), sel_yes (by omega), req_p (by omega), req_p (by omega), wk (by omega) (by omega)]
  rfl
 ·
  intro s hs
  unfold impl_Grey_l2
  simp only [List.length_replicate]
  rw [wk (e := w * h) (by omega) (by omega), sel_no (by omega)]
def holdsB (p : Pic) (r : Rect) : Bool := decide (1 ≤ r.Wide ∧ r.Wide ≤ p.Wide) && (decide (1 ≤ r.High ∧ r.High ≤ p.High) && (decide (0 ≤ r.Left ∧ r.Left ≤ p.Wide - r.Wide) && decide (0 ≤ r.Top ∧ r.Top ≤ p.High - r.High)))
theorem impl_holds_eq {p : Pic} (ok : picOk p = true) (r : Rect) : impl_Pic_holds p r = some (holdsB p r) := by
 obtain ⟨k1, k2, k3⟩ := picOk_parts ok
 unfold impl_Pic_holds holdsB
 rw [impl_within_eq, impl_within_eq, bnd_s, bnd_s]
 by_cases h1 : 1 ≤ r.Wide ∧ r.Wide ≤ p.Wide
 ·
  rw [decide_eq_true h1, sel_t, Bool.true_and]
  by_cases h2 : 1 ≤ r.High ∧ r.High ≤ p.High
  ·
   rw [decide_eq_true h2, sel_t, Bool.true_and, wk (e := p.Wide - r.Wide) (by omega) (by omega), wk (e := p.High - r.High) (by omega) (by omega), impl_within_eq, impl_within_eq, bnd_s, bnd_s, sel_and, bnd_s]
  ·
   rw [decide_eq_false h2, sel_f, Bool.false_and]; rfl
 ·
  rw [decide_eq_false h1, sel_f, Bool.false_and]; rfl
theorem holdsB_parts {p : Pic} {r : Rect} (h : holdsB p r = true) : (1 ≤ r.Wide ∧ r.Wide ≤ p.Wide) ∧ (1 ≤ r.High ∧ r.High ≤ p.High) ∧ (0 ≤ r.Left ∧ r.Left ≤ p.Wide - r.Wide) ∧ (0 ≤ r.Top ∧ r.Top ≤ p.High - r.High) := by
 unfold holdsB at h
 simp only [Bool.and_eq_true, decide_eq_true_eq] at h
 exact h
def cutRows (p : Pic) (r : Rect) : Nat → List Int
 | 0 => []
 | n + 1 => cutRows p r n ++ numsOf (p.Dots.extract ((r.Top + n) * p.Wide + r.Left).toNat ((r.Top + n) * p.Wide + r.Left + r.Wide).toNat)
theorem cut_row {p : Pic} {r : Rect} (ok : picOk p = true) (h : holdsB p r = true) (n : Nat) (hn : (n : Int) < r.High) : 0 ≤ (r.Top + n) * p.Wide ∧ (r.Top + n) * p.Wide + r.Left + r.Wide ≤ p.Dots.size ∧ (r.Top + n) * p.Wide ≤ 65536 ∧ (numsOf (p.Dots.extract ((r.Top + n) * p.Wide + r.Left).toNat ((r.Top + n) * p.Wide + r.Left + r.Wide).toNat)).length = r.Wide.toNat := by
 obtain ⟨k1, k2, k3⟩ := picOk_parts ok
 obtain ⟨a1, a2, a3, a4⟩ := holdsB_parts h
 have ar := area_small k1 k2
 have b1 : 0 ≤ (r.Top + n) * p.Wide := Int.mul_nonneg (by omega) (by omega)
 have b2 : (r.Top + n) * p.Wide ≤ (p.High - 1) * p.Wide := Int.mul_le_mul_of_nonneg_right (by omega) (by omega)
 have b3 : (p.High - 1) * p.Wide = p.Wide * p.High - p.Wide := by rw [Int.sub_mul, Int.one_mul, Int.mul_comm]
 refine ⟨b1, by omega, by omega, ?_⟩
 rw [numsOf_length, ByteArray.size_extract]
 omega
theorem cutRows_len {p : Pic} {r : Rect} (ok : picOk p = true) (h : holdsB p r = true) : ∀ n : Nat, (n : Int) ≤ r.High → ((cutRows p r n).length : Int) = n * r.Wide
 | 0, _ => by simp [cutRows]
 | n + 1, hn => by
  have a := holdsB_parts h
  have b := cut_row ok h n (by omega)
  rw [cutRows, List.length_append, Int.natCast_add, cutRows_len ok h n (by omega), b.2.2.2, Int.natCast_add, Int.add_mul]
  simp only [Int.natCast_one, Int.one_mul]
  omega
theorem cut_loop {p : Pic} {r : Rect} {f : Int × List Int → Option (Lp (Int × List Int) (List Int))} (ok : picOk p = true) (h : holdsB p r = true) (hf : f = spec_CutOf_l2 p r) : loop f (r.Top, []) = some (cutRows p r r.High.toNat) := by
 have hm : maxLen = 9223372036854775807 := rfl
 obtain ⟨k1, k2, k3⟩ := picOk_parts ok
 obtain ⟨a1, a2, a3, a4⟩ := holdsB_parts h
 subst hf
 have key : ∀ n : Nat, n ≤ r.High.toNat → loop (spec_CutOf_l2 p r) (r.Top + n, cutRows p r n) = some (cutRows p r r.High.toNat) := by
  refine down_to _ ?_ ?_
  ·
   refine ldone ?_
   unfold spec_CutOf_l2
   rw [wk (e := r.Top + r.High) (by omega) (by omega), sel_no (by simp only; omega)]
  ·
   intro n hn ih
   refine lgo (y := (r.Top + ((n + 1 : Nat) : Int), cutRows p r (n + 1))) ?_ ih
   obtain ⟨b1, b2, b3, b4⟩ := cut_row ok h n (by omega)
   have cl := cutRows_len ok h n (by omega)
   have cw : (n : Int) * r.Wide ≤ 256 * r.Wide := Int.mul_le_mul_of_nonneg_right (by omega) (by omega)
   unfold spec_CutOf_l2
   simp only
   rw [wk (e := r.Top + r.High) (by omega) (by omega), sel_yes (by omega), wk (e := (r.Top + n) * p.Wide) (by omega) (by omega), wk (e := (r.Top + n) * p.Wide + r.Left) (by omega) (by omega), wk (e := (r.Top + n) * p.Wide + r.Left + r.Wide) (by omega) (by omega), req_p (by omega), req_p (by rw [b4]; omega), wk (e := r.Top + n + 1) (by omega) (by omega), show r.Top + ((n + 1 : Nat) : Int) = r.Top + n + 1 by omega]
   rfl
 have := key 0 (by omega)
 simpa [cutRows] using this
def cutP (p : Pic) (r : Rect) : Pic := ⟨r.Wide, r.High, strOfNums (cutRows p r r.High.toNat)⟩
theorem cutP_ok {p : Pic} {r : Rect} (ok : picOk p = true) (h : holdsB p r = true) : picOk (cutP p r) = true := by
 obtain ⟨k1, k2, k3⟩ := picOk_parts ok
 obtain ⟨a1, a2, a3, a4⟩ := holdsB_parts h
 refine picOk_of (by show 1 ≤ r.Wide ∧ r.Wide ≤ 256; omega) (by show 1 ≤ r.High ∧ r.High ≤ 256; omega) ?_
 show ((strOfNums _).size : Int) = r.Wide * r.High
 rw [strOfNums_size, cutRows_len ok h _ (by omega), Int.mul_comm]
 congr 1; omega
theorem impl_CutOf_eq {p : Pic} {r : Rect} (ok : picOk p = true) (h : holdsB p r = true) : impl_CutOf p r = some (cutP p r, true) := by
 obtain ⟨k1, k2, k3⟩ := picOk_parts ok
 obtain ⟨a1, a2, a3, a4⟩ := holdsB_parts h
 have ar := area_small (w := r.Wide) (h := r.High) (by omega) (by omega)
 unfold impl_CutOf
 rw [impl_PicOk_eq, bnd_s, ok, sel_t, impl_holds_eq ok, bnd_s, h, Bool.not_true, bnd_s, sel_f, wk (e := r.Wide * r.High) (by omega) (by omega), req_p (by omega)]
 have := cut_loop (f := impl_CutOf_l2 p r) ok h rfl
 rw [show List.replicate (0 : Int).toNat (0 : Int) = [] from rfl, this, bnd_s]
 rfl
theorem impl_isTile_eq (n : Int) : impl_isTile n = some (sideB n) := by
 unfold impl_isTile sideB
 rw [req_p (by omega), impl_within_eq, bnd_s, sel_and, bnd_s, beq_dec]
theorem tile_place {w h : Int} (hw : sideB w = true) (hh : sideB h = true) (i : Nat) (hi : (i : Int) < w / 8 * (h / 8)) : (8 ≤ w ∧ w ≤ 64) ∧ (8 ≤ h ∧ h ≤ 64) ∧ 1 ≤ w / 8 ∧ w / 8 ≤ 8 ∧ 1 ≤ h / 8 ∧ h / 8 ≤ 8 ∧ 0 ≤ (i : Int) % (w / 8) * 8 ∧ (i : Int) % (w / 8) * 8 ≤ w - 8 ∧ 0 ≤ (i : Int) / (w / 8) * 8 ∧ (i : Int) / (w / 8) * 8 ≤ h - 8 := by
 unfold sideB at hw hh
 rw [Bool.and_eq_true, decide_eq_true_eq, decide_eq_true_eq] at hw hh
 rw [tmod_pos (by omega)] at hw hh
 have h1 : 1 ≤ w / 8 ∧ w / 8 ≤ 8 := by omega
 have h2 : 1 ≤ h / 8 ∧ h / 8 ≤ 8 := by omega
 have m0 : 0 ≤ (i : Int) % (w / 8) := Int.emod_nonneg _ (by omega)
 have m1 : (i : Int) % (w / 8) < w / 8 := Int.emod_lt_of_pos _ (by omega)
 have d0 : 0 ≤ (i : Int) / (w / 8) := Int.ediv_nonneg (by omega) (by omega)
 have d1 : (i : Int) / (w / 8) < h / 8 := Int.ediv_lt_of_lt_mul (by omega) (by rw [Int.mul_comm]; exact hi)
 exact ⟨hw.2, hh.2, h1.1, h1.2, h2.1, h2.2, by omega, by omega, by omega, by omega⟩
theorem sideB_parts {w : Int} (hw : sideB w = true) : w % 8 = 0 ∧ 8 ≤ w ∧ w ≤ 64 := by
 unfold sideB at hw
 rw [Bool.and_eq_true, decide_eq_true_eq, decide_eq_true_eq] at hw
 rw [tmod_pos (by omega)] at hw
 exact ⟨hw.1, hw.2⟩
theorem spec_l13Dots_eq (l : List Int) : spec_l13Dots l = some (dots64 l) := by
 unfold spec_l13Dots dots64
 by_cases h : l.length = 64
 ·
  rw [sel_neg (by simp only [bne_eq_false_iff_eq]; omega), all_loop dotIn l (spec_l13Dots_l2 l) (by
   intro i hi
   unfold spec_l13Dots_l2
   rw [sel_yes (by omega), req_p (by omega), spec_l01In_eq, bnd_s, wk (by omega) (by omega), Int.toNat_natCast]
   rfl) (by unfold spec_l13Dots_l2; rw [sel_no (by omega)]), bnd_s, decide_eq_true h, Bool.true_and]
  cases l.all dotIn <;> rfl
 ·
  rw [sel_pos (by simp only [bne_iff_ne, ne_eq]; omega), decide_eq_false h, Bool.false_and]
theorem ue_small (m : Int) (h : 0 ≤ m ∧ m ≤ 3) : ∃ s, impl_UeSize m = some s ∧ spec_UeSize m = some s := by
 have e1 : spec_UeSize m = some (((strOfNums (ueL m.toNat)).size : Nat) : Int) := by
  unfold spec_UeSize spec_UeRow
  rw [spec_l01In_eq, bnd_s, decide_eq_true (by omega), Bool.not_true, sel_f]
  have : spec_l03Ue m = some (strOfNums (ueL m.toNat)) := by
   have := spec_l03Ue_eq m.toNat (by omega)
   rwa [show ((m.toNat : Nat) : Int) = m by omega] at this
  rw [this, bnd_s, bnd_s]
 have e2 : impl_UeSize m = some (((strOfNums (ueL m.toNat)).size : Nat) : Int) := by
  unfold impl_UeSize impl_UeRow
  rw [impl_within_eq, bnd_s, decide_eq_true (by omega), Bool.not_true, sel_f]
  have : impl_ue m = some (strOfNums (ueL m.toNat)) := by
   have := impl_ue_eq m.toNat (by omega)
   rwa [show ((m.toNat : Nat) : Int) = m by omega] at this
  rw [this, bnd_s, bnd_s]
 exact ⟨_, e2, e1⟩
theorem BestGuess_alike {w : List Int} (hw : dots64 w = true) {e : Edges} (h : edgesP e) : impl_BestGuess w e = spec_BestGuess w e := by
 have hwl := (dots64_at hw).1
 unfold impl_BestGuess spec_BestGuess
 rw [EdgesOk_yes h, spec_EdgesOk_yes h, impl_areDots_eq w (by omega), spec_l13Dots_eq, hw]
 have : loop (impl_BestGuess_l2 w e) (0, -1, 0) = loop (spec_BestGuess_l2 w e) (0, -1, 0) := by
  refine loop_congr (fun v => 0 ≤ v.2.2 ∧ v.2.2 ≤ 4) ?_ ?_ (by simp)
  ·
   intro ⟨m, c, i⟩ ⟨h1, h2⟩
   simp only at h1 h2
   unfold impl_BestGuess_l2 spec_BestGuess_l2
   simp only
   by_cases hi : i < 4
   ·
    obtain ⟨g, eg, hg⟩ := spec_GuessOf_ev i ⟨h1, by omega⟩ h
    obtain ⟨s, e1, e2⟩ := ue_small i ⟨h1, by omega⟩
    rw [sel_yes (show i ≤ 3 by omega), sel_yes hi, GuessOf_alike i ⟨h1, by omega⟩ h, eg, bnd_s, bnd_s, impl_gap_eq hw hg, spec_GapOf_eq hw hg, bnd_s, bnd_s, e1, e2]
   ·
    rw [sel_no (show ¬ i ≤ 3 by omega), sel_no hi]
  ·
   intro ⟨m, c, i⟩ v' ⟨h1, h2⟩ he
   simp only at h1 h2
   unfold spec_BestGuess_l2 at he
   rcases sel_some he with ⟨hb, he⟩ | ⟨_, he⟩
   ·
    have hi := of_decide_eq_true hb
    simp only at hi
    obtain ⟨q, _, he⟩ := bnd_some he
    injection he with he
    injection he with he
    subst he
    simp only
    rw [wk (by omega) (by omega)]; omega
   ·
    cases he
 simp only [bnd_s, sel_t, Bool.not_true, sel_f, this]
theorem BestMove_alike {p : Pic} {w : List Int} {x y r : Int} (ok : picOk p = true) (hw : dots64 w = true) (hr : 0 ≤ r ∧ r ≤ 4) (hx : x.tmod 8 = 0) (hy : y.tmod 8 = 0) (h0 : heldAt p x y = true) : impl_BestMove p w x y r = spec_BestMove p w x y r := by
 obtain ⟨k1, k2, k3⟩ := picOk_parts ok
 have hwl := (dots64_at hw).1
 have h0' := h0
 unfold heldAt at h0'
 rw [decide_eq_true_eq] at h0'
 unfold impl_BestMove spec_BestMove
 rw [impl_PicOk_eq, bnd_s, ok, sel_t, impl_areDots_eq w (by omega), bnd_s, hw, sel_t, impl_within_eq, bnd_s, decide_eq_true hr, sel_t, impl_isSquare_eq ok x y hx hy h0, bnd_s, Bool.not_true, bnd_s, sel_f]
 rw [spec_l13Dots_yes w hw, bnd_s, sel_t, spec_l01In_eq, bnd_s, decide_eq_true hr, sel_t, spec_l13Fits_yes ok hx hy h0, bnd_s, Bool.not_true, bnd_s, sel_f, wk (e := 0 - r) (by omega) (by omega)]
 refine bnd_c ?_ fun _ _ => rfl
 refine loop_congr (fun s => -r ≤ s.2.2.2 ∧ s.2.2.2 ≤ r + 1) ?_ ?_ (by simp only; omega)
 ·
  intro s ⟨g1, g2⟩
  unfold impl_BestMove_l12 spec_BestMove_l12
  refine sel_c (fun hs => ?_) fun _ => rfl
  have hs := of_decide_eq_true hs
  rw [wk (e := 0 - r) (by omega) (by omega)]
  refine bnd_c ?_ fun _ _ => rfl
  refine loop_congr (fun v => -r ≤ v.2.2.2 ∧ v.2.2.2 ≤ r + 1) ?_ ?_ (by simp only; omega)
  ·
   intro v ⟨f1, f2⟩
   unfold impl_BestMove_l14 spec_BestMove_l14
   refine sel_c (fun hv => ?_) fun _ => rfl
   have hv := of_decide_eq_true hv
   rw [wk (e := x + v.2.2.2) (by omega) (by omega), wk (e := y + s.2.2.2) (by omega) (by omega), impl_holds_8 ok, spec_l12Within_8 ok, bnd_s, bnd_s]
   refine bnd_c ?_ fun _ _ => rfl
   refine sel_c (fun _ => rfl) fun _ => ?_
   have hb := blkL_dots p (x + v.2.2.2) (y + s.2.2.2)
   rw [spec_BlockOf_eq ok _ _ (by omega) (by omega), impl_block_eq ok _ _ (by omega) (by omega), bnd_s, bnd_s, spec_GapOf_eq hw hb, impl_gap_eq hw hb, bnd_s, bnd_s, spec_SeSize_ev _ (by omega), impl_SeSize_eq _ (by omega), bnd_s, bnd_s, spec_SeSize_ev _ (by omega), impl_SeSize_eq _ (by omega), bnd_s]
  ·
   intro v v' ⟨f1, f2⟩ he
   unfold spec_BestMove_l14 at he
   rcases sel_some he with ⟨hb, he⟩ | ⟨_, he⟩
   ·
    have hi := of_decide_eq_true hb
    obtain ⟨q, _, he⟩ := bnd_some he
    injection he with he
    injection he with he
    subst he
    simp only
    rw [wk (by omega) (by omega)]; omega
   ·
    cases he
 ·
  intro s v' ⟨g1, g2⟩ he
  unfold spec_BestMove_l12 at he
  rcases sel_some he with ⟨hb, he⟩ | ⟨_, he⟩
  ·
   have hi := of_decide_eq_true hb
   obtain ⟨q, _, he⟩ := bnd_some he
   injection he with he
   injection he with he
   subst he
   simp only
   rw [wk (by omega) (by omega)]; omega
  ·
   cases he
def lessL (a b : List Int) : List Int := (List.range 64).map fun i => a.getD i 0 - b.getD i 0
theorem lessL_len (a b : List Int) : (lessL a b).length = 64 := by simp [lessL]
theorem lessL_at (a b : List Int) {i : Nat} (hi : i < 64) : (lessL a b).getD i 0 = a.getD i 0 - b.getD i 0 := getD_map _ hi
theorem lessL_in {a b : List Int} (ha : dots64 a = true) (hb : dots64 b = true) : inB 255 (lessL a b) := by
 intro x hx
 obtain ⟨i, hi, rfl⟩ := List.mem_map.1 hx
 rw [List.mem_range] at hi
 have p := (dots64_at ha).2 i hi
 have q := (dots64_at hb).2 i hi
 omega
theorem less_loop {a b : List Int} (ha : dots64 a = true) (hb : dots64 b = true) {f : Int × List Int → Option (Lp (Int × List Int) (List Int))} (hf : ∀ v, f v = sel (decide (v.1 < 64)) (req (0 ≤ v.1 ∧ v.1 < a.length) <| req (0 ≤ v.1 ∧ v.1 < b.length) <| req ((v.2.length + ([wrapK .i64 ((a.getD v.1.toNat 0) - (b.getD v.1.toNat 0))]).length) * 8 ≤ 140737488355328 ∧ v.2.length + ([wrapK .i64 ((a.getD v.1.toNat 0) - (b.getD v.1.toNat 0))]).length ≤ maxLen) <| some (.go (wrapK .i64 (v.1 + 1), (v.2 ++ ([wrapK .i64 ((a.getD v.1.toNat 0) - (b.getD v.1.toNat 0))]))))) (some (.done v.2))) : loop f (0, []) = some (lessL a b) := by
 have hm : maxLen = 9223372036854775807 := rfl
 obtain ⟨a1, a2⟩ := dots64_at ha
 obtain ⟨b1, b2⟩ := dots64_at hb
 have := app_loop (f := f) 64 (fun i => a.getD i 0 - b.getD i 0) [] (by
  intro i hi
  have x := a2 i hi
  have y := b2 i hi
  rw [hf]
  simp only [Int.toNat_natCast]
  rw [sel_yes (by omega), req_p (by omega), req_p (by omega), req_p (by simp only [List.length_append, List.length_nil, List.length_map, List.length_range, List.length_singleton]; omega), wk (e := a.getD i 0 - b.getD i 0) (by omega) (by omega), wk (e := (i : Int) + 1) (by omega) (by omega)]
  rfl) (by rw [hf, sel_no (by simp)])
 rw [List.nil_append] at this
 exact this
theorem impl_lessened_eq {a b : List Int} (ha : dots64 a = true) (hb : dots64 b = true) : impl_lessened a b = some (lessL a b) := by
 have a1 := (dots64_at ha).1
 unfold impl_lessened
 rw [less_loop ha hb (f := impl_lessened_l2 a b) (fun v => by unfold impl_lessened_l2; rw [show ((a.length : Nat) : Int) = 64 by omega]), bnd_s]
theorem spec_l17Less_eq {a b : List Int} (ha : dots64 a = true) (hb : dots64 b = true) : spec_l17Less a b = some (lessL a b) := by
 have a1 := (dots64_at ha).1
 unfold spec_l17Less
 rw [less_loop ha hb (f := spec_l17Less_l2 a b) (fun v => by unfold spec_l17Less_l2; rw [show ((a.length : Nat) : Int) = 64 by omega]), bnd_s]
theorem spec_l17Zero_eq (l : List Int) (hl : l.length ≤ 1000000) : spec_l17Zero l = some (l.all fun x => x == 0) := by
 unfold spec_l17Zero
 rw [all_loop (fun x => x == 0) l (spec_l17Zero_l2 l) (by
  intro i hi
  unfold spec_l17Zero_l2
  rw [sel_yes (by omega), req_p (by omega), Int.toNat_natCast, wk (by omega) (by omega)]
  rfl) (by unfold spec_l17Zero_l2; rw [sel_no (by omega)]), bnd_s]
 cases l.all (fun x => x == 0) <;> rfl
theorem gap_zero {a b : List Int} (ha : dots64 a = true) (hb : dots64 b = true) : (gapTo a b 64 == 0) = ((lessL a b).all fun x => x == 0) := by
 have key : ∀ n : Nat, n ≤ 64 → (gapTo a b n = 0 ↔ ∀ i, i < n → a.getD i 0 - b.getD i 0 = 0) := by
  intro n
  induction n with
  | zero => intro _; exact ⟨fun _ i hi => by omega, fun _ => rfl⟩
  | succ n ih =>
   intro hn
   have g := gapTo_bounds ha hb n (by omega)
   have e : gapTo a b (n + 1) = gapTo a b n + absI (a.getD n 0 - b.getD n 0) := rfl
   have ab : 0 ≤ absI (a.getD n 0 - b.getD n 0) ∧ (absI (a.getD n 0 - b.getD n 0) = 0 ↔ a.getD n 0 - b.getD n 0 = 0) := by unfold absI; split <;> omega
   rw [e]
   constructor
   ·
    intro h i hi
    rcases Nat.lt_or_ge i n with h1 | h1
    ·
     exact (ih (by omega)).1 (by omega) i h1
    ·
     have : i = n := by omega
     subst this
     exact ab.2.1 (by omega)
   ·
    intro h
    have h1 := (ih (by omega)).2 fun i hi => h i (by omega)
    have h2 := ab.2.2 (h n (by omega))
    omega
 rw [Bool.eq_iff_iff, beq_iff_eq, List.all_eq_true, key 64 (by omega)]
 constructor
 ·
  intro h x hx
  obtain ⟨i, hi, rfl⟩ := List.mem_map.1 hx
  rw [List.mem_range] at hi
  rw [beq_iff_eq]; exact h i hi
 ·
  intro h i hi
  have := h ((lessL a b).getD i 0) (by rw [getD_at _ i (by rw [lessL_len]; exact hi)]; exact List.getElem_mem _)
  rw [beq_iff_eq, lessL_at a b hi] at this
  exact this
theorem areZero_eq (l : List Int) (hl : l.length = 64) : impl_areIn l 64 0 0 = some (l.all fun x => x == 0) := by
 rw [impl_areIn_eq l 64 0 0 (by omega), show ((l.length : Int) == 64) = true by rw [beq_iff_eq]; omega, Bool.and_true]
 congr 2
 funext x
 rw [Bool.eq_iff_iff, decide_eq_true_eq, beq_iff_eq]; omega
structure SfIn (now ref : Pic) (w : List Int) (x y : Int) (c : Cond) (r : Int) : Prop where
 ok : picOk now = true
 hx : x.tmod 8 = 0
 hy : y.tmod 8 = 0
 h0 : heldAt now x y = true
 hw : dots64 w = true
 hc : condOk c = true
 hr : 0 ≤ r ∧ r ≤ 4
 hk : c.Key = false → picOk ref = true ∧ ref.Wide = now.Wide ∧ ref.High = now.High
inductive Chosen (now ref : Pic) (w : List Int) (x y : Int) (c : Cond) (r : Int) : Square → Prop
 | same (hK : c.Key = false) (h : ∀ i : Nat, i < 64 → w.getD i 0 = (blkL ref x y 64).getD i 0) : Chosen now ref w x y c r ⟨0, 0, 0, 0, []⟩
 | still (hK : c.Key = false) (l : List Int) (h : spec_LevelsOf (lessL w (blkL ref x y 64)) c = some (l, true)) (hl : lv64 l = true) (hz : ∀ i : Nat, i < 64 → l.getD i 0 = 0) : Chosen now ref w x y c r ⟨0, 0, 0, 0, []⟩
 | move (hK : c.Key = false) (dx dy : Int) (hdx : -r ≤ dx ∧ dx ≤ r) (hdy : -r ≤ dy ∧ dy ≤ r) (hh : heldAt ref (x + dx) (y + dy) = true) (l : List Int) (h : spec_LevelsOf (lessL w (blkL ref (x + dx) (y + dy) 64)) c = some (l, true)) (hl : lv64 l = true) (hn : ¬ ∀ i : Nat, i < 64 → w.getD i 0 = (blkL ref x y 64).getD i 0) : Chosen now ref w x y c r ⟨1, 0, dx, dy, l⟩
 | guess (e : Edges) (he : spec_EdgesOf now x y = some (e, true)) (hp : edgesP e) (m : Int) (hm : 0 ≤ m ∧ m ≤ 3) (g : List Int) (hg : spec_GuessOf m e = some g) (hd : dots64 g = true) (l : List Int) (h : spec_LevelsOf (lessL w g) c = some (l, true)) (hl : lv64 l = true) (hn : c.Key = false → ¬ ∀ i : Nat, i < 64 → w.getD i 0 = (blkL ref x y 64).getD i 0) : Chosen now ref w x y c r ⟨2, m, 0, 0, l⟩
theorem Chosen.ok {now ref : Pic} {w : List Int} {x y : Int} {c : Cond} {r : Int} {q : Square} (hr : 0 ≤ r ∧ r ≤ 4) (h : Chosen now ref w x y c r q) : sqOk q = true ∧ sqLet q c = true ∧ q.Levels.length ≤ 64 := by
 cases h with
 | same hK _ => exact ⟨rfl, by unfold sqLet; rw [hK]; rfl, by simp⟩
 | still hK l _ _ _ => exact ⟨rfl, by unfold sqLet; rw [hK]; rfl, by simp⟩
 | move hK dx dy hdx hdy hh l h hl hn => exact ⟨sqOk_move (by omega) (by omega) hl, by unfold sqLet; rw [hK]; rfl, by simp only; have := (lv64_in hl).1; omega⟩
 | guess e he hp m hm g hg hd l h hl hn => exact ⟨sqOk_guess hm hl, by unfold sqLet; simp, by simp only; have := (lv64_in hl).1; omega⟩
theorem zero_all {l : List Int} (hl : l.length = 64) : (l.all fun x => x == 0) = true ↔ ∀ i : Nat, i < 64 → l.getD i 0 = 0 := by
 rw [List.all_eq_true]
 constructor
 ·
  intro h i hi
  have := h (l.getD i 0) (by rw [getD_at l i (by omega)]; exact List.getElem_mem _)
  rwa [beq_iff_eq] at this
 ·
  intro h x hx
  obtain ⟨i, hi, rfl⟩ := List.getElem_of_mem hx
  rw [beq_iff_eq, ← getD_at l i hi 0]
  exact h i (by omega)
theorem BestMove_both {p : Pic} {w : List Int} {x y r : Int} (ok : picOk p = true) (hw : dots64 w = true) (hr : 0 ≤ r ∧ r ≤ 4) (hx : x.tmod 8 = 0) (hy : y.tmod 8 = 0) (h0 : heldAt p x y = true) :
  ∃ b, impl_BestMove p w x y r = some b ∧ spec_BestMove p w x y r = some b ∧ (-r ≤ b.1 ∧ b.1 ≤ r) ∧ (-r ≤ b.2.1 ∧ b.2.1 ≤ r) ∧ heldAt p (x + b.1) (y + b.2.1) = true := by
 obtain ⟨b, e, h1, h2, h3, _⟩ := impl_BestMove_ev ok hw hr hx hy h0
 exact ⟨b, e, by rw [← BestMove_alike ok hw hr hx hy h0]; exact e, h1, h2, h3⟩
theorem SquareFor_yes {now ref : Pic} {w : List Int} {x y : Int} {c : Cond} {r : Int} (H : SfIn now ref w x y c r) : ∃ q d, impl_SquareFor now ref w x y c r = some (q, d, true) ∧ spec_SquareFor now ref w x y c r = some (q, d, true) ∧ Chosen now ref w x y c r q ∧ impl_SquareDots now ref 0 0 c x y q = some (d, true) ∧ dots64 d = true := by
 obtain ⟨ok, hx, hy, h0, hw, hc, hr, hk⟩ := H
 have hwl := (dots64_at hw).1
 obtain ⟨e, ee, he⟩ := spec_EdgesOf_ev ok hx hy h0
 obtain ⟨m, co, eb, hm⟩ := spec_BestGuess_ev hw he
 obtain ⟨g, eg, hg⟩ := spec_GuessOf_ev m hm he
 obtain ⟨l, el, hl⟩ := spec_LevelsOf_ev (lessL w g) c hc (lessL_len w g) (lessL_in hw hg)
 have hh := h0
 unfold heldAt at hh
 rw [decide_eq_true_eq] at hh
 obtain ⟨k1, k2, k3⟩ := picOk_parts ok
 -- the square
 have main : ∃ q, Chosen now ref w x y c r q ∧ spec_l17Square now ref w x y c r = some q ∧
   (sel (!c.Key) (bnd (impl_Pic_block ref x y) fun q15 => bnd (impl_gap w q15) fun q16 => sel (q16 == 0) (some ((0 : Int), (0 : Int), (0 : Int), (0 : Int), ([] : List Int))) (bnd (impl_BestMove ref w x y r) fun q17 => sel (decide (q17.2.2 ≤ co)) (bnd (impl_Pic_block ref (wrapK .i64 (x + q17.1)) (wrapK .i64 (y + q17.2.1))) fun q18 => bnd (impl_lessened w q18) fun q19 => bnd (impl_LevelsOf q19 c) fun q20 =>
    bnd (sel (q17.1 == 0) (sel (q17.2.1 == 0) (bnd (impl_areIn q20.1 64 0 0) fun q22 => some q22) (some false)) (some false)) fun v21 => sel v21 (some (0, 0, 0, 0, [])) (some (1, 0, q17.1, q17.2.1, q20.1))) (some (2, m, 0, 0, l)))) (some (2, m, 0, 0, l))) = some (q.Kind, q.Mode, q.Dx, q.Dy, q.Levels) := by
  unfold spec_l17Square
  cases hK : c.Key with
  | true =>
   refine ⟨⟨2, m, 0, 0, l⟩, .guess e ee he m hm g eg hg l el hl (fun h => by rw [hK] at h; cases h), ?_, rfl⟩
   rw [sel_t, bnd_s, sel_f, ee, bnd_s, eb, bnd_s, Bool.not_true]
   simp only [joinK, sel_f, eg, bnd_s, spec_l17Less_eq hw hg, el]
  | false =>
   obtain ⟨rok, rw', rh⟩ := hk hK
   have hb := blkL_dots ref x y
   have r0 : heldAt ref x y = true := by unfold heldAt; rw [decide_eq_true_eq, rw', rh]; exact hh
   have gz := gap_zero hw hb
   have lz := zero_all (lessL_len w (blkL ref x y 64))
   rw [Bool.not_false, sel_t, sel_f, impl_block_eq rok x y (by omega) (by omega), bnd_s, impl_gap_eq hw hb, bnd_s, spec_BlockOf_eq rok x y (by omega) (by omega), bnd_s, spec_l17Less_eq hw hb, bnd_s, spec_l17Zero_eq _ (by rw [lessL_len]; omega), bnd_s, bnd_s, gz]
   cases hz : ((lessL w (blkL ref x y 64)).all fun x => x == 0) with
   | true =>
    refine ⟨⟨0, 0, 0, 0, []⟩, .same hK fun i hi => ?_, rfl, rfl⟩
    have := lz.1 hz i hi
    rw [lessL_at _ _ hi] at this; omega
   | false =>
    have hne : ¬ ∀ i : Nat, i < 64 → w.getD i 0 = (blkL ref x y 64).getD i 0 := fun hall => by
     have := lz.2 fun i hi => by rw [lessL_at _ _ hi, hall i hi]; omega
     rw [hz] at this; cases this
    obtain ⟨b, bi, bs, b1, b2, b3⟩ := BestMove_both rok hw hr hx hy r0
    rw [sel_f, sel_f, ee, bnd_s, eb, bnd_s, bi, bnd_s]
    simp only [joinK, sel_t, bs, bnd_s]
    by_cases hco : b.2.2 ≤ co
    ·
     have hb2 := blkL_dots ref (x + b.1) (y + b.2.1)
     obtain ⟨l2, el2, hl2⟩ := spec_LevelsOf_ev (lessL w (blkL ref (x + b.1) (y + b.2.1) 64)) c hc (lessL_len _ _) (lessL_in hw hb2)
     have hl2n := (lv64_in hl2).1
     rw [sel_yes hco, sel_yes hco, wk (e := x + b.1) (by omega) (by omega), wk (e := y + b.2.1) (by omega) (by omega), spec_BlockOf_eq rok _ _ (by omega) (by omega), impl_block_eq rok _ _ (by omega) (by omega), bnd_s, bnd_s, impl_lessened_eq hw hb2, spec_l17Less_eq hw hb2, bnd_s, bnd_s, LevelsOf_alike _ c hc (lessL_len _ _) (lessL_in hw hb2), el2, bnd_s, bnd_s, areZero_eq l2 hl2n, bnd_s, spec_l17Zero_eq l2 (by omega), bnd_s]
     simp only [sel_and, bnd_s]
     cases hst : (b.1 == 0 && (b.2.1 == 0 && l2.all fun x => x == 0)) with
     | true =>
      simp only [Bool.and_eq_true, beq_iff_eq] at hst
      obtain ⟨z1, z2, z3⟩ := hst
      rw [z1, z2, Int.add_zero, Int.add_zero] at el2
      exact ⟨⟨0, 0, 0, 0, []⟩, .still hK l2 el2 hl2 ((zero_all hl2n).1 z3), rfl, rfl⟩
     | false => exact ⟨⟨1, 0, b.1, b.2.1, l2⟩, .move hK b.1 b.2.1 b1 b2 b3 l2 el2 hl2 hne, rfl, rfl⟩
    ·
     rw [sel_no hco, sel_no hco]
     refine ⟨⟨2, m, 0, 0, l⟩, .guess e ee he m hm g eg hg l el hl (fun _ => hne), ?_, rfl⟩
     simp only [eg, bnd_s, spec_l17Less_eq hw hg, el]
 obtain ⟨q, hq, es, ei⟩ := main
 obtain ⟨q1, q2, q3⟩ := hq.ok hr
 obtain ⟨d, di, ds, hd⟩ := SquareDots_both (now := now) (ref := ref) (l := 0) (t := 0) (x := x) (y := y) (c := c) (q := q) ⟨ok, hx, hy, h0, by omega, by omega, hc, by omega⟩ q1 q2 (fun h => (hk h).1)
 refine ⟨q, d, ?_, ?_, hq, di, hd⟩
 ·
  unfold impl_SquareFor
  have hl7 : (sel c.Key (some false) (bnd (impl_PicOk ref) fun q8 => sel q8 (sel (ref.Wide != now.Wide) (some true) (some (ref.High != now.High))) (some true))) = some false := by
   cases hK : c.Key with
   | true => rfl
   | false =>
    obtain ⟨a1, a2, a3⟩ := hk hK
    rw [sel_f, impl_PicOk_eq, bnd_s, a1, a2, a3, sel_t, bne_self_eq_false, sel_f, bne_self_eq_false]
  rw [impl_PicOk_eq, bnd_s, ok, sel_t, isSquare_yes ok hx hy h0, bnd_s, sel_t, impl_areDots_eq w (by omega), bnd_s, hw, sel_t, impl_CondOk_eq, bnd_s, hc, sel_t, impl_within_eq, bnd_s, decide_eq_true hr, Bool.not_true, bnd_s, sel_f, hl7, bnd_s, sel_f, EdgesOf_alike ok hx hy h0, ee, bnd_s, BestGuess_alike hw he, eb, bnd_s, GuessOf_alike m hm he, eg, bnd_s, impl_lessened_eq hw hg, bnd_s, LevelsOf_alike _ c hc (lessL_len _ _) (lessL_in hw hg), el, bnd_s]
  simp only
  rw [ei, bnd_s]
  simp only
  rw [show (⟨q.Kind, q.Mode, q.Dx, q.Dy, q.Levels⟩ : Square) = q from rfl, di, bnd_s]
  rfl
 ·
  unfold spec_SquareFor
  have hl7 : (sel c.Key (some false) (bnd (spec_l17Like now ref) fun q6 => some (!q6))) = some false := by
   cases hK : c.Key with
   | true => rfl
   | false =>
    obtain ⟨a1, a2, a3⟩ := hk hK
    rw [sel_f, spec_l17Like_eq, bnd_s, likeB_of ok a1 a2 a3]; rfl
  rw [spec_l13Fits_yes ok hx hy h0, bnd_s, sel_t, spec_l13Dots_yes w hw, bnd_s, sel_t, spec_CondOk_eq, bnd_s, hc, sel_t, spec_l01In_eq, bnd_s, decide_eq_true hr, sel_t, hl7, bnd_s, sel_f, es, bnd_s, ds, bnd_s]
theorem scan8_all : ∀ j : Fin 64, ∃ i : Fin 64, (scanL 8).getD i.val 0 = (j.val : Int) := by decide +kernel
theorem scan8_sur (j : Nat) (hj : j < 64) : ∃ i : Nat, i < 64 ∧ scanPlace 8 i = (j : Int) := by
 obtain ⟨i, hi⟩ := scan8_all ⟨j, hj⟩
 refine ⟨i.val, i.isLt, ?_⟩
 rw [← scanL_at8 i]; exact hi
def scanned8 (l : List Int) : List Int := (List.range 64).map fun (i : Nat) => l.getD (scanPlace 8 i).toNat 0
theorem spec_Scanned_8 (l : List Int) (hl : l.length = 64) : spec_Scanned 8 l = some (scanned8 l, true) := by
 have hm : maxLen = 9223372036854775807 := rfl
 have hw : wrapK .i64 (8 * 8) = 64 := wk (by omega) (by omega)
 unfold spec_Scanned
 have hc : (sel ((8 : Int) != 4) (sel ((8 : Int) != 8) (some true) (some ((l.length : Int) != (wrapK .i64 (8 * 8))))) (some ((l.length : Int) != (wrapK .i64 (8 * 8))))) = some false := by
  rw [hw, hl]; rfl
 have := app_loop (f := spec_Scanned_l2 8 l) 64 (fun i => l.getD (scanPlace 8 i).toNat 0) [] (by
  intro i hi
  have hp := scanPlace_in 8 (Or.inr rfl) i (by omega)
  unfold spec_Scanned_l2
  simp only
  rw [hw, sel_yes (by omega), spec_ScanAt_ev 8 (Or.inr rfl) i (by omega), bnd_s, req_p (by omega), req_p (by simp only [List.length_append, List.length_nil, List.length_map, List.length_range, List.length_singleton]; omega), wk (by omega) (by omega)]
  rfl) (by unfold spec_Scanned_l2; rw [hw, sel_no (by simp)])
 rw [List.nil_append] at this
 rw [hc, bnd_s, sel_f, this, bnd_s]
 rfl
theorem scanned8_at (l : List Int) {i : Nat} (hi : i < 64) : (scanned8 l).getD i 0 = l.getD (scanPlace 8 i).toNat 0 := getD_map _ hi
theorem unscan_scan (p : List Int) (hp : p.length = 64) : spec_Unscanned 8 (scanned8 p) = some (p, true) := by
 have hw : wrapK .i64 (8 * 8) = 64 := wk (by omega) (by omega)
 have hl : (scanned8 p).length = 64 := by simp [scanned8]
 unfold spec_Unscanned
 have hc : (sel ((8 : Int) != 4) (sel ((8 : Int) != 8) (some true) (some (((scanned8 p).length : Int) != (wrapK .i64 (8 * 8))))) (some (((scanned8 p).length : Int) != (wrapK .i64 (8 * 8))))) = some false := by
  rw [hw, hl]; rfl
 rw [hc, bnd_s, sel_f, req_p (by omega), Int.toNat_natCast]
 obtain ⟨o, e, h1, h2⟩ := st_loop2 (f := spec_Unscanned_l2 8 (scanned8 p)) 64 (fun i s => s.length = 64 ∧ ∀ j : Nat, j < i → s.getD (scanPlace 8 j).toNat 0 = p.getD (scanPlace 8 j).toNat 0) (by
  intro i s hi ⟨g1, g2⟩
  have hp := scanPlace_in 8 (Or.inr rfl) i (by omega)
  unfold spec_Unscanned_l2
  simp only
  rw [hw, sel_yes (by omega), spec_ScanAt_ev 8 (Or.inr rfl) i (by omega), bnd_s, req_p (by omega), req_p (by omega), req_p (by omega), wk (by omega) (by omega), Int.toNat_natCast, scanned8_at p hi]
  refine ⟨_, rfl, by rw [List.length_set]; exact g1, fun j hj => ?_⟩
  rw [getD_set_at _ _ _ _ (by omega)]
  by_cases h : (scanPlace 8 i).toNat = (scanPlace 8 j).toNat
  ·
   rw [if_pos h, h]
  ·
   rw [if_neg h]
   have : j ≠ i := fun e => h (by rw [e])
   exact g2 j (by omega)) (fun s _ => by unfold spec_Unscanned_l2; rw [hw, sel_no (by simp)]) (List.replicate (scanned8 p).length 0) ⟨by rw [List.length_replicate]; exact hl, fun j hj => by omega⟩
 rw [e, bnd_s]
 congr 2
 refine list_eq h1 hp fun j hj => ?_
 obtain ⟨i, hi, hs⟩ := scan8_sur j hj
 have := h2 i hi
 rwa [hs, Int.toNat_natCast] at this
theorem exact_back {p l : List Int} {c : Cond} (hc : condOk c = true) (hE : c.Exact = true) (hp : p.length = 64) (hb : inB 255 p) (h : spec_LevelsOf p c = some (l, true)) (hl : lv64 l = true) : spec_LevelsBack l c = some (p, true) ∧ l = scanned8 p := by
 have e : l = scanned8 p := by
  unfold spec_LevelsOf at h
  rw [spec_CondOk_eq, bnd_s, hc, sel_t, l09All_yes p 64 255 (by omega) (by omega) (by omega) hb, bnd_s, Bool.not_true, bnd_s, sel_f, hE, sel_t, spec_Scanned_8 p hp, bnd_s] at h
  injection h with h
  injection h with h _
  exact h.symm
 refine ⟨?_, e⟩
 obtain ⟨l1, l2⟩ := lv64_in hl
 unfold spec_LevelsBack
 rw [spec_CondOk_eq, bnd_s, hc, sel_t, l09All_yes l 64 5000 (by omega) (by omega) (by omega) l2, bnd_s, Bool.not_true, bnd_s, sel_f, hE, sel_t, e, unscan_scan p hp, bnd_s]
def joinedL (g b : List Int) : List Int := (List.range 64).map fun i => brought (g.getD i 0 + b.getD i 0) 0 255
theorem spec_Joined_eq (g b : List Int) (hg : dots64 g = true) (hl : b.length = 64) (hb : inB 10000000 b) : spec_Joined g b = some (joinedL g b) := by
 have hm : maxLen = 9223372036854775807 := rfl
 obtain ⟨g1, g2⟩ := dots64_at hg
 unfold spec_Joined
 rw [spec_l13Dots_yes g hg, bnd_s, sel_t, l09All_yes b 64 10000000 (by omega) (by omega) (by omega) hb, bnd_s, Bool.not_true, bnd_s, sel_f]
 have := app_loop (f := spec_Joined_l2 g b) 64 (fun i => brought (g.getD i 0 + b.getD i 0) 0 255) [] (by
  intro i hi
  have ha := inB_at hb (i := i) (by omega)
  have hd := g2 i hi
  unfold spec_Joined_l2
  simp only [Int.toNat_natCast]
  rw [sel_yes (by omega), req_p (by omega), req_p (by omega), wk (e := g.getD i 0 + b.getD i 0) (by omega) (by omega), spec_Brought_eq, bnd_s, req_p (by simp only [List.length_append, List.length_nil, List.length_map, List.length_range, List.length_singleton]; omega), wk (e := (i : Int) + 1) (by omega) (by omega)]
  rfl) (by unfold spec_Joined_l2; rw [sel_no (by simp)])
 rw [List.nil_append] at this
 rw [this, bnd_s]; rfl
theorem brought_is {n : Int} (h : 0 ≤ n ∧ n ≤ 255) : brought n 0 255 = n := by
 unfold brought
 repeat' split
 all_goals omega
theorem joined_less {w g : List Int} (hw : dots64 w = true) : joinedL g (lessL w g) = w := by
 obtain ⟨w1, w2⟩ := dots64_at hw
 refine list_eq (by simp [joinedL]) w1 fun i hi => ?_
 have := w2 i hi
 rw [joinedL, getD_map _ hi, lessL_at _ _ hi, brought_is (by omega)]; omega
theorem SquareDots_val {now ref : Pic} {l t x y : Int} {c : Cond} {q : Square} (h : SdIn now ref l t x y c q) (hq : sqOk q = true) (hL : sqLet q c = true) (hr : c.Key = false → picOk ref = true) : ∃ d, spec_SquareDots now ref l t c x y q = some (d, true) ∧ dots64 d = true ∧
  ((q.Kind = 0 ∧ c.Key = false ∧ d = blkL ref (l + x) (t + y) 64) ∨ (q.Kind = 1 ∧ c.Key = false ∧ ∃ b, spec_LevelsBack q.Levels c = some (b, true) ∧ d = joinedL (blkL ref (l + x + q.Dx) (t + y + q.Dy) 64) b) ∨ (q.Kind = 2 ∧ ∃ e b g, spec_EdgesOf now x y = some (e, true) ∧ edgesP e ∧ spec_LevelsBack q.Levels c = some (b, true) ∧ spec_GuessOf q.Mode e = some g ∧ dots64 g = true ∧ d = joinedL g b)) := by
 obtain ⟨d, _, ed, hd⟩ := SquareDots_both h hq hL hr
 obtain ⟨ok, hx, hy, h0, hl, ht, hc, hs⟩ := h
 obtain ⟨k1, k2, k3⟩ := picOk_parts ok
 have h0' := h0
 unfold heldAt at h0'
 rw [decide_eq_true_eq] at h0'
 have dxy := sqOk_dxy hq
 refine ⟨d, ed, hd, ?_⟩
 unfold spec_SquareDots at ed
 rw [spec_l13Fits_yes ok hx hy h0, bnd_s, sel_t, spec_l01In_eq, bnd_s, decide_eq_true hl, sel_t, spec_l01In_eq, bnd_s, decide_eq_true ht, sel_t, spec_SquareOk_eq, bnd_s, hq, sel_t, spec_CondOk_eq, bnd_s, hc, Bool.not_true, bnd_s, sel_f] at ed
 by_cases h2 : q.Kind = 2
 ·
  obtain ⟨hm, hlv⟩ := sqOk_two hq h2
  obtain ⟨e, ee, he⟩ := spec_EdgesOf_ev ok hx hy h0
  obtain ⟨b, eb, b1, b2⟩ := spec_LevelsBack_ev q.Levels c hc hlv
  obtain ⟨g, eg, hg⟩ := spec_GuessOf_ev q.Mode hm he
  rw [sel_pos (by simpa using h2), ee, bnd_s, eb, bnd_s, eg, bnd_s, spec_Joined_eq g b hg b1 b2, bnd_s] at ed
  injection ed with ed
  injection ed with ed _
  exact .inr (.inr ⟨h2, e, b, g, ee, he, eb, eg, hg, ed.symm⟩)
 ·
  have hK : c.Key = false := by
   unfold sqLet at hL
   cases hk : c.Key with
   | false => rfl
   | true => rw [hk] at hL; simp at hL; exact absurd hL h2
  have rok := hr hK
  rw [sel_neg (b := q.Kind == 2) (by simpa using h2), hK, sel_f, spec_PicOk_eq, bnd_s, rok, Bool.not_true, bnd_s, sel_f, wk (e := l + x) (by omega) (by omega), wk (e := l + x + q.Dx) (by omega) (by omega), wk (e := t + y) (by omega) (by omega), wk (e := t + y + q.Dy) (by omega) (by omega), spec_BlockOf_eq rok _ _ (by omega) (by omega), bnd_s] at ed
  by_cases h3 : q.Kind = 0
  ·
   obtain ⟨z1, z2⟩ := sqOk_zero hq h3
   rw [sel_pos (b := q.Kind == 0) (by simpa using h3), z1, z2, Int.add_zero, Int.add_zero] at ed
   injection ed with ed
   injection ed with ed _
   exact .inl ⟨h3, hK, ed.symm⟩
  ·
   have h1 : q.Kind = 1 := by have := sqOk_kind hq; omega
   obtain ⟨_, _, hlv⟩ := sqOk_one hq h1
   obtain ⟨b, eb, b1, b2⟩ := spec_LevelsBack_ev q.Levels c hc hlv
   rw [sel_neg (b := q.Kind == 0) (by simpa using h3), eb, bnd_s, spec_Joined_eq _ b (blkL_dots _ _ _) b1 b2, bnd_s] at ed
   injection ed with ed
   injection ed with ed _
   exact .inr (.inl ⟨h1, hK, b, eb, ed.symm⟩)
theorem exact_dots {now ref : Pic} {w : List Int} {x y : Int} {c : Cond} {r : Int} {q : Square} (H : SfIn now ref w x y c r) (hE : c.Exact = true) (hq : Chosen now ref w x y c r q) {d : List Int} (hd : spec_SquareDots now ref 0 0 c x y q = some (d, true)) : d = w := by
 obtain ⟨q1, q2, q3⟩ := hq.ok H.hr
 have SD : SdIn now ref 0 0 x y c q := ⟨H.ok, H.hx, H.hy, H.h0, by omega, by omega, H.hc, by omega⟩
 obtain ⟨d', e', _, hv⟩ := SquareDots_val SD q1 q2 (fun h => (H.hk h).1)
 rw [hd] at e'
 injection e' with e'
 injection e' with e' _
 subst e'
 have wl := (dots64_at H.hw).1
 rw [Int.zero_add, Int.zero_add] at hv
 cases hq with
 | same hK h =>
  rcases hv with ⟨_, _, e⟩ | ⟨k, _⟩ | ⟨k, _⟩
  ·
   rw [e]; exact (list_eq wl (blkL_length _ _ _ _) h).symm
  ·
   simp at k
  ·
   simp at k
 | still hK l h hl hz =>
  rcases hv with ⟨_, _, e⟩ | ⟨k, _⟩ | ⟨k, _⟩
  ·
   obtain ⟨_, es⟩ := exact_back H.hc hE (lessL_len _ _) (lessL_in H.hw (blkL_dots ref x y)) h hl
   rw [e]
   refine list_eq (blkL_length _ _ _ _) wl fun j hj => ?_
   obtain ⟨i, hi, hs⟩ := scan8_sur j hj
   have := hz i hi
   rw [es, scanned8_at _ hi, hs, Int.toNat_natCast, lessL_at _ _ hj] at this
   omega
  ·
   simp at k
  ·
   simp at k
 | move hK dx dy hdx hdy hh l h hl hn =>
  rcases hv with ⟨k, _⟩ | ⟨_, _, b, eb, e⟩ | ⟨k, _⟩
  ·
   simp at k
  ·
   obtain ⟨ex, _⟩ := exact_back H.hc hE (lessL_len _ _) (lessL_in H.hw (blkL_dots ref (x + dx) (y + dy))) h hl
   simp only at eb e
   rw [ex] at eb
   injection eb with eb
   injection eb with eb _
   rw [e, ← eb]; exact joined_less H.hw
  ·
   simp at k
 | guess e he hp m hm g hg hgd l h hl hn =>
  rcases hv with ⟨k, _⟩ | ⟨k, _⟩ | ⟨_, e2, b, g2, ee, _, eb, eg, _, ed⟩
  ·
   simp at k
  ·
   simp at k
  ·
   obtain ⟨ex, _⟩ := exact_back H.hc hE (lessL_len _ _) (lessL_in H.hw hgd) h hl
   simp only at eb eg
   rw [he] at ee
   injection ee with ee
   injection ee with ee _
   rw [← ee, hg] at eg
   injection eg with eg
   rw [ex] at eb
   injection eb with eb
   injection eb with eb _
   rw [ed, ← eb, ← eg]; exact joined_less H.hw
theorem spec_l14Cond_ev (u : L01Cur) (hu : curOk u) : ∃ c u', spec_l14Cond u = some (c, u') ∧ condOk c = true ∧ curOk u' := by
 unfold spec_l14Cond
 obtain ⟨p, u1, e1, hp, h1⟩ := spec_l05ParRight_ev u hu
 obtain ⟨b, u2, e2, h2⟩ := spec_l01Once_ev u1 2 h1
 rw [e1, bnd_s, e2, bnd_s]
 refine ⟨_, _, rfl, ?_, h2⟩
 unfold condOk
 exact hp
theorem spec_DrawCond_ev (b : List Int) (hb : b.length ≤ 1048576) : ∃ c, spec_DrawCond b = some c ∧ condOk c = true := by
 unfold spec_DrawCond
 obtain ⟨u, e, hu⟩ := spec_l01New_ev b hb
 obtain ⟨c, u', e2, hc, _⟩ := spec_l14Cond_ev u hu
 rw [e, bnd_s, e2, bnd_s]
 exact ⟨_, rfl, hc⟩
theorem place_div {W x y : Int} (hx : 0 ≤ x ∧ x < W) : (y * W + x) / W = y ∧ (y * W + x) % W = x := by
 have hW : 0 < W := by omega
 constructor
 ·
  rw [Int.add_comm, Int.add_mul_ediv_right _ _ (by omega), Int.ediv_eq_zero_of_lt hx.1 hx.2, Int.zero_add]
 ·
  rw [Int.add_comm, Int.add_mul_emod_self_right, Int.emod_eq_of_lt hx.1 hx.2]
theorem place_in {W H x y : Int} (hx : 0 ≤ x ∧ x < W) (hy : 0 ≤ y ∧ y < H) : 0 ≤ y * W + x ∧ y * W + x < W * H := by
 have a : 0 ≤ y * W := Int.mul_nonneg hy.1 (by omega)
 have b : y * W ≤ (H - 1) * W := Int.mul_le_mul_of_nonneg_right (by omega) (by omega)
 have c : (H - 1) * W = W * H - W := by rw [Int.sub_mul, Int.one_mul, Int.mul_comm]
 omega
theorem brought_id {n m : Int} (h : 0 ≤ n ∧ n ≤ m) : brought n 0 m = n := by
 unfold brought
 repeat' split
 all_goals omega
theorem dotAt_in {p : Pic} {x y : Int} (hx : 0 ≤ x ∧ x < p.Wide) (hy : 0 ≤ y ∧ y < p.High) : dotAt p x y = btOf p.Dots (y * p.Wide + x) := by
 unfold dotAt
 rw [brought_id (by omega), brought_id (by omega)]
theorem numsOf_getD (s : ByteArray) (k : Nat) (hk : k < s.size) : (numsOf s).getD k 0 = btOf s k := by
 have := bt_str (numsOf s) (by intro x hx; obtain ⟨b, _, rfl⟩ := List.mem_map.1 hx; have := b.toNat_lt; omega) k (by rw [numsOf_length]; exact hk)
 rw [str_numsOf] at this
 exact this.symm
theorem byteL_nums (s : ByteArray) : byteL (numsOf s) := fun x hx => by
 obtain ⟨b, _, rfl⟩ := List.mem_map.1 hx
 have := b.toNat_lt
 omega
theorem byteL_set {l : List Int} (h : byteL l) (i : Nat) {y : Int} (hy : 0 ≤ y ∧ y ≤ 255) : byteL (l.set i y) := fun x hx => by
 rcases List.mem_or_eq_of_mem_set hx with hx | hx
 ·
  exact h x hx
 ·
  rw [hx]; exact hy
theorem pic_eq {p q : Pic} (hp : picOk p = true) (hq : picOk q = true) (hw : p.Wide = q.Wide) (hh : p.High = q.High) (h : ∀ x y : Int, 0 ≤ x ∧ x < p.Wide → 0 ≤ y ∧ y < p.High → dotAt p x y = dotAt q x y) : p = q := by
 obtain ⟨p1, p2, p3⟩ := picOk_parts hp
 obtain ⟨q1, q2, q3⟩ := picOk_parts hq
 have hd : p.Dots = q.Dots := by
  rw [← str_numsOf p.Dots, ← str_numsOf q.Dots]
  congr 1
  have hsz : p.Dots.size = q.Dots.size := by
   have : (p.Dots.size : Int) = q.Dots.size := by rw [p3, q3, hw, hh]
   omega
  refine list_eq (n := p.Dots.size) (numsOf_length _) ((numsOf_length _).trans hsz.symm) fun k hk => ?_
  have hkW : (k : Int) < p.Wide * p.High := by omega
  have m0 := Int.emod_nonneg (k : Int) (show p.Wide ≠ 0 by omega)
  have m1 := Int.emod_lt_of_pos (k : Int) (show 0 < p.Wide by omega)
  have d0 : 0 ≤ (k : Int) / p.Wide := Int.ediv_nonneg (by omega) (by omega)
  have d1 : (k : Int) / p.Wide < p.High := Int.ediv_lt_of_lt_mul (by omega) (by rw [Int.mul_comm]; exact hkW)
  have e := h ((k : Int) % p.Wide) ((k : Int) / p.Wide) ⟨m0, m1⟩ ⟨d0, d1⟩
  rw [dotAt_in ⟨m0, m1⟩ ⟨d0, d1⟩, dotAt_in (by rw [← hw]; exact ⟨m0, m1⟩) (by rw [← hh]; exact ⟨d0, d1⟩), ← hw, Int.ediv_mul_add_emod] at e
  rw [numsOf_getD _ k hk, numsOf_getD _ k (by omega)]
  exact e
 cases p; cases q
 simp only at hw hh hd
 rw [hw, hh, hd]
def inSq (x y X Y : Int) : Bool := decide (x ≤ X ∧ X < x + 8 ∧ y ≤ Y ∧ Y < y + 8)
theorem put_dots {p : Pic} {x y : Int} {d : List Int} (ok : picOk p = true) (h0 : heldAt p x y = true) (hd : dots64 d = true) : ∃ p', spec_l16Put p x y d = some p' ∧ picOk p' = true ∧ p'.Wide = p.Wide ∧ p'.High = p.High ∧ ∀ X Y : Int, 0 ≤ X ∧ X < p.Wide → 0 ≤ Y ∧ Y < p.High → dotAt p' X Y = if inSq x y X Y = true then d.getD ((Y - y) * 8 + (X - x)).toNat 0 else dotAt p X Y := by
 obtain ⟨k1, k2, k3⟩ := picOk_parts ok
 have ar := area_small k1 k2
 have hm : maxLen = 9223372036854775807 := rfl
 obtain ⟨d1, d2⟩ := dots64_at hd
 have h0' := h0
 unfold heldAt at h0'
 rw [decide_eq_true_eq] at h0'
 have hn := numsOf_length p.Dots
 unfold spec_l16Put
 rw [req_p (by omega)]
 obtain ⟨o, e, o1, o2, o3⟩ := st_loop2 (f := spec_l16Put_l2 p x y d) 64 (fun i s => s.length = p.Dots.size ∧ byteL s ∧ ∀ X Y : Int, 0 ≤ X ∧ X < p.Wide → 0 ≤ Y ∧ Y < p.High → s.getD (Y * p.Wide + X).toNat 0 = if inSq x y X Y = true ∧ ((Y - y) * 8 + (X - x)).toNat < i then d.getD ((Y - y) * 8 + (X - x)).toNat 0 else (numsOf p.Dots).getD (Y * p.Wide + X).toNat 0) (by
  intro i s hi ⟨g1, g2, g3⟩
  have di := d2 i hi
  have hxx : 0 ≤ x + (i : Int) % 8 ∧ x + (i : Int) % 8 < p.Wide := by omega
  have hyy : 0 ≤ y + (i : Int) / 8 ∧ y + (i : Int) / 8 < p.High := by omega
  have pin := place_in hxx hyy
  have b1 : 0 ≤ (y + (i : Int) / 8) * p.Wide := Int.mul_nonneg (by omega) (by omega)
  have b2 : (y + (i : Int) / 8) * p.Wide ≤ (p.High - 1) * p.Wide := Int.mul_le_mul_of_nonneg_right (by omega) (by omega)
  have b3 : (p.High - 1) * p.Wide = p.Wide * p.High - p.Wide := by rw [Int.sub_mul, Int.one_mul, Int.mul_comm]
  unfold spec_l16Put_l2
  simp only
  rw [sel_yes (by omega), req_p (by omega), req_p (by omega), req_p (by omega), tdiv_pos (by omega), tmod_pos (by omega), wk (e := (i : Int) / 8) (by omega) (by omega), wk (e := y + (i : Int) / 8) (by omega) (by omega), wk (e := (y + (i : Int) / 8) * p.Wide) (by omega) (by omega), wk (e := (y + (i : Int) / 8) * p.Wide + x) (by omega) (by omega), wk (e := (y + (i : Int) / 8) * p.Wide + x + (i : Int) % 8) (by omega) (by omega), req_p (by omega), req_p (by omega), wk (e := (i : Int) + 1) (by omega) (by omega), Int.toNat_natCast, w8 di.1 di.2]
  refine ⟨_, rfl, by rw [List.length_set]; exact g1, byteL_set g2 _ di, fun X Y hX hY => ?_⟩
  have pXY := place_in hX hY
  rw [getD_set_at _ _ _ _ (by omega)]
  by_cases heq : ((y + (i : Int) / 8) * p.Wide + x + (i : Int) % 8).toNat = (Y * p.Wide + X).toNat
  ·
   rw [if_pos heq]
   have heq' : (y + (i : Int) / 8) * p.Wide + (x + (i : Int) % 8) = Y * p.Wide + X := by omega
   have q1 := place_div (y := y + (i : Int) / 8) hxx
   have q2 := place_div (y := Y) hX
   rw [heq'] at q1
   have eY : Y = y + (i : Int) / 8 := q2.1.symm.trans q1.1
   have eX : X = x + (i : Int) % 8 := q2.2.symm.trans q1.2
   have hin : inSq x y X Y = true := by unfold inSq; rw [decide_eq_true_eq]; omega
   have hpl : ((Y - y) * 8 + (X - x)).toNat = i := by omega
   rw [if_pos ⟨hin, by omega⟩, hpl]
  ·
   rw [if_neg heq, g3 X Y hX hY]
   by_cases hin : inSq x y X Y = true
   ·
    have hin' := hin
    unfold inSq at hin'
    rw [decide_eq_true_eq] at hin'
    by_cases hlt : ((Y - y) * 8 + (X - x)).toNat < i
    ·
     rw [if_pos ⟨hin, hlt⟩, if_pos ⟨hin, by omega⟩]
    ·
     have hne : ((Y - y) * 8 + (X - x)).toNat ≠ i := fun h => heq (by
      have eY : Y = y + (i : Int) / 8 := by omega
      have eX : X = x + (i : Int) % 8 := by omega
      rw [eY, eX]; congr 1; omega)
     rw [if_neg (fun h => hlt h.2), if_neg (fun h => by omega)]
   ·
    rw [if_neg (fun h => hin h.1), if_neg (fun h => hin h.1)]) (fun s _ => by unfold spec_l16Put_l2; rw [sel_no (by simp)]) (numsOf p.Dots) ⟨hn, byteL_nums _, fun X Y hX hY => by rw [if_neg (fun h => by omega)]⟩
 refine ⟨_, (bnd_e e).trans rfl, picOk_of k1 k2 (by simp only; rw [strOfNums_size]; omega), rfl, rfl, fun X Y hX hY => ?_⟩
 have pXY := place_in hX hY
 rw [dotAt_in (p := ⟨p.Wide, p.High, strOfNums o⟩) hX hY, dotAt_in hX hY]
 simp only
 have e1 : btOf (strOfNums o) (Y * p.Wide + X) = o.getD (Y * p.Wide + X).toNat 0 := by
  have := bt_str o o2 (Y * p.Wide + X).toNat (by omega)
  rwa [show (((Y * p.Wide + X).toNat : Nat) : Int) = Y * p.Wide + X by omega] at this
 have e2 : btOf p.Dots (Y * p.Wide + X) = (numsOf p.Dots).getD (Y * p.Wide + X).toNat 0 := by
  rw [numsOf_getD _ _ (by omega), show (((Y * p.Wide + X).toNat : Nat) : Int) = Y * p.Wide + X by omega]
 rw [e1, e2, o3 X Y hX hY]
 by_cases hin : inSq x y X Y = true
 ·
  have hin' := hin
  unfold inSq at hin'
  rw [decide_eq_true_eq] at hin'
  rw [if_pos ⟨hin, by omega⟩, if_pos hin]
 ·
  rw [if_neg (fun h => hin h.1), if_neg hin]
theorem cutP_dots {p : Pic} {r : Rect} (ok : picOk p = true) (h : holdsB p r = true) (X Y : Int) (hX : 0 ≤ X ∧ X < r.Wide) (hY : 0 ≤ Y ∧ Y < r.High) : dotAt (cutP p r) X Y = dotAt p (r.Left + X) (r.Top + Y) := by
 obtain ⟨k1, k2, k3⟩ := picOk_parts ok
 obtain ⟨a1, a2, a3, a4⟩ := holdsB_parts h
 have key : ∀ n : Nat, (n : Int) ≤ r.High → byteL (cutRows p r n) ∧ ∀ X Y : Int, 0 ≤ X ∧ X < r.Wide → 0 ≤ Y ∧ Y < n → (cutRows p r n).getD (Y * r.Wide + X).toNat 0 = dotAt p (r.Left + X) (r.Top + Y) := by
  intro n
  induction n with
  | zero => intro _; exact ⟨fun x hx => by simp [cutRows] at hx, fun X Y hX hY => by omega⟩
  | succ n ih =>
   intro hn
   obtain ⟨i1, i2⟩ := ih (by omega)
   obtain ⟨b1, b2, b3, b4⟩ := cut_row ok h n (by omega)
   have cl := cutRows_len ok h n (by omega)
   refine ⟨fun x hx => ?_, fun X Y hX hY => ?_⟩
   ·
    rw [cutRows] at hx
    rcases List.mem_append.1 hx with hx | hx
    ·
     exact i1 x hx
    ·
     exact byteL_nums _ x hx
   ·
    have pXY := place_in (H := (n : Int) + 1) (y := Y) hX (by omega)
    rw [cutRows, List.getD_eq_getElem?_getD, List.getElem?_append]
    by_cases hlt : Y < n
    ·
     have := place_in (H := n) hX (y := Y) (by omega)
     have h2 : r.Wide * n = n * r.Wide := Int.mul_comm _ _
     rw [if_pos (by omega), ← List.getD_eq_getElem?_getD]
     exact i2 X Y hX (by omega)
    ·
     have eY : Y = n := by omega
     subst eY
     rw [if_neg (by omega), ← List.getD_eq_getElem?_getD]
     have hk : ((n : Int) * r.Wide + X).toNat - (cutRows p r n).length = X.toNat := by omega
     rw [hk, numsOf_getD _ _ (by rw [numsOf_length] at b4; omega), dotAt_in (p := p) (x := r.Left + X) (y := r.Top + n) (by omega) (by omega)]
     unfold btOf
     have hs : (p.Dots.extract ((r.Top + n) * p.Wide + r.Left).toNat ((r.Top + n) * p.Wide + r.Left + r.Wide).toNat).size = r.Wide.toNat := by rw [← numsOf_length]; exact b4
     rw [dif_pos (by rw [hs]; omega), dif_pos (show ((r.Top + (n : Int)) * p.Wide + (r.Left + X)).toNat < p.Dots.size by omega)]
     rw [ByteArray.getElem_extract]
     congr 2
     congr 1
     omega
 obtain ⟨c1, c2⟩ := key r.High.toNat (by omega)
 have cl := cutRows_len ok h r.High.toNat (by omega)
 have pXY := place_in hX hY
 have cm : ((r.High.toNat : Nat) : Int) * r.Wide = r.Wide * r.High := by rw [Int.mul_comm]; congr 1; omega
 rw [dotAt_in (p := cutP p r) hX hY]
 show btOf (strOfNums (cutRows p r r.High.toNat)) (Y * r.Wide + X) = _
 have := bt_str _ c1 (Y * r.Wide + X).toNat (by omega)
 rw [show (((Y * r.Wide + X).toNat : Nat) : Int) = Y * r.Wide + X by omega] at this
 rw [this]
 exact c2 X Y hX (by omega)
theorem cut_whole {p : Pic} (ok : picOk p = true) : holdsB p ⟨0, 0, p.Wide, p.High⟩ = true ∧ cutP p ⟨0, 0, p.Wide, p.High⟩ = p := by
 obtain ⟨k1, k2, k3⟩ := picOk_parts ok
 have hh : holdsB p ⟨0, 0, p.Wide, p.High⟩ = true := by
  unfold holdsB
  simp only [Bool.and_eq_true, decide_eq_true_eq]
  omega
 refine ⟨hh, pic_eq (cutP_ok ok hh) ok rfl rfl fun X Y hX hY => ?_⟩
 rw [cutP_dots ok hh X Y hX hY]
 simp only [Int.zero_add]
def tX (W : Int) (i : Nat) : Int := (i : Int) % (W / 8) * 8
def tY (W : Int) (i : Nat) : Int := (i : Int) / (W / 8) * 8
structure TfIn (src ref : Pic) (c : Cond) (r : Int) : Prop where
 ok : picOk src = true
 hw : sideB src.Wide = true
 hh : sideB src.High = true
 hc : condOk c = true
 hr : 0 ≤ r ∧ r ≤ 4
 hk : c.Key = false → picOk ref = true ∧ ref.Wide = src.Wide ∧ ref.High = src.High
inductive Tiled (src ref : Pic) (c : Cond) (r : Int) : Nat → List Square → Pic → Prop
 | zero : Tiled src ref c r 0 [] ⟨src.Wide, src.High, strOfNums (List.replicate (src.Wide * src.High).toNat 128)⟩
 | succ {n : Nat} {l : List Square} {now : Pic} (h : Tiled src ref c r n l now) (hn : (n : Int) < src.Wide / 8 * (src.High / 8)) (q : Square) (d : List Int) (now' : Pic)
   (hi : impl_SquareFor now ref (blkL src (tX src.Wide n) (tY src.Wide n) 64) (tX src.Wide n) (tY src.Wide n) c r = some (q, d, true)) (hs : spec_SquareFor now ref (blkL src (tX src.Wide n) (tY src.Wide n) 64) (tX src.Wide n) (tY src.Wide n) c r = some (q, d, true)) (hq : Chosen now ref (blkL src (tX src.Wide n) (tY src.Wide n) 64) (tX src.Wide n) (tY src.Wide n) c r q)
   (hd : impl_SquareDots now ref 0 0 c (tX src.Wide n) (tY src.Wide n) q = some (d, true)) (hp : spec_l16Put now (tX src.Wide n) (tY src.Wide n) d = some now') : Tiled src ref c r (n + 1) (l ++ [q]) now'
theorem grey_ok {w h : Int} (hw : 1 ≤ w ∧ w ≤ 256) (hh : 1 ≤ h ∧ h ≤ 256) : picOk ⟨w, h, strOfNums (List.replicate (w * h).toNat 128)⟩ = true := by
 have ar := area_small hw hh
 refine picOk_of hw hh ?_
 simp only
 rw [strOfNums_size, List.length_replicate]; omega
theorem sfIn_of {src ref now : Pic} {c : Cond} {r : Int} (H : TfIn src ref c r) {n : Nat} (hn : (n : Int) < src.Wide / 8 * (src.High / 8)) (ok : picOk now = true) (hw : now.Wide = src.Wide) (hh : now.High = src.High) : SfIn now ref (blkL src (tX src.Wide n) (tY src.Wide n) 64) (tX src.Wide n) (tY src.Wide n) c r := by
 obtain ⟨p1, p2, p3, p4, p5, p6, p7, p8, p9, p10⟩ := tile_place H.hw H.hh n hn
 refine ⟨ok, by unfold tX; rw [tmod_pos p7]; omega, by unfold tY; rw [tmod_pos p9]; omega, by unfold heldAt tX tY; rw [decide_eq_true_eq, hw, hh]; exact ⟨p7, p8, p9, p10⟩, blkL_dots _ _ _, H.hc, H.hr, fun hK => ?_⟩
 obtain ⟨a, b, c⟩ := H.hk hK
 exact ⟨a, by rw [b, hw], by rw [c, hh]⟩
theorem Tiled.pic {src ref : Pic} {c : Cond} {r : Int} (H : TfIn src ref c r) {n : Nat} {l : List Square} {now : Pic} (h : Tiled src ref c r n l now) : picOk now = true ∧ now.Wide = src.Wide ∧ now.High = src.High ∧ l.length = n ∧ (∀ q ∈ l, sqOk q = true ∧ sqLet q c = true ∧ q.Levels.length ≤ 64) := by
 induction h with
 | zero =>
  obtain ⟨k1, k2, k3⟩ := picOk_parts H.ok
  exact ⟨grey_ok k1 k2, rfl, rfl, rfl, fun q hq => by simp at hq⟩
 | succ h hn q d now' hi hs hq hd hp ih =>
  obtain ⟨ok, w, hh, hl, hall⟩ := ih
  have SF := sfIn_of H hn ok w hh
  obtain ⟨q2, d2, e2, _, _, _, hd64⟩ := SquareFor_yes SF
  rw [hi] at e2
  injection e2 with e2
  injection e2 with e2 e3
  injection e3 with e3 _
  subst e2; subst e3
  obtain ⟨p', ep, p1, p2, p3⟩ := spec_l16Put_ev ok SF.h0 hd64
  rw [hp] at ep
  injection ep with ep
  subst ep
  refine ⟨p1, by rw [p2, w], by rw [p3, hh], by rw [List.length_append, hl]; rfl, fun x hx => ?_⟩
  rcases List.mem_append.1 hx with hx | hx
  ·
   exact hall x hx
  ·
   rw [List.mem_singleton.1 hx]; exact hq.ok H.hr
theorem Tiled.step {src ref : Pic} {c : Cond} {r : Int} (H : TfIn src ref c r) {n : Nat} {l : List Square} {now : Pic} (h : Tiled src ref c r n l now) (hn : (n : Int) < src.Wide / 8 * (src.High / 8)) : ∃ q d now', impl_SquareFor now ref (blkL src (tX src.Wide n) (tY src.Wide n) 64) (tX src.Wide n) (tY src.Wide n) c r = some (q, d, true) ∧ spec_SquareFor now ref (blkL src (tX src.Wide n) (tY src.Wide n) 64) (tX src.Wide n) (tY src.Wide n) c r = some (q, d, true) ∧ dots64 d = true ∧ spec_l16Put now (tX src.Wide n) (tY src.Wide n) d = some now' ∧ Tiled src ref c r (n + 1) (l ++ [q]) now' := by
 obtain ⟨ok, w, hh, hl, _⟩ := h.pic H
 have SF := sfIn_of H hn ok w hh
 obtain ⟨q, d, e1, e2, hq, ed, hd64⟩ := SquareFor_yes SF
 obtain ⟨p', ep, p1, p2, p3⟩ := spec_l16Put_ev ok SF.h0 hd64
 exact ⟨q, d, p', e1, e2, hd64, ep, .succ h hn q d p' e1 e2 hq ed ep⟩
theorem tileXY {W : Int} (hW : sideB W = true) (a b : Nat) (hb : (b : Int) < W / 8) : tX W ((W / 8).toNat * a + b) = 8 * b ∧ tY W ((W / 8).toNat * a + b) = 8 * a := by
 have s := sideB_parts hW
 have e : (((W / 8).toNat * a + b : Nat) : Int) = (a : Int) * (W / 8) + b := by
  rw [Int.natCast_add, Int.natCast_mul, show (((W / 8).toNat : Nat) : Int) = W / 8 by omega, Int.mul_comm]
 have d := place_div (W := W / 8) (x := b) (y := a) ⟨by omega, hb⟩
 unfold tX tY
 rw [e, d.1, d.2]
 omega
theorem tile_n {W H : Int} (hW : sideB W = true) (a b : Nat) (hb : (b : Int) < W / 8) (ha : (a : Int) < H / 8) : (((W / 8).toNat * a + b : Nat) : Int) < W / 8 * (H / 8) := by
 have s := sideB_parts hW
 have p := place_in (W := W / 8) (H := H / 8) (x := b) (y := a) ⟨by omega, hb⟩ ⟨by omega, ha⟩
 rw [Int.natCast_add, Int.natCast_mul, show (((W / 8).toNat : Nat) : Int) = W / 8 by omega, Int.mul_comm (W / 8)]
 exact p.2
theorem impl_TileFor_yes {src ref : Pic} {c : Cond} {r : Int} (H : TfIn src ref c r) : ∃ l now, impl_TileFor src ref c r = some (l, now, true) ∧ Tiled src ref c r ((src.Wide / 8).toNat * (src.High / 8).toNat) l now := by
 have hm : maxLen = 9223372036854775807 := rfl
 have sw := sideB_parts H.hw
 have sh := sideB_parts H.hh
 obtain ⟨k1, k2, k3⟩ := picOk_parts H.ok
 -- one row
 have row : ∀ a : Nat, (a : Int) < src.High / 8 → ∀ (l : List Square) (now : Pic), Tiled src ref c r ((src.Wide / 8).toNat * a) l now → ∃ l' now', loop (impl_TileFor_l14 src ref c r ((8 * a : Nat), l, now.Wide, now.High, now.Dots)) (0, l, now.Wide, now.High, now.Dots) = some (.out (l', now'.Wide, now'.High, now'.Dots)) ∧ Tiled src ref c r ((src.Wide / 8).toNat * (a + 1)) l' now' := by
  intro a ha l now hT
  have key : ∀ b : Nat, b ≤ (src.Wide / 8).toNat → ∀ (l2 : List Square) (now2 : Pic), Tiled src ref c r ((src.Wide / 8).toNat * a + b) l2 now2 → ∃ l' now', loop (impl_TileFor_l14 src ref c r ((8 * a : Nat), l, now.Wide, now.High, now.Dots)) (((8 * b : Nat) : Int), l2, now2.Wide, now2.High, now2.Dots) = some (.out (l', now'.Wide, now'.High, now'.Dots)) ∧ Tiled src ref c r ((src.Wide / 8).toNat * (a + 1)) l' now' := by
   refine down_to _ ?_ ?_
   ·
    intro l2 now2 h2
    refine ⟨l2, now2, ldone ?_, by rw [Nat.mul_add, Nat.mul_one]; exact h2⟩
    unfold impl_TileFor_l14
    rw [sel_no (by simp only; omega)]
   ·
    intro b hb ih l2 now2 h2
    have hbI : (b : Int) < src.Wide / 8 := by omega
    obtain ⟨eX, eY⟩ := tileXY H.hw a b hbI
    obtain ⟨q, d, now', e1, _, hd, ep, hT'⟩ := h2.step H (tile_n H.hw a b hbI ha)
    rw [eX, eY] at e1 ep
    obtain ⟨ok2, w2, hh2, hl2, _⟩ := h2.pic H
    obtain ⟨l', n', el, hT2⟩ := ih (l2 ++ [q]) now' hT'
    refine ⟨l', n', lgo (y := (((8 * (b + 1) : Nat) : Int), l2 ++ [q], now'.Wide, now'.High, now'.Dots)) ?_ el, hT2⟩
    have lb : l2.length ≤ 1000 := by
     have := tile_n H.hw a b hbI ha
     have : src.Wide / 8 * (src.High / 8) ≤ 8 * 8 := Int.mul_le_mul (by omega) (by omega) (by omega) (by omega)
     omega
    unfold impl_TileFor_l14
    simp only
    rw [show ((8 * a : Nat) : Int) = 8 * (a : Int) by omega, show ((8 * b : Nat) : Int) = 8 * (b : Int) by omega, sel_yes (by omega), impl_block_eq H.ok _ _ (by omega) (by omega), bnd_s, show (⟨now2.Wide, now2.High, now2.Dots⟩ : Pic) = now2 from rfl, e1, bnd_s]
    simp only
    rw [Bool.not_true, sel_f, req_p (by simp only [List.length_singleton]; omega), put_alike hd (by have := dots_len ok2; omega), ep, bnd_s, wk (by omega) (by omega), show ((8 * (b + 1) : Nat) : Int) = 8 * (b : Int) + 8 by omega]
  exact key 0 (by omega) l now hT
 have rows : ∀ a : Nat, a ≤ (src.High / 8).toNat → ∀ (l : List Square) (now : Pic), Tiled src ref c r ((src.Wide / 8).toNat * a) l now → ∃ l' now', loop (impl_TileFor_l12 src ref c r) (((8 * a : Nat) : Int), l, now.Wide, now.High, now.Dots) = some (.out (l', now'.Wide, now'.High, now'.Dots)) ∧ Tiled src ref c r ((src.Wide / 8).toNat * (src.High / 8).toNat) l' now' := by
  refine down_to _ ?_ ?_
  ·
   intro l now h
   refine ⟨l, now, ldone ?_, h⟩
   unfold impl_TileFor_l12
   rw [sel_no (by simp only; omega)]
  ·
   intro a ha ih l now h
   obtain ⟨l', n', el, hT⟩ := row a (by omega) l now h
   obtain ⟨l2, n2, el2, hT2⟩ := ih l' n' hT
   refine ⟨l2, n2, lgo (y := (((8 * (a + 1) : Nat) : Int), l', n'.Wide, n'.High, n'.Dots)) ?_ el2, hT2⟩
   unfold impl_TileFor_l12
   rw [sel_yes (by simp only; omega)]
   simp only
   rw [el, bnd_s]
   simp only
   rw [wk (by omega) (by omega), show ((8 * (a + 1) : Nat) : Int) = ((8 * a : Nat) : Int) + 8 by omega]
 obtain ⟨l, now, e, hT⟩ := rows 0 (by omega) [] ⟨src.Wide, src.High, strOfNums (List.replicate (src.Wide * src.High).toNat 128)⟩ (by rw [Nat.mul_zero]; exact .zero)
 refine ⟨l, now, ?_, hT⟩
 unfold impl_TileFor
 have hl7 : (sel c.Key (some false) (bnd (impl_PicOk ref) fun q8 => sel q8 (sel (ref.Wide != src.Wide) (some true) (some (ref.High != src.High))) (some true))) = some false := by
  cases hK : c.Key with
  | true => rfl
  | false =>
   obtain ⟨a1, a2, a3⟩ := H.hk hK
   rw [sel_f, impl_PicOk_eq, bnd_s, a1, a2, a3, sel_t, bne_self_eq_false, sel_f, bne_self_eq_false]
 rw [impl_PicOk_eq, bnd_s, H.ok, sel_t, impl_isTile_eq, bnd_s, H.hw, sel_t, impl_isTile_eq, bnd_s, H.hh, sel_t, impl_CondOk_eq, bnd_s, H.hc, sel_t, impl_within_eq, bnd_s, decide_eq_true H.hr, Bool.not_true, bnd_s, sel_f, hl7, bnd_s, sel_f, impl_Grey_eq _ _ k1 k2, bnd_s]
 have e' : loop (impl_TileFor_l12 src ref c r) (0, [], src.Wide, src.High, strOfNums (List.replicate (src.Wide * src.High).toNat 128)) = some (.out (l, now.Wide, now.High, now.Dots)) := e
 rw [e', bnd_s]
theorem Tiled.dots {src ref : Pic} {c : Cond} {r : Int} (H : TfIn src ref c r) (P : Int → Int → Int → Prop)
  (hP : ∀ (n : Nat) (now : Pic) (q : Square) (d : List Int), (n : Int) < src.Wide / 8 * (src.High / 8) → SfIn now ref (blkL src (tX src.Wide n) (tY src.Wide n) 64) (tX src.Wide n) (tY src.Wide n) c r → Chosen now ref (blkL src (tX src.Wide n) (tY src.Wide n) 64) (tX src.Wide n) (tY src.Wide n) c r q → spec_SquareDots now ref 0 0 c (tX src.Wide n) (tY src.Wide n) q = some (d, true) → ∀ i : Nat, i < 64 → P (tX src.Wide n + ((i % 8 : Nat) : Int)) (tY src.Wide n + ((i / 8 : Nat) : Int)) (d.getD i 0))
  {n : Nat} {l : List Square} {now : Pic} (h : Tiled src ref c r n l now) : ∀ X Y : Int, 0 ≤ X ∧ X < src.Wide → 0 ≤ Y ∧ Y < src.High → Y / 8 * (src.Wide / 8) + X / 8 < n → P X Y (dotAt now X Y) := by
 induction h with
 | zero =>
  intro X Y hX hY hlt
  have := Int.mul_nonneg (show 0 ≤ Y / 8 by omega) (show 0 ≤ src.Wide / 8 by omega)
  omega
 | succ h hn q d now' hi hs hq hd hp ih =>
  rename_i n0 l0 now0
  obtain ⟨ok, w, hh, hl, hall⟩ := h.pic H
  have SF := sfIn_of H hn ok w hh
  obtain ⟨q2, d2, e2, _, _, _, hd64⟩ := SquareFor_yes SF
  rw [hi] at e2
  injection e2 with e2
  injection e2 with e2 e3
  injection e3 with e3 _
  subst e2; subst e3
  obtain ⟨p', ep, p1, p2, p3, p4⟩ := put_dots ok SF.h0 hd64
  rw [hp] at ep
  injection ep with ep
  subst ep
  obtain ⟨q1, q2', q3⟩ := hq.ok H.hr
  obtain ⟨d', ei', es', _⟩ := SquareDots_both (now := now0) (ref := ref) (l := 0) (t := 0) (x := tX src.Wide n0) (y := tY src.Wide n0) (c := c) (q := q) ⟨ok, SF.hx, SF.hy, SF.h0, by omega, by omega, H.hc, by omega⟩ q1 q2' (fun hK => (H.hk hK).1)
  rw [hd] at ei'
  injection ei' with ei'
  injection ei' with ei' _
  subst ei'
  have hPd := hP n0 now0 q d hn SF hq es'
  intro X Y hX hY hlt
  rw [p4 X Y (by rw [w]; exact hX) (by rw [hh]; exact hY)]
  have sw := sideB_parts H.hw
  have dv := place_div (W := src.Wide / 8) (x := X / 8) (y := Y / 8) ⟨by omega, by omega⟩
  by_cases hin : inSq (tX src.Wide n0) (tY src.Wide n0) X Y = true
  ·
   rw [if_pos hin]
   unfold inSq at hin
   rw [decide_eq_true_eq] at hin
   have := hPd ((Y - tY src.Wide n0) * 8 + (X - tX src.Wide n0)).toNat (by omega)
   have e1 : tX src.Wide n0 + (((((Y - tY src.Wide n0) * 8 + (X - tX src.Wide n0)).toNat % 8 : Nat)) : Int) = X := by omega
   have e2 : tY src.Wide n0 + (((((Y - tY src.Wide n0) * 8 + (X - tX src.Wide n0)).toNat / 8 : Nat)) : Int) = Y := by omega
   rw [e1, e2] at this
   exact this
  ·
   rw [if_neg hin]
   refine ih X Y hX hY ?_
   have hne : Y / 8 * (src.Wide / 8) + X / 8 ≠ n0 := fun e => hin (by
    rw [e] at dv
    unfold inSq tX tY
    rw [dv.1, dv.2, decide_eq_true_eq]
    omega)
   omega
theorem Tiled.all {src ref : Pic} {c : Cond} {r : Int} (H : TfIn src ref c r) (P : Int → Int → Int → Prop)
  (hP : ∀ (n : Nat) (now : Pic) (q : Square) (d : List Int), (n : Int) < src.Wide / 8 * (src.High / 8) → SfIn now ref (blkL src (tX src.Wide n) (tY src.Wide n) 64) (tX src.Wide n) (tY src.Wide n) c r → Chosen now ref (blkL src (tX src.Wide n) (tY src.Wide n) 64) (tX src.Wide n) (tY src.Wide n) c r q → spec_SquareDots now ref 0 0 c (tX src.Wide n) (tY src.Wide n) q = some (d, true) → ∀ i : Nat, i < 64 → P (tX src.Wide n + ((i % 8 : Nat) : Int)) (tY src.Wide n + ((i / 8 : Nat) : Int)) (d.getD i 0))
  {l : List Square} {now : Pic} (h : Tiled src ref c r ((src.Wide / 8).toNat * (src.High / 8).toNat) l now) : ∀ X Y : Int, 0 ≤ X ∧ X < src.Wide → 0 ≤ Y ∧ Y < src.High → P X Y (dotAt now X Y) := by
 intro X Y hX hY
 refine h.dots H P hP X Y hX hY ?_
 have sw := sideB_parts H.hw
 have sh := sideB_parts H.hh
 have p := place_in (W := src.Wide / 8) (H := src.High / 8) (x := X / 8) (y := Y / 8) ⟨by omega, by omega⟩ ⟨by omega, by omega⟩
 rw [Int.natCast_mul, show (((src.Wide / 8).toNat : Nat) : Int) = src.Wide / 8 by omega, show (((src.High / 8).toNat : Nat) : Int) = src.High / 8 by omega]
 exact p.2
theorem blkL_at (p : Pic) (x y : Int) {i : Nat} (hi : i < 64) : (blkL p x y 64).getD i 0 = dotAt p (x + ((i % 8 : Nat) : Int)) (y + ((i / 8 : Nat) : Int)) := getD_map _ hi
theorem Tiled.same {src ref : Pic} {c : Cond} {r : Int} (H : TfIn src ref c r) (hd : ∀ (now : Pic) (w : List Int) (x y : Int) (q : Square) (d : List Int), SfIn now ref w x y c r → w = blkL src x y 64 → Chosen now ref w x y c r q → spec_SquareDots now ref 0 0 c x y q = some (d, true) → d = w) {l : List Square} {now : Pic} (h : Tiled src ref c r ((src.Wide / 8).toNat * (src.High / 8).toNat) l now) : now = src := by
 obtain ⟨ok, w, hh, _, _⟩ := h.pic H
 refine pic_eq ok H.ok w hh fun X Y hX hY => ?_
 rw [w] at hX
 rw [hh] at hY
 refine h.all H (fun X Y v => v = dotAt src X Y) (fun n now q d hn SF hq hs i hi => ?_) X Y hX hY
 rw [hd now _ _ _ q d SF rfl hq hs]
 exact blkL_at _ _ _ hi
theorem tile_count {src : Pic} (hw : sideB src.Wide = true) (hh : sideB src.High = true) : (((src.Wide / 8).toNat * (src.High / 8).toNat : Nat) : Int) = src.Wide / 8 * (src.High / 8) ∧ 1 ≤ src.Wide / 8 * (src.High / 8) ∧ src.Wide / 8 * (src.High / 8) ≤ 64 := by
 have a := sideB_parts hw
 have b := sideB_parts hh
 have m1 : src.Wide / 8 * (src.High / 8) ≤ 8 * 8 := Int.mul_le_mul (by omega) (by omega) (by omega) (by omega)
 have m2 : 1 * 1 ≤ src.Wide / 8 * (src.High / 8) := Int.mul_le_mul (by omega) (by omega) (by omega) (by omega)
 rw [Int.natCast_mul, show (((src.Wide / 8).toNat : Nat) : Int) = src.Wide / 8 by omega, show (((src.High / 8).toNat : Nat) : Int) = src.High / 8 by omega]
 exact ⟨rfl, by omega, by omega⟩
theorem side_of {n : Int} (h : n = 8 ∨ n = 16) : sideB n = true := by rcases h with rfl | rfl <;> rfl
theorem picEq_self (p : Pic) : ((p.Wide == p.Wide) && ((p.High == p.High) && (p.Dots.toList == p.Dots.toList))) = true := by
 simp only [beq_self_eq_true, Bool.and_self]
theorem Tiled.still {src : Pic} {c : Cond} {r : Int} (H : TfIn src src c r) (hK : c.Key = false) {n : Nat} {l : List Square} {now : Pic} (h : Tiled src src c r n l now) : l = List.replicate n ⟨0, 0, 0, 0, []⟩ := by
 induction h with
 | zero => rfl
 | succ h hn q d now' hi hs hq hd hp ih =>
  have : q = ⟨0, 0, 0, 0, []⟩ := by
   cases hq with
   | same => rfl
   | still => rfl
   | move _ _ _ _ _ _ _ _ _ hn => exact absurd (fun _ _ => rfl) hn
   | guess _ _ _ _ _ _ _ _ _ _ _ hn => exact absurd (fun _ _ => rfl) (hn hK)
  rw [ih, this, List.replicate_succ']
theorem getD_r (a b : List Int) (i : Nat) : (a ++ b).getD (a.length + i) 0 = b.getD i 0 := by
 rw [List.getD_eq_getElem?_getD, List.getD_eq_getElem?_getD, List.getElem?_append_right (by omega)]
 congr 2; omega
theorem getD_l (a b : List Int) (i : Nat) (hi : i < a.length) : (a ++ b).getD i 0 = a.getD i 0 := by
 rw [List.getD_eq_getElem?_getD, List.getD_eq_getElem?_getD, List.getElem?_append_left hi]
theorem or_one (v x : Int) (h0 : 0 ≤ v) (h1 : v ≤ 1000000000000000000) (hx : x = 0 ∨ x = 1) : IntKind.wrap .i64 (BitVec.ofInt (IntKind.bits .i64) (v * 2) ||| BitVec.ofInt (IntKind.bits .i64) x).toNat = v * 2 + x := by
 obtain ⟨a, rfl⟩ : ∃ a : Nat, v = a := ⟨v.toNat, by omega⟩
 obtain ⟨b, rfl⟩ : ∃ b : Nat, x = b := ⟨x.toNat, by omega⟩
 have h : (BitVec.ofInt 64 ((a : Int) * 2) ||| BitVec.ofInt 64 (b : Int)).toNat = a * 2 + b := by
  rw [BitVec.toNat_or, BitVec.toNat_ofInt, BitVec.toNat_ofInt]
  have e1 : (((a : Int) * 2) % ((2 ^ 64 : Nat) : Int)).toNat = a * 2 := by omega
  have e2 : ((b : Int) % ((2 ^ 64 : Nat) : Int)).toNat = b := by omega
  rw [e1, e2]
  have := Nat.two_pow_add_eq_or_of_lt (i := 1) (b := b) (by omega) a
  rw [show 2 ^ 1 * a = a * 2 by omega] at this
  exact this.symm
 show IntKind.wrap .i64 ((BitVec.ofInt 64 ((a : Int) * 2) ||| BitVec.ofInt 64 (b : Int)).toNat : Int) = _
 rw [h, ← wrapK_eq, wk (by omega) (by omega)]
 omega
theorem pow_small {i : Nat} (h : i ≤ 40) : (2 : Int) ^ i ≤ 1099511627776 := by
 have h2 : (2 : Nat) ^ i ≤ 1099511627776 := Nat.pow_le_pow_right (n := 2) (by omega) h
 have := Int.ofNat_le.2 h2
 rw [Int.natCast_pow] at this
 exact this
theorem scan_fix_eq {L a f b : List Int} (hL : L = a ++ (f ++ b)) (hb : bitL L) (hl : L.length ≤ 400000) (hf : f.length ≤ 41) : impl_scan_fix ⟨strOfNums L, (a.length : Int), false⟩ (f.length : Int) = some (val8 f, ⟨strOfNums L, ((a.length + f.length : Nat) : Int), false⟩) := by
 have hLl : L.length = a.length + (f.length + b.length) := by rw [hL]; simp only [List.length_append]
 have hfb : bitL f := fun x hx => hb x (by rw [hL]; simp [hx])
 unfold impl_scan_fix
 simp only
 rw [sel_f, strOfNums_size, wk (by omega) (by omega), bnd_s, sel_no (by omega)]
 have key : ∀ i : Nat, i ≤ f.length → loop (impl_scan_fix_l2 ⟨strOfNums L, (a.length : Int), false⟩ (f.length : Int)) (val8 (f.take i), (i : Int)) = some (val8 f) := by
  refine down_to _ ?_ ?_
  ·
   refine ldone ?_
   unfold impl_scan_fix_l2
   simp only
   rw [sel_no (by omega), List.take_length]
  ·
   intro i hi ih
   refine lgo ?_ ih
   have hx : L.getD (a.length + i) 0 = f.getD i 0 := by rw [hL, getD_r, getD_l _ _ _ hi]
   have hbt : btOf (strOfNums L) ((a.length : Int) + i) = f.getD i 0 := by
    rw [show (a.length : Int) + i = ((a.length + i : Nat) : Int) by omega, bt_str L (bitL_byte hb) _ (by omega), hx]
   have h2 : f.getD i 0 = 48 ∨ f.getD i 0 = 49 := hfb _ (by rw [getD_at f i hi]; exact List.getElem_mem hi)
   have ht : bitL (f.take i) := fun x hx => hfb x (List.mem_of_mem_take hx)
   have hr := val_range ht
   have hp : (2 : Int) ^ (f.take i).length ≤ 1099511627776 := pow_small (by rw [List.length_take]; omega)
   have hv : val8 (f.take (i + 1)) = val8 (f.take i) * 2 + (f.getD i 0 - 48) := by
    rw [List.take_add_one, val_app, getD_at f i hi, List.getElem?_eq_getElem hi]
    simp [val8]
   unfold impl_scan_fix_l2
   simp only
   rw [sel_yes (by omega), req_p (by omega), wk (e := (a.length : Int) + i) (by omega) (by omega), req_p (by rw [strOfNums_size]; omega), hbt, w8 (by omega) (by omega), wk (e := f.getD i 0 - 48) (by omega) (by omega), show (2 : Int) ^ min (1 : Int).toNat (IntKind.bits .i64) = 2 from rfl, wk (e := val8 (f.take i) * 2) (by omega) (by omega), or_one _ _ (by omega) (by omega) (by omega), wk (by omega) (by omega), hv]
   rfl
 have := key 0 (by omega)
 rw [List.take_zero] at this
 refine (bnd_e this).trans ?_
 rw [wk (by omega) (by omega)]
 rfl
theorem binL_head (m : Nat) (h : m ≠ 0) : ∃ r, binL m = 49 :: r := by
 induction m using Nat.strongRecOn with
 | _ m ih =>
  rw [binL, dif_neg h]
  by_cases h1 : m / 2 = 0
  ·
   have : m = 1 := by omega
   subst this
   rw [binL, dif_pos h1]
   exact ⟨[], rfl⟩
  ·
   obtain ⟨r, e⟩ := ih (m / 2) (by omega) h1
   rw [e]
   exact ⟨r ++ [48 + ((m % 2 : Nat) : Int)], rfl⟩
theorem val_bin (m : Nat) : val8 (binL m) = m := by
 induction m using Nat.strongRecOn with
 | _ m ih =>
  rw [binL]
  by_cases h : m = 0
  ·
   rw [dif_pos h, h]; rfl
  ·
   rw [dif_neg h, val_app, ih (m / 2) (by omega)]
   simp [val8]
   omega
theorem scan_ue_eq {L a b : List Int} {n : Nat} (hL : L = a ++ (ueL n ++ b)) (hb : bitL L) (hl : L.length ≤ 400000) (hn : n ≤ 1000000) : impl_scan_ue ⟨strOfNums L, (a.length : Int), false⟩ = some ((n : Int), ⟨strOfNums L, ((a.length + (ueL n).length : Nat) : Int), false⟩) := by
 have hLl : L.length = a.length + ((ueL n).length + b.length) := by rw [hL]; simp only [List.length_append]
 have f1 := figs_le (m := n + 1) (j := 20) (by omega)
 have f2 := figs_pos (m := n + 1) (by omega)
 have ul : (ueL n).length = figs (n + 1) - 1 + figs (n + 1) := by unfold ueL; rw [List.length_append, List.length_replicate, binL_len]
 obtain ⟨r, er⟩ := binL_head (n + 1) (by omega)
 have hc : ∀ i : Nat, i < (ueL n).length → L.getD (a.length + i) 0 = (ueL n).getD i 0 := fun i hi => by rw [hL, getD_r, getD_l _ _ _ hi]
 have key : ∀ i : Nat, i ≤ figs (n + 1) - 1 → loop (impl_scan_ue_l2 ⟨strOfNums L, (a.length : Int), false⟩) (i : Int) = some ((figs (n + 1) - 1 : Nat) : Int) := by
  refine down_to _ ?_ ?_
  ·
   refine ldone ?_
   have hx : (ueL n).getD (figs (n + 1) - 1) 0 = 49 := by
    have := getD_r (List.replicate (figs (n + 1) - 1) 48) (binL (n + 1)) 0
    rw [List.length_replicate] at this
    unfold ueL
    exact this.trans (by rw [er]; rfl)
   unfold impl_scan_ue_l2
   simp only
   rw [sel_f, wk (by omega) (by omega), strOfNums_size, sel_yes (by omega), req_p (by omega), show (a.length : Int) + ((figs (n + 1) - 1 : Nat) : Int) = ((a.length + (figs (n + 1) - 1) : Nat) : Int) by omega, bt_str L (bitL_byte hb) _ (by omega), hc _ (by omega), hx, bnd_s]
   rfl
  ·
   intro i hi ih
   refine lgo ?_ ih
   have hx : (ueL n).getD i 0 = 48 := by
    unfold ueL
    rw [getD_l _ _ _ (by rw [List.length_replicate]; exact hi), getD_at _ i (by rw [List.length_replicate]; exact hi), List.getElem_replicate]
   unfold impl_scan_ue_l2
   simp only
   rw [sel_f, wk (e := (a.length : Int) + i) (by omega) (by omega), strOfNums_size, sel_yes (by omega), req_p (by omega), show (a.length : Int) + (i : Int) = ((a.length + i : Nat) : Int) by omega, bt_str L (bitL_byte hb) _ (by omega), hc _ (by omega), hx, bnd_s, wk (by omega) (by omega)]
   rfl
 have hf := scan_fix_eq hL hb hl (by omega)
 have hv : val8 (ueL n) = (n : Int) + 1 := by unfold ueL; rw [val_app, val_rep, val_bin, Int.zero_mul, Int.zero_add]; omega
 unfold impl_scan_ue
 refine (bnd_e (key 0 (by omega))).trans ?_
 simp only
 rw [sel_no (by omega), bnd_s, wk (e := 2 * ((figs (n + 1) - 1 : Nat) : Int)) (by omega) (by omega), wk (e := 2 * ((figs (n + 1) - 1 : Nat) : Int) + 1) (by omega) (by omega), show 2 * ((figs (n + 1) - 1 : Nat) : Int) + 1 = ((ueL n).length : Int) by omega, hf, bnd_s]
 simp only
 rw [sel_f, hv, wk (by omega) (by omega), bnd_s, sel_no (by omega), show (n : Int) + 1 - 1 = n by omega]
theorem scan_se_eq {L a b : List Int} {n : Int} (hL : L = a ++ (seL n ++ b)) (hb : bitL L) (hl : L.length ≤ 400000) (hn : -500000 ≤ n ∧ n ≤ 500000) : impl_scan_se ⟨strOfNums L, (a.length : Int), false⟩ = some (n, ⟨strOfNums L, ((a.length + (seL n).length : Nat) : Int), false⟩) := by
 have hf := foldN_le n hn
 unfold impl_scan_se
 rw [scan_ue_eq hL hb hl hf, bnd_s]
 have ho : impl_OpenSe ((foldN n : Nat) : Int) = some (n, true) := by
  unfold impl_OpenSe
  rw [impl_within_eq, bnd_s, decide_eq_true (by omega), Bool.not_true, sel_f, req_p (by omega), tmod_pos (by omega)]
  unfold foldN
  split
  ·
   rw [sel_pos (by rw [beq_iff_eq]; omega), req_p (by omega), wk (e := (((2 * n - 1).toNat : Nat) : Int) + 1) (by omega) (by omega), tdiv_pos (by omega), wk (by omega) (by omega)]
   congr 2; omega
  ·
   rw [sel_neg (by rw [beq_eq_false_iff_ne]; omega), req_p (by omega), wk (e := 0 - _) (by omega) (by omega)]
   have : (0 - (((-2 * n).toNat : Nat) : Int)).tdiv 2 = n := by
    rw [show (0 - (((-2 * n).toNat : Nat) : Int)) = n * 2 by omega]
    exact Int.mul_tdiv_cancel n (by omega)
   rw [this, wk (by omega) (by omega)]
 simp only
 rw [ho, bnd_s]
 rfl
theorem nz_runs (l : List Int) (hl : l.length ≤ 64) : nz l ≤ 64 := by have := nz_le l; omega
theorem scan_runs_eq {L a b l : List Int} (hL : L = a ++ (runsL l ++ b)) (hb : bitL L) (hl : L.length ≤ 400000) (hall : l.all lvIn = true) (h64 : l.length ≤ 64) : impl_scan_runs ⟨strOfNums L, (a.length : Int), false⟩ (l.length : Int) = some (l, ⟨strOfNums L, ((a.length + (runsL l).length : Nat) : Int), false⟩) := by
 have key : ∀ (r pre : List Int) (g : Nat) (a' b' : List Int), l = pre ++ r → g ≤ pre.length → L = a' ++ (runsB g r ++ b') → loop (impl_scan_runs_l2 (l.length : Int)) (((pre.length - g : Nat) : Int), (nz r : Int), strOfNums L, (a'.length : Int), false, pre ++ List.replicate r.length 0) = some (l, strOfNums L, ((a'.length + (runsB g r).length : Nat) : Int), false) := by
  intro r
  induction r with
  | nil =>
   intro pre g a' b' h1 h2 h3
   refine ldone ?_
   unfold impl_scan_runs_l2
   simp only
   rw [sel_no (by rw [nz]; omega), bnd_s, sel_f, h1]
   simp only [runsB, List.length_nil, List.replicate_zero, Nat.add_zero]
  | cons x r ih =>
   intro pre g a' b' h1 h2 h3
   have hlen : l.length = pre.length + (r.length + 1) := by rw [h1]; simp
   have hx : -5000 ≤ x ∧ x ≤ 5000 := lvIn_iff.1 (List.all_eq_true.1 hall x (by rw [h1]; simp))
   by_cases e : x = 0
   ·
    rw [runsB, if_pos e] at h3
    have := ih (pre ++ [x]) (g + 1) a' b' (by rw [h1]; simp) (by simp; omega) h3
    rw [nz, if_pos e, runsB, if_pos e, ← this, List.length_append, List.length_singleton, show pre.length + 1 - (g + 1) = pre.length - g by omega, List.append_assoc, List.length_cons, List.replicate_succ, e]
    rfl
   ·
    rw [runsB, if_neg e] at h3
    have u1 := ueL_len g (by omega)
    have u2 := seL_len x (by omega)
    have u3 := nz_le r
    have e1 := scan_ue_eq (L := L) (a := a') (b := seL x ++ runsB 0 r ++ b') (n := g) (by rw [h3]; simp only [List.append_assoc]) hb hl (by omega)
    have e2 := scan_se_eq (L := L) (a := a' ++ ueL g) (b := runsB 0 r ++ b') (n := x) (by rw [h3]; simp only [List.append_assoc]) hb hl (by omega)
    have := ih (pre ++ [x]) 0 (a' ++ ueL g ++ seL x) b' (by rw [h1]; simp) (by simp) (by rw [h3]; simp only [List.append_assoc])
    rw [List.length_append] at e2
    simp only [List.length_append, List.length_singleton] at this
    rw [nz, if_neg e, runsB, if_neg e]
    refine lgo ?_ (this.trans ?_)
    ·
     unfold impl_scan_runs_l2
     simp only
     rw [sel_yes (by omega), Bool.not_false, bnd_s, sel_t, e1, bnd_s]
     simp only
     rw [e2, bnd_s]
     simp only
     have hp : ((pre.length - g : Nat) : Int) + (g : Int) = (pre.length : Int) := by omega
     rw [hp, wk (e := (pre.length : Int)) (by omega) (by omega), sel_no (by omega), sel_neg (by rw [beq_eq_false_iff_ne]; exact e), impl_within_eq, bnd_s, decide_eq_true (by omega), Bool.not_true, bnd_s, sel_f, Int.toNat_natCast, req_p (by simp only [List.length_append, List.length_replicate, List.length_cons]; omega), req_p (by simp only [List.length_append, List.length_replicate, List.length_cons]; omega), wk (by omega) (by omega), wk (by omega) (by omega), List.length_cons, List.replicate_succ, set_mid]
     rw [show ((nz r + 1 : Nat) : Int) - 1 = (nz r : Int) by omega, show pre ++ [x] ++ List.replicate r.length 0 = pre ++ x :: List.replicate r.length 0 by simp, show ((pre.length + 1 - 0 : Nat) : Int) = (pre.length : Int) + 1 by omega]
    ·
     simp only [List.length_append]
     rw [show a'.length + (ueL g).length + (seL x).length + (runsB 0 r).length = a'.length + ((ueL g).length + (seL x).length + (runsB 0 r).length) by omega]
 have hz := nz_runs l h64
 have e0 := scan_ue_eq (L := L) (a := a) (b := runsB 0 l ++ b) (n := nz l) (by rw [hL]; unfold runsL; simp only [List.append_assoc]) hb hl (by omega)
 have := key l [] 0 (a ++ ueL (nz l)) b rfl (by simp) (by rw [hL]; unfold runsL; simp only [List.append_assoc])
 unfold impl_scan_runs
 rw [req_p (by omega), e0, bnd_s]
 simp only
 rw [List.length_append] at this
 simp only [List.nil_append, List.length_nil] at this
 rw [Int.toNat_natCast]
 refine (bnd_e this).trans ?_
 simp only
 unfold runsL
 rw [List.length_append, Nat.add_assoc]
theorem scan_levels_eq {L a b l : List Int} {c : Cond} (hL : L = a ++ (levL l c ++ b)) (hb : bitL L) (hl : L.length ≤ 400000) (h : lv64 l = true) : impl_scan_levels ⟨strOfNums L, (a.length : Int), false⟩ c = some (l, ⟨strOfNums L, ((a.length + (levL l c).length : Nat) : Int), false⟩) := by
 have hm : maxLen = 9223372036854775807 := rfl
 obtain ⟨h1, h2⟩ := lv64_parts h
 unfold impl_scan_levels
 rw [sel_or, bnd_s]
 unfold levL at hL ⊢
 by_cases e : (c.Large || c.Exact) = true
 ·
  rw [if_pos e] at hL
  rw [sel_pos e, if_pos e]
  have := scan_runs_eq hL hb hl h2 (by omega)
  rw [h1] at this
  exact (bnd_e this).trans rfl
 ·
  rw [if_neg e] at hL
  rw [sel_neg (by simpa using e), if_neg e]
  have step : ∀ (n : Nat) (s q : List Int) (a' b' : List Int), n < 4 → q.length = 16 → q.all lvIn = true → s.length ≤ 64 → L = a' ++ (runsL q ++ b') → impl_scan_levels_l2 ((n : Int), strOfNums L, (a'.length : Int), false, s) = some (.go (((n + 1 : Nat) : Int), strOfNums L, (((a' ++ runsL q).length : Nat) : Int), false, s ++ q)) := by
   intro n s q a' b' hn hq hqa hs hLL
   have := scan_runs_eq hLL hb hl hqa (by omega)
   rw [hq] at this
   unfold impl_scan_levels_l2
   simp only
   rw [sel_yes (by omega)]
   refine (bnd_e this).trans ?_
   simp only
   rw [req_p (by omega), wk (by omega) (by omega), List.length_append]
   rfl
  have q0 : (l.take 16).length = 16 := by rw [List.length_take]; omega
  have q1 : ((l.drop 16).take 16).length = 16 := by rw [List.length_take, List.length_drop]; omega
  have q2 : ((l.drop 32).take 16).length = 16 := by rw [List.length_take, List.length_drop]; omega
  have q3 : (l.drop 48).length = 16 := by rw [List.length_drop]; omega
  have hcat : l.take 16 ++ (l.drop 16).take 16 ++ (l.drop 32).take 16 ++ l.drop 48 = l := by
   have e1 : (l.drop 32).take 16 ++ l.drop 48 = l.drop 32 := by
    have := List.take_append_drop 16 (l.drop 32)
    rwa [List.drop_drop] at this
   have e2 : (l.drop 16).take 16 ++ l.drop 32 = l.drop 16 := by
    have := List.take_append_drop 16 (l.drop 16)
    rwa [List.drop_drop] at this
   rw [List.append_assoc, e1, List.append_assoc, e2, List.take_append_drop]
  have g0 := step 0 [] _ a (runsL ((l.drop 16).take 16) ++ runsL ((l.drop 32).take 16) ++ runsL (l.drop 48) ++ b) (by omega) q0 (all_take h2 _) (by simp) (by rw [hL]; simp only [List.append_assoc])
  have g1 := step 1 ([] ++ l.take 16) _ (a ++ runsL (l.take 16)) (runsL ((l.drop 32).take 16) ++ runsL (l.drop 48) ++ b) (by omega) q1 (all_take (all_drop h2 _) _) (by simp only [List.length_append, List.length_nil]; omega) (by rw [hL]; simp only [List.append_assoc])
  have g2 := step 2 ([] ++ l.take 16 ++ (l.drop 16).take 16) _ (a ++ runsL (l.take 16) ++ runsL ((l.drop 16).take 16)) (runsL (l.drop 48) ++ b) (by omega) q2 (all_take (all_drop h2 _) _) (by simp only [List.length_append, List.length_nil]; omega) (by rw [hL]; simp only [List.append_assoc])
  have g3 := step 3 ([] ++ l.take 16 ++ (l.drop 16).take 16 ++ (l.drop 32).take 16) _ (a ++ runsL (l.take 16) ++ runsL ((l.drop 16).take 16) ++ runsL ((l.drop 32).take 16)) b (by omega) q3 (all_drop h2 _) (by simp only [List.length_append, List.length_nil]; omega) (by rw [hL]; simp only [List.append_assoc])
  have l4 : ∀ s, impl_scan_levels_l2 (((4 : Nat) : Int), s) = some (.done (s.2.2.2, s.1, s.2.1, s.2.2.1)) := by intro s; unfold impl_scan_levels_l2; simp only; rw [sel_no (by omega)]
  have e : loop impl_scan_levels_l2 (((0 : Nat) : Int), strOfNums L, (a.length : Int), false, []) = _ := (loop_go g0).trans ((loop_go g1).trans ((loop_go g2).trans ((loop_go g3).trans (loop_done (l4 _)))))
  refine (bnd_e e).trans ?_
  simp only [List.nil_append, hcat]
  simp only [List.length_append, Nat.add_assoc]
theorem sqOk_k0 {s : Square} (h : sqOk s = true) (h1 : s.Kind = 0) : s = ⟨0, 0, 0, 0, []⟩ := by
 unfold sqOk at h
 rw [if_pos h1, decide_eq_true_eq] at h
 obtain ⟨k, m, x, y, l⟩ := s
 simp only at h h1
 obtain ⟨a, b, c, d⟩ := h
 rw [h1, a, b, c, List.length_eq_zero_iff.1 d]
theorem scan_square_eq {L a b : List Int} {s : Square} {c : Cond} (hL : L = a ++ (sqL s c ++ b)) (hb : bitL L) (hl : L.length ≤ 400000) (h : sqOk s = true) (hlet : sqLet s c = true) : impl_scan_square ⟨strOfNums L, (a.length : Int), false⟩ c = some (s, ⟨strOfNums L, ((a.length + (sqL s c).length : Nat) : Int), false⟩) := by
 have hk := sqOk_kind h
 have hl6 : s.Levels.length ≤ 64 := by
  by_cases h0 : s.Kind = 0
  ·
   rw [sqOk_k0 h h0]; simp
  ·
   by_cases h1 : s.Kind = 1
   ·
    have := lv64_parts (sqOk_one h h1).2.2; omega
   ·
    have := lv64_parts (sqOk_two h (by omega)).2; omega
 have hok := impl_SquareOk_eq s (by omega)
 rw [h] at hok
 unfold impl_scan_square
 simp only
 obtain ⟨p, hp, hL2, e1⟩ : ∃ p : List Int, p = (if c.Key = true then [] else ueL s.Kind.toNat) ∧ L = (a ++ p) ++ ((if s.Kind = 1 then seL s.Dx ++ seL s.Dy ++ levL s.Levels c else if s.Kind = 2 then ueL s.Mode.toNat ++ levL s.Levels c else []) ++ b) ∧ (sel (!c.Key) (bnd (impl_scan_ue ⟨strOfNums L, (a.length : Int), false⟩) fun q2 => some (q2.2.row_, q2.2.at_, q2.2.bad_, q2.1)) (some (strOfNums L, (a.length : Int), false, 2))) = some (strOfNums L, (((a ++ p).length : Nat) : Int), false, s.Kind) := by
  refine ⟨_, rfl, by rw [hL]; unfold sqL; simp only [List.append_assoc], ?_⟩
  cases hK : c.Key with
  | true =>
   unfold sqLet at hlet
   rw [hK, Bool.not_true, Bool.false_or, beq_iff_eq] at hlet
   rw [Bool.not_true, sel_f, if_pos rfl, List.append_nil, hlet]
  | false =>
   have := scan_ue_eq (L := L) (a := a) (n := s.Kind.toNat) (b := (if s.Kind = 1 then seL s.Dx ++ seL s.Dy ++ levL s.Levels c else if s.Kind = 2 then ueL s.Mode.toNat ++ levL s.Levels c else []) ++ b) (by rw [hL]; unfold sqL; rw [hK, if_neg (by decide)]; simp only [List.append_assoc]) hb hl (by omega)
   rw [Bool.not_false, sel_t, this, bnd_s, if_neg (by decide), List.length_append]
   simp only
   rw [show ((s.Kind.toNat : Nat) : Int) = s.Kind by omega]
 rw [e1, bnd_s]
 simp only
 have e2 : (sel false (some (strOfNums L, (((a ++ p).length : Nat) : Int), false, (0 : Int), (0 : Int), (0 : Int), ([] : List Int))) (
   sel (s.Kind == 1) (
   bnd (impl_scan_se (⟨strOfNums L, (((a ++ p).length : Nat) : Int), false⟩ : Scan)) fun q4 =>
   bnd (impl_scan_se q4.2) fun q5 =>
   bnd (impl_scan_levels q5.2 c) fun q6 =>
   some (q6.2.row_, q6.2.at_, q6.2.bad_, 0, q4.1, q5.1, q6.1)) (
   sel (s.Kind == 2) (
   bnd (impl_scan_ue (⟨strOfNums L, (((a ++ p).length : Nat) : Int), false⟩ : Scan)) fun q7 =>
   bnd (impl_scan_levels q7.2 c) fun q8 =>
   some (q8.2.row_, q8.2.at_, q8.2.bad_, q7.1, 0, 0, q8.1)) (
   some (strOfNums L, (((a ++ p).length : Nat) : Int), false, 0, 0, 0, []))))) = some (strOfNums L, ((a.length + (sqL s c).length : Nat) : Int), false, s.Mode, s.Dx, s.Dy, s.Levels) := by
  rw [sel_f]
  unfold sqL
  rw [← hp]
  by_cases h1 : s.Kind = 1
  ·
   obtain ⟨x1, x2, x3⟩ := sqOk_one h h1
   have hm0 : s.Mode = 0 := by
    unfold sqOk at h
    rw [if_neg (by omega), if_pos h1] at h
    simp only [Bool.and_eq_true, decide_eq_true_eq] at h
    exact h.1
   rw [if_pos h1] at hL2
   have y1 := scan_se_eq (L := L) (a := a ++ p) (b := seL s.Dy ++ levL s.Levels c ++ b) (n := s.Dx) (by rw [hL2]; simp only [List.append_assoc]) hb hl (by omega)
   have y2 := scan_se_eq (L := L) (a := a ++ p ++ seL s.Dx) (b := levL s.Levels c ++ b) (n := s.Dy) (by rw [hL2]; simp only [List.append_assoc]) hb hl (by omega)
   have y3 := scan_levels_eq (L := L) (a := a ++ p ++ seL s.Dx ++ seL s.Dy) (b := b) (l := s.Levels) (c := c) (by rw [hL2]; simp only [List.append_assoc]) hb hl x3
   rw [List.length_append (as := a ++ p)] at y2
   rw [List.length_append (as := a ++ p ++ seL s.Dx), List.length_append (as := a ++ p)] at y3
   rw [sel_pos (by rw [beq_iff_eq]; exact h1), y1, bnd_s]
   simp only
   rw [y2, bnd_s]
   simp only
   rw [y3, bnd_s, if_pos h1, hm0]
   simp only [List.length_append, Nat.add_assoc]
  ·
   rw [sel_neg (by rw [beq_eq_false_iff_ne]; exact h1), if_neg h1]
   rw [if_neg h1] at hL2
   by_cases h2 : s.Kind = 2
   ·
    obtain ⟨x1, x3⟩ := sqOk_two h h2
    have hd0 : s.Dx = 0 ∧ s.Dy = 0 := by
     unfold sqOk at h
     rw [if_neg (by omega), if_neg (by omega), if_pos h2] at h
     simp only [Bool.and_eq_true, decide_eq_true_eq] at h
     exact ⟨h.2.1, h.2.2.1⟩
    rw [if_pos h2] at hL2
    have y1 := scan_ue_eq (L := L) (a := a ++ p) (b := levL s.Levels c ++ b) (n := s.Mode.toNat) (by rw [hL2]; simp only [List.append_assoc]) hb hl (by omega)
    have y3 := scan_levels_eq (L := L) (a := a ++ p ++ ueL s.Mode.toNat) (b := b) (l := s.Levels) (c := c) (by rw [hL2]; simp only [List.append_assoc]) hb hl x3
    rw [List.length_append (as := a ++ p)] at y3
    rw [sel_pos (by rw [beq_iff_eq]; exact h2), y1, bnd_s]
    simp only
    rw [y3, bnd_s, if_pos h2, hd0.1, hd0.2, show ((s.Mode.toNat : Nat) : Int) = s.Mode by omega]
    simp only [List.length_append, Nat.add_assoc]
   ·
    have h0 := sqOk_k0 h (by omega)
    rw [sel_neg (by rw [beq_eq_false_iff_ne]; exact h2), if_neg h2, List.append_nil, List.length_append]
    rw [h0]
 rw [e2, bnd_s]
 simp only
 rw [sel_f, show (⟨s.Kind, s.Mode, s.Dx, s.Dy, s.Levels⟩ : Square) = s from rfl, hok, bnd_s, bnd_s]
 rfl
theorem impl_ReadTile_back {l : List Square} {c : Cond} (hs : sqAll l c = true) (hc : condOk c = true) (hl : 1 ≤ l.length ∧ l.length ≤ 64) (h64 : ∀ q ∈ l, q.Levels.length ≤ 64) : impl_ReadTile (strOfNums (tilesL l c)) 0 (l.length : Int) c = some (l, true) := by
 have hm : maxLen = 9223372036854775807 := rfl
 have hLl := tilesL_len hs
 generalize hLe : tilesL l c = L at hLl
 have hb : bitL L := by rw [← hLe]; exact tilesL_bit l c
 have hL4 : L.length ≤ 400000 := by omega
 have key : ∀ (r pre : List Square) (a : List Int), l = pre ++ r → L = a ++ tilesL r c → loop (impl_ReadTile_l2 (l.length : Int) c) ((pre.length : Int), strOfNums L, (a.length : Int), false, pre) = some (.out (strOfNums L, (L.length : Int), false, l)) := by
  intro r
  induction r with
  | nil =>
   intro pre a h1 h2
   refine ldone ?_
   rw [List.append_nil] at h1
   rw [tilesL, List.append_nil] at h2
   unfold impl_ReadTile_l2
   simp only
   rw [sel_no (by rw [h1]; omega), h1, h2]
  | cons s r ih =>
   intro pre a h1 h2
   have hlen : l.length = pre.length + (r.length + 1) := by rw [h1]; simp
   have hmem : s ∈ l := by rw [h1]; simp
   have hq := List.all_eq_true.1 hs s hmem
   simp only [Bool.and_eq_true] at hq
   obtain ⟨q1, q2, q3⟩ := hq
   rw [tilesL] at h2
   have hsc := scan_square_eq h2 hb hL4 q1 q3
   have := ih (pre ++ [s]) (a ++ sqL s c) (by rw [h1]; simp) (by rw [h2]; simp only [List.append_assoc])
   refine lgo ?_ this
   unfold impl_ReadTile_l2
   simp only
   rw [sel_yes (by omega), hsc, bnd_s]
   simp only
   rw [req_p (by simp only [List.length_singleton]; omega), sel_f, wk (by omega) (by omega), List.length_append, List.length_append, List.length_singleton]
   rfl
 have := key l [] [] rfl (by rw [hLe]; rfl)
 unfold impl_ReadTile impl_opened
 rw [impl_RowOk_eq L hb hL4, bnd_s, sel_t, impl_within_eq, bnd_s, strOfNums_size, decide_eq_true (by omega), bnd_s, bnd_s, impl_within_eq, bnd_s, decide_eq_true (by omega), sel_t, impl_CondOk_eq, bnd_s, hc, bnd_s, Bool.not_true, sel_f]
 refine (bnd_e this).trans ?_
 simp only
 rw [bne_self_eq_false, sel_f]
theorem Tiled.back {src ref : Pic} {c : Cond} {r : Int} (H : TfIn src ref c r) {n : Nat} {l : List Square} {now : Pic} (h : Tiled src ref c r n l now) : ∀ rest : List Square, (l ++ rest).length ≤ 64 → loop (impl_TileBack_l2 ⟨0, 0, src.Wide, src.High⟩ c (l ++ rest) (0, 0, ref.Wide, ref.High, ref.Dots)) (0, src.Wide, src.High, strOfNums (List.replicate (src.Wide * src.High).toNat 128)) = loop (impl_TileBack_l2 ⟨0, 0, src.Wide, src.High⟩ c (l ++ rest) (0, 0, ref.Wide, ref.High, ref.Dots)) ((n : Int), now.Wide, now.High, now.Dots) := by
 induction h with
 | zero => intro rest _; rfl
 | succ h hn q d now' hi hs hq hd hp ih =>
  rename_i n0 l0 now0
  intro rest hlen
  rw [List.append_assoc] at hlen ⊢
  rw [ih ([q] ++ rest) hlen]
  obtain ⟨ok, w, hh, hl, hall⟩ := h.pic H
  have SF := sfIn_of H hn ok w hh
  obtain ⟨q2, d2, e2, _, _, _, hd64⟩ := SquareFor_yes SF
  rw [hi] at e2
  injection e2 with e2
  injection e2 with e2 e3
  injection e3 with e3 _
  subst e2; subst e3
  have sw := sideB_parts H.hw
  have sh := sideB_parts H.hh
  obtain ⟨p1, p2, p3, p4, p5, p6, p7, p8, p9, p10⟩ := tile_place H.hw H.hh n0 hn
  have hx : (l0 ++ ([q] ++ rest)).getD n0 dSquare = q := by rw [← hl]; exact getD_mid l0 q _ rest
  have hn2 : (l0 ++ ([q] ++ rest)).length = n0 + 1 + rest.length := by simp only [List.length_append, List.length_singleton, hl]; omega
  refine loop_go ?_
  unfold impl_TileBack_l2
  simp only [Int.toNat_natCast, hx]
  rw [sel_yes (by omega), req_p (by omega), req_p (by omega), tdiv_pos (a := src.Wide) (by omega), wk (e := src.Wide / 8) (by omega) (by omega), req_p (by omega), req_p (by omega), req_p (by omega), tmod_pos (a := (n0 : Int)) (by omega), tdiv_pos (a := (n0 : Int)) (by omega), wk (e := (n0 : Int) % (src.Wide / 8) * 8) (by omega) (by omega), wk (e := (n0 : Int) / (src.Wide / 8)) (by omega) (by omega), wk (e := (n0 : Int) / (src.Wide / 8) * 8) (by omega) (by omega), wk (e := (n0 : Int) + 1) (by omega) (by omega), show (⟨now0.Wide, now0.High, now0.Dots⟩ : Pic) = now0 from rfl, show (⟨ref.Wide, ref.High, ref.Dots⟩ : Pic) = ref from rfl, show (⟨q.Kind, q.Mode, q.Dx, q.Dy, q.Levels⟩ : Square) = q from rfl]
  have hd' : impl_SquareDots now0 ref 0 0 c ((n0 : Int) % (src.Wide / 8) * 8) ((n0 : Int) / (src.Wide / 8) * 8) q = some (d, true) := hd
  have hp' : spec_l16Put now0 ((n0 : Int) % (src.Wide / 8) * 8) ((n0 : Int) / (src.Wide / 8) * 8) d = some now' := hp
  rw [hd', bnd_s]
  simp only
  rw [Bool.not_true, sel_f, put_alike hd64 (by have := dots_len ok; have hm : maxLen = 9223372036854775807 := rfl; omega), hp', bnd_s]
  rfl
theorem impl_TileBack_of {src ref : Pic} {c : Cond} {r : Int} (H : TfIn src ref c r) {l : List Square} {now : Pic} (h : Tiled src ref c r ((src.Wide / 8).toNat * (src.High / 8).toNat) l now) : impl_TileBack ref ⟨0, 0, src.Wide, src.High⟩ c true l = some (now, true) := by
 obtain ⟨ok, w, hh, hl, hall⟩ := h.pic H
 obtain ⟨t1, t2, t3⟩ := tile_count H.hw H.hh
 have sw := sideB_parts H.hw
 have sh := sideB_parts H.hh
 have hb := h.back H [] (by rw [List.append_nil]; omega)
 rw [List.append_nil] at hb
 have hend : loop (impl_TileBack_l2 ⟨0, 0, src.Wide, src.High⟩ c l (0, 0, ref.Wide, ref.High, ref.Dots)) ((((src.Wide / 8).toNat * (src.High / 8).toNat : Nat) : Int), now.Wide, now.High, now.Dots) = some (.out (now.Wide, now.High, now.Dots)) := by
  refine ldone ?_
  unfold impl_TileBack_l2
  rw [sel_no (by simp only; omega)]
 unfold impl_TileBack
 simp only
 rw [impl_isTile_eq, bnd_s, H.hw, sel_t, impl_isTile_eq, bnd_s, H.hh, sel_t, impl_within_eq, bnd_s, decide_eq_true (by omega), sel_t, bnd_s, sel_t, impl_CondOk_eq, bnd_s, H.hc, sel_t, req_p (by omega), req_p (by omega), tdiv_pos (a := src.Wide) (by omega), tdiv_pos (a := src.High) (by omega), wk (e := src.Wide / 8) (by omega) (by omega), wk (e := src.High / 8) (by omega) (by omega), wk (e := src.Wide / 8 * (src.High / 8)) (by omega) (by omega), show (((l.length : Nat) : Int) != src.Wide / 8 * (src.High / 8)) = false by rw [bne_eq_false_iff_eq]; omega, bnd_s, sel_f]
 have e1 : (sel c.Key (some false) (bnd (impl_PicOk ref) fun q8 => sel q8 (bnd (impl_Pic_holds ref ⟨0, 0, src.Wide, src.High⟩) fun q9 => some (!q9)) (some true))) = some false ∧ (sel true (sel (!c.Key) (bnd (impl_CutOf ref ⟨0, 0, src.Wide, src.High⟩) fun q11 => some ((0 : Int), (0 : Int), q11.1.Wide, q11.1.High, q11.1.Dots)) (some (0, 0, ref.Wide, ref.High, ref.Dots))) (some (0, 0, ref.Wide, ref.High, ref.Dots))) = some (0, 0, ref.Wide, ref.High, ref.Dots) := by
  cases hK : c.Key with
  | true => exact ⟨rfl, rfl⟩
  | false =>
   obtain ⟨a1, a2, a3⟩ := H.hk hK
   obtain ⟨b1, b2⟩ := cut_whole a1
   rw [a2, a3] at b1 b2
   refine ⟨?_, ?_⟩
   ·
    rw [sel_f, impl_PicOk_eq, bnd_s, a1, sel_t, impl_holds_eq a1, bnd_s, b1]; rfl
   ·
    rw [sel_t, Bool.not_false, sel_t, impl_CutOf_eq a1 b1, bnd_s, b2]
 rw [e1.1, bnd_s, sel_f, e1.2, bnd_s, impl_Grey_eq _ _ (by omega) (by omega), bnd_s]
 simp only
 rw [hb, hend, bnd_s]
def sumN (t : Nat → Int) : Nat → Int
 | 0 => 0
 | k + 1 => sumN t k + t k
theorem sumN_congr {t u : Nat → Int} : ∀ n : Nat, (∀ k, k < n → t k = u k) → sumN t n = sumN u n
 | 0, _ => rfl
 | n + 1, h => by rw [sumN, sumN, sumN_congr n (fun k hk => h k (by omega)), h n (by omega)]
theorem sumN_add (t u : Nat → Int) : ∀ n : Nat, sumN (fun k => t k + u k) n = sumN t n + sumN u n
 | 0 => rfl
 | n + 1 => by rw [sumN, sumN, sumN, sumN_add t u n]; omega
theorem sumN_mul (a : Int) (t : Nat → Int) : ∀ n : Nat, sumN (fun k => a * t k) n = a * sumN t n
 | 0 => by rw [sumN, sumN, Int.mul_zero]
 | n + 1 => by rw [sumN, sumN, sumN_mul a t n, Int.mul_add]
theorem sumN_zero : ∀ n : Nat, sumN (fun _ => 0) n = 0
 | 0 => rfl
 | n + 1 => by rw [sumN, sumN_zero n]; rfl
theorem sumN_swap (X : Nat → Nat → Int) (m : Nat) : ∀ n : Nat, sumN (fun k => sumN (fun a => X a k) m) n = sumN (fun a => sumN (fun k => X a k) n) m
 | 0 => (sumN_zero m).symm
 | n + 1 => by
  rw [sumN, sumN_swap X m n, ← sumN_add]
  rfl
theorem sumN_le {t : Nat → Int} {B : Int} : ∀ n : Nat, (∀ k, k < n → -B ≤ t k ∧ t k ≤ B) → -(n * B) ≤ sumN t n ∧ sumN t n ≤ n * B
 | 0, _ => by simp [sumN]
 | n + 1, h => by
  have a := sumN_le n (fun k hk => h k (by omega))
  have b := h n (by omega)
  rw [sumN, show ((n + 1 : Nat) : Int) * B = n * B + B by rw [Int.natCast_add, Int.add_mul]; simp]
  omega
def eT (f : Nat → Int) (u : Nat) : Int := sumN (fun k => signPlace (u : Int) (k : Int) * f k) 8
theorem eT_congr {f g : Nat → Int} (h : ∀ k, k < 8 → f k = g k) (u : Nat) : eT f u = eT g u := sumN_congr 8 fun k hk => by rw [h k hk]
theorem eT_add (f g : Nat → Int) (u : Nat) : eT (fun k => f k + g k) u = eT f u + eT g u := by
 unfold eT
 rw [← sumN_add]
 exact sumN_congr 8 fun k _ => by rw [Int.mul_add]
theorem eT_le {f : Nat → Int} {B : Int} (h : ∀ k, k < 8 → -B ≤ f k ∧ f k ≤ B) {u : Nat} (hu : u < 8) : -(8 * B) ≤ eT f u ∧ eT f u ≤ 8 * B :=
 sumN_le 8 fun k hk => (mul_sign (h k hk) (sign_ok ⟨u, hu⟩ ⟨k, hk⟩)).2
theorem eT_swap (X : Nat → Nat → Int) (u v : Nat) : eT (fun i => eT (fun k => X i k) v) u = eT (fun k => eT (fun i => X i k) u) v := by
 have a : ∀ i : Nat, signPlace (u : Int) (i : Int) * sumN (fun k => signPlace (v : Int) (k : Int) * X i k) 8 = sumN (fun k => signPlace (u : Int) (i : Int) * (signPlace (v : Int) (k : Int) * X i k)) 8 := fun i => (sumN_mul _ _ 8).symm
 have b : ∀ k : Nat, signPlace (v : Int) (k : Int) * sumN (fun i => signPlace (u : Int) (i : Int) * X i k) 8 = sumN (fun i => signPlace (u : Int) (i : Int) * (signPlace (v : Int) (k : Int) * X i k)) 8 := fun k => by
  rw [← sumN_mul]
  exact sumN_congr 8 fun i _ => by rw [Int.mul_left_comm]
 exact (sumN_congr 8 (fun i _ => a i)).trans ((sumN_swap (fun i k => signPlace (u : Int) (i : Int) * (signPlace (v : Int) (k : Int) * X i k)) 8 8).symm.trans (sumN_congr 8 (fun k _ => b k)).symm)
theorem ortho : ∀ u a : Fin 8, sumN (fun k => signPlace (u.val : Int) (k : Int) * signPlace (k : Int) (a.val : Int)) 8 = if u.val = a.val then 8 else 0 := by decide +kernel
theorem sum_delta (f : Nat → Int) (u : Nat) : ∀ n : Nat, sumN (fun a => f a * (if u = a then 8 else 0)) n = if u < n then 8 * f u else 0
 | 0 => rfl
 | n + 1 => by
  rw [sumN, sum_delta f u n]
  by_cases h : u = n
  ·
   rw [if_neg (by omega), if_pos h, if_pos (by omega), h]; omega
  ·
   rw [if_neg h]
   by_cases h2 : u < n
   ·
    rw [if_pos h2, if_pos (by omega)]; omega
   ·
    rw [if_neg h2, if_neg (by omega)]; omega
theorem eT_eT (f : Nat → Int) {u : Nat} (hu : u < 8) : eT (eT f) u = 8 * f u := by
 have a : ∀ k : Nat, signPlace (u : Int) (k : Int) * sumN (fun b => signPlace (k : Int) (b : Int) * f b) 8 = sumN (fun b => signPlace (u : Int) (k : Int) * (signPlace (k : Int) (b : Int) * f b)) 8 := fun k => (sumN_mul _ _ 8).symm
 have b : ∀ b : Nat, b < 8 → sumN (fun k => signPlace (u : Int) (k : Int) * (signPlace (k : Int) (b : Int) * f b)) 8 = f b * (if u = b then 8 else 0) := fun b hb => by
  rw [← ortho ⟨u, hu⟩ ⟨b, hb⟩, ← sumN_mul]
  exact sumN_congr 8 fun k _ => by rw [Int.mul_comm (f b), Int.mul_assoc]
 refine (sumN_congr 8 (fun k _ => a k)).trans ((sumN_swap (fun b k => signPlace (u : Int) (k : Int) * (signPlace (k : Int) (b : Int) * f b)) 8 8).trans ((sumN_congr 8 b).trans ?_))
 rw [sum_delta, if_pos hu]
def eS (X : Nat → Nat → Int) (u v : Nat) : Int := eT (fun i => eT (X i) v) u
theorem eS_congr {X Y : Nat → Nat → Int} (h : ∀ i k, i < 8 → k < 8 → X i k = Y i k) (u v : Nat) : eS X u v = eS Y u v := eT_congr (fun i hi => eT_congr (fun k hk => h i k hi hk) v) u
theorem eS_add (X Y : Nat → Nat → Int) (u v : Nat) : eS (fun i k => X i k + Y i k) u v = eS X u v + eS Y u v := by
 unfold eS
 rw [← eT_add]
 exact eT_congr (fun i _ => eT_add (X i) (Y i) v) u
theorem eS_le {X : Nat → Nat → Int} {B : Int} (h : ∀ i k, i < 8 → k < 8 → -B ≤ X i k ∧ X i k ≤ B) {u v : Nat} (hu : u < 8) (hv : v < 8) : -(64 * B) ≤ eS X u v ∧ eS X u v ≤ 64 * B := by
 have := eT_le (B := 8 * B) (f := fun i => eT (X i) v) (fun i hi => eT_le (fun k hk => h i k hi hk) hv) hu
 unfold eS
 omega
theorem eS_eS (X : Nat → Nat → Int) {u v : Nat} (hu : u < 8) (hv : v < 8) : eS (eS X) u v = 64 * X u v := by
 unfold eS
 have a : ∀ i, eT (fun k => eT (fun a => eT (X a) k) i) v = eT (fun a => 8 * X a v) i := fun i => by
  rw [← eT_swap (fun a k => eT (X a) k) i v]
  exact eT_congr (fun a _ => eT_eT (X a) hv) i
 rw [eT_congr (fun i _ => a i) u]
 exact (eT_eT (fun a => 8 * X a v) hu).trans (by omega)
theorem acc_sum {t u : Nat → Int} {B : Int} (hB : B ≤ 1000000000000) (h : ∀ k, k < 8 → t k = u k ∧ -B ≤ u k ∧ u k ≤ B) : ∀ n : Nat, n ≤ 8 → acc8 t n = sumN u n
 | 0, _ => rfl
 | n + 1, hn => by
  have a := h n (by omega)
  have b := sumN_le (t := u) (B := B) n (fun k hk => (h k (by omega)).2)
  have c : (n : Int) * B ≤ 8 * 1000000000000 := by
   have : (n : Int) * B ≤ (n : Int) * 1000000000000 := Int.mul_le_mul_of_nonneg_left hB (by omega)
   omega
  rw [acc8, acc_sum hB h n (by omega), sumN, a.1, wk (by omega) (by omega)]
def rowsOf (p : List Int) (i k : Nat) : Int := p.getD (8 * i + k) 0
theorem half8_at {p : List Int} {B : Int} (hB : B ≤ 100000000000) (hl : p.length = 64) (hb : inB B p) {i v : Nat} (hi : i < 8) (hv : v < 8) : (half8 p).getD (8 * i + v) 0 = eT (rowsOf p i) v := by
 unfold half8
 rw [getD_map _ (by omega), show (8 * i + v) / 8 = i by omega, show (8 * i + v) % 8 = v by omega]
 refine acc_sum (B := B) (by omega) (fun k hk => ?_) 8 (by omega)
 have hp := inB_at hb (i := 8 * i + k) (by omega)
 have := (mul_sign hp (sign_ok ⟨v, hv⟩ ⟨k, hk⟩)).2
 exact ⟨by unfold rowT rowsOf; rw [wk (by simp only at this; omega) (by simp only at this; omega)], this⟩
theorem sums8_at {p : List Int} {B : Int} (hB : B ≤ 10000000000) (hl : p.length = 64) (hb : inB B p) {u v : Nat} (hu : u < 8) (hv : v < 8) : (sums8 p).getD (8 * u + v) 0 = eS (rowsOf p) u v := by
 unfold sums8
 rw [getD_map _ (by omega), show (8 * u + v) / 8 = u by omega, show (8 * u + v) % 8 = v by omega]
 refine acc_sum (B := 8 * B) (by omega) (fun k hk => ?_) 8 (by omega)
 have hh := half8_at (by omega) hl hb hk hv
 have hp := eT_le (f := rowsOf p k) (B := B) (fun j hj => inB_at hb (i := 8 * k + j) (by omega)) hv
 have := (mul_sign hp (sign_ok ⟨u, hu⟩ ⟨k, hk⟩)).2
 exact ⟨by unfold colT; rw [hh, wk (by simp only at this; omega) (by simp only at this; omega)], this⟩
def levOf (s x : Int) : Int := if x < 0 then 0 - (absI x + s / 2) / s else (absI x + s / 2) / s
theorem lev_near {s x : Int} (hs : 10 ≤ s ∧ s ≤ 1152) : -(s / 2) ≤ levOf s x * s - x ∧ levOf s x * s - x ≤ s / 2 := by
 have h1 := Int.ediv_mul_le (absI x + s / 2) (show s ≠ 0 by omega)
 have h2 := Int.lt_ediv_add_one_mul_self (absI x + s / 2) (show 0 < s by omega)
 rw [Int.add_mul, Int.one_mul] at h2
 unfold levOf
 have ha : absI x = if x < 0 then -x else x := rfl
 by_cases h : x < 0
 ·
  rw [if_pos h] at ha ⊢
  rw [Int.sub_mul, Int.zero_mul]
  omega
 ·
  rw [if_neg h] at ha ⊢
  omega
theorem LargeLevel_val {w qp s : Int} (hw : -20000 ≤ w ∧ w ≤ 20000) (h0 : 0 ≤ qp ∧ qp ≤ 40) (es : spec_StepOf qp = some s) (hs : 10 ≤ s ∧ s ≤ 1152) : spec_LargeLevel w qp = some (levOf s w) := by
 unfold spec_LargeLevel
 rw [spec_l01In_eq, bnd_s, decide_eq_true hw, sel_t, spec_l01In_eq, bnd_s, decide_eq_true h0, Bool.not_true, bnd_s, sel_f, es, bnd_s, spec_l08Sized_eq w (by omega), bnd_s]
 have ha : 0 ≤ absI w ∧ absI w ≤ 20000 := by unfold absI; split <;> omega
 unfold levOf
 generalize absI w = a at *
 rw [req_p (by omega), req_p (by omega), tdiv_pos (a := s) (by omega), wk (e := s / 2) (by omega) (by omega), wk (e := a + s / 2) (by omega) (by omega), tdiv_pos (by omega)]
 have d0 : 0 ≤ (a + s / 2) / s := Int.ediv_nonneg (by omega) (by omega)
 have d1 : (a + s / 2) / s < 5000 := Int.ediv_lt_of_lt_mul (by omega) (by omega)
 rw [wk (by omega) (by omega)]
 unfold spec_l08Signed
 by_cases h : w < 0
 ·
  rw [sel_yes h, if_pos h, wk (by omega) (by omega), bnd_s]
 ·
  rw [sel_no h, if_neg h, bnd_s]
theorem LargeBack_val {l qp s : Int} (hl : -5000 ≤ l ∧ l ≤ 5000) (es : spec_StepOf qp = some s) (hs : 10 ≤ s ∧ s ≤ 1152) : spec_LargeBack l qp = some (l * s) := by
 unfold spec_LargeBack
 rw [spec_l01In_eq, bnd_s, decide_eq_true hl, Bool.not_true, sel_f, es, bnd_s]
 have m1 : l * s ≤ 5000 * s := Int.mul_le_mul_of_nonneg_right hl.2 (by omega)
 have m2 : -5000 * s ≤ l * s := Int.mul_le_mul_of_nonneg_right hl.1 (by omega)
 rw [wk (by omega) (by omega)]
theorem inB_map {n : Nat} {g : Nat → Int} {B : Int} (h : ∀ i, i < n → -B ≤ g i ∧ g i ≤ B) : inB B ((List.range n).map g) := fun x hx => by
 obtain ⟨i, hi, rfl⟩ := List.mem_map.1 hx
 exact h i (List.mem_range.1 hi)
theorem EightBack_val {p : List Int} (hl : p.length = 64) (hb : inB 5760000 p) : spec_EightBack p = some ((List.range 64).map fun i => ((sums8 p).getD i 0 + 32) / 64) := by
 unfold spec_EightBack
 have hb2 : inB 368640000 (sums8 p) := by
  obtain ⟨o, e, _, h2⟩ := spec_l10Sums_ev p 5760000 (by omega) hl hb
  rw [spec_l10Sums_eq p hl] at e
  injection e with e
  rw [e]; exact h2
 rw [l09All_yes p 64 10000000 (by omega) (by omega) (by omega) (inB_mono hb (by omega)), bnd_s, Bool.not_true, sel_f, spec_l10Sums_eq p hl, bnd_s]
 rw [place_loop (f := spec_EightBack_l2) 64 (fun i => ((sums8 p).getD i 0 + 32) / 64) (sums8 p) (sums8_len p) (by
  intro i s hi hs hx
  have hx2 := inB_at hb2 (i := i) (by rw [sums8_len]; exact hi)
  obtain ⟨d, ed, d1, d2⟩ := spec_l09Down_ev (s.getD i 0 + 32) 64 (by omega) (Or.inr rfl)
  unfold spec_EightBack_l2
  simp only [Int.toNat_natCast]
  rw [sel_yes (by omega), req_p (by omega), req_p (by omega), wk (e := s.getD i 0 + 32) (by omega) (by omega), ed, bnd_s, req_p (by omega), req_p (by omega), wk (e := (i : Int) + 1) (by omega) (by omega), show d = ((sums8 p).getD i 0 + 32) / 64 by omega]
  rfl) (by intro s _; unfold spec_EightBack_l2; rw [sel_no (by simp)]), bnd_s]
theorem large_back {p l : List Int} {c : Cond} (hc : condOk c = true) (hL : c.Large = true) (hp : p.length = 64) (hb : inB 255 p) (h : spec_LevelsOf p c = some (l, true)) (hl : lv64 l = true) : ∃ s b, spec_StepOf c.Qp = some s ∧ (10 ≤ s ∧ s ≤ 1152) ∧ spec_LevelsBack l c = some (b, true) ∧ (∀ j : Nat, j < 64 → -(s / 2) ≤ b.getD j 0 - p.getD j 0 ∧ b.getD j 0 - p.getD j 0 ≤ s / 2) ∧ ((∀ i : Nat, i < 64 → l.getD i 0 = 0) → ∀ j : Nat, j < 64 → b.getD j 0 = 0) := by
 have hE : c.Exact = false := by
  unfold condOk at hc
  rw [hL] at hc
  cases hE : c.Exact with
  | false => rfl
  | true => rw [hE] at hc; simp at hc
 have hq := condOk_qp hc
 obtain ⟨s, es, hs⟩ := spec_StepOf_ev c.Qp hq
 have hS : inB 16320 (sums8 p) := by
  obtain ⟨o, e, _, h2⟩ := spec_l10Sums_ev p 255 (by omega) hp hb
  rw [spec_l10Sums_eq p hp] at e
  injection e with e
  rw [e]; exact h2
 have hlev : ∀ i : Nat, i < 64 → -2000 ≤ levOf s ((sums8 p).getD i 0) ∧ levOf s ((sums8 p).getD i 0) ≤ 2000 := fun i hi => by
  have hx := inB_at hS (i := i) (by rw [sums8_len]; exact hi)
  generalize (sums8 p).getD i 0 = x at *
  have ha : 0 ≤ absI x ∧ absI x ≤ 16320 := by unfold absI; split <;> omega
  unfold levOf
  have d0 : 0 ≤ (absI x + s / 2) / s := Int.ediv_nonneg (by omega) (by omega)
  have d1 : (absI x + s / 2) / s < 2000 := Int.ediv_lt_of_lt_mul (by omega) (by omega)
  split <;> omega
 -- the levels
 have e : l = scanned8 ((List.range 64).map fun i => levOf s ((sums8 p).getD i 0)) := by
  unfold spec_LevelsOf at h
  have e8 : spec_Eight p = some (sums8 p) := by
   unfold spec_Eight
   rw [l09All_yes p 64 1000 (by omega) (by omega) (by omega) (inB_mono hb (by omega)), bnd_s, Bool.not_true, sel_f, spec_l10Sums_eq p hp, bnd_s]
  have el := place_loop (f := spec_LevelsOf_l4 c) 64 (fun i => levOf s ((sums8 p).getD i 0)) (sums8 p) (sums8_len p) (by
   intro i t hi ht hx
   have hx2 := inB_at hS (i := i) (by rw [sums8_len]; exact hi)
   unfold spec_LevelsOf_l4
   simp only [Int.toNat_natCast]
   rw [sel_yes (by omega), req_p (by omega), req_p (by omega), hx, LargeLevel_val (by omega) hq es hs, bnd_s, req_p (by omega), req_p (by omega), wk (e := (i : Int) + 1) (by omega) (by omega)]
   rfl) (by intro t _; unfold spec_LevelsOf_l4; rw [sel_no (by simp)])
  rw [spec_CondOk_eq, bnd_s, hc, sel_t, l09All_yes p 64 255 (by omega) (by omega) (by omega) hb, bnd_s, Bool.not_true, bnd_s, sel_f, hE, sel_f, hL, sel_t, e8, bnd_s, el, bnd_s, spec_Scanned_8 _ (by simp), bnd_s] at h
  injection h with h
  injection h with h _
  exact h.symm
 -- and back
 have hm : ∀ x : Int, -2000 ≤ x ∧ x ≤ 2000 → -5760000 ≤ x * s ∧ x * s ≤ 5760000 := fun x hx => by
  have m1 : x * s ≤ 2000 * s := Int.mul_le_mul_of_nonneg_right hx.2 (by omega)
  have m2 : -2000 * s ≤ x * s := Int.mul_le_mul_of_nonneg_right hx.1 (by omega)
  omega
 have hw : inB 5760000 ((List.range 64).map fun i => levOf s ((sums8 p).getD i 0) * s) := inB_map fun i hi => hm _ (hlev i hi)
 have hwl : ((List.range 64).map fun i => levOf s ((sums8 p).getD i 0) * s).length = 64 := by simp
 have eb : spec_LevelsBack l c = some ((List.range 64).map fun i => ((sums8 ((List.range 64).map fun i => levOf s ((sums8 p).getD i 0) * s)).getD i 0 + 32) / 64, true) := by
  obtain ⟨l1, l2⟩ := lv64_in hl
  have el := place_loop (f := spec_LevelsBack_l4 c) 64 (fun i => levOf s ((sums8 p).getD i 0) * s) ((List.range 64).map fun i => levOf s ((sums8 p).getD i 0)) (by simp) (by
   intro i t hi ht hx
   have := hlev i hi
   unfold spec_LevelsBack_l4
   simp only [Int.toNat_natCast]
   rw [sel_yes (by omega), req_p (by omega), req_p (by omega), hx, getD_map _ hi, LargeBack_val (by omega) es hs, bnd_s, req_p (by omega), req_p (by omega), wk (e := (i : Int) + 1) (by omega) (by omega)]
   rfl) (by intro t _; unfold spec_LevelsBack_l4; rw [sel_no (by simp)])
  unfold spec_LevelsBack
  rw [spec_CondOk_eq, bnd_s, hc, sel_t, l09All_yes l 64 5000 (by omega) (by omega) (by omega) l2, bnd_s, Bool.not_true, bnd_s, sel_f, hE, sel_f, hL, sel_t, e, unscan_scan _ (by simp), bnd_s]
  simp only
  rw [el, bnd_s, EightBack_val hwl hw, bnd_s]
 refine ⟨s, _, es, hs, eb, fun j hj => ?_, fun hz j hj => ?_⟩
 ·
  rw [getD_map _ hj]
  have ej : j = 8 * (j / 8) + j % 8 := by omega
  have hu : j / 8 < 8 := by omega
  have hv : j % 8 < 8 := by omega
  rw [ej]
  generalize j / 8 = u at *
  generalize j % 8 = v at *
  rw [sums8_at (by omega) hwl hw hu hv]
  have ew : eS (rowsOf ((List.range 64).map fun i => levOf s ((sums8 p).getD i 0) * s)) u v = 64 * rowsOf p u v + eS (fun i k => levOf s ((sums8 p).getD (8 * i + k) 0) * s - (sums8 p).getD (8 * i + k) 0) u v := by
   rw [← eS_eS (rowsOf p) hu hv, ← eS_add]
   refine eS_congr (fun i k hi hk => ?_) u v
   rw [← sums8_at (by omega) hp hb hi hk]
   unfold rowsOf
   rw [getD_map _ (by omega)]
   omega
  have hbd := eS_le (X := fun i k => levOf s ((sums8 p).getD (8 * i + k) 0) * s - (sums8 p).getD (8 * i + k) 0) (B := s / 2) (fun i k _ _ => lev_near hs) hu hv
  rw [ew]
  unfold rowsOf
  omega
 ·
  rw [getD_map _ hj]
  have hw0 : ∀ i : Nat, i < 64 → levOf s ((sums8 p).getD i 0) * s = 0 := fun i hi => by
   obtain ⟨k, hk, hks⟩ := scan8_sur i hi
   have := hz k hk
   rw [e, scanned8_at _ hk, hks, Int.toNat_natCast, getD_map _ hi] at this
   rw [this, Int.zero_mul]
  have ej : j = 8 * (j / 8) + j % 8 := by omega
  have hu : j / 8 < 8 := by omega
  have hv : j % 8 < 8 := by omega
  rw [ej]
  generalize j / 8 = u at *
  generalize j % 8 = v at *
  rw [sums8_at (by omega) hwl hw hu hv]
  have := eS_le (X := rowsOf ((List.range 64).map fun i => levOf s ((sums8 p).getD i 0) * s)) (B := 0) (fun i k hi hk => by
   unfold rowsOf
   rw [getD_map _ (by omega), hw0 _ (by omega)]
   omega) hu hv
  omega
theorem brought_near {n w h : Int} (hw : 0 ≤ w ∧ w ≤ 255) (h0 : 0 ≤ h) (hn : -h ≤ n - w ∧ n - w ≤ h) : -h ≤ brought n 0 255 - w ∧ brought n 0 255 - w ≤ h := by
 unfold brought
 repeat' split
 all_goals omega
theorem joined_near {w g b : List Int} {h : Int} (hw : dots64 w = true) (h0 : 0 ≤ h) (hb : ∀ j : Nat, j < 64 → -h ≤ b.getD j 0 - (lessL w g).getD j 0 ∧ b.getD j 0 - (lessL w g).getD j 0 ≤ h) : ∀ i : Nat, i < 64 → -h ≤ (joinedL g b).getD i 0 - w.getD i 0 ∧ (joinedL g b).getD i 0 - w.getD i 0 ≤ h := by
 intro i hi
 have := hb i hi
 rw [lessL_at _ _ hi] at this
 rw [joinedL, getD_map _ hi]
 exact brought_near ((dots64_at hw).2 i hi) h0 (by omega)
theorem near_dots {now ref : Pic} {w : List Int} {x y : Int} {c : Cond} {r : Int} {q : Square} (H : SfIn now ref w x y c r) (hL : c.Large = true) (hq : Chosen now ref w x y c r q) {d : List Int} (hd : spec_SquareDots now ref 0 0 c x y q = some (d, true)) {s : Int} (es : spec_StepOf c.Qp = some s) : ∀ i : Nat, i < 64 → -(s / 2) ≤ d.getD i 0 - w.getD i 0 ∧ d.getD i 0 - w.getD i 0 ≤ s / 2 := by
 have hs0 : 10 ≤ s ∧ s ≤ 1152 := by
  obtain ⟨s', e', h'⟩ := spec_StepOf_ev c.Qp (condOk_qp H.hc)
  rw [es] at e'
  injection e' with e'
  rw [e']; exact h'
 obtain ⟨q1, q2, q3⟩ := hq.ok H.hr
 have SD : SdIn now ref 0 0 x y c q := ⟨H.ok, H.hx, H.hy, H.h0, by omega, by omega, H.hc, by omega⟩
 obtain ⟨d', e', _, hv⟩ := SquareDots_val SD q1 q2 (fun h => (H.hk h).1)
 rw [hd] at e'
 injection e' with e'
 injection e' with e' _
 subst e'
 rw [Int.zero_add, Int.zero_add] at hv
 cases hq with
 | same hK h =>
  rcases hv with ⟨_, _, e⟩ | ⟨k, _⟩ | ⟨k, _⟩
  ·
   intro i hi
   rw [e, h i hi]
   omega
  ·
   simp at k
  ·
   simp at k
 | still hK l h hl hz =>
  rcases hv with ⟨_, _, e⟩ | ⟨k, _⟩ | ⟨k, _⟩
  ·
   obtain ⟨s', b, e1, _, _, hn, h0⟩ := large_back H.hc hL (lessL_len _ _) (lessL_in H.hw (blkL_dots ref x y)) h hl
   rw [es] at e1
   injection e1 with e1
   subst e1
   intro i hi
   have a := hn i hi
   have b0 := h0 hz i hi
   rw [lessL_at _ _ hi] at a
   rw [e]
   omega
  ·
   simp at k
  ·
   simp at k
 | move hK dx dy hdx hdy hh l h hl hn =>
  rcases hv with ⟨k, _⟩ | ⟨_, _, b, eb, e⟩ | ⟨k, _⟩
  ·
   simp at k
  ·
   obtain ⟨s', b', e1, _, e2, hn2, _⟩ := large_back H.hc hL (lessL_len _ _) (lessL_in H.hw (blkL_dots ref (x + dx) (y + dy))) h hl
   rw [es] at e1
   injection e1 with e1
   subst e1
   simp only at eb e
   rw [e2] at eb
   injection eb with eb
   injection eb with eb _
   rw [e, ← eb]
   exact joined_near H.hw (by omega) hn2
  ·
   simp at k
 | guess e he hp m hm g hg hgd l h hl hn =>
  rcases hv with ⟨k, _⟩ | ⟨k, _⟩ | ⟨_, e2, b, g2, ee, _, eb, eg, _, ed⟩
  ·
   simp at k
  ·
   simp at k
  ·
   obtain ⟨s', b', e1, _, e3, hn2, _⟩ := large_back H.hc hL (lessL_len _ _) (lessL_in H.hw hgd) h hl
   rw [es] at e1
   injection e1 with e1
   subst e1
   simp only at eb eg
   rw [he] at ee
   injection ee with ee
   injection ee with ee _
   rw [← ee, hg] at eg
   injection eg with eg
   rw [e3] at eb
   injection eb with eb
   injection eb with eb _
   rw [ed, ← eb, ← eg]
   exact joined_near H.hw (by omega) hn2
theorem Tiled.near {src ref : Pic} {c : Cond} {r : Int} (H : TfIn src ref c r) (hL : c.Large = true) {l : List Square} {now : Pic} (h : Tiled src ref c r ((src.Wide / 8).toNat * (src.High / 8).toNat) l now) {s : Int} (es : spec_StepOf c.Qp = some s) : ∀ i : Nat, i < src.Dots.size → -(s / 2) ≤ btOf now.Dots i - btOf src.Dots i ∧ btOf now.Dots i - btOf src.Dots i ≤ s / 2 := by
 obtain ⟨ok, w, hh, _, _⟩ := h.pic H
 obtain ⟨k1, k2, k3⟩ := picOk_parts H.ok
 intro i hi
 have hkW : (i : Int) < src.Wide * src.High := by omega
 have m0 := Int.emod_nonneg (i : Int) (show src.Wide ≠ 0 by omega)
 have m1 := Int.emod_lt_of_pos (i : Int) (show 0 < src.Wide by omega)
 have d0 : 0 ≤ (i : Int) / src.Wide := Int.ediv_nonneg (by omega) (by omega)
 have d1 : (i : Int) / src.Wide < src.High := Int.ediv_lt_of_lt_mul (by omega) (by rw [Int.mul_comm]; exact hkW)
 have key := h.all H (fun X Y v => -(s / 2) ≤ v - dotAt src X Y ∧ v - dotAt src X Y ≤ s / 2) (fun n now q d hn SF hq hs j hj => by
  have := near_dots SF hL hq hs es j hj
  rw [blkL_at _ _ _ hj] at this
  exact this) ((i : Int) % src.Wide) ((i : Int) / src.Wide) ⟨m0, m1⟩ ⟨d0, d1⟩
 rw [dotAt_in (by rw [w]; exact ⟨m0, m1⟩) (by rw [hh]; exact ⟨d0, d1⟩), dotAt_in ⟨m0, m1⟩ ⟨d0, d1⟩, w, Int.ediv_mul_add_emod] at key
 exact key
theorem FnSends {p0 : List Int} (h0 : p0.length ≤ maxLen ∧ ∀ y ∈ p0, (Lit.int .u8 y).wf = true) : laws_FnSends p0 = some true := by
 have hm : maxLen = 9223372036854775807 := rfl
 unfold laws_FnSends
 rw [laws_big_eq, bnd_s]
 by_cases hb : (p0.length : Int) > 1048576
 ·
  rw [sel_yes hb]
 rw [sel_no hb]
 obtain ⟨src, ref, e, pw, ph, ok, qw, qh, ok2⟩ := spec_DrawPics_ev p0 (by omega)
 obtain ⟨c, ec, hc⟩ := spec_DrawCond_ev p0 (by omega)
 obtain ⟨l, el, ll, lb⟩ := spec_DrawPlaces_ev p0 (by omega)
 rw [e, bnd_s, ec, bnd_s, el, bnd_s]
 simp only
 have a0 : 0 ≤ l.getD 0 0 ∧ l.getD 0 0 < 10000 := lb _ (by rw [getD_at l 0 (by omega)]; exact List.getElem_mem _)
 rw [show ((0 : Int).toNat) = 0 from rfl]
 generalize l.getD 0 0 = u at *
 have tm : 0 ≤ u.tmod 3 ∧ u.tmod 3 ≤ 2 := by rw [tmod_pos a0.1]; omega
 generalize u.tmod 3 = r at *
 have H : TfIn src ref c r := ⟨ok, side_of pw, side_of ph, hc, by omega, fun _ => ⟨ok2, qw, qh⟩⟩
 obtain ⟨ls, now, et, hT⟩ := impl_TileFor_yes H
 obtain ⟨t1, t2, t3⟩ := tile_count H.hw H.hh
 obtain ⟨ok3, nw, nh, hlen, hall⟩ := hT.pic H
 obtain ⟨k1, k2, k3⟩ := picOk_parts ok
 obtain ⟨n1, n2, n3⟩ := picOk_parts ok3
 have hsz : (now.Dots.size : Int) = src.Dots.size := by rw [n3, k3, nw, nh]
 have hsq : sqAll ls c = true := by
  unfold sqAll
  rw [List.all_eq_true]
  intro s hs
  obtain ⟨a, b, _⟩ := hall s hs
  rw [a, b, hc]; rfl
 have er : impl_TileRow ls c = some (strOfNums (tilesL ls c), true) := by
  rw [impl_TileRow_eq ls c (fun s hs => by have := (hall s hs).2.2; omega)]
  unfold tileRow
  rw [decide_eq_true (show 1 ≤ ls.length ∧ ls.length ≤ 64 by omega), hsq]
  rfl
 have erd := impl_ReadTile_back hsq hc (by omega) (fun q hq => (hall q hq).2.2)
 rw [hlen, t1] at erd
 have etb := impl_TileBack_of H hT
 rw [req_p (by omega), req_p (by omega), req_p (by omega), et, bnd_s]
 simp only
 rw [er, bnd_s, req_p (by omega), req_p (by omega), tdiv_pos (a := src.Wide) (by omega), tdiv_pos (a := src.High) (by omega), wk (e := src.Wide / 8) (by omega) (by omega), wk (e := src.High / 8) (by omega) (by omega), wk (e := src.Wide / 8 * (src.High / 8)) (by omega) (by omega)]
 simp only
 rw [erd, bnd_s]
 simp only
 rw [etb, bnd_s]
 simp only
 rw [sel_t, sel_t, sel_t, sel_t, picEq_self, sel_neg (by rfl), nw, bne_self_eq_false, sel_f, nh, bne_self_eq_false, sel_f, hsz, bne_self_eq_false, bnd_s, sel_f]
 cases hE : c.Exact with
 | true =>
  have hn := hT.same H (fun now w x y q d SF _ hq hs => exact_dots SF hE hq hs)
  rw [sel_t, hn]
  simp only [beq_self_eq_true, Bool.and_self]
 | false =>
  rw [sel_f]
  have hloop : loop (laws_FnSends_l2 (src, ref) c (ls, now, true)) 0 = some (.out ()) := by
   cases hL : c.Large with
   | false =>
    refine ldone ?_
    unfold laws_FnSends_l2
    rw [hL]
    simp only
    have ar := area_small k1 k2
    rw [sel_yes (by omega), bnd_s, sel_f]
   | true =>
    obtain ⟨s, es, hs⟩ := spec_StepOf_ev c.Qp (condOk_qp hc)
    have hnear := hT.near H hL es
    have ar := area_small k1 k2
    refine self_loop src.Dots.size (fun i hi => ?_) ?_
    ·
     have hn := hnear i hi
     have b1 := byteL_nums now.Dots (btOf now.Dots i) (by rw [← numsOf_getD _ i (by omega), getD_at _ i (by rw [numsOf_length]; omega)]; exact List.getElem_mem _)
     have b2 := byteL_nums src.Dots (btOf src.Dots i) (by rw [← numsOf_getD _ i hi, getD_at _ i (by rw [numsOf_length]; omega)]; exact List.getElem_mem _)
     unfold laws_FnSends_l2
     rw [hL]
     simp only
     generalize btOf now.Dots i = x at *
     generalize btOf src.Dots i = z at *
     rw [sel_yes (by omega), bnd_s, sel_t, req_p (by omega), req_p (by omega), wk (e := x) (by omega) (by omega), wk (e := z) (by omega) (by omega), wk (e := x - z) (by omega) (by omega)]
     have hdiff : (sel (decide (x - z < 0)) (some (wrapK .i64 (0 - (x - z)))) (some (x - z))) = some (absI (x - z)) := by
      unfold absI
      by_cases h : x - z < 0
      ·
       rw [sel_yes h, if_pos h, wk (by omega) (by omega)]; congr 1; omega
      ·
       rw [sel_no h, if_neg h]
     have ha : absI (x - z) ≤ s / 2 ∧ 0 ≤ absI (x - z) := by unfold absI; split <;> omega
     rw [hdiff, bnd_s, StepOf_alike c.Qp (condOk_qp hc), es, bnd_s, wk (e := 2 * absI (x - z)) (by omega) (by omega), sel_no (by omega), wk (by omega) (by omega)]
     rfl
    ·
     unfold laws_FnSends_l2
     simp only
     rw [sel_no (by omega), bnd_s, sel_f]
  rw [hloop, bnd_s]
end Go.Proofs.Ytjfkbpgdghijfaa.A.Pure
