/- The pure statement of the law FnRefused, part 2: over numbers, texts and lists alone, what the law computes is true. Conditions: the sizes of what a machine holds. -/
import Derived.Test.YtjgbfopmjpkkhaaGreatPureFnRefusedx0
namespace Go.Proofs.YtjgbfopmjpkkhaaGreat.A.Pure
open Go Go.Proofs Go.Proofs.YtjgbfopmjpkkhaaGreatAL Go.RowKit
set_option linter.unusedVariables false
set_option linter.unusedSimpArgs false
set_option maxHeartbeats 1000000
theorem Xja {L a b : List Int} {n : Nat} (hL : L = a ++ (ueL n ++ b)) (hb : Xe1 L) (hl : L.length ≤ 400000) (hn : n ≤ 1000000) : Xbk ⟨strOfNums L, (a.length : Int), false⟩ = some ((n : Int), ⟨strOfNums L, ((a.length + (ueL n).length : Nat) : Int), false⟩) := by
 have hLl : L.length = a.length + ((ueL n).length + b.length) := by rw [hL]; simp only [List.length_append]
 have f1 := Ytd (m := n + 1) (j := 20) (by omega)
 have f2 := You (m := n + 1) (by omega)
 have ul : (ueL n).length = Ykw (n + 1) - 1 + Ykw (n + 1) := by unfold ueL; rw [List.length_append, List.length_replicate, Yon]
 obtain ⟨r, er⟩ := Yw4 (n + 1) (by omega)
 have hc : ∀ i : Nat, i < (ueL n).length → L.getD (a.length + i) 0 = (ueL n).getD i 0 := fun i hi => by rw [hL, Ynq, Yxf _ _ _ hi]
 have key : ∀ i : Nat, i ≤ Ykw (n + 1) - 1 → loop (Xcm ⟨strOfNums L, (a.length : Int), false⟩) (i : Int) = some ((Ykw (n + 1) - 1 : Nat) : Int) := by
  refine Xhn _ ?_ ?_
  ·
   refine Xcn ?_
   have hx : (ueL n).getD (Ykw (n + 1) - 1) 0 = 49 := by
    have := Ynq (List.replicate (Ykw (n + 1) - 1) 48) (Ys0 (n + 1)) 0
    rw [List.length_replicate] at this
    unfold ueL
    exact this.trans (by rw [er]; rfl)
   unfold Xcm
   simp only
   rw [Xam, wkA, strOfNums_size, syA, rqA, show (a.length : Int) + ((Ykw (n + 1) - 1 : Nat) : Int) = ((a.length + (Ykw (n + 1) - 1) : Nat) : Int) by omega, Xsw L (Xk8 hb) _ (by omega), hc _ (by omega), hx, Xab]
   rfl
  ·
   intro i hi ih
   refine lgo ?_ ih
   have hx : (ueL n).getD i 0 = 48 := by
    unfold ueL
    rw [Yxf _ _ _ (by rw [List.length_replicate]; exact hi), Xb4 _ i (by rw [List.length_replicate]; exact hi), List.getElem_replicate]
   unfold Xcm
   simp only
   rw [Xam, wkA (e := (a.length : Int) + i), strOfNums_size, syA, rqA, show (a.length : Int) + (i : Int) = ((a.length + i : Nat) : Int) by omega, Xsw L (Xk8 hb) _ (by omega), hc _ (by omega), hx, Xab, wkA]
   rfl
 have hf := Xh2 hL hb hl (by omega)
 have hv : Xhs (ueL n) = (n : Int) + 1 := by unfold ueL; rw [Xr3, Zcr, Zcq, Int.zero_mul, Int.zero_add]; omega
 unfold Xbk
 refine (Xey (key 0 (by omega))).trans ?_
 simp only
 rw [snA, Xab, wkA (e := 2 * ((Ykw (n + 1) - 1 : Nat) : Int)), wkA (e := 2 * ((Ykw (n + 1) - 1 : Nat) : Int) + 1), show 2 * ((Ykw (n + 1) - 1 : Nat) : Int) + 1 = ((ueL n).length : Int) by omega, hf, Xab]
 simp only
 rw [Xam, hv, wkA, Xab, snA, show (n : Int) + 1 - 1 = n by omega]
theorem Xuj {L a b : List Int} {n : Int} (hL : L = a ++ (seL n ++ b)) (hb : Xe1 L) (hl : L.length ≤ 400000) (hn : -500000 ≤ n ∧ n ≤ 500000) : Xb1 ⟨strOfNums L, (a.length : Int), false⟩ = some (n, ⟨strOfNums L, ((a.length + (seL n).length : Nat) : Int), false⟩) := by
 have hf := Yov n hn
 unfold Xb1
 rw [Xja hL hb hl hf, Xab]
 have ho : Xkg ((Ytg n : Nat) : Int) = some (n, true) := by
  unfold Xkg
  rw [Xaj, Xab, decide_eq_true (by omega), Bool.not_true, Xam, rqA, Xbs (by omega)]
  unfold Ytg
  split
  ·
   rw [Xbl (by rw [beq_iff_eq]; omega), rqA, wkA (e := (((2 * n - 1).toNat : Nat) : Int) + 1), Xbr (by omega), wkA]
   congr 2; omega
  ·
   rw [Xbc (by rw [beq_eq_false_iff_ne]; omega), rqA, wkA (e := 0 - _)]
   have : (0 - (((-2 * n).toNat : Nat) : Int)).tdiv 2 = n := by
    rw [show (0 - (((-2 * n).toNat : Nat) : Int)) = n * 2 by omega]
    exact Int.mul_tdiv_cancel n (by omega)
   rw [this, wkA]
 simp only
 rw [ho, Xab]
 rfl
theorem Zb2 (l : List Int) (hl : l.length ≤ 64) : nz l ≤ 64 := by have := Yx4 l; omega
theorem Ycy {L a b l : List Int} (hL : L = a ++ (Xl3 l ++ b)) (hb : Xe1 L) (hl : L.length ≤ 400000) (hall : l.all Ylu = true) (h64 : l.length ≤ 64) : Xcl ⟨strOfNums L, (a.length : Int), false⟩ (l.length : Int) = some (l, ⟨strOfNums L, ((a.length + (Xl3 l).length : Nat) : Int), false⟩) := by
 have key : ∀ (r pre : List Int) (g : Nat) (a' b' : List Int), l = pre ++ r → g ≤ pre.length → L = a' ++ (Xod g r ++ b') → loop (Xbg (l.length : Int)) (((pre.length - g : Nat) : Int), (nz r : Int), strOfNums L, (a'.length : Int), false, pre ++ List.replicate r.length 0) = some (l, strOfNums L, ((a'.length + (Xod g r).length : Nat) : Int), false) := by
  intro r
  induction r with
  | nil =>
   intro pre g a' b' h1 h2 h3
   refine Xcn ?_
   unfold Xbg
   simp only
   rw [Xax (by rw [nz]; omega), Xab, Xam, h1]
   simp only [Xod, List.length_nil, List.replicate_zero, Nat.add_zero]
  | cons x r ih =>
   intro pre g a' b' h1 h2 h3
   have hlen : l.length = pre.length + (r.length + 1) := by rw [h1]; simp
   have hx : -5000 ≤ x ∧ x ≤ 5000 := Yf8.1 (List.all_eq_true.1 hall x (by rw [h1]; simp))
   by_cases e : x = 0
   ·
    rw [Xod, if_pos e] at h3
    have := ih (pre ++ [x]) (g + 1) a' b' (by rw [h1]; simp) (by simp; omega) h3
    rw [nz, if_pos e, Xod, if_pos e, ← this, List.length_append, List.length_singleton, show pre.length + 1 - (g + 1) = pre.length - g by omega, List.append_assoc, List.length_cons, List.replicate_succ, e]
    rfl
   ·
    rw [Xod, if_neg e] at h3
    have u1 := Xg2 g (by omega)
    have u2 := Xrv x (by omega)
    have u3 := Yx4 r
    have e1 := Xja (L := L) (a := a') (b := seL x ++ Xod 0 r ++ b') (n := g) (by rw [h3]; simp only [List.append_assoc]) hb hl (by omega)
    have e2 := Xuj (L := L) (a := a' ++ ueL g) (b := Xod 0 r ++ b') (n := x) (by rw [h3]; simp only [List.append_assoc]) hb hl (by omega)
    have := ih (pre ++ [x]) 0 (a' ++ ueL g ++ seL x) b' (by rw [h1]; simp) (by simp) (by rw [h3]; simp only [List.append_assoc])
    rw [List.length_append] at e2
    simp only [List.length_append, List.length_singleton] at this
    rw [nz, if_neg e, Xod, if_neg e]
    refine lgo ?_ (this.trans ?_)
    ·
     unfold Xbg
     simp only
     rw [syA, Bool.not_false, Xab, Xav, e1, Xab]
     simp only
     rw [e2, Xab]
     simp only
     have hp : ((pre.length - g : Nat) : Int) + (g : Int) = (pre.length : Int) := by omega
     rw [hp, wkA (e := (pre.length : Int)), snA, Xbc (by rw [beq_eq_false_iff_ne]; exact e), Xaj, Xab, decide_eq_true (by omega), Bool.not_true, Xab, Xam, Int.toNat_natCast, Xa6 (by simp only [List.length_append, List.length_replicate, List.length_cons]; omega), Xa6 (by simp only [List.length_append, List.length_replicate, List.length_cons]; omega), wkA, wkA, List.length_cons, List.replicate_succ, Ytz]
     rw [show ((nz r + 1 : Nat) : Int) - 1 = (nz r : Int) by omega, show pre ++ [x] ++ List.replicate r.length 0 = pre ++ x :: List.replicate r.length 0 by simp, show ((pre.length + 1 - 0 : Nat) : Int) = (pre.length : Int) + 1 by omega]
    ·
     simp only [List.length_append]
     rw [show a'.length + (ueL g).length + (seL x).length + (Xod 0 r).length = a'.length + ((ueL g).length + (seL x).length + (Xod 0 r).length) by omega]
 have hz := Zb2 l h64
 have e0 := Xja (L := L) (a := a) (b := Xod 0 l ++ b) (n := nz l) (by rw [hL]; unfold Xl3; simp only [List.append_assoc]) hb hl (by omega)
 have := key l [] 0 (a ++ ueL (nz l)) b rfl (by simp) (by rw [hL]; unfold Xl3; simp only [List.append_assoc])
 unfold Xcl
 rw [rqA, e0, Xab]
 simp only
 rw [List.length_append] at this
 simp only [List.nil_append, List.length_nil] at this
 rw [Int.toNat_natCast]
 refine (Xey this).trans ?_
 simp only
 unfold Xl3
 rw [List.length_append, Nat.add_assoc]
theorem Xvp {L a b l : List Int} {c : Xf0} (hL : L = a ++ (Yql l c ++ b)) (hb : Xe1 L) (hl : L.length ≤ 400000) (h : Yky l = true) : Xbi ⟨strOfNums L, (a.length : Int), false⟩ c = some (l, ⟨strOfNums L, ((a.length + (Yql l c).length : Nat) : Int), false⟩) := by
 have hm : maxLen = 9223372036854775807 := rfl
 obtain ⟨h1, h2⟩ := Xkv h
 unfold Xbi
 rw [Ycz, Xab]
 unfold Yql at hL ⊢
 by_cases e : (c.Large || c.Exact) = true
 ·
  rw [if_pos e] at hL
  rw [Xbl e, if_pos e]
  have := Ycy hL hb hl h2 (by omega)
  rw [h1] at this
  exact (Xey this).trans rfl
 ·
  rw [if_neg e] at hL
  rw [Xbc (by simpa using e), if_neg e]
  have step : ∀ (n : Nat) (s q : List Int) (a' b' : List Int), n < 4 → q.length = 16 → q.all Ylu = true → s.length ≤ 64 → L = a' ++ (Xl3 q ++ b') → Xa8 ((n : Int), strOfNums L, (a'.length : Int), false, s) = some (.go (((n + 1 : Nat) : Int), strOfNums L, (((a' ++ Xl3 q).length : Nat) : Int), false, s ++ q)) := by
   intro n s q a' b' hn hq hqa hs hLL
   have := Ycy hLL hb hl hqa (by omega)
   rw [hq] at this
   unfold Xa8
   simp only
   rw [syA]
   refine (Xey this).trans ?_
   simp only
   rw [rqA, wkA, List.length_append]
   rfl
  have q0 : (l.take 16).length = 16 := by rw [List.length_take]; omega
  have q1 : ((l.drop 16).take 16).length = 16 := by rw [List.length_take, List.length_drop]; omega
  have q2 : ((l.drop 32).take 16).length = 16 := by rw [List.length_take, List.length_drop]; omega
  have q3 : (l.drop 48).length = 16 := by rw [List.length_drop]; omega
  have hcat : l.take 16 ++ (l.drop 16).take 16 ++ (l.drop 32).take 16 ++ l.drop 48 = l := by
   have e1 : (l.drop 32).take 16 ++ l.drop 48 = l.drop 32 := by
    have := List.take_append_drop 16 (l.drop 32)
    rwa [List.drop_drop] at this
   have e2 : (l.drop 16).take 16 ++ l.drop 32 = l.drop 16 := by
    have := List.take_append_drop 16 (l.drop 16)
    rwa [List.drop_drop] at this
   rw [List.append_assoc, e1, List.append_assoc, e2, List.take_append_drop]
  have g0 := step 0 [] _ a (Xl3 ((l.drop 16).take 16) ++ Xl3 ((l.drop 32).take 16) ++ Xl3 (l.drop 48) ++ b) (by omega) q0 (Xj7 h2 _) (by simp) (by rw [hL]; simp only [List.append_assoc])
  have g1 := step 1 ([] ++ l.take 16) _ (a ++ Xl3 (l.take 16)) (Xl3 ((l.drop 32).take 16) ++ Xl3 (l.drop 48) ++ b) (by omega) q1 (Xj7 (Xj6 h2 _) _) (by simp only [List.length_append, List.length_nil]; omega) (by rw [hL]; simp only [List.append_assoc])
  have g2 := step 2 ([] ++ l.take 16 ++ (l.drop 16).take 16) _ (a ++ Xl3 (l.take 16) ++ Xl3 ((l.drop 16).take 16)) (Xl3 (l.drop 48) ++ b) (by omega) q2 (Xj7 (Xj6 h2 _) _) (by simp only [List.length_append, List.length_nil]; omega) (by rw [hL]; simp only [List.append_assoc])
  have g3 := step 3 ([] ++ l.take 16 ++ (l.drop 16).take 16 ++ (l.drop 32).take 16) _ (a ++ Xl3 (l.take 16) ++ Xl3 ((l.drop 16).take 16) ++ Xl3 ((l.drop 32).take 16)) b (by omega) q3 (Xj6 h2 _) (by simp only [List.length_append, List.length_nil]; omega) (by rw [hL]; simp only [List.append_assoc])
  have l4 : ∀ s, Xa8 (((4 : Nat) : Int), s) = some (.done (s.2.2.2, s.1, s.2.1, s.2.2.1)) := by intro s; unfold Xa8; simp only; rw [snA]
  have e : loop Xa8 (((0 : Nat) : Int), strOfNums L, (a.length : Int), false, []) = _ := (Xho g0).trans ((Xho g1).trans ((Xho g2).trans ((Xho g3).trans (Xco (l4 _)))))
  refine (Xey e).trans ?_
  simp only [List.nil_append, hcat]
  simp only [List.length_append, Nat.add_assoc]
theorem Yt6 {s : Xar} (h : Xnq s = true) (h1 : s.Kind = 0) : s = ⟨0, 0, 0, 0, []⟩ := by
 unfold Xnq at h
 rw [if_pos h1, decide_eq_true_eq] at h
 obtain ⟨k, m, x, y, l⟩ := s
 simp only at h h1
 obtain ⟨a, b, c, d⟩ := h
 rw [h1, a, b, c, List.length_eq_zero_iff.1 d]
theorem Ylx {L a b : List Int} {s : Xar} {c : Xf0} (hL : L = a ++ (sqL s c ++ b)) (hb : Xe1 L) (hl : L.length ≤ 400000) (h : Xnq s = true) (hlet : Xiy s c = true) : Xce ⟨strOfNums L, (a.length : Int), false⟩ c = some (s, ⟨strOfNums L, ((a.length + (sqL s c).length : Nat) : Int), false⟩) := by
 have hk := Xq7 h
 have hl6 : s.Levels.length ≤ 64 := by
  by_cases h0 : s.Kind = 0
  ·
   rw [Yt6 h h0]; simp
  ·
   by_cases h1 : s.Kind = 1
   ·
    have := Xkv (Xr0 h h1).2.2; omega
   ·
    have := Xkv (Xul h (by omega)).2; omega
 have hok := Xe3 s (by omega)
 rw [h] at hok
 unfold Xce
 simp only
 obtain ⟨p, hp, hL2, e1⟩ : ∃ p : List Int, p = (if c.Key = true then [] else ueL s.Kind.toNat) ∧ L = (a ++ p) ++ ((if s.Kind = 1 then seL s.Dx ++ seL s.Dy ++ Yql s.Levels c else if s.Kind = 2 then ueL s.Mode.toNat ++ Yql s.Levels c else []) ++ b) ∧ (sel (!c.Key) (bnd (Xbk ⟨strOfNums L, (a.length : Int), false⟩) fun q2 => some (q2.2.row_, q2.2.at_, q2.2.bad_, q2.1)) (some (strOfNums L, (a.length : Int), false, 2))) = some (strOfNums L, (((a ++ p).length : Nat) : Int), false, s.Kind) := by
  refine ⟨_, rfl, by rw [hL]; unfold sqL; simp only [List.append_assoc], ?_⟩
  cases hK : c.Key with
  | true =>
   unfold Xiy at hlet
   rw [hK, Bool.not_true, Bool.false_or, beq_iff_eq] at hlet
   rw [Bool.not_true, Xam, if_pos rfl, List.append_nil, hlet]
  | false =>
   have := Xja (L := L) (a := a) (n := s.Kind.toNat) (b := (if s.Kind = 1 then seL s.Dx ++ seL s.Dy ++ Yql s.Levels c else if s.Kind = 2 then ueL s.Mode.toNat ++ Yql s.Levels c else []) ++ b) (by rw [hL]; unfold sqL; rw [hK, if_neg (by decide)]; simp only [List.append_assoc]) hb hl (by omega)
   rw [Bool.not_false, Xav, this, Xab, if_neg (by decide), List.length_append]
   simp only
   rw [show ((s.Kind.toNat : Nat) : Int) = s.Kind by omega]
 rw [e1, Xab]
 simp only
 have e2 : (sel false (some (strOfNums L, (((a ++ p).length : Nat) : Int), false, (0 : Int), (0 : Int), (0 : Int), ([] : List Int))) (
   sel (s.Kind == 1) (
   bnd (Xb1 (⟨strOfNums L, (((a ++ p).length : Nat) : Int), false⟩ : Xk7)) fun q4 =>
   bnd (Xb1 q4.2) fun q5 =>
   bnd (Xbi q5.2 c) fun q6 =>
   some (q6.2.row_, q6.2.at_, q6.2.bad_, 0, q4.1, q5.1, q6.1)) (
   sel (s.Kind == 2) (
   bnd (Xbk (⟨strOfNums L, (((a ++ p).length : Nat) : Int), false⟩ : Xk7)) fun q7 =>
   bnd (Xbi q7.2 c) fun q8 =>
   some (q8.2.row_, q8.2.at_, q8.2.bad_, q7.1, 0, 0, q8.1)) (
   some (strOfNums L, (((a ++ p).length : Nat) : Int), false, 0, 0, 0, []))))) = some (strOfNums L, ((a.length + (sqL s c).length : Nat) : Int), false, s.Mode, s.Dx, s.Dy, s.Levels) := by
  rw [Xam]
  unfold sqL
  rw [← hp]
  by_cases h1 : s.Kind = 1
  ·
   obtain ⟨x1, x2, x3⟩ := Xr0 h h1
   have hm0 : s.Mode = 0 := by
    unfold Xnq at h
    rw [if_neg (by omega), if_pos h1] at h
    simp only [Bool.and_eq_true, decide_eq_true_eq] at h
    exact h.1
   rw [if_pos h1] at hL2
   have y1 := Xuj (L := L) (a := a ++ p) (b := seL s.Dy ++ Yql s.Levels c ++ b) (n := s.Dx) (by rw [hL2]; simp only [List.append_assoc]) hb hl (by omega)
   have y2 := Xuj (L := L) (a := a ++ p ++ seL s.Dx) (b := Yql s.Levels c ++ b) (n := s.Dy) (by rw [hL2]; simp only [List.append_assoc]) hb hl (by omega)
   have y3 := Xvp (L := L) (a := a ++ p ++ seL s.Dx ++ seL s.Dy) (b := b) (l := s.Levels) (c := c) (by rw [hL2]; simp only [List.append_assoc]) hb hl x3
   rw [List.length_append (as := a ++ p)] at y2
   rw [List.length_append (as := a ++ p ++ seL s.Dx), List.length_append (as := a ++ p)] at y3
   rw [Xbl (by rw [beq_iff_eq]; exact h1), y1, Xab]
   simp only
   rw [y2, Xab]
   simp only
   rw [y3, Xab, if_pos h1, hm0]
   simp only [List.length_append, Nat.add_assoc]
  ·
   rw [Xbc (by rw [beq_eq_false_iff_ne]; exact h1), if_neg h1]
   rw [if_neg h1] at hL2
   by_cases h2 : s.Kind = 2
   ·
    obtain ⟨x1, x3⟩ := Xul h h2
    have hd0 : s.Dx = 0 ∧ s.Dy = 0 := by
     unfold Xnq at h
     rw [if_neg (by omega), if_neg (by omega), if_pos h2] at h
     simp only [Bool.and_eq_true, decide_eq_true_eq] at h
     exact ⟨h.2.1, h.2.2.1⟩
    rw [if_pos h2] at hL2
    have y1 := Xja (L := L) (a := a ++ p) (b := Yql s.Levels c ++ b) (n := s.Mode.toNat) (by rw [hL2]; simp only [List.append_assoc]) hb hl (by omega)
    have y3 := Xvp (L := L) (a := a ++ p ++ ueL s.Mode.toNat) (b := b) (l := s.Levels) (c := c) (by rw [hL2]; simp only [List.append_assoc]) hb hl x3
    rw [List.length_append (as := a ++ p)] at y3
    rw [Xbl (by rw [beq_iff_eq]; exact h2), y1, Xab]
    simp only
    rw [y3, Xab, if_pos h2, hd0.1, hd0.2, show ((s.Mode.toNat : Nat) : Int) = s.Mode by omega]
    simp only [List.length_append, Nat.add_assoc]
   ·
    have h0 := Yt6 h (by omega)
    rw [Xbc (by rw [beq_eq_false_iff_ne]; exact h2), if_neg h2, List.append_nil, List.length_append]
    rw [h0]
 rw [e2, Xab]
 simp only
 rw [Xam, show (⟨s.Kind, s.Mode, s.Dx, s.Dy, s.Levels⟩ : Xar) = s from rfl, hok, Xab, Xab]
 rfl
def Zeg (t : Nat → Int) : Nat → Int
 | 0 => 0
 | k + 1 => Zeg t k + t k
def eT (f : Nat → Int) (u : Nat) : Int := Zeg (fun k => Xjx (u : Int) (k : Int) * f k) 8
def eS (X : Nat → Nat → Int) (u v : Nat) : Int := eT (fun i => eT (X i) v) u
theorem Ywo {L : List Int} {i w : Nat} (h : i + w ≤ L.length) : L = L.take i ++ ((L.drop i).take w ++ L.drop (i + w)) ∧ (L.take i).length = i ∧ ((L.drop i).take w).length = w := by
 refine ⟨?_, by rw [List.length_take]; omega, by rw [List.length_take, List.length_drop]; omega⟩
 rw [← List.drop_drop, List.take_append_drop, List.take_append_drop]
theorem Yhv {L : List Int} (hb : Xe1 L) (hl : L.length ≤ 400000) {i w : Nat} (h : i + w ≤ L.length) (hw : w ≤ 41) : Xa5 ⟨strOfNums L, (i : Int), false⟩ (w : Int) = some (Xhs ((L.drop i).take w), ⟨strOfNums L, ((i + w : Nat) : Int), false⟩) := by
 obtain ⟨h1, h2, h3⟩ := Ywo h
 have := Xh2 h1 hb hl (by omega)
 rw [h2, h3] at this
 exact this
theorem Yci {L : List Int} (hb : Xe1 L) {i : Nat} (h : i < L.length) : Xl2 (strOfNums L) (i : Int) = L.getD i 0 ∧ (L.getD i 0 = 48 ∨ L.getD i 0 = 49) := ⟨Xsw L (Xk8 hb) i h, hb _ (by rw [Xb4 L i h]; exact List.getElem_mem h)⟩
theorem Xr4 {L : List Int} {i k : Nat} (h : i + k < L.length) : Xhs ((L.drop i).take (k + 1)) = 2 * Xhs ((L.drop i).take k) + L.getD (i + k) 0 - 48 := by
 rw [List.take_add_one, Xr3, List.getElem?_eq_getElem (by rw [List.length_drop]; omega), List.getElem_drop, Xb4 L _ h]
 simp [Xhs]
 omega
theorem Xw7 {L : List Int} (hb : Xe1 L) (hl : L.length ≤ 400000) {i w : Nat} (hi : i ≤ L.length) (hw : w ≤ 41) : Xci (strOfNums L) (i : Int) (w : Int) = some (if i + w ≤ L.length then (Xhs ((L.drop i).take w), ((i + w : Nat) : Int), true) else (0, 0, false)) := by
 unfold Xci
 rw [strOfNums_size, wkA (e := (L.length : Int) - i)]
 by_cases h : i + w ≤ L.length
 ·
  rw [snA, if_pos h]
  have key : ∀ k : Nat, k ≤ w → loop (Xil (strOfNums L) (i : Int) (w : Int)) (Xhs ((L.drop i).take k), ((i + k : Nat) : Int)) = some (Xhs ((L.drop i).take w)) := by
   refine Xhn _ ?_ ?_
   ·
    refine Xcn ?_
    unfold Xil
    simp only
    rw [Xax (by rw [wkA]; omega)]
   ·
    intro k hk ih
    refine lgo ?_ ih
    obtain ⟨b1, b2⟩ := Yci hb (i := i + k) (by omega)
    have hr := Xj5 (l := (L.drop i).take k) (fun x hx => hb x (List.mem_of_mem_drop (List.mem_of_mem_take hx)))
    have hp : (2 : Int) ^ ((L.drop i).take k).length ≤ 1099511627776 := Xyy (by rw [List.length_take]; omega)
    have hv := Xr4 (L := L) (i := i) (k := k) (by omega)
    unfold Xil
    simp only
    rw [Xbm (by rw [wkA]; omega), Xa6 (by rw [strOfNums_size]; omega), b1, wkA (e := 2 * Xhs ((L.drop i).take k)), wkA (e := L.getD (i + k) 0), wkA (e := 2 * Xhs ((L.drop i).take k) + L.getD (i + k) 0), wkA (e := 2 * Xhs ((L.drop i).take k) + L.getD (i + k) 0 - 48), wkA (e := ((i + k : Nat) : Int) + 1), ← hv]
    rfl
  have := key 0 (by omega)
  refine (Xey this).trans ?_
  rw [wkA]
  rfl
 ·
  rw [syA, if_neg h]
theorem Yvo {L : List Int} (hb : Xe1 L) : ∀ n i : Nat, i + n = L.length → ∃ z : Nat, i + z ≤ L.length ∧ (∀ k, k < z → L.getD (i + k) 0 = 48) ∧ (i + z < L.length → L.getD (i + z) 0 = 49)
 | 0, i, h => ⟨0, by omega, fun k hk => by omega, fun h2 => by omega⟩
 | n + 1, i, h => by
  rcases (Yci hb (i := i) (by omega)).2 with e | e
  ·
   obtain ⟨z, h1, h2, h3⟩ := Yvo hb n (i + 1) (by omega)
   refine ⟨z + 1, by omega, fun k hk => ?_, fun hz => ?_⟩
   ·
    cases k with
    | zero => exact e
    | succ k => have := h2 k (by omega); rwa [show i + 1 + k = i + (k + 1) by omega] at this
   ·
    have := h3 (by omega)
    rwa [show i + 1 + z = i + (z + 1) by omega] at this
  ·
   exact ⟨0, by omega, fun k hk => by omega, fun _ => e⟩
theorem Ysz {L : List Int} {i : Nat} : ∀ z : Nat, i + z ≤ L.length → (∀ k, k < z → L.getD (i + k) 0 = 48) → Xhs ((L.drop i).take z) = 0
 | 0, _, _ => rfl
 | z + 1, h, hz => by rw [Xr4 (by omega), Ysz z (by omega) (fun k hk => hz k (by omega)), hz z (by omega)]; rfl
theorem Ysy {L : List Int} {i z w : Nat} (h : i + z + w ≤ L.length) (hz : ∀ k, k < z → L.getD (i + k) 0 = 48) : Xhs ((L.drop i).take (z + w)) = Xhs ((L.drop (i + z)).take w) := by
 induction w with
 | zero => rw [Nat.add_zero, Ysz z (by omega) hz]; rfl
 | succ w ih =>
  rw [← Nat.add_assoc, Xr4 (by omega), Xr4 (by omega), ih (by omega)]
  rw [Nat.add_assoc]
theorem Yy1 {L : List Int} (hb : Xe1 L) {i w : Nat} (h : i + (w + 1) ≤ L.length) (h1 : L.getD i 0 = 49) : (2 : Int) ^ w ≤ Xhs ((L.drop i).take (w + 1)) := by
 induction w with
 | zero => rw [Xr4 (by omega)]; simp only [Nat.add_zero]; rw [h1, show Xhs ((L.drop i).take 0) = 0 from rfl]; decide
 | succ w ih =>
  have := ih (by omega)
  have := (Yci hb (i := i + (w + 1)) (by omega)).2
  rw [Xr4 (by omega), Int.pow_succ]
  omega
theorem Ysc (z : Nat) (h : z ≤ 21) : 0 ≤ Xaa .u64 (z : Int) ∧ Xaa .i64 (1 * 2 ^ min (Xaa .u64 (z : Int)).toNat (IntKind.bits .i64)) = (2 : Int) ^ z := by
 have all : ∀ q : Fin 22, (0 ≤ Xaa .u64 (q.val : Int) ∧ Xaa .i64 (1 * 2 ^ min (Xaa .u64 (q.val : Int)).toNat (IntKind.bits .i64)) = (2 : Int) ^ q.val) := by decide +kernel
 exact all ⟨z, by omega⟩
theorem Yvk (s : ByteArray) (a : Int) : Xbk ⟨s, a, true⟩ = some (0, ⟨s, a, true⟩) := by
 have h : Xcm ⟨s, a, true⟩ 0 = some (.done 0) := rfl
 unfold Xbk
 rw [Xco h, Xab]
 rfl
theorem Xr2 {L : List Int} (hb : Xe1 L) (hl : L.length ≤ 400000) (i : Nat) (hi : i ≤ L.length) :
  (∃ v j : Nat, Xbh (strOfNums L) (i : Int) = some ((v : Int), (j : Int), true) ∧ Xbk ⟨strOfNums L, (i : Int), false⟩ = some ((v : Int), ⟨strOfNums L, (j : Int), false⟩) ∧ v ≤ 1000000 ∧ i < j ∧ j ≤ L.length) ∨ (Xbh (strOfNums L) (i : Int) = some (0, 0, false) ∧ ∃ a : Int, Xbk ⟨strOfNums L, (i : Int), false⟩ = some (0, ⟨strOfNums L, a, true⟩)) := by
 obtain ⟨z, h1, h2, h3⟩ := Yvo hb (L.length - i) i (by omega)
 have lI : loop (Xcm ⟨strOfNums L, (i : Int), false⟩) 0 = some (z : Int) := by
  have key : ∀ k : Nat, k ≤ z → loop (Xcm ⟨strOfNums L, (i : Int), false⟩) (k : Int) = some (z : Int) := by
   refine Xhn _ ?_ ?_
   ·
    refine Xcn ?_
    unfold Xcm
    simp only
    rw [Xam, wkA (e := (i : Int) + (z : Int)), strOfNums_size]
    by_cases hlt : i + z < L.length
    ·
     rw [syA, rqA, show (i : Int) + (z : Int) = ((i + z : Nat) : Int) by omega, (Yci hb hlt).1, h3 hlt, Xab]; rfl
    ·
     rw [snA, Xab, Xam]
   ·
    intro k hk ih
    refine lgo ?_ ih
    unfold Xcm
    simp only
    rw [Xam, wkA (e := (i : Int) + (k : Int)), strOfNums_size, syA, rqA, show (i : Int) + (k : Int) = ((i + k : Nat) : Int) by omega, (Yci hb (by omega)).1, h2 k hk, Xab, wkA]
    rfl
  exact key 0 (by omega)
 have lS : ∀ m : Nat, m = min z 21 → loop (Xer (strOfNums L) (i : Int)) 0 = some (m : Int) := by
  intro m hm
  have key : ∀ k : Nat, k ≤ m → loop (Xer (strOfNums L) (i : Int)) (k : Int) = some (m : Int) := by
   refine Xhn _ ?_ ?_
   ·
    refine Xcn ?_
    unfold Xer
    rw [wkA (e := (i : Int) + (m : Int)), strOfNums_size]
    by_cases hlt : i + m < L.length
    ·
     rw [syA, rqA, show (i : Int) + (m : Int) = ((i + m : Nat) : Int) by omega, (Yci hb hlt).1]
     by_cases hz : z ≤ 21
     ·
      have : m = z := by omega
      subst this
      rw [h3 hlt, Xbc (by rfl), Xab, Xam]
     ·
      have : m = 21 := by omega
      subst this
      rw [h2 21 (by omega), Xbl (by rfl), decide_eq_false (by omega), Xab, Xam]
    ·
     rw [snA, Xab, Xam]
   ·
    intro k hk ih
    refine lgo ?_ ih
    unfold Xer
    rw [wkA (e := (i : Int) + (k : Int)), strOfNums_size, syA, rqA, show (i : Int) + (k : Int) = ((i + k : Nat) : Int) by omega, (Yci hb (by omega)).1, h2 k (by omega), Xbl (by rfl), decide_eq_true (by omega), Xab, Xav, wkA]
    rfl
  exact key 0 (by omega)
 unfold Xbh Xbk
 rw [lI, Xab, lS _ rfl, Xab]
 simp only
 by_cases hz : z ≤ 20
 ·
  rw [show min z 21 = z by omega, snA, Xab, wkA (e := 2 * (z : Int)), wkA (e := 2 * (z : Int) + 1), wkA (e := (i : Int) + (z : Int)), wkA (e := (z : Int) + 1), show (i : Int) + (z : Int) = ((i + z : Nat) : Int) by omega, show (z : Int) + 1 = ((z + 1 : Nat) : Int) by omega, show 2 * (z : Int) + 1 = ((z + (z + 1) : Nat) : Int) by omega, Xw7 hb hl h1 (by omega), Xab]
  obtain ⟨p1, p2⟩ := Ysc z (by omega)
  by_cases hfit : i + z + (z + 1) ≤ L.length
  ·
   rw [if_pos hfit, Yhv hb hl (by omega) (by omega), Xab, Ysy (by omega) h2]
   simp only
   have hge := Yy1 hb (i := i + z) (w := z) (by omega) (h3 (by omega))
   have hpp : (1 : Int) ≤ 2 ^ z := Int.pow_pos (by omega)
   have hr := Xj5 (l := (L.drop (i + z)).take (z + 1)) (fun x hx => hb x (List.mem_of_mem_drop (List.mem_of_mem_take hx)))
   have hp : (2 : Int) ^ ((L.drop (i + z)).take (z + 1)).length ≤ 1099511627776 := Xyy (by rw [List.length_take]; omega)
   generalize hq : Xhs ((L.drop (i + z)).take (z + 1)) = q at *
   rw [Xav, Xa6 p1, p2, snA, wkA (e := q - 1), Xab, Xam, Xab]
   by_cases hbig : q - 1 > 1000000
   ·
    rw [Xbm hbig, Xbm hbig]
    exact .inr ⟨rfl, _, rfl⟩
   ·
    rw [Xax hbig, Xax hbig]
    exact .inl ⟨(q - 1).toNat, i + z + (z + 1), by rw [show (((q - 1).toNat : Nat) : Int) = q - 1 by omega], by rw [show (((q - 1).toNat : Nat) : Int) = q - 1 by omega, show i + (z + (z + 1)) = i + z + (z + 1) by omega], by omega, by omega, by omega⟩
  ·
   rw [if_neg hfit]
   simp only
   rw [Xam, Xab, Xav]
   refine .inr ⟨rfl, (i : Int), ?_⟩
   have : Xa5 ⟨strOfNums L, (i : Int), false⟩ ((z + (z + 1) : Nat) : Int) = some (0, ⟨strOfNums L, (i : Int), true⟩) := by
    unfold Xa5
    simp only
    rw [Xam, strOfNums_size, wkA, Xab, syA]
   rw [this, Xab]
   rfl
 ·
  have hm : min z 21 = 21 := by omega
  rw [hm, syA, Xab]
  refine .inr ⟨?_, (i : Int), ?_⟩
  ·
   rw [wkA (e := (i : Int) + ((21 : Nat) : Int)), wkA (e := ((21 : Nat) : Int) + 1), show (i : Int) + ((21 : Nat) : Int) = ((i + 21 : Nat) : Int) by omega, show ((21 : Nat) : Int) + 1 = ((22 : Nat) : Int) by omega, Xw7 hb hl (by omega) (by omega), Xab]
   obtain ⟨p1, p2⟩ := Ysc 21 (by omega)
   by_cases hfit : i + 21 + 22 ≤ L.length
   ·
    rw [if_pos hfit]
    simp only
    rw [Xav, Xa6 p1, p2]
    by_cases h21 : z = 21
    ·
     subst h21
     have hge : (2 : Int) ^ 21 ≤ Xhs ((L.drop (i + 21)).take 22) := Yy1 hb (i := i + 21) (w := 21) (by omega) (h3 (by omega))
     have hr := Xj5 (l := (L.drop (i + 21)).take 22) (fun x hx => hb x (List.mem_of_mem_drop (List.mem_of_mem_take hx)))
     have hp : (2 : Int) ^ ((L.drop (i + 21)).take 22).length ≤ 1099511627776 := Xyy (by rw [List.length_take]; omega)
     have e21 : (2 : Int) ^ 21 = 2097152 := by decide
     rw [e21] at hge ⊢
     rw [snA, wkA, decide_eq_true (by omega), Xab, Xav]
    ·
     have hlt : Xhs ((L.drop (i + 21)).take 22) < 2 ^ 21 := by
      have a := Ysy (L := L) (i := i + 21) (z := 1) (w := 21) (by omega) (fun k hk => by
       have : k = 0 := by omega
       subst this
       exact h2 21 (by omega))
      rw [show (1 + 21 : Nat) = 22 from rfl] at a
      have hr := Xj5 (l := (L.drop (i + 21 + 1)).take 21) (fun x hx => hb x (List.mem_of_mem_drop (List.mem_of_mem_take hx)))
      rw [a]
      have : ((L.drop (i + 21 + 1)).take 21).length = 21 := by rw [List.length_take, List.length_drop]; omega
      rw [this] at hr
      exact hr.2
     rw [Xbm hlt, Xab, Xav]
   ·
    rw [if_neg hfit]
    simp only
    rw [Xam, Xab, Xav]
  ·
   have : ∀ w : Int, Xa5 ⟨strOfNums L, (i : Int), true⟩ w = some (0, ⟨strOfNums L, (i : Int), true⟩) := fun w => rfl
   rw [this, Xab]
   rfl
theorem Yx5 (v : Nat) (hv : v ≤ 1000000) : ∃ n : Int, Xkg (v : Int) = some (n, true) ∧ Xo3 (v : Int) = some (n, true) ∧ -500000 ≤ n ∧ n ≤ 500000 := by
 unfold Xkg Xo3
 rw [Xaj, Xab, Xai, Xab, decide_eq_true (by omega), Bool.not_true, Xam, Xam, rqA, rqA, Xbs (by omega)]
 by_cases h : (v : Int) % 2 = 1
 ·
  rw [Xbl (by rw [beq_iff_eq]; exact h), Xbl (by rw [beq_iff_eq]; exact h), rqA, wkA (e := (v : Int) + 1), Xbr (by omega), wkA]
  exact ⟨_, rfl, rfl, by omega, by omega⟩
 ·
  rw [Xbc (by rw [beq_eq_false_iff_ne]; exact h), Xbc (by rw [beq_eq_false_iff_ne]; exact h), rqA, rqA, wkA (e := 0 - (v : Int))]
  have e1 : (0 - (v : Int)).tdiv 2 = -((v : Int) / 2) := by
   rw [show (0 - (v : Int)) = (-((v : Int) / 2)) * 2 by omega]
   exact Int.mul_tdiv_cancel _ (by omega)
  rw [e1, Xbr (a := (v : Int)) (by omega), wkA (e := (v : Int) / 2), wkA (e := 0 - (v : Int) / 2), wkA (e := -((v : Int) / 2)), show 0 - (v : Int) / 2 = -((v : Int) / 2) by omega]
  exact ⟨_, rfl, rfl, by omega, by omega⟩
theorem Yvc (s : ByteArray) (a : Int) : Xb1 ⟨s, a, true⟩ = some (0, ⟨s, a, true⟩) := by
 unfold Xb1
 rw [Yvk, Xab]
 rfl
theorem Yis {L : List Int} (hb : Xe1 L) (hl : L.length ≤ 400000) (i : Nat) (hi : i ≤ L.length) :
  (∃ (n : Int) (j : Nat), Xcg (strOfNums L) (i : Int) = some (n, (j : Int), true) ∧ Xb1 ⟨strOfNums L, (i : Int), false⟩ = some (n, ⟨strOfNums L, (j : Int), false⟩) ∧ (-500000 ≤ n ∧ n ≤ 500000) ∧ i < j ∧ j ≤ L.length) ∨ (Xcg (strOfNums L) (i : Int) = some (0, 0, false) ∧ ∃ a : Int, Xb1 ⟨strOfNums L, (i : Int), false⟩ = some (0, ⟨strOfNums L, a, true⟩)) := by
 unfold Xcg Xb1
 rcases Xr2 hb hl i hi with ⟨v, j, e1, e2, h1, h2, h3⟩ | ⟨e1, a, e2⟩
 ·
  obtain ⟨n, o1, o2, o3, o4⟩ := Yx5 v h1
  refine .inl ⟨n, j, ?_, ?_, ⟨o3, o4⟩, h2, h3⟩
  ·
   rw [e1, Xab]
   simp only
   rw [Bool.not_true, Xam, o2, Xab]
  ·
   rw [e2, Xab]
   simp only
   rw [o1, Xab]
   rfl
 ·
  refine .inr ⟨?_, a, ?_⟩
  ·
   rw [e1, Xab]; rfl
  ·
   rw [e2, Xab]; rfl
def Ywv (L : List Int) (N n pos : Nat) : Prop := pos ≤ N → N ≤ pos + n → ∀ (i : Nat) (l : List Int) (rem : Nat), i ≤ L.length → l.length = N → rem ≤ 1000000 →
  (∃ (j : Nat) (l' : List Int), (∀ (k : Nat) (q1 : Int × Int × Bool), q1.1 = ((k + rem : Nat) : Int) → k + rem ≤ 1000000 → loop (Xcr (strOfNums L) (N : Int) q1) ((i : Int), (pos : Int), (k : Int), l) = some (.out ((j : Int), l'))) ∧ loop (Xbg (N : Int)) ((pos : Int), (rem : Int), strOfNums L, (i : Int), false, l) = some (l', strOfNums L, (j : Int), false) ∧ l'.length = N ∧ j ≤ L.length ∧ rem ≤ N - pos) ∨
  ((∀ (k : Nat) (q1 : Int × Int × Bool), q1.1 = ((k + rem : Nat) : Int) → k + rem ≤ 1000000 → loop (Xcr (strOfNums L) (N : Int) q1) ((i : Int), (pos : Int), (k : Int), l) = some (.ret ([], 0, false))) ∧ ∃ (l' : List Int) (a : Int), loop (Xbg (N : Int)) ((pos : Int), (rem : Int), strOfNums L, (i : Int), false, l) = some (l', strOfNums L, a, true) ∧ l'.length = N)
theorem Ysi {L : List Int} (hb : Xe1 L) (hl : L.length ≤ 400000) (N : Nat) (hN : N ≤ 64) (n : Nat) (ih : ∀ n', n' + 1 = n → ∀ pos, Ywv L N n' pos) (pos : Nat) : Ywv L N n pos := by
 intro hp hn i l rem hi hll hrem
 cases rem with
 | zero =>
  refine .inl ⟨i, l, fun k q1 hq hk => Xcn ?_, Xcn ?_, hll, hi, by omega⟩
  ·
   unfold Xcr
   simp only
   rw [snA]
  ·
   unfold Xbg
   simp only
   rw [snA, Xab, Xam]
 | succ r =>
  have sI : Xbg (N : Int) ((pos : Int), ((r + 1 : Nat) : Int), strOfNums L, (i : Int), false, l) = bnd (Xbk ⟨strOfNums L, (i : Int), false⟩) fun q17 => bnd (Xb1 q17.2) fun q18 => bnd (sel (decide ((Xaa .i64 ((pos : Int) + q17.1)) ≥ (N : Int))) (some true) (sel (q18.1 == 0) (some true) (bnd (Xau q18.1 (-5000) 5000) fun q20 => some (!q20)))) fun v19 => sel v19 (some (.done (l, q18.2.row_, q18.2.at_, true))) (req (0 ≤ (Xaa .i64 ((pos : Int) + q17.1)) ∧ (Xaa .i64 ((pos : Int) + q17.1)) < l.length) <| req ((Xaa .i64 ((pos : Int) + q17.1)).toNat < l.length) <| some (.go (Xaa .i64 ((Xaa .i64 ((pos : Int) + q17.1)) + 1), Xaa .i64 (((r + 1 : Nat) : Int) - 1), q18.2.row_, q18.2.at_, q18.2.bad_, (l.set ((Xaa .i64 ((pos : Int) + q17.1)).toNat) q18.1)))) := by
   unfold Xbg
   simp only
   rw [syA, Bool.not_false, Xab, Xav]
  have sS : ∀ (k : Nat) (q1 : Int × Int × Bool), q1.1 = ((k + (r + 1) : Nat) : Int) → Xcr (strOfNums L) (N : Int) q1 ((i : Int), (pos : Int), (k : Int), l) = bnd (Xbh (strOfNums L) (i : Int)) fun q17 => bnd (sel q17.2.2 (some (decide (q17.1 > (Xaa .i64 ((Xaa .i64 ((N : Int) - 1)) - (pos : Int)))))) (some true)) fun v18 => sel v18 (some (.done (.ret (([] : List Int), 0, false)))) (bnd (Xcg (strOfNums L) q17.2.1) fun q19 => bnd (sel q19.2.2 (sel (q19.1 == 0) (some true) (bnd (Xaw q19.1 (-5000) 5000) fun q21 => some (!q21))) (some true)) fun v20 => sel v20 (some (.done (.ret (([] : List Int), 0, false)))) (req (0 ≤ (Xaa .i64 ((pos : Int) + q17.1)) ∧ (Xaa .i64 ((pos : Int) + q17.1)) < l.length) <| req ((Xaa .i64 ((pos : Int) + q17.1)).toNat < l.length) <| some (.go (q19.2.1, Xaa .i64 ((Xaa .i64 ((pos : Int) + q17.1)) + 1), Xaa .i64 ((k : Int) + 1), (l.set ((Xaa .i64 ((pos : Int) + q17.1)).toNat) q19.1))))) := fun k q1 hq => by
   unfold Xcr
   simp only
   rw [syA]
  rcases Xr2 hb hl i hi with ⟨v, j, e1, e2, h1, h2, h3⟩ | ⟨e1, a, e2⟩
  ·
   rw [e2, Xab] at sI
   simp only at sI
   have sS' := fun k q1 hq => (sS k q1 hq).trans (by rw [e1, Xab])
   simp only at sS'
   by_cases hge : pos + v ≥ N
   ·
    refine .inr ⟨fun k q1 hq hk => Xcn ((sS' k q1 hq).trans ?_), ?_⟩
    ·
     rw [Xav, wkA (e := (N : Int) - 1), wkA (e := (N : Int) - 1 - pos), decide_eq_true (by omega), Xab, Xav]
    ·
     rcases Yis hb hl j h3 with ⟨m, j2, _, f2, _⟩ | ⟨_, a, f2⟩
     ·
      refine ⟨l, (j2 : Int), Xcn (sI.trans ?_), hll⟩
      rw [f2, Xab, wkA (e := (pos : Int) + v), syA, Xab, Xav]
     ·
      refine ⟨l, a, Xcn (sI.trans ?_), hll⟩
      rw [f2, Xab, wkA (e := (pos : Int) + v), syA, Xab, Xav]
   ·
    have sS2 := fun k q1 hq => (sS' k q1 hq).trans (by rw [Xav, wkA (e := (N : Int) - 1), wkA (e := (N : Int) - 1 - pos), decide_eq_false (by omega), Xab, Xam])
    rw [wkA (e := (pos : Int) + v)] at sI
    rcases Yis hb hl j h3 with ⟨m, j2, f1, f2, f3, f4, f5⟩ | ⟨f1, a, f2⟩
    ·
     rw [f2, Xab, snA] at sI
     have sS3 := fun k q1 hq => (sS2 k q1 hq).trans (by rw [f1, Xab])
     simp only at sS3 sI
     by_cases hm : m = 0 ∨ ¬ (-5000 ≤ m ∧ m ≤ 5000)
     ·
      have hv : (sel (m == 0) (some true) (bnd (Xau m (-5000) 5000) fun q20 => some (!q20))) = some true ∧ (sel true (sel (m == 0) (some true) (bnd (Xaw m (-5000) 5000) fun q20 => some (!q20))) (some true)) = some true := by
       rw [Xav, Xaj, Xai, Xab]
       rcases hm with h0 | h0
       ·
        rw [Xbl (by rw [beq_iff_eq]; exact h0)]; exact ⟨rfl, rfl⟩
       ·
        rw [decide_eq_false h0]
        cases (m == 0) <;> exact ⟨rfl, rfl⟩
      refine .inr ⟨fun k q1 hq hk => Xcn ((sS3 k q1 hq).trans ?_), l, (j2 : Int), Xcn (sI.trans ?_), hll⟩
      ·
       rw [hv.2, Xab, Xav]
      ·
       rw [hv.1, Xab, Xav]
     ·
      have hm0 : m ≠ 0 := fun h => hm (.inl h)
      have hm1 : -5000 ≤ m ∧ m ≤ 5000 := Classical.byContradiction fun h => hm (.inr h)
      have hv : (sel (m == 0) (some true) (bnd (Xau m (-5000) 5000) fun q20 => some (!q20))) = some false ∧ (sel true (sel (m == 0) (some true) (bnd (Xaw m (-5000) 5000) fun q20 => some (!q20))) (some true)) = some false := by
       rw [Xav, Xaj, Xai, Xab, Xbc (by rw [beq_eq_false_iff_ne]; exact hm0), decide_eq_true hm1]
       exact ⟨rfl, rfl⟩
      have gI : Xbg (N : Int) ((pos : Int), ((r + 1 : Nat) : Int), strOfNums L, (i : Int), false, l) = some (.go (((pos + v + 1 : Nat) : Int), (r : Int), strOfNums L, (j2 : Int), false, l.set (pos + v) m)) := by
       rw [sI, hv.1, Xab, Xam, rqA, rqA, wkA, wkA, show ((r + 1 : Nat) : Int) - 1 = (r : Int) by omega, show ((pos : Int) + (v : Int)).toNat = pos + v by omega]
       rfl
      have gS : ∀ (k : Nat) (q1 : Int × Int × Bool), q1.1 = ((k + (r + 1) : Nat) : Int) → k + (r + 1) ≤ 1000000 → Xcr (strOfNums L) (N : Int) q1 ((i : Int), (pos : Int), (k : Int), l) = some (.go ((j2 : Int), ((pos + v + 1 : Nat) : Int), ((k + 1 : Nat) : Int), l.set (pos + v) m)) := fun k q1 hq hk => by
       refine (sS3 k q1 hq).trans ?_
       rw [hv.2, Xab, Xam, wkA (e := (pos : Int) + v), rqA, rqA, wkA, wkA, show ((pos : Int) + (v : Int)).toNat = pos + v by omega]
       rfl
      have hR := ih (n - 1) (by omega) (pos + v + 1) (by omega) (by omega) j2 (l.set (pos + v) m) r f5 (by rw [List.length_set]; exact hll) (by omega)
      rcases hR with ⟨j3, l', r1, r2, r3, r4, r5⟩ | ⟨r1, l', a, r2, r3⟩
      ·
       exact .inl ⟨j3, l', fun k q1 hq hk => lgo (gS k q1 hq hk) (r1 (k + 1) q1 (by rw [hq]; omega) (by omega)), lgo gI r2, r3, r4, by omega⟩
      ·
       exact .inr ⟨fun k q1 hq hk => lgo (gS k q1 hq hk) (r1 (k + 1) q1 (by rw [hq]; omega) (by omega)), l', a, lgo gI r2, r3⟩
    ·
     refine .inr ⟨fun k q1 hq hk => Xcn ((sS2 k q1 hq).trans ?_), l, a, Xcn (sI.trans ?_), hll⟩
     ·
      rw [f1, Xab]; rfl
     ·
      rw [f2, Xab, snA]; rfl
  ·
   refine .inr ⟨fun k q1 hq hk => Xcn ((sS k q1 hq).trans ?_), l, a, Xcn (sI.trans ?_), hll⟩
   ·
    rw [e1, Xab]; rfl
   ·
    rw [e2, Xab]
    simp only
    rw [Yvc, Xab]
    simp only
    cases decide ((Xaa .i64 ((pos : Int) + 0)) ≥ (N : Int)) <;> rfl
theorem Zca {L : List Int} (hb : Xe1 L) (hl : L.length ≤ 400000) (N : Nat) (hN : N ≤ 64) : ∀ n pos : Nat, Ywv L N n pos := by
 intro n
 induction n with
 | zero => exact fun pos => Ysi hb hl N hN 0 (fun n' h => by omega) pos
 | succ n ih => exact fun pos => Ysi hb hl N hN (n + 1) (fun n' h pos => by
   have : n' = n := by omega
   subst this
   exact ih pos) pos
theorem Yvb (s : ByteArray) (a : Int) (N : Nat) (hN : N ≤ 64) : Xcl ⟨s, a, true⟩ (N : Int) = some (List.replicate N 0, ⟨s, a, true⟩) := by
 unfold Xcl
 rw [rqA, Yvk, Xab]
 have h : ∀ l, Xbg (N : Int) (0, 0, s, a, true, l) = some (.done (l, s, a, true)) := fun l => rfl
 simp only
 rw [Xco (h _), Xab, Int.toNat_natCast]
theorem Ysf {L : List Int} (hb : Xe1 L) (hl : L.length ≤ 400000) (N : Nat) (hN : N ≤ 64) (i : Nat) (hi : i ≤ L.length) :
  (∃ (l : List Int) (j : Nat), Xiq (strOfNums L) (i : Int) (N : Int) = some (l, (j : Int), true) ∧ Xcl ⟨strOfNums L, (i : Int), false⟩ (N : Int) = some (l, ⟨strOfNums L, (j : Int), false⟩) ∧ l.length = N ∧ j ≤ L.length) ∨ (Xiq (strOfNums L) (i : Int) (N : Int) = some ([], 0, false) ∧ ∃ (l : List Int) (a : Int), Xcl ⟨strOfNums L, (i : Int), false⟩ (N : Int) = some (l, ⟨strOfNums L, a, true⟩) ∧ l.length = N) := by
 unfold Xiq Xcl
 rw [rqA, rqA]
 rcases Xr2 hb hl i hi with ⟨v, j, e1, e2, h1, h2, h3⟩ | ⟨e1, a, e2⟩
 ·
  rw [e1, Xab, e2, Xab]
  simp only
  rw [Xav, Xab, Int.toNat_natCast]
  rcases Zca hb hl N hN N 0 (by omega) (by omega) j (List.replicate N 0) v h3 (by simp) h1 with ⟨j3, l', r1, r2, r3, r4, r5⟩ | ⟨r1, l', a, r2, r3⟩
  ·
   have r1' := r1 0 ((v : Int), (j : Int), true) (by simp) (by omega)
   have r2' : loop (Xbg (N : Int)) (0, (v : Int), strOfNums L, (j : Int), false, List.replicate N 0) = some (l', strOfNums L, (j3 : Int), false) := r2
   have r3' : loop (Xcr (strOfNums L) (N : Int) ((v : Int), (j : Int), true)) ((j : Int), 0, 0, List.replicate N 0) = some (.out ((j3 : Int), l')) := r1'
   rw [snA, r2', r3', Xab, Xab]
   exact .inl ⟨l', j3, rfl, rfl, r3, r4⟩
  ·
   have r2' : loop (Xbg (N : Int)) (0, (v : Int), strOfNums L, (j : Int), false, List.replicate N 0) = some (l', strOfNums L, a, true) := r2
   refine .inr ⟨?_, l', a, ?_, r3⟩
   ·
    by_cases hbig : (v : Int) > N
    ·
     rw [Xbm hbig]
    ·
     have r3' : loop (Xcr (strOfNums L) (N : Int) ((v : Int), (j : Int), true)) ((j : Int), 0, 0, List.replicate N 0) = some (.ret ([], 0, false)) := r1 0 ((v : Int), (j : Int), true) (by simp) (by omega)
     rw [Xax hbig, r3', Xab]
   ·
    rw [r2', Xab]
 ·
  refine .inr ⟨?_, List.replicate N 0, a, ?_, by simp⟩
  ·
   rw [e1, Xab]; rfl
  ·
   rw [e2, Xab]
   have h : ∀ l, Xbg (N : Int) (0, 0, strOfNums L, a, true, l) = some (.done (l, strOfNums L, a, true)) := fun l => rfl
   simp only
   rw [Xco (h _), Xab, Int.toNat_natCast]
theorem Ytp (s : ByteArray) (a : Int) : ∀ n k : Nat, k + n = 4 → ∀ l : List Int, l.length = 16 * k → ∃ l' : List Int, loop Xa8 ((k : Int), s, a, true, l) = some (l', s, a, true) ∧ l'.length = 64
 | 0, k, hk, l, hl => ⟨l, Xcn (by unfold Xa8; simp only; rw [snA]), by omega⟩
 | n + 1, k, hk, l, hl => by
  have hm : maxLen = 9223372036854775807 := rfl
  obtain ⟨l', e, h⟩ := Ytp s a n (k + 1) (by omega) (l ++ List.replicate 16 0) (by rw [List.length_append, List.length_replicate]; omega)
  refine ⟨l', lgo ?_ e, h⟩
  have := Yvb s a 16 (by omega)
  unfold Xa8
  simp only
  rw [syA]
  refine (Xey this).trans ?_
  simp only
  rw [Xa6 (by simp only [List.length_replicate]; omega), wkA]
  rfl
theorem Ya3 (s : ByteArray) (a : Int) (c : Xf0) : ∃ l : List Int, Xbi ⟨s, a, true⟩ c = some (l, ⟨s, a, true⟩) ∧ l.length = 64 := by
 unfold Xbi
 rw [Ycz, Xab]
 by_cases h : (c.Large || c.Exact) = true
 ·
  rw [Xbl h]
  have := Yvb s a 64 (by omega)
  exact ⟨_, (Xey this).trans rfl, by simp⟩
 ·
  rw [Xbc (by simpa using h)]
  obtain ⟨l', e, hl⟩ := Ytp s a 4 0 rfl [] rfl
  exact ⟨l', (Xey e).trans rfl, hl⟩
theorem Yuv {L : List Int} (hb : Xe1 L) (hl : L.length ≤ 400000) : ∀ n k : Nat, k + n = 4 → ∀ (i : Nat) (l : List Int), i ≤ L.length → l.length = 16 * k →
  (∃ (l' : List Int) (j : Nat), loop (Xd3 (strOfNums L)) ((i : Int), (k : Int), l) = some (.out ((j : Int), l')) ∧ loop Xa8 ((k : Int), strOfNums L, (i : Int), false, l) = some (l', strOfNums L, (j : Int), false) ∧ l'.length = 64 ∧ j ≤ L.length) ∨
  (loop (Xd3 (strOfNums L)) ((i : Int), (k : Int), l) = some (.ret ([], 0, false)) ∧ ∃ (l' : List Int) (a : Int), loop Xa8 ((k : Int), strOfNums L, (i : Int), false, l) = some (l', strOfNums L, a, true) ∧ l'.length = 64)
 | 0, k, hk, i, l, hi, hll => .inl ⟨l, i, Xcn (by unfold Xd3; simp only; rw [snA]), Xcn (by unfold Xa8; simp only; rw [snA]), by omega, hi⟩
 | n + 1, k, hk, i, l, hi, hll => by
  have hm : maxLen = 9223372036854775807 := rfl
  rcases Ysf hb hl 16 (by omega) i hi with ⟨q, j, e1, e2, h1, h2⟩ | ⟨e1, q, a, e2, h1⟩
  ·
   have gI : Xa8 ((k : Int), strOfNums L, (i : Int), false, l) = some (.go (((k + 1 : Nat) : Int), strOfNums L, (j : Int), false, l ++ q)) := by
    unfold Xa8
    simp only
    rw [syA]
    refine (Xey e2).trans ?_
    simp only
    rw [rqA, wkA]
    rfl
   have gS : Xd3 (strOfNums L) ((i : Int), (k : Int), l) = some (.go ((j : Int), ((k + 1 : Nat) : Int), l ++ q)) := by
    unfold Xd3
    simp only
    rw [syA]
    refine (Xey e1).trans ?_
    simp only
    rw [Bool.not_true, Xam, rqA, wkA]
    rfl
   rcases Yuv hb hl n (k + 1) (by omega) j (l ++ q) h2 (by rw [List.length_append]; omega) with ⟨l', j', r1, r2, r3, r4⟩ | ⟨r1, l', a, r2, r3⟩
   ·
    exact .inl ⟨l', j', lgo gS r1, lgo gI r2, r3, r4⟩
   ·
    exact .inr ⟨lgo gS r1, l', a, lgo gI r2, r3⟩
  ·
   obtain ⟨l', r1, r2⟩ := Ytp (strOfNums L) a n (k + 1) (by omega) (l ++ q) (by rw [List.length_append]; omega)
   refine .inr ⟨Xcn ?_, l', a, lgo ?_ r1, r2⟩
   ·
    unfold Xd3
    simp only
    rw [syA]
    refine (Xey e1).trans ?_
    rfl
   ·
    unfold Xa8
    simp only
    rw [syA]
    refine (Xey e2).trans ?_
    simp only
    rw [rqA, wkA]
    rfl
theorem Yid {L : List Int} (hb : Xe1 L) (hl : L.length ≤ 400000) (i : Nat) (hi : i ≤ L.length) (c : Xf0) :
  (∃ (l : List Int) (j : Nat), Xgr (strOfNums L) (i : Int) c = some (l, (j : Int), true) ∧ Xbi ⟨strOfNums L, (i : Int), false⟩ c = some (l, ⟨strOfNums L, (j : Int), false⟩) ∧ l.length = 64 ∧ j ≤ L.length) ∨
  (Xgr (strOfNums L) (i : Int) c = some ([], 0, false) ∧ ∃ (l : List Int) (a : Int), Xbi ⟨strOfNums L, (i : Int), false⟩ c = some (l, ⟨strOfNums L, a, true⟩) ∧ l.length = 64) := by
 unfold Xgr Xbi
 rw [Ycz, Xab, Xab]
 by_cases h : (c.Large || c.Exact) = true
 ·
  rw [Xbl h, Xbl h]
  rcases Ysf hb hl 64 (by omega) i hi with ⟨q, j, e1, e2, h1, h2⟩ | ⟨e1, q, a, e2, h1⟩
  ·
   exact .inl ⟨q, j, (Xey e1).trans rfl, (Xey e2).trans rfl, h1, h2⟩
  ·
   exact .inr ⟨(Xey e1).trans rfl, q, a, (Xey e2).trans rfl, h1⟩
 ·
  rw [Xbc (by simpa using h), Xbc (by simpa using h)]
  rcases Yuv hb hl 4 0 rfl i [] hi rfl with ⟨l', j', r1, r2, r3, r4⟩ | ⟨r1, l', a, r2, r3⟩
  ·
   exact .inl ⟨l', j', (Xey r1).trans rfl, (Xey r2).trans rfl, r3, r4⟩
  ·
   exact .inr ⟨(Xey r1).trans rfl, l', a, (Xey r2).trans rfl, r3⟩
theorem Yn3 (s : ByteArray) (a : Int) (c : Xf0) : ∃ (q : Xar) (a' : Int), Xce ⟨s, a, true⟩ c = some (q, ⟨s, a', true⟩) := by
 unfold Xce
 cases hK : c.Key with
 | true => exact ⟨_, _, rfl⟩
 | false =>
  simp only
  rw [Bool.not_false, Xav, Yvk, Xab, Xab]
  exact ⟨_, _, rfl⟩
theorem Yt7 {L : List Int} (hb : Xe1 L) (hl : L.length ≤ 400000) (i : Nat) (hi : i ≤ L.length) (c : Xf0) :
  (∃ (q : Xar) (j : Nat), Xk4 (strOfNums L) (i : Int) c = some (q, (j : Int), true) ∧ Xce ⟨strOfNums L, (i : Int), false⟩ c = some (q, ⟨strOfNums L, (j : Int), false⟩) ∧ q.Levels.length ≤ 64 ∧ j ≤ L.length ∧ Xnq q = true ∧ Xiy q c = true) ∨
  (Xk4 (strOfNums L) (i : Int) c = some (⟨0, 0, 0, 0, []⟩, 0, false) ∧ ∃ (q : Xar) (a : Int), Xce ⟨strOfNums L, (i : Int), false⟩ c = some (q, ⟨strOfNums L, a, true⟩)) := by
 -- the kind
 have tail : ∀ (kd : Int) (i1 : Nat), i1 ≤ L.length → (0 ≤ kd ∧ kd ≤ 2) → (c.Key = true → kd = 2) → ∀ (x y : Option (Xar × Int × Bool)) (z : Option (Xar × Xk7)),
   x = (sel (kd == 0) (some ((⟨kd, 0, 0, 0, []⟩ : Xar), (i1 : Int), true)) (sel (kd == 1) (bnd (Xcg (strOfNums L) i1) fun q5 => sel (!q5.2.2) (some ((⟨0, 0, 0, 0, []⟩ : Xar), 0, false)) (bnd (Xcg (strOfNums L) q5.2.1) fun q6 => (sel (!q6.2.2) (some ((⟨0, 0, 0, 0, []⟩ : Xar), 0, false)) (bnd (Xgr (strOfNums L) q6.2.1 c) fun q8 => bnd (sel q8.2.2 (bnd (Xef (⟨kd, 0, q5.1, q6.1, q8.1⟩ : Xar)) fun q10 => some (!q10)) (some true)) fun v9 => sel v9 (some ((⟨0, 0, 0, 0, []⟩ : Xar), 0, false)) (some ((⟨kd, 0, q5.1, q6.1, q8.1⟩ : Xar), q8.2.1, true)))))) (bnd (Xbh (strOfNums L) i1) fun q7 => (sel (!q7.2.2) (some ((⟨0, 0, 0, 0, []⟩ : Xar), 0, false)) (bnd (Xgr (strOfNums L) q7.2.1 c) fun q8 => bnd (sel q8.2.2 (bnd (Xef (⟨kd, q7.1, 0, 0, q8.1⟩ : Xar)) fun q10 => some (!q10)) (some true)) fun v9 => sel v9 (some ((⟨0, 0, 0, 0, []⟩ : Xar), 0, false)) (some ((⟨kd, q7.1, 0, 0, q8.1⟩ : Xar), q8.2.1, true))))))) →
   z = (bnd (sel (kd == 1) (bnd (Xb1 (⟨strOfNums L, (i1 : Int), false⟩ : Xk7)) fun q4 => bnd (Xb1 q4.2) fun q5 => bnd (Xbi q5.2 c) fun q6 => some (q6.2.row_, q6.2.at_, q6.2.bad_, (0 : Int), q4.1, q5.1, q6.1)) (sel (kd == 2) (bnd (Xbk (⟨strOfNums L, (i1 : Int), false⟩ : Xk7)) fun q7 => bnd (Xbi q7.2 c) fun q8 => some (q8.2.row_, q8.2.at_, q8.2.bad_, q7.1, 0, 0, q8.1)) (some (strOfNums L, (i1 : Int), false, 0, 0, 0, [])))) fun v3 => bnd (sel v3.2.2.1 (some true) (bnd (Xgv (⟨kd, v3.2.2.2.1, v3.2.2.2.2.1, v3.2.2.2.2.2.1, v3.2.2.2.2.2.2⟩ : Xar)) fun q10 => some (!q10))) fun v9 => some ((⟨kd, v3.2.2.2.1, v3.2.2.2.2.1, v3.2.2.2.2.2.1, v3.2.2.2.2.2.2⟩ : Xar), (⟨v3.1, v3.2.1, v9⟩ : Xk7))) →
   (∃ (q : Xar) (j : Nat), x = some (q, (j : Int), true) ∧ z = some (q, ⟨strOfNums L, (j : Int), false⟩) ∧ q.Levels.length ≤ 64 ∧ j ≤ L.length ∧ Xnq q = true ∧ Xiy q c = true) ∨ (x = some (⟨0, 0, 0, 0, []⟩, 0, false) ∧ ∃ (q : Xar) (a : Int), z = some (q, ⟨strOfNums L, a, true⟩)) := by
  intro kd i1 hi1 hkd hkey x _ z hx hz
  subst hx; subst hz
  obtain h0 | h1 | h2 : kd = 0 ∨ kd = 1 ∨ kd = 2 := by omega
  ·
   subst h0
   exact .inl ⟨⟨0, 0, 0, 0, []⟩, i1, rfl, rfl, by simp, hi1, rfl, by
    unfold Xiy
    cases hK : c.Key with
    | false => rfl
    | true => exact absurd (hkey hK) (by decide)⟩
  ·
   subst h1
   have hlet : ∀ q : Xar, q.Kind = 1 → Xiy q c = true := fun q hq => by
    unfold Xiy
    cases hK : c.Key with
    | false => rfl
    | true => exact absurd (hkey hK) (by decide)
   rw [Xbc (b := ((1 : Int) == 0)) (by rfl), Xbl (b := ((1 : Int) == 1)) (by rfl), Xbl (b := ((1 : Int) == 1)) (by rfl)]
   rcases Yis hb hl i1 hi1 with ⟨dx, j, e1, e2, h1, h2, h3⟩ | ⟨e1, a, e2⟩
   ·
    rw [e1, Xab, e2, Xab]
    simp only
    rw [Bool.not_true, Xam]
    rcases Yis hb hl j h3 with ⟨dy, j2, f1, f2, g1, g2, g3⟩ | ⟨f1, a, f2⟩
    ·
     rw [f1, Xab, f2, Xab]
     simp only
     rw [Bool.not_true, Xam]
     rcases Yid hb hl j2 g3 c with ⟨lv, j3, k1, k2, k3, k4⟩ | ⟨k1, lv, a, k2, k3⟩
     ·
      rw [k1, Xab, k2, Xab, Xab]
      simp only
      rw [Xav, Xam, Xkb, Xab, Xe3 _ (by simp only; omega), Xab, Xab, Xab]
      cases hq : Xnq ⟨1, 0, dx, dy, lv⟩ with
      | true => exact .inl ⟨_, j3, rfl, rfl, by simp only; omega, k4, hq, hlet _ rfl⟩
      | false => exact .inr ⟨rfl, _, _, rfl⟩
     ·
      rw [k1, Xab, k2, Xab, Xab]
      exact .inr ⟨rfl, _, _, rfl⟩
    ·
     rw [f1, Xab, f2, Xab]
     obtain ⟨lv, k2, _⟩ := Ya3 (strOfNums L) a c
     simp only
     rw [k2, Xab, Xab]
     exact .inr ⟨rfl, _, _, rfl⟩
   ·
    rw [e1, Xab, e2, Xab]
    obtain ⟨lv, k2, _⟩ := Ya3 (strOfNums L) a c
    simp only
    rw [Yvc, Xab]
    simp only
    rw [k2, Xab, Xab]
    exact .inr ⟨rfl, _, _, rfl⟩
  ·
   subst h2
   have hlet : ∀ q : Xar, q.Kind = 2 → Xiy q c = true := fun q hq => by
    unfold Xiy
    rw [hq]
    cases c.Key <;> rfl
   rw [Xbc (b := ((2 : Int) == 0)) (by rfl), Xbc (b := ((2 : Int) == 1)) (by rfl), Xbc (b := ((2 : Int) == 1)) (by rfl), Xbl (b := ((2 : Int) == 2)) (by rfl)]
   rcases Xr2 hb hl i1 hi1 with ⟨m, j2, f1, f2, g1, g2, g3⟩ | ⟨f1, a, f2⟩
   ·
    rw [f1, Xab, f2, Xab]
    simp only
    rw [Bool.not_true, Xam]
    rcases Yid hb hl j2 g3 c with ⟨lv, j3, k1, k2, k3, k4⟩ | ⟨k1, lv, a, k2, k3⟩
    ·
     rw [k1, Xab, k2, Xab, Xab]
     simp only
     rw [Xav, Xam, Xkb, Xab, Xe3 _ (by simp only; omega), Xab, Xab, Xab]
     cases hq : Xnq ⟨2, (m : Int), 0, 0, lv⟩ with
     | true => exact .inl ⟨_, j3, rfl, rfl, by simp only; omega, k4, hq, hlet _ rfl⟩
     | false => exact .inr ⟨rfl, _, _, rfl⟩
    ·
     rw [k1, Xab, k2, Xab, Xab]
     exact .inr ⟨rfl, _, _, rfl⟩
   ·
    rw [f1, Xab, f2, Xab]
    obtain ⟨lv, k2, _⟩ := Ya3 (strOfNums L) a c
    simp only
    rw [k2, Xab, Xab]
    exact .inr ⟨rfl, _, _, rfl⟩
 unfold Xk4 Xce
 simp only [Yxo]
 cases hK : c.Key with
 | true =>
  rw [Bool.not_true, Xam, Xam, Xab]
  simp only
  rw [Xam]
  exact tail 2 i hi (by omega) (fun _ => rfl) _ none _ rfl rfl
 | false =>
  rw [Bool.not_false, Xav, Xav]
  rcases Xr2 hb hl i hi with ⟨v, j, e1, e2, h1, h2, h3⟩ | ⟨e1, a, e2⟩
  ·
   rw [e1, Xab, e2, Xab, Xab]
   simp only
   rw [Xav, Xab]
   by_cases hv : (v : Int) > 2
   ·
    rw [Xbm hv]
    rw [Xam, Xbc (b := (v : Int) == 1) (by rw [beq_eq_false_iff_ne]; omega), Xbc (b := (v : Int) == 2) (by rw [beq_eq_false_iff_ne]; omega), Xab]
    simp only
    have hq : Xnq ⟨(v : Int), 0, 0, 0, []⟩ = false := by
     unfold Xnq
     rw [if_neg (by simp only; omega), if_neg (by simp only; omega), if_neg (by simp only; omega)]
    rw [Xam, Xe3 _ (by simp), Xab, hq]
    exact .inr ⟨trivial, _, _, rfl⟩
   ·
    rw [Xax hv, Xam]
    exact tail v j h3 (by omega) (fun h => by rw [hK] at h; cases h) _ none _ rfl rfl
  ·
   rw [e1, Xab, e2, Xab, Xab]
   exact .inr ⟨rfl, _, _, rfl⟩
theorem Xqt (s : ByteArray) : (∃ L : List Int, s = strOfNums L ∧ Xe1 L ∧ L.length ≤ 400000 ∧ Xkq s = some true ∧ Xhh s = some true) ∨ (Xkq s = some false ∧ Xhh s = some false) := by
 have hf : Xi3 s = Xdp s := rfl
 unfold Xkq Xhh
 by_cases hs : s.size ≤ 400000
 ·
  rw [snA, syA, hf]
  unfold Xmn
  have hl := Yoh (fun x => x == 48 || x == 49) (Xa0 s) (Xdp s) (by
   intro i hi
   rw [Xbv] at hi
   unfold Xdp
   rw [syA, rqA, rqA, Yih s i hi, wkA]
   generalize Xl2 s i = x
   cases h1 : (x == 48) <;> cases h2 : (x == 49) <;> simp only [bne, h1, h2, sel, bnd, Bool.not_true, Bool.not_false, Bool.or_false, Bool.or_true, Bool.true_or] <;> rfl) (by
   rw [Xbv]
   unfold Xdp
   rw [snA])
  rw [hl]
  by_cases hall : (Xa0 s).all (fun x => x == 48 || x == 49) = true
  ·
   rw [if_pos hall]
   refine .inl ⟨Xa0 s, (Xum s).symm, fun x hx => ?_, by rw [Xbv]; exact hs, rfl, rfl⟩
   have := List.all_eq_true.1 hall x hx
   simpa using this
  ·
   rw [if_neg hall]
   exact .inr ⟨rfl, rfl⟩
 ·
  rw [syA, snA]
  exact .inr ⟨rfl, rfl⟩
theorem Ysu {L : List Int} (hb : Xe1 L) (hl : L.length ≤ 400000) (N : Nat) (hN : N ≤ 64) (c : Xf0) (hc : Xg3 c = true) : ∀ n k : Nat, k + n = N → ∀ (i : Nat) (l : List Xar), i ≤ L.length → l.length = k → (∀ q ∈ l, q.Levels.length ≤ 64) → Ykr l c = true →
  (∃ (l' : List Xar) (j : Nat), loop (Xcf (strOfNums L) (N : Int) c) ((i : Int), (k : Int), l) = some (.out ((j : Int), l')) ∧ loop (Xbe (N : Int) c) ((k : Int), strOfNums L, (i : Int), false, l) = some (.out (strOfNums L, (j : Int), false, l')) ∧ l'.length = N ∧ (∀ q ∈ l', q.Levels.length ≤ 64) ∧ Ykr l' c = true) ∨
  (loop (Xcf (strOfNums L) (N : Int) c) ((i : Int), (k : Int), l) = some (.ret ([], false)) ∧ loop (Xbe (N : Int) c) ((k : Int), strOfNums L, (i : Int), false, l) = some (.ret ([], false)))
 | 0, k, hk, i, l, hi, hll, hq, hs => .inl ⟨l, i, Xcn (by unfold Xcf; simp only; rw [snA]), Xcn (by unfold Xbe; simp only; rw [snA]), by omega, hq, hs⟩
 | n + 1, k, hk, i, l, hi, hll, hq, hs => by
  have hm : maxLen = 9223372036854775807 := rfl
  rcases Yt7 hb hl i hi c with ⟨q, j, e1, e2, h1, h2, h3, h4⟩ | ⟨e1, q, a, e2⟩
  ·
   have gI : Xbe (N : Int) c ((k : Int), strOfNums L, (i : Int), false, l) = some (.go (((k + 1 : Nat) : Int), strOfNums L, (j : Int), false, l ++ [q])) := by
    unfold Xbe
    simp only
    rw [syA, e2, Xab]
    simp only
    rw [Xa6 (by simp only [List.length_singleton]; omega), Xam, wkA]
    rfl
   have gS : Xcf (strOfNums L) (N : Int) c ((i : Int), (k : Int), l) = some (.go ((j : Int), ((k + 1 : Nat) : Int), l ++ [q])) := by
    unfold Xcf
    simp only
    rw [syA, e1, Xab]
    simp only
    rw [Bool.not_true, Xam, Xa6 (by simp only [List.length_singleton]; omega), wkA]
    rfl
   have hq' : ∀ x ∈ l ++ [q], x.Levels.length ≤ 64 := fun x hx => by
    rcases List.mem_append.1 hx with h | h
    ·
     exact hq x h
    ·
     rw [List.mem_singleton.1 h]; exact h1
   have hs' : Ykr (l ++ [q]) c = true := by
    unfold Ykr at hs ⊢
    rw [List.all_append, hs, Bool.true_and, List.all_cons, h3, hc, h4]; rfl
   rcases Ysu hb hl N hN c hc n (k + 1) (by omega) j (l ++ [q]) h2 (by rw [List.length_append, hll]; rfl) hq' hs' with ⟨l', j', r1, r2, r3⟩ | ⟨r1, r2⟩
   ·
    exact .inl ⟨l', j', lgo gS r1, lgo gI r2, r3⟩
   ·
    exact .inr ⟨lgo gS r1, lgo gI r2⟩
  ·
   refine .inr ⟨Xcn ?_, Xcn ?_⟩
   ·
    unfold Xcf
    simp only
    rw [syA, e1, Xab]
    rfl
   ·
    unfold Xbe
    simp only
    rw [syA, e2, Xab]
    simp only
    rw [Xa6 (by simp only [List.length_singleton]; omega), Xav]
def Zcv (n : Int) (c : Xf0) (l : List Xar) : Prop := Xg3 c = true ∧ (1 ≤ n ∧ n ≤ 64) ∧ (l.length : Int) = n ∧ Ykr l c = true
theorem Xra (s : ByteArray) (a n : Int) (c : Xf0) : ∃ (l : List Xar) (b : Bool), Xfe s a n c = some (l, b) ∧ Xgz s a n c = some (l, b) ∧ l.length ≤ 64 ∧ (∀ q ∈ l, q.Levels.length ≤ 64) ∧ (b = true → Zcv n c l) := by
 have hm : maxLen = 9223372036854775807 := rfl
 have fin : ∀ {x y : Option (List Xar × Bool)}, x = some ([], false) → y = some ([], false) → ∃ (l : List Xar) (b : Bool), x = some (l, b) ∧ y = some (l, b) ∧ l.length ≤ 64 ∧ (∀ q ∈ l, q.Levels.length ≤ 64) ∧ (b = true → Zcv n c l) := fun h1 h2 => ⟨[], false, h1, h2, by simp, fun q hq => by simp at hq, fun h => by cases h⟩
 unfold Xfe Xgz Xfs
 by_cases hn : 1 ≤ n ∧ n ≤ 64
 ·
  by_cases hc : Xg3 c = true
  case neg =>
   have hc : Xg3 c = false := by simpa using hc
   refine fin ?_ ?_
   ·
    rcases Xqt s with ⟨L, _, _, _, r1, _⟩ | ⟨r1, _⟩
    ·
     rw [r1, Xab, Xav, Xaj, Xab, Xab, Xab, Xaj, Xab, decide_eq_true hn, Xav, Xdm, Xab, hc, Xab]; rfl
    ·
     rw [r1, Xab, Xam, Xab, Xab, Xaj, Xab, decide_eq_true hn, Xav, Xdm, Xab, hc, Xab]; rfl
   ·
    rcases Xqt s with ⟨L, _, _, _, _, r1⟩ | ⟨_, r1⟩
    ·
     rw [r1, Xab, Xav, Xai, Xab, Xft, Xab, hc, Xam]
     cases decide (0 ≤ a ∧ a ≤ (s.size : Int)) <;> rfl
    ·
     rw [r1, Xab, Xam, Xab, Xav]
  case pos =>
   rcases Xqt s with ⟨L, hL, hb, hl, r1, r2⟩ | ⟨r1, r2⟩
   ·
    rw [r1, r2, Xab, Xab, Xav, Xav, Xaj, Xab, Xai, Xab, Xab, Xab, Xaj, Xab, decide_eq_true hn, Xav, Xdm, Xab, hc, Xab, Xft, Xab, hc, Xav, Xai, Xab, decide_eq_true hn]
    by_cases ha : 0 ≤ a ∧ a ≤ (s.size : Int)
    ·
     rw [decide_eq_true ha]
     simp only [Bool.not_true, Xam, Xav, Xab]
     subst hL
     rw [strOfNums_size] at ha ⊢
     obtain ⟨i, rfl⟩ : ∃ i : Nat, a = i := ⟨a.toNat, by omega⟩
     obtain ⟨N, rfl⟩ : ∃ N : Nat, n = N := ⟨n.toNat, by omega⟩
     rcases Ysu hb hl N (by omega) c hc N 0 (by omega) i [] (by omega) rfl (fun q hq => by simp at hq) rfl with ⟨l', j, k1, k2, k3, k4, k5⟩ | ⟨k1, k2⟩
     ·
      have k1' : loop (Xcf (strOfNums L) (N : Int) c) ((i : Int), 0, []) = some (.out ((j : Int), l')) := k1
      have k2' : loop (Xbe (N : Int) c) (0, strOfNums L, (i : Int), false, []) = some (.out (strOfNums L, (j : Int), false, l')) := k2
      rw [k1', k2', Xab, Xab]
      simp only
      by_cases hj : (j : Int) = (L.length : Int)
      ·
       rw [Xbc (by rw [bne_eq_false_iff_eq]; exact hj)]
       exact ⟨l', true, rfl, rfl, by omega, k4, fun _ => ⟨hc, hn, by omega, k5⟩⟩
      ·
       rw [Xbl (by rw [bne_iff_ne]; exact hj)]
       exact fin rfl rfl
     ·
      have k1' : loop (Xcf (strOfNums L) (N : Int) c) ((i : Int), 0, []) = some (.ret ([], false)) := k1
      have k2' : loop (Xbe (N : Int) c) (0, strOfNums L, (i : Int), false, []) = some (.ret ([], false)) := k2
      rw [k1', k2', Xab, Xab]
      exact fin rfl rfl
    ·
     rw [decide_eq_false ha]
     simp only [Bool.not_true, Bool.not_false, Xam, Xav, Xab]
     obtain ⟨q, a', eq⟩ := Yn3 s a c
     have hd : Xbe n c (0, s, a, true, []) = some (.done (.ret ([], false))) := by
      unfold Xbe
      simp only
      rw [syA, eq, Xab]
      simp only
      rw [Xa6 (by simp only [List.length_singleton, List.length_nil]; omega), Xav]
     rw [Xco hd, Xab]
     exact fin rfl rfl
   ·
    refine fin ?_ ?_
    ·
     rw [r1, Xab, Xam, Xab, Xab, Xaj, Xab, decide_eq_true hn, Xav, Xdm, Xab, hc, Xab, Bool.not_true, Xam]
     simp only
     obtain ⟨q, a', eq⟩ := Yn3 s a c
     have hd : Xbe n c (0, s, a, true, []) = some (.done (.ret ([], false))) := by
      unfold Xbe
      simp only
      rw [syA, eq, Xab]
      simp only
      rw [Xa6 (by simp only [List.length_singleton, List.length_nil]; omega), Xav]
     rw [Xco hd, Xab]
    ·
     rw [r2, Xab, Xam, Xab, Xav]
 ·
  refine fin ?_ ?_
  ·
   rcases Xqt s with ⟨L, _, _, _, r1, _⟩ | ⟨r1, _⟩
   ·
    rw [r1, Xab, Xav, Xaj, Xab, Xab, Xab, Xaj, Xab, decide_eq_false hn, Xam, Xab, Xav]
   ·
    rw [r1, Xab, Xam, Xab, Xab, Xaj, Xab, decide_eq_false hn, Xam, Xab, Xav]
  ·
   rcases Xqt s with ⟨L, _, _, _, _, r1⟩ | ⟨_, r1⟩
   ·
    rw [r1, Xab, Xav, Xai, Xab, Xft, Xab, Xai, Xab, decide_eq_false hn]
    cases decide (0 ≤ a ∧ a ≤ (s.size : Int)) <;> cases Xg3 c <;> rfl
   ·
    rw [r1, Xab, Xam, Xab, Xav]
def Yzv (w h : Int) : Pic := ⟨w, h, strOfNums (List.replicate (w * h).toNat 128)⟩
def Xz9 (s : ByteArray) (i : Nat) : Int := 48 + (Xl2 s ((i / 8 : Nat) : Int) / 2 ^ (7 - i % 8)) % 2
def Xjl (s : ByteArray) : List Int := (List.range (8 * s.size)).map (Xz9 s)
theorem Yzp : ∀ b : Fin 256, Xz5 8 (b.val : Int) = (List.range 8).map fun k => 48 + ((b.val : Int) / 2 ^ (7 - k)) % 2 := by decide +kernel
theorem Zef (b : Int) (h : 0 ≤ b ∧ b ≤ 255) : Xz5 8 b = (List.range 8).map fun k => 48 + (b / 2 ^ (7 - k)) % 2 := by
 have := Yzp ⟨b.toNat, by omega⟩
 simp only at this
 rwa [show ((b.toNat : Nat) : Int) = b by omega] at this
theorem Yw5 (s : ByteArray) (i : Nat) : Xz9 s i = 48 ∨ Xz9 s i = 49 := by unfold Xz9; omega
theorem Yvs (s : ByteArray) : Xe1 (Xjl s) := fun x hx => by
 obtain ⟨i, _, rfl⟩ := List.mem_map.1 hx
 exact Yw5 s i
theorem Xqb (s : ByteArray) : (Xjl s).length = 8 * s.size := by simp [Xjl]
theorem Xxq (s : ByteArray) {i : Nat} (h : i < 8 * s.size) : (Xjl s).getD i 0 = Xz9 s i := Xj8 _ h
theorem Ytw (f : Nat → Int) (n : Nat) : (List.range (8 * n)).map f ++ (List.range 8).map (fun k => f (8 * n + k)) = (List.range (8 * (n + 1))).map f := by
 rw [show 8 * (n + 1) = 8 * n + 8 by omega, List.range_add, List.map_append, List.map_map]
 rfl
theorem Xxs (s : ByteArray) (hs : s.size ≤ 50001) : loop (Xe5 s) (0, []) = some (Xjl s) := by
 have hm : maxLen = 9223372036854775807 := rfl
 obtain ⟨o, e, ho⟩ := Xfz (f := Xe5 s) s.size (fun i l => l = (List.range (8 * i)).map (Xz9 s)) (by
  intro i l hi g
  subst g
  have hb := Xpm s i
  unfold Xe5
  simp only
  rw [syA, rqA, wkA (e := Xl2 s i), show (8 : Int) = ((8 : Nat) : Int) from rfl, Xm3 _ 8 hb.1 (by omega) (by omega), Xab, Ypm _ (Xk8 (Xxv _ _)), Xa6 (by simp only [Xc4, List.length_map, List.length_range]; omega), wkA (e := (i : Int) + 1)]
  refine ⟨_, rfl, ?_⟩
  rw [← Ytw, Zef _ hb]
  congr 1
  refine List.map_congr_left fun k hk => ?_
  have hk8 := List.mem_range.1 hk
  unfold Xz9
  rw [show (8 * i + k) / 8 = i by omega, show (8 * i + k) % 8 = k by omega]) (by intro l; unfold Xe5; rw [Xax (by simp)]) [] rfl
 rw [e, ho]; rfl
theorem Yvr : ∀ b : Fin 256, ∀ k : Fin 8, Xaa .u8 (48 + (IntKind.wrap .u8 (BitVec.ofInt (IntKind.bits .u8) ((b.val : Int) / 2 ^ min (k.val) (IntKind.bits .u8)) &&& BitVec.ofInt (IntKind.bits .u8) 1).toNat)) = 48 + ((b.val : Int) / 2 ^ k.val) % 2 := by decide +kernel
theorem Zc0 (b : Int) (h : 0 ≤ b ∧ b ≤ 255) (k : Nat) (hk : k < 8) : Xaa .u8 (48 + (IntKind.wrap .u8 (BitVec.ofInt (IntKind.bits .u8) (b / 2 ^ min k (IntKind.bits .u8)) &&& BitVec.ofInt (IntKind.bits .u8) 1).toNat)) = 48 + (b / 2 ^ k) % 2 := by
 have := Yvr ⟨b.toNat, by omega⟩ ⟨k, hk⟩
 simp only at this
 rwa [show ((b.toNat : Nat) : Int) = b by omega] at this
theorem Xpn (s : ByteArray) (hs : s.size ≤ 50001) : loop (Xe2 s) (0, []) = some (Xjl s) := by
 have hm : maxLen = 9223372036854775807 := rfl
 have := Yzg (f := Xe2 s) (8 * s.size) (Xz9 s) [] (by
  intro i hi
  have hb := Xpm s ((i / 8 : Nat) : Int)
  unfold Xe2
  simp only
  rw [wkA (e := 8 * (s.size : Int)), syA, rqA, Xbr (by omega), wkA (e := (i : Int) / 8), rqA, rqA, Xbs (by omega), wkA (e := 7 - (i : Int) % 8), rqA, show (7 - (i : Int) % 8).toNat = 7 - i % 8 by omega, show (i : Int) / 8 = ((i / 8 : Nat) : Int) by omega, Zc0 _ hb (7 - i % 8) (by omega), Xa6 (by simp only [List.length_append, List.length_nil, List.length_map, List.length_range, List.length_singleton]; omega), wkA (e := (i : Int) + 1)]
  rfl) (by unfold Xe2; rw [wkA (e := 8 * (s.size : Int)), Xax (by simp)])
 rw [List.nil_append] at this
 exact this
theorem Yuo {V : List Int} (hV : Xe1 V) : ∀ n : Nat, n ≤ V.length → (∃ j, j < n ∧ V.getD j 0 = 49) → ∃ k, k + 1 ≤ n ∧ V.getD k 0 = 49 ∧ ∀ j, k + 1 ≤ j → j < n → V.getD j 0 = 48
 | 0, _, ⟨j, h, _⟩ => by omega
 | n + 1, hn, ⟨j, hj, h⟩ => by
  rcases hV (V.getD n 0) (by rw [Xb4 V n (by omega)]; exact List.getElem_mem _) with e | e
  ·
   have hjn : j ≠ n := fun h2 => by rw [h2, e] at h; omega
   obtain ⟨k, h1, h2, h3⟩ := Yuo hV n (by omega) ⟨j, by omega, h⟩
   refine ⟨k, by omega, h2, fun i h4 h5 => ?_⟩
   by_cases hi : i = n
   ·
    rw [hi]; exact e
   ·
    exact h3 i h4 (by omega)
  ·
   exact ⟨n, by omega, e, fun i h1 h2 => by omega⟩
theorem Yzk : ∀ b : Fin 256, b.val ≠ 0 → ∃ k : Fin 8, 48 + ((b.val : Int) / 2 ^ (7 - k.val)) % 2 = 49 := by decide +kernel
theorem Yn7 (s : ByteArray) (hs : s.size ≤ 1048576) : (∃ L : List Int, Xe1 L ∧ L.length ≤ 400000 ∧ Xe8 s = some (strOfNums L, true) ∧ Xjb s = some (strOfNums L, true)) ∨ (Xe8 s = some (⟨#[]⟩, false) ∧ Xjb s = some (⟨#[]⟩, false)) := by
 unfold Xe8 Xjb
 rw [wkA (e := 8 * (s.size : Int))]
 by_cases h0 : s.size = 0
 ·
  rw [h0]
  exact .inr ⟨rfl, rfl⟩
 rw [Xbc (b := (8 * (s.size : Int)) == 0) (by rw [beq_eq_false_iff_ne]; omega), Xbc (b := (s.size : Int) == 0) (by rw [beq_eq_false_iff_ne]; omega), wkA (e := (s.size : Int) - 1), Xa6 (show 0 ≤ (s.size : Int) - 1 ∧ (s.size : Int) - 1 < s.size by omega)]
 by_cases hbig : s.size > 50001
 ·
  rw [syA, decide_eq_true (by omega), Xab, Xav]
  refine .inr ⟨?_, rfl⟩
  cases (Xl2 s ((s.size : Int) - 1) == 0) <;> rfl
 rw [snA, Xa6 (show 0 ≤ (s.size : Int) - 1 ∧ (s.size : Int) - 1 < s.size by omega), decide_eq_false (by omega)]
 cases hz : (Xl2 s ((s.size : Int) - 1) == 0) with
 | true => exact .inr ⟨rfl, rfl⟩
 | false =>
  rw [Xam, Xab, Xab, Xam, Xam, Xa6 (show 0 ≤ (0 : Int) ∧ (0 : Int) ≤ 8 * (s.size : Int) ∧ 8 * (s.size : Int) * 1 ≤ 281474976710656 by omega), show (List.replicate (0 : Int).toNat (0 : Int)) = [] from rfl, Xpn s (by omega), Xxs s (by omega), Xab, Xab]
  have hl := Xqb s
  have hV := Yvs s
  obtain ⟨k, k1, k2, k3⟩ := Yuo hV (8 * s.size) (by omega) (by
   have hb := Xpm s ((s.size : Int) - 1)
   rw [beq_eq_false_iff_ne] at hz
   obtain ⟨k, hk⟩ := Yzk ⟨(Xl2 s ((s.size : Int) - 1)).toNat, by omega⟩ (by simp only; omega)
   have hk8 := k.isLt
   simp only at hk
   rw [show (((Xl2 s ((s.size : Int) - 1)).toNat : Nat) : Int) = Xl2 s ((s.size : Int) - 1) by omega] at hk
   refine ⟨8 * (s.size - 1) + k.val, by omega, ?_⟩
   rw [Xxq s (by omega)]
   unfold Xz9
   rw [show (8 * (s.size - 1) + k.val) / 8 = s.size - 1 by omega, show (8 * (s.size - 1) + k.val) % 8 = k.val by omega, show (((s.size - 1 : Nat)) : Int) = (s.size : Int) - 1 by omega]
   exact hk)
  have lI : loop (Xcd (Xjl s)) (8 * (s.size : Int)) = some ((k + 1 : Nat) : Int) := by
   have key : ∀ m : Nat, k + 1 + m ≤ 8 * s.size → loop (Xcd (Xjl s)) ((k + 1 + m : Nat) : Int) = some ((k + 1 : Nat) : Int) := by
    intro m
    induction m with
    | zero =>
     intro _
     refine Xcn ?_
     unfold Xcd
     rw [wkA, rqA, rqA, show (((k + 1 + 0 : Nat) : Int) - 1).toNat = k by omega, k2]
     rfl
    | succ m ih =>
     intro hm
     refine lgo ?_ (ih (by omega))
     unfold Xcd
     rw [wkA, rqA, rqA, show (((k + 1 + (m + 1) : Nat) : Int) - 1).toNat = k + 1 + m by omega, k3 _ (by omega) (by omega), show ((k + 1 + (m + 1) : Nat) : Int) - 1 = ((k + 1 + m : Nat) : Int) by omega]
     rfl
   have := key (8 * s.size - (k + 1)) (by omega)
   rwa [show ((k + 1 + (8 * s.size - (k + 1)) : Nat) : Int) = 8 * (s.size : Int) by omega] at this
  have lS : loop (Xe6 (Xjl s)) ((Xjl s).length : Int) = some ((k + 1 : Nat) : Int) := by
   have key : ∀ m : Nat, k + 1 + m ≤ 8 * s.size → loop (Xe6 (Xjl s)) ((k + 1 + m : Nat) : Int) = some ((k + 1 : Nat) : Int) := by
    intro m
    induction m with
    | zero =>
     intro _
     refine Xcn ?_
     unfold Xe6
     rw [syA, wkA, rqA, rqA, show (((k + 1 + 0 : Nat) : Int) - 1).toNat = k by omega, k2]
     rfl
    | succ m ih =>
     intro hm
     refine lgo ?_ (ih (by omega))
     unfold Xe6
     rw [syA, wkA, rqA, rqA, show (((k + 1 + (m + 1) : Nat) : Int) - 1).toNat = k + 1 + m by omega, k3 _ (by omega) (by omega), show ((k + 1 + (m + 1) : Nat) : Int) - 1 = ((k + 1 + m : Nat) : Int) by omega]
     rfl
   have := key (8 * s.size - (k + 1)) (by omega)
   rwa [show ((k + 1 + (8 * s.size - (k + 1)) : Nat) : Int) = ((Xjl s).length : Int) by omega] at this
  rw [lI, lS, Xab, wkA (e := ((k + 1 : Nat) : Int) - 1), show ((k + 1 : Nat) : Int) - 1 = (k : Int) by omega]
  by_cases hk : (k : Int) > 400000
  ·
   rw [Xbm hk]
   exact .inr ⟨rfl, rfl⟩
  ·
   rw [Xax hk, rqA, rqA]
   exact .inl ⟨(Xjl s).take k, fun x hx => hV x (List.mem_of_mem_take hx), by rw [List.length_take]; omega, rfl, rfl⟩
theorem Xwb (s : ByteArray) (hs : s.size ≤ 1048576) : (∃ (kd : Int) (L : List Int), Xng kd = true ∧ Xe1 L ∧ L.length ≤ 400000 ∧ Xgw s = some (kd, strOfNums L, true) ∧ Xkj s = some (kd, strOfNums L, true)) ∨ (Xgw s = some (0, ⟨#[]⟩, false) ∧ Xkj s = some (0, ⟨#[]⟩, false)) := by
 unfold Xgw Xkj
 by_cases h0 : s.size = 0
 ·
  have hd : s = ⟨#[]⟩ := by
   have := Xum s
   have hn : Xa0 s = [] := List.length_eq_zero_iff.1 (by rw [Xbv]; exact h0)
   rw [hn] at this
   exact this.symm
  subst hd
  have e0 : ((⟨#[]⟩ : ByteArray).toList == (⟨#[]⟩ : ByteArray).toList) = true := beq_self_eq_true _
  have e1 : ((⟨#[]⟩ : ByteArray).size : Int) < 1 := by decide
  rw [e0, Xav, Xbm e1]
  exact .inr ⟨rfl, rfl⟩
 have hne : (s.toList == (⟨#[]⟩ : ByteArray).toList) = false := by
  rw [beq_eq_false_iff_ne]
  intro h
  exact h0 (by rw [Ycb.1 h]; rfl)
 have hb := Xpm s 0
 have r0 : ∀ {β : Type} (k : Option β), req (0 ≤ (0 : Int) ∧ (0 : Int) < (s.size : Int)) k = k := fun k => rqA
 have r1 : ∀ {β : Type} (k : Option β), req (0 ≤ (1 : Int) ∧ (1 : Int) ≤ (s.size : Int) ∧ (s.size : Int) ≤ (s.size : Int)) k = k := fun k => rqA
 rw [hne, Xam, snA]
 simp only [r0, r1, wkA (e := Xl2 s 0), Xvi, Xtq, Xab]
 cases hk : Xng (Xl2 s 0) with
 | false => exact .inr ⟨rfl, rfl⟩
 | true =>
  rw [Bool.not_true, Xam, Xam]
  rcases Yn7 (s.extract (1 : Int).toNat (s.size : Int).toNat) (by rw [ByteArray.size_extract]; omega) with ⟨L, l1, l2, e1, e2⟩ | ⟨e1, e2⟩
  ·
   rw [e1, e2, Xab]
   exact .inl ⟨_, L, hk, l1, l2, rfl, rfl⟩
  ·
   rw [e1, e2, Xab]
   exact .inr ⟨rfl, rfl⟩
theorem Xre {L : List Int} (hb : Xe1 L) (hl : L.length ≤ 400000) (i : Nat) (hi : i ≤ L.length) (w : Nat) (hw : w ≤ 41) :
  (∃ v : Int, i + w ≤ L.length ∧ v = Xhs ((L.drop i).take w) ∧ (0 ≤ v ∧ v < 2 ^ w) ∧ Xci (strOfNums L) (i : Int) (w : Int) = some (v, ((i + w : Nat) : Int), true) ∧ Xa5 ⟨strOfNums L, (i : Int), false⟩ (w : Int) = some (v, ⟨strOfNums L, ((i + w : Nat) : Int), false⟩)) ∨
  (L.length < i + w ∧ Xci (strOfNums L) (i : Int) (w : Int) = some (0, 0, false) ∧ Xa5 ⟨strOfNums L, (i : Int), false⟩ (w : Int) = some (0, ⟨strOfNums L, (i : Int), true⟩)) := by
 have es := Xw7 hb hl hi hw
 by_cases h : i + w ≤ L.length
 ·
  rw [if_pos h] at es
  have hr := Xj5 (l := (L.drop i).take w) (fun x hx => hb x (List.mem_of_mem_drop (List.mem_of_mem_take hx)))
  have hlen : ((L.drop i).take w).length = w := by rw [List.length_take, List.length_drop]; omega
  rw [hlen] at hr
  exact .inl ⟨_, h, rfl, hr, es, Yhv hb hl h hw⟩
 ·
  rw [if_neg h] at es
  refine .inr ⟨by omega, es, ?_⟩
  unfold Xa5
  simp only
  rw [Xam, strOfNums_size, wkA, Xab, syA]
theorem Ygu (s : ByteArray) (a w : Int) : Xa5 ⟨s, a, true⟩ w = some (0, ⟨s, a, true⟩) := rfl
theorem Xyw (s : ByteArray) (a : Int) : Xck ⟨s, a, true⟩ = some ([], ⟨s, a, true⟩) := by
 unfold Xck
 rw [Yvk, Xab]
 have h : Xa4 (0, ⟨s, a, true⟩) (0, s, a, true, []) = some (.done ([], s, a, true)) := rfl
 simp only
 rw [snA, Xab, Xco h, Xab]
theorem Yrz {L : List Int} (hb : Xe1 L) (hl : L.length ≤ 400000) (q1 : Int × Int × Bool) (q2 : Int × Xk7) (N : Nat) (hN : N ≤ 4) (h1 : q1.1 = (N : Int)) (h2 : q2.1 = (N : Int)) : ∀ n k : Nat, k + n = N → ∀ (i : Nat) (l : List Int), i ≤ L.length → l.length = k →
  (∃ (l' : List Int) (j : Nat), loop (Xb0 (strOfNums L) q1) ((i : Int), (k : Int), l) = some (.out ((j : Int), l')) ∧ loop (Xa4 q2) ((k : Int), strOfNums L, (i : Int), false, l) = some (l', strOfNums L, (j : Int), false) ∧ l'.length ≤ 4 ∧ j ≤ L.length) ∨
  (loop (Xb0 (strOfNums L) q1) ((i : Int), (k : Int), l) = some (.ret ([], 0, false)) ∧ ∃ (l' : List Int) (a : Int), loop (Xa4 q2) ((k : Int), strOfNums L, (i : Int), false, l) = some (l', strOfNums L, a, true) ∧ l'.length ≤ 4)
 | 0, k, hk, i, l, hi, hll => .inl ⟨l, i, Xcn (by unfold Xb0; simp only; rw [snA]), Xcn (by unfold Xa4; simp only; rw [snA, Xab, Xam]), by omega, hi⟩
 | n + 1, k, hk, i, l, hi, hll => by
  have hm : maxLen = 9223372036854775807 := rfl
  rcases Xr2 hb hl i hi with ⟨v, j, e1, e2, v1, v2, v3⟩ | ⟨e1, a, e2⟩
  ·
   have gI : Xa4 q2 ((k : Int), strOfNums L, (i : Int), false, l) = some (.go (((k + 1 : Nat) : Int), strOfNums L, (j : Int), false, l ++ [(v : Int)])) := by
    unfold Xa4
    simp only
    rw [syA, Bool.not_false, Xab, Xav, e2, Xab]
    simp only
    rw [Xa6 (by simp only [List.length_singleton]; omega), wkA]
    rfl
   have gS : Xb0 (strOfNums L) q1 ((i : Int), (k : Int), l) = some (.go ((j : Int), ((k + 1 : Nat) : Int), l ++ [(v : Int)])) := by
    unfold Xb0
    simp only
    rw [syA, e1, Xab]
    simp only
    rw [Bool.not_true, Xam, Xa6 (by simp only [List.length_singleton]; omega), wkA]
    rfl
   rcases Yrz hb hl q1 q2 N hN h1 h2 n (k + 1) (by omega) j (l ++ [(v : Int)]) v3 (by rw [List.length_append, List.length_singleton]; omega) with ⟨l', j', r1, r2, r3, r4⟩ | ⟨r1, l', a, r2, r3⟩
   ·
    exact .inl ⟨l', j', lgo gS r1, lgo gI r2, r3, r4⟩
   ·
    exact .inr ⟨lgo gS r1, l', a, lgo gI r2, r3⟩
  ·
   have gI : Xa4 q2 ((k : Int), strOfNums L, (i : Int), false, l) = some (.go (((k + 1 : Nat) : Int), strOfNums L, a, true, l ++ [0])) := by
    unfold Xa4
    simp only
    rw [syA, Bool.not_false, Xab, Xav, e2, Xab]
    simp only
    rw [Xa6 (by simp only [List.length_singleton]; omega), wkA]
    rfl
   have dI : Xa4 q2 (((k + 1 : Nat) : Int), strOfNums L, a, true, l ++ [0]) = some (.done (l ++ [0], strOfNums L, a, true)) := by
    unfold Xa4
    simp only
    cases decide (((k + 1 : Nat) : Int) < q2.1) <;> rfl
   refine .inr ⟨Xcn ?_, l ++ [0], a, lgo gI (Xcn dI), by rw [List.length_append, List.length_singleton]; omega⟩
   unfold Xb0
   simp only
   rw [syA, e1, Xab]
   rfl
theorem Yry {L : List Int} (hb : Xe1 L) (hl : L.length ≤ 400000) (i : Nat) (hi : i ≤ L.length) :
  (∃ (l : List Int) (j : Nat), Xea (strOfNums L) (i : Int) = some (l, (j : Int), true) ∧ Xck ⟨strOfNums L, (i : Int), false⟩ = some (l, ⟨strOfNums L, (j : Int), false⟩) ∧ l.length ≤ 4 ∧ j ≤ L.length) ∨
  (Xea (strOfNums L) (i : Int) = some ([], 0, false) ∧ ∃ (l : List Int) (a : Int), Xck ⟨strOfNums L, (i : Int), false⟩ = some (l, ⟨strOfNums L, a, true⟩) ∧ l.length ≤ 4) := by
 unfold Xea Xck
 rcases Xr2 hb hl i hi with ⟨v, j, e1, e2, v1, v2, v3⟩ | ⟨e1, a, e2⟩
 ·
  rw [e1, Xab, e2, Xab]
  simp only
  rw [Xav, Xab]
  by_cases hv : (v : Int) > 4
  ·
   rw [Xbm hv, Xbm hv, Xab]
   have h : Xa4 ((v : Int), ⟨strOfNums L, (j : Int), false⟩) (0, strOfNums L, (j : Int), true, []) = some (.done ([], strOfNums L, (j : Int), true)) := by
    unfold Xa4
    simp only
    rw [syA]
    rfl
   rw [Xco h, Xab]
   exact .inr ⟨rfl, [], j, rfl, by simp⟩
  ·
   rw [Xax hv, Xax hv, Xab]
   rcases Yrz hb hl ((v : Int), (j : Int), true) ((v : Int), ⟨strOfNums L, (j : Int), false⟩) v (by omega) rfl rfl v 0 (by omega) j [] v3 rfl with ⟨l', j', r1, r2, r3, r4⟩ | ⟨r1, l', a, r2, r3⟩
   ·
    have r1' : loop (Xb0 (strOfNums L) ((v : Int), (j : Int), true)) ((j : Int), 0, []) = _ := r1
    have r2' : loop (Xa4 ((v : Int), ⟨strOfNums L, (j : Int), false⟩)) (0, strOfNums L, (j : Int), false, []) = _ := r2
    rw [r1', r2', Xab, Xab]
    exact .inl ⟨l', j', rfl, rfl, r3, r4⟩
   ·
    have r1' : loop (Xb0 (strOfNums L) ((v : Int), (j : Int), true)) ((j : Int), 0, []) = _ := r1
    have r2' : loop (Xa4 ((v : Int), ⟨strOfNums L, (j : Int), false⟩)) (0, strOfNums L, (j : Int), false, []) = _ := r2
    rw [r1', r2', Xab, Xab]
    exact .inr ⟨rfl, l', a, rfl, r3⟩
 ·
  rw [e1, Xab, e2, Xab]
  simp only
  rw [Xam, Xab, Xav, snA, Xab]
  have h : Xa4 (0, ⟨strOfNums L, a, true⟩) (0, strOfNums L, a, true, []) = some (.done ([], strOfNums L, a, true)) := rfl
  rw [Xco h, Xab]
  exact .inr ⟨rfl, [], a, rfl, by simp⟩
theorem Xo0 {L : List Int} (hb : Xe1 L) (hl : L.length ≤ 400000) (i : Nat) (hi : i ≤ L.length) : Xfs (strOfNums L) (i : Int) = some ⟨strOfNums L, (i : Int), false⟩ := by
 unfold Xfs
 rw [Yo2 L hb hl, Xab, Xav, Xaj, Xab, strOfNums_size, decide_eq_true (by omega), Xab]
 rfl
theorem Xst {L : List Int} (hb : Xe1 L) (hl : L.length ≤ 400000) (i : Nat) (hi : i ≤ L.length) :
  (∃ (q : Seq) (j : Nat), Xd1 (strOfNums L) (i : Int) = some (q, (j : Int), true) ∧ Xdv (strOfNums L) (i : Int) = some (q, (j : Int), true) ∧ Xf7 q = true ∧ q.Cols.length ≤ 4 ∧ q.Rows.length ≤ 4 ∧ j ≤ L.length) ∨
  (Xd1 (strOfNums L) (i : Int) = some (⟨0, 0, [], []⟩, 0, false) ∧ Xdv (strOfNums L) (i : Int) = some (⟨0, 0, [], []⟩, 0, false)) := by
 have hm : maxLen = 9223372036854775807 := rfl
 unfold Xd1 Xdv
 rw [Xo0 hb hl i hi, Xab]
 rcases Xr2 hb hl i hi with ⟨v, j, e1, e2, v1, v2, v3⟩ | ⟨e1, a, e2⟩
 ·
  rw [e1, Xab, e2, Xab]
  simp only
  rw [Bool.not_true, Xam]
  rcases Xre hb hl j v3 4 (by omega) with ⟨w, w1, _, w2, f1, f2⟩ | ⟨_, f1, f2⟩
  ·
   have f1' : Xci (strOfNums L) (j : Int) 4 = some (w, ((j + 4 : Nat) : Int), true) := f1
   have f2' : Xa5 ⟨strOfNums L, (j : Int), false⟩ 4 = some (w, ⟨strOfNums L, ((j + 4 : Nat) : Int), false⟩) := f2
   rw [f1', Xab, f2', Xab]
   simp only
   rw [Bool.not_true, Xam]
   rcases Yry hb hl (j + 4) w1 with ⟨l, j2, g1, g2, g3, g4⟩ | ⟨g1, l, a, g2, g3⟩
   ·
    rw [g1, Xab, g2, Xab]
    simp only
    rw [Bool.not_true, Xam]
    rcases Yry hb hl j2 g4 with ⟨m, j3, k1, k2, k3, k4⟩ | ⟨k1, m, a, k2, k3⟩
    ·
     rw [k1, Xab, k2, Xab]
     simp only
     rw [Xav, Xam, Xlv, Xab, Xff _ (by simp only; omega) (by simp only; omega), Xab, Xab, Xab]
     cases hq : Xf7 ⟨(v : Int), w, l, m⟩ with
     | true => exact .inl ⟨_, j3, rfl, rfl, hq, g3, k3, k4⟩
     | false => exact .inr ⟨rfl, rfl⟩
    ·
     rw [k1, Xab, k2, Xab]
     exact .inr ⟨rfl, rfl⟩
   ·
    rw [g1, Xab, g2, Xab]
    simp only
    rw [Xyw, Xab]
    exact .inr ⟨rfl, rfl⟩
  ·
   have f1' : Xci (strOfNums L) (j : Int) 4 = some (0, 0, false) := f1
   have f2' : Xa5 ⟨strOfNums L, (j : Int), false⟩ 4 = some (0, ⟨strOfNums L, (j : Int), true⟩) := f2
   rw [f1', Xab, f2', Xab]
   simp only
   rw [Xyw, Xab]
   simp only
   rw [Xyw, Xab]
   exact .inr ⟨rfl, rfl⟩
 ·
  rw [e1, Xab, e2, Xab]
  simp only
  rw [Ygu, Xab]
  simp only
  rw [Xyw, Xab]
  simp only
  rw [Xyw, Xab]
  exact .inr ⟨rfl, rfl⟩
theorem Zb4 {L : List Int} (hb : Xe1 L) {j : Nat} (h : j + 1 ≤ L.length) : Xhs ((L.drop j).take 1) = L.getD j 0 - 48 := by
 have : Xhs ((L.drop j).take 1) = 2 * Xhs ((L.drop j).take 0) + L.getD j 0 - 48 := Xr4 (L := L) (i := j) (k := 0) (by omega)
 rw [this, show Xhs ((L.drop j).take 0) = 0 from rfl]; omega
theorem Xss {L : List Int} (hb : Xe1 L) (hl : L.length ≤ 400000) (i : Nat) (hi : i ≤ L.length) :
  (∃ (p : Par) (j : Nat), Xd0 (strOfNums L) (i : Int) = some (p, (j : Int), true) ∧ Xdu (strOfNums L) (i : Int) = some (p, (j : Int), true) ∧ Xlo p = true ∧ j ≤ L.length) ∨
  (Xd0 (strOfNums L) (i : Int) = some (⟨0, false, false, false⟩, 0, false) ∧ Xdu (strOfNums L) (i : Int) = some (⟨0, false, false, false⟩, 0, false)) := by
 unfold Xd0 Xdu
 rw [Xo0 hb hl i hi, Xab]
 rcases Xre hb hl i hi 6 (by omega) with ⟨w, w1, _, w2, f1, f2⟩ | ⟨_, f1, f2⟩
 ·
  have f1' : Xci (strOfNums L) (i : Int) 6 = some (w, ((i + 6 : Nat) : Int), true) := f1
  have f2' : Xa5 ⟨strOfNums L, (i : Int), false⟩ 6 = some (w, ⟨strOfNums L, ((i + 6 : Nat) : Int), false⟩) := f2
  rw [f1', Xab, f2', Xab]
  simp only
  rw [Xav, strOfNums_size, wkA (e := (L.length : Int) - ((i + 6 : Nat) : Int))]
  by_cases h3 : i + 9 ≤ L.length
  ·
   have bit : ∀ j : Nat, j + 1 ≤ L.length → Xa5 ⟨strOfNums L, (j : Int), false⟩ 1 = some (L.getD j 0 - 48, ⟨strOfNums L, ((j + 1 : Nat) : Int), false⟩) ∧ ((L.getD j 0 - 48 == 1) = (Xl2 (strOfNums L) (j : Int) == 49)) := fun j hj => by
    rcases Xre hb hl j (by omega) 1 (by omega) with ⟨u, _, u1, _, _, g2⟩ | ⟨u1, _⟩
    ·
     rw [Zb4 hb hj] at u1
     rw [u1] at g2
     refine ⟨g2, ?_⟩
     obtain ⟨b1, b2⟩ := Yci hb (i := j) (by omega)
     rw [b1]
     rcases b2 with b2 | b2 <;> rw [b2] <;> rfl
    ·
     omega
   obtain ⟨a1, a2⟩ := bit (i + 6) (by omega)
   obtain ⟨b1, b2⟩ := bit (i + 6 + 1) (by omega)
   obtain ⟨c1, c2⟩ := bit (i + 6 + 1 + 1) (by omega)
   rw [decide_eq_false (by omega), Xab, Xam, rqA, wkA (e := ((i + 6 : Nat) : Int) + 1), rqA, wkA (e := ((i + 6 : Nat) : Int) + 2), rqA, wkA (e := ((i + 6 : Nat) : Int) + 3), a1, Xab]
   simp only
   rw [b1, Xab]
   simp only
   rw [c1, Xab]
   simp only
   rw [Xam, a2, b2, c2, show ((i + 6 : Nat) : Int) + 1 = ((i + 6 + 1 : Nat) : Int) by omega, show ((i + 6 : Nat) : Int) + 2 = ((i + 6 + 1 + 1 : Nat) : Int) by omega, Xog, Xi2, Xab, Xab, Xab]
   cases hp : Xlo ⟨w, Xl2 (strOfNums L) ((i + 6 : Nat) : Int) == 49, Xl2 (strOfNums L) ((i + 6 + 1 : Nat) : Int) == 49, Xl2 (strOfNums L) ((i + 6 + 1 + 1 : Nat) : Int) == 49⟩ with
   | true => exact .inl ⟨_, i + 9, (by rw [Bool.not_true, Xam]; try rfl), (by rw [Bool.not_true, Xam]; try rfl), hp, h3⟩
   | false => exact .inr ⟨rfl, rfl⟩
  ·
   rw [decide_eq_true (by omega), Xab, Xav]
   refine .inr ⟨rfl, ?_⟩
   have three : ∀ j : Nat, j ≤ L.length → L.length < j + 3 → ∃ (a b c : Int) (e f g : Xk7), Xa5 ⟨strOfNums L, (j : Int), false⟩ 1 = some (a, e) ∧ Xa5 e 1 = some (b, f) ∧ Xa5 f 1 = some (c, g) ∧ g.bad_ = true := fun j h1 h2 => by
    rcases Xre hb hl j h1 1 (by omega) with ⟨u, k1, _, _, _, g2⟩ | ⟨_, _, g2⟩
    ·
     rcases Xre hb hl (j + 1) k1 1 (by omega) with ⟨u', k2, _, _, _, g3⟩ | ⟨_, _, g3⟩
     ·
      rcases Xre hb hl (j + 1 + 1) k2 1 (by omega) with ⟨u'', k3, _, _, _, g4⟩ | ⟨_, _, g4⟩
      ·
       omega
      ·
       exact ⟨_, _, _, _, _, _, g2, g3, g4, rfl⟩
     ·
      exact ⟨_, _, _, _, _, _, g2, g3, Ygu _ _ _, rfl⟩
    ·
     exact ⟨_, _, _, _, _, _, g2, Ygu _ _ _, Ygu _ _ _, rfl⟩
   obtain ⟨a, b, c, e, f, g, r1, r2, r3, r4⟩ := three (i + 6) w1 (by omega)
   rw [r1, Xab]
   simp only
   rw [r2, Xab]
   simp only
   rw [r3, Xab]
   simp only
   rw [r4, Xav, Xab, Xav]
 ·
  have f1' : Xci (strOfNums L) (i : Int) 6 = some (0, 0, false) := f1
  have f2' : Xa5 ⟨strOfNums L, (i : Int), false⟩ 6 = some (0, ⟨strOfNums L, (i : Int), true⟩) := f2
  rw [f1', Xab, f2', Xab]
  exact .inr ⟨rfl, rfl⟩
theorem Xhc (b : Int) (h : 3 ≤ b ∧ b ≤ 8) : 0 ≤ Xaa .u64 b ∧ Xaa .i64 (1 * 2 ^ min (Xaa .u64 b).toNat (IntKind.bits .i64)) = 2 ^ b.toNat ∧ Xaa .i64 (1 * 2 ^ min b.toNat (IntKind.bits .i64)) = 2 ^ b.toNat ∧ (2 : Int) ^ b.toNat ≤ 256 ∧ 8 ≤ (2 : Int) ^ b.toNat := by
 obtain h | h | h | h | h | h : b = 3 ∨ b = 4 ∨ b = 5 ∨ b = 6 ∨ b = 7 ∨ b = 8 := by omega
 all_goals (subst h; decide +kernel)
def Xl4 (q : Seq) (p : Par) (h : Xq8) : Bool := Xf7 q && (Xlo p && (decide (0 ≤ h.Tile ∧ h.Tile < Xbn q) && (decide (0 ≤ h.Frame ∧ h.Frame < 2 ^ q.Bits.toNat) && decide (0 ≤ h.Qp ∧ h.Qp ≤ 40))))
theorem Xei {q : Seq} (h : Xf7 q = true) : 0 ≤ Xbn q ∧ Xbn q ≤ 1000000 := by
 obtain ⟨h1, h2, _⟩ := Xbf h
 unfold Xbn
 rw [if_pos h]
 have a := Xbj h1
 have b := Xbj h2
 have : (q.Cols.length : Int) * q.Rows.length ≤ 4 * 4 := Int.mul_le_mul (by omega) (by omega) (by omega) (by omega)
 exact ⟨Int.mul_nonneg (by omega) (by omega), by omega⟩
theorem Xu9 (q : Seq) (p : Par) (h : Xq8) (h1 : q.Cols.length ≤ maxLen) (h2 : q.Rows.length ≤ maxLen) : Xot q p h = some (Xl4 q p h) := by
 unfold Xot Xl4
 rw [Xff q h1 h2, Xab]
 cases hs : Xf7 q with
 | false => rfl
 | true =>
  rw [Xav, Xi2, Xab, Bool.true_and]
  cases hp : Xlo p with
  | false => rfl
  | true =>
   obtain ⟨_, _, b1, b2⟩ := Xbf hs
   obtain ⟨s1, s2, s3, s4, s5⟩ := Xhc q.Bits ⟨b1, b2⟩
   have ht := Xei hs
   rw [Xav, Xhy q h1 h2, Xab, Xaj, Xab, wkA (e := Xbn q - 1), Bool.true_and, rqA, s3, wkA (e := (2 : Int) ^ q.Bits.toNat - 1), Xaj, Xab, Xaj, Xab]
   have e1 : decide (0 ≤ h.Tile ∧ h.Tile ≤ Xbn q - 1) = decide (0 ≤ h.Tile ∧ h.Tile < Xbn q) := by rw [decide_eq_decide]; omega
   have e2 : decide (0 ≤ h.Frame ∧ h.Frame ≤ 2 ^ q.Bits.toNat - 1) = decide (0 ≤ h.Frame ∧ h.Frame < 2 ^ q.Bits.toNat) := by rw [decide_eq_decide]; omega
   rw [e1, e2, Xee, Xee, Xab]
theorem Xvr (q : Seq) (p : Par) (h : Xq8) : Xmj q p h = some (Xl4 q p h) := by
 unfold Xmj Xl4
 rw [Xog, Xab]
 cases hp : Xlo p with
 | false => rw [Xam, Xab, Bool.false_and, Bool.and_false]
 | true =>
  rw [Xav, Xex, Xab, Bool.true_and]
  cases hs : Xf7 q with
  | false =>
   have : Xbn q = 0 := by unfold Xbn; rw [hs]; rfl
   rw [this, Bool.false_and]
   by_cases h0 : h.Tile ≥ 0
   ·
    rw [Xbm h0, snA, Xab]
   ·
    rw [Xax h0, Xab]
  | true =>
   obtain ⟨_, _, b1, b2⟩ := Xbf hs
   obtain ⟨s1, s2, s3, s4, s5⟩ := Xhc q.Bits ⟨b1, b2⟩
   rw [Bool.true_and, Xa6 s1, s2, Xai, Xab, Ypx, Ypx, Ypx, Ypx]
   by_cases t1 : h.Tile ≥ 0
   ·
    rw [if_pos t1]
    by_cases t2 : h.Tile < Xbn q
    ·
     rw [if_pos t2, decide_eq_true (show 0 ≤ h.Tile ∧ h.Tile < Xbn q from ⟨t1, t2⟩), Bool.true_and]
     by_cases f1 : h.Frame ≥ 0
     ·
      rw [if_pos f1]
      by_cases f2 : h.Frame < 2 ^ q.Bits.toNat
      ·
       rw [if_pos f2, decide_eq_true (show 0 ≤ h.Frame ∧ h.Frame < 2 ^ q.Bits.toNat from ⟨f1, f2⟩), Bool.true_and, Xab]
      ·
       rw [if_neg f2, decide_eq_false (show ¬ (0 ≤ h.Frame ∧ h.Frame < 2 ^ q.Bits.toNat) from fun h => f2 h.2), Bool.false_and, Xab]
     ·
      rw [if_neg f1, decide_eq_false (show ¬ (0 ≤ h.Frame ∧ h.Frame < 2 ^ q.Bits.toNat) from fun h => f1 h.1), Bool.false_and, Xab]
    ·
     rw [if_neg t2, decide_eq_false (show ¬ (0 ≤ h.Tile ∧ h.Tile < Xbn q) from fun h => t2 h.2), Bool.false_and, Xab]
   ·
    rw [if_neg t1, decide_eq_false (show ¬ (0 ≤ h.Tile ∧ h.Tile < Xbn q) from fun h => t1 h.1), Bool.false_and, Xab]
theorem Xq9 {L : List Int} (hb : Xe1 L) (hl : L.length ≤ 400000) (q : Seq) (p : Par) (h1 : q.Cols.length ≤ maxLen) (h2 : q.Rows.length ≤ maxLen) :
  (∃ (h : Xq8) (j : Nat), Xfl q p (strOfNums L) = some (h, (j : Int), true) ∧ Xec q p (strOfNums L) = some (h, (j : Int), true) ∧ Xl4 q p h = true ∧ j ≤ L.length) ∨
  (Xfl q p (strOfNums L) = some (⟨0, 0, 0⟩, 0, false) ∧ Xec q p (strOfNums L) = some (⟨0, 0, 0⟩, 0, false)) := by
 unfold Xfl Xec
 have ho : Xfs (strOfNums L) 0 = some ⟨strOfNums L, ((0 : Nat) : Int), false⟩ := Xo0 hb hl 0 (by omega)
 rw [ho, Xab, Xzf L hb hl, Xab, Xav, Xlv, Xab, Xog, Xab, Xff q h1 h2, Xab, Xi2, Xab]
 cases hs : Xf7 q with
 | false => exact .inr ⟨rfl, rfl⟩
 | true =>
  cases hp : Xlo p with
  | false => exact .inr ⟨rfl, rfl⟩
  | true =>
   rw [Xav, Bool.not_true, Xab, Xam, Xab, Xam]
   have hpq : 0 ≤ p.Qp ∧ p.Qp ≤ 40 := Xue hp
   obtain ⟨_, _, b1, b2⟩ := Xbf hs
   rcases Xr2 hb hl 0 (by omega) with ⟨v, j, e1, e2, v1, v2, v3⟩ | ⟨e1, a, e2⟩
   ·
    have e1' : Xbh (strOfNums L) 0 = some ((v : Int), (j : Int), true) := e1
    rw [e1', Xab, e2, Xab]
    simp only
    rw [Bool.not_true, Xam]
    rcases Xre hb hl j v3 q.Bits.toNat (by omega) with ⟨w, w1, _, w2, f1, f2⟩ | ⟨_, f1, f2⟩
    ·
     rw [show ((q.Bits.toNat : Nat) : Int) = q.Bits by omega] at f1 f2
     rw [f1, Xab, f2, Xab]
     simp only
     rw [Bool.not_true, Xam]
     rcases Yis hb hl (j + q.Bits.toNat) w1 with ⟨n, j2, g1, g2, g3, g4, g5⟩ | ⟨g1, a, g2⟩
     ·
      rw [g1, Xab, g2, Xab]
      simp only
      rw [Xav, Xam, wkA (e := p.Qp + n), wkA (e := n + p.Qp), Int.add_comm n p.Qp, Xvr, Xu9 _ _ _ h1 h2, Xab, Xab]
      cases hh : Xl4 q p ⟨(v : Int), w, p.Qp + n⟩ with
      | true => exact .inl ⟨_, j2, rfl, rfl, hh, g5⟩
      | false => exact .inr ⟨rfl, rfl⟩
     ·
      rw [g1, Xab, g2, Xab]
      exact .inr ⟨rfl, rfl⟩
    ·
     rw [show ((q.Bits.toNat : Nat) : Int) = q.Bits by omega] at f1 f2
     rw [f1, Xab, f2, Xab]
     simp only
     rw [Yvc, Xab]
     exact .inr ⟨rfl, rfl⟩
   ·
    have e1' : Xbh (strOfNums L) 0 = some (0, 0, false) := e1
    rw [e1', Xab, e2, Xab]
    simp only
    rw [Ygu, Xab]
    simp only
    rw [Yvc, Xab]
    exact .inr ⟨rfl, rfl⟩
theorem Yrs : ∀ (a : List Int) (x : Int), Xl5 (a ++ [x]) = Xl5 a + x
 | [], x => by simp [Xl5]
 | y :: a, x => by rw [List.cons_append, Xl5, Xl5, Yrs a x, Int.add_assoc]
theorem Yrt {l : List Int} : ∀ k : Nat, k < l.length → Xl5 (l.take (k + 1)) = Xl5 (l.take k) + l.getD k 0 := by
 intro k hk
 rw [List.take_add_one, List.getElem?_eq_getElem hk, Xb4 l k hk]
 exact Yrs _ _
theorem Xoj {l : List Int} (h : l.all Xfj = true) {i : Nat} (hi : i < l.length) : 1 ≤ l.getD i 0 ∧ l.getD i 0 ≤ 8 := by
 have := List.all_eq_true.1 h (l.getD i 0) (by rw [Xb4 l i hi]; exact List.getElem_mem _)
 unfold Xfj at this
 rwa [decide_eq_true_eq] at this
theorem Xks {l : List Int} (h : l.all Xfj = true) (hl : l.length ≤ 4) (i : Nat) : 0 ≤ Xl5 (l.take i) ∧ Xl5 (l.take i) ≤ 32 := by
 have := Xrp (l := l.take i) (List.all_eq_true.2 fun x hx => List.all_eq_true.1 h x (List.mem_of_mem_take hx))
 rw [List.length_take] at this
 omega
theorem Xxo {l : List Int} (h : l.all Xfj = true) (hl : l.length ≤ 4) (k : Nat) (hk : k ≤ l.length) : Xj2 l (k : Int) = some (Xl5 (l.take k)) := by
 have key : ∀ i : Nat, i ≤ k → loop (Xgf l (k : Int)) (Xl5 (l.take i), (i : Int)) = some (Xl5 (l.take k)) := by
  refine Xhn _ (Xcn (by unfold Xgf; rw [Xax (by simp)])) ?_
  intro i hi ih
  refine lgo ?_ ih
  have a := Xoj h (i := i) (by omega)
  have b := Xks h hl i
  unfold Xgf
  simp only [Int.toNat_natCast]
  rw [syA, rqA, wkA (e := Xl5 (l.take i) + l.getD i 0), wkA (e := (i : Int) + 1), Yrt i (by omega)]
  rfl
 exact Xey (key 0 (by omega))
theorem Ygd {l : List Int} (h : l.all Xfj = true) (hl : l.length ≤ 4) : Xcx l = some (Xl5 l) := by
 have key : ∀ i : Nat, i ≤ l.length → loop (Xed l) (Xl5 (l.take i), (i : Int)) = some (Xl5 l) := by
  refine Xhn _ (Xcn (by unfold Xed; rw [Xax (by simp), List.take_length])) ?_
  intro i hi ih
  refine lgo ?_ ih
  have a := Xoj h (i := i) (by omega)
  have b := Xks h hl i
  unfold Xed
  simp only [Int.toNat_natCast]
  rw [syA, rqA, wkA (e := Xl5 (l.take i) + l.getD i 0), wkA (e := (i : Int) + 1), Yrt i (by omega)]
  rfl
 exact Xey (key 0 (by omega))
theorem Xv9 {q : Seq} (hs : Xf7 q = true) (h1 : q.Cols.length ≤ maxLen) (h2 : q.Rows.length ≤ maxLen) (t : Int) (ht : 0 ≤ t ∧ t < Xbn q) : ∃ r : Xpw, Xfg q t = some (r, true) ∧ Xdn q t = some (r, true) ∧ Xrx r.Wide = true ∧ Xrx r.High = true := by
 have hr := Xei hs
 have hto : Xbn q = (q.Cols.length : Int) * q.Rows.length := by unfold Xbn; rw [if_pos hs]
 obtain ⟨s1, s2, _⟩ := Xbf hs
 have c1 := Xbj s1
 have c2 := Xbj s2
 unfold Xeu at s1 s2
 rw [Bool.and_eq_true] at s1 s2
 have m0 := Int.emod_nonneg t (show (q.Cols.length : Int) ≠ 0 by omega)
 have m1 := Int.emod_lt_of_pos t (show 0 < (q.Cols.length : Int) by omega)
 have d0 : 0 ≤ t / (q.Cols.length : Int) := Int.ediv_nonneg ht.1 (by omega)
 have d1 : t / (q.Cols.length : Int) < q.Rows.length := Int.ediv_lt_of_lt_mul (by omega) (by rw [Int.mul_comm, ← hto]; exact ht.2)
 have ex : ∃ x y : Nat, (x : Int) = t % (q.Cols.length : Int) ∧ (y : Int) = t / (q.Cols.length : Int) := ⟨(t % (q.Cols.length : Int)).toNat, (t / (q.Cols.length : Int)).toNat, by omega, by omega⟩
 obtain ⟨x, y, hx, hy⟩ := ex
 have tm : t.tmod (q.Cols.length : Int) = (x : Int) := by rw [Xbs ht.1]; exact hx.symm
 have td : Xaa .i64 (t.tdiv (q.Cols.length : Int)) = (y : Int) := by rw [Xbr ht.1, ← hy, wkA]
 have bx := Xks s1.2 c1.2 x
 have by_ := Xks s2.2 c2.2 y
 have gx := Xoj s1.2 (i := x) (by omega)
 have gy := Xoj s2.2 (i := y) (by omega)
 have side8 : ∀ v : Int, 1 ≤ v ∧ v ≤ 8 → Xrx (8 * v) = true := fun v hv => by
  unfold Xrx
  rw [Bool.and_eq_true, decide_eq_true_eq, decide_eq_true_eq, Xbs (by omega)]
  omega
 refine ⟨⟨8 * Xl5 (q.Cols.take x), 8 * Xl5 (q.Rows.take y), 8 * q.Cols.getD x 0, 8 * q.Rows.getD y 0⟩, ?_, ?_, side8 _ gx, side8 _ gy⟩
 ·
  unfold Xfg
  rw [Xhy q h1 h2, Xab, wkA (e := Xbn q - 1), Xaj, Xab, decide_eq_true (by omega), Bool.not_true, Xam, rqA, tm, td, rqA, rqA]
  simp only [Int.toNat_natCast]
  rw [show (0 : Int).toNat = 0 from rfl, List.drop_zero, List.drop_zero, Nat.sub_zero, Nat.sub_zero, Ygd (List.all_eq_true.2 fun z hz => List.all_eq_true.1 s1.2 z (List.mem_of_mem_take hz)) (by rw [List.length_take]; omega), Xab, rqA, Ygd (List.all_eq_true.2 fun z hz => List.all_eq_true.1 s2.2 z (List.mem_of_mem_take hz)) (by rw [List.length_take]; omega), Xab, rqA, rqA, wkA (e := 8 * Xl5 (q.Cols.take x)), wkA (e := 8 * Xl5 (q.Rows.take y)), wkA (e := 8 * q.Cols.getD x 0), wkA (e := 8 * q.Rows.getD y 0)]
 ·
  unfold Xdn
  rw [snA, Xex, Xab, decide_eq_false (by omega), Xab, Xam, rqA, tm, td, rqA, Xxo s1.2 c1.2 x (by omega), Xab, Xxo s2.2 c2.2 y (by omega), Xab, rqA, rqA]
  simp only [Int.toNat_natCast]
  rw [wkA (e := 8 * Xl5 (q.Cols.take x)), wkA (e := 8 * Xl5 (q.Rows.take y)), wkA (e := 8 * q.Cols.getD x 0), wkA (e := 8 * q.Rows.getD y 0)]
theorem Yx6 {l m : List Int} {b x : Nat} (h : b + m.length ≤ l.length) (hx : x < m.length) : (over l b (m.take x)).set (b + x) (m.getD x 0) = over l b (m.take (x + 1)) := by
 have h1 : b + (m.take x).length ≤ l.length := by rw [List.length_take]; omega
 have h2 : b + (m.take (x + 1)).length ≤ l.length := by rw [List.length_take]; omega
 apply List.ext_getElem?
 intro j
 rw [List.getElem?_set, Xrt h1, Yga h1, Yga h2]
 simp only [List.length_take]
 by_cases hj : b + x = j
 ·
  subst hj
  rw [if_pos rfl, if_pos (by omega), if_pos (by omega), Xb4 m x hx, List.getElem?_take, if_pos (by omega), show b + x - b = x by omega, List.getElem?_eq_getElem hx]
 ·
  rw [if_neg hj]
  by_cases hin : b ≤ j ∧ j < b + x
  ·
   rw [if_pos (by omega), if_pos (by omega), List.getElem?_take, List.getElem?_take, if_pos (by omega), if_pos (by omega)]
  ·
   rw [if_neg (by omega), if_neg (by omega)]
theorem Yz5 (l : List Int) (b : Nat) : over l b [] = l := by
 unfold over
 rw [List.append_nil, List.length_nil, Nat.add_zero, List.take_append_drop]
theorem Ygg (p0 p1 : Pic) (x y : Int) : ∃ (o : Pic) (b : Bool), Xou p0 p1 x y = some (o, b) ∧ Xki p0 p1 x y = some (o, b) ∧ o.Wide = p0.Wide ∧ o.High = p0.High ∧ o.Dots.size = p0.Dots.size ∧ (b = false → o = p0) := by
 unfold Xou Xki
 have hw := Xmo p0 ⟨x, y, p1.Wide, p1.High⟩
 simp only at hw
 rw [Xc5, Xab, Xgy, Xab, hw]
 cases ok1 : Xct p1 with
 | false =>
  rw [Xam, Xab, Xav]
  refine ⟨p0, false, ?_, rfl, rfl, rfl, rfl, fun _ => rfl⟩
  cases Xct p0 with
  | false => rfl
  | true => rw [Xav, Xc5, Xab, ok1]; rfl
 | true =>
  rw [Xav, Xab, Xab, Xc5, Xab, ok1]
  cases ok0 : Xct p0 with
  | false => exact ⟨p0, false, rfl, rfl, rfl, rfl, rfl, fun _ => rfl⟩
  | true =>
   rw [Xav, Xav, Xrk ok0, Xab]
   cases ho : Xm7 p0 ⟨x, y, p1.Wide, p1.High⟩ with
   | false => exact ⟨p0, false, rfl, rfl, rfl, rfl, rfl, fun _ => rfl⟩
   | true =>
    have hm : maxLen = 9223372036854775807 := rfl
    obtain ⟨k1, k2, k3⟩ := Xby ok0
    obtain ⟨g1, g2, g3⟩ := Xby ok1
    obtain ⟨a1, a2, a3, a4⟩ := Xkn ho
    simp only at a1 a2 a3 a4
    have ar := Xeo k1 k2
    have ar1 := Xeo g1 g2
    have hdl := Yui ok0
    unfold Xqm
    simp only [Bool.and_self, Bool.not_true, Xab, Xam]
    rw [rqA, rqA, Xab]
    -- places of a row
    have row : ∀ r : Nat, (r : Int) < p1.High → ∃ B S : Nat, (B : Int) = (y + (r : Int)) * p0.Wide + x ∧ B + p1.Wide.toNat ≤ p0.Dots.size ∧ (S : Int) = (r : Int) * p1.Wide ∧ S + p1.Wide.toNat ≤ p1.Dots.size ∧ ((r : Int) + 1) * p1.Wide = (S : Int) + p1.Wide ∧ 0 ≤ (y + (r : Int)) * p0.Wide := fun r hr => by
     have e1 : 0 ≤ (y + (r : Int)) * p0.Wide := Int.mul_nonneg (by omega) (by omega)
     have e2 : (y + (r : Int)) * p0.Wide ≤ (p0.High - 1) * p0.Wide := Int.mul_le_mul_of_nonneg_right (by omega) (by omega)
     have e3 : (p0.High - 1) * p0.Wide = p0.Wide * p0.High - p0.Wide := by rw [Int.sub_mul, Int.one_mul, Int.mul_comm]
     have f1 : 0 ≤ (r : Int) * p1.Wide := Int.mul_nonneg (by omega) (by omega)
     have f2 : (r : Int) * p1.Wide ≤ (p1.High - 1) * p1.Wide := Int.mul_le_mul_of_nonneg_right (by omega) (by omega)
     have f3 : (p1.High - 1) * p1.Wide = p1.Wide * p1.High - p1.Wide := by rw [Int.sub_mul, Int.one_mul, Int.mul_comm]
     have f4 : ((r : Int) + 1) * p1.Wide = (r : Int) * p1.Wide + p1.Wide := by rw [Int.add_mul, Int.one_mul]
     refine ⟨((y + (r : Int)) * p0.Wide + x).toNat, ((r : Int) * p1.Wide).toNat, by omega, by omega, by omega, by omega, by omega, e1⟩
    have hl : loop (Xmv p0 p1 x y) (0, Xa0 p0.Dots) = loop (Xdz p0 p1 x y) (0, Xa0 p0.Dots) := by
     refine Yu0 p1.High.toNat (fun _ s => s.length = p0.Dots.size) ?_ ?_ (Xbv _)
     ·
      intro r s hr hs
      unfold Xmv Xdz
      simp only
      by_cases hlt : (r : Int) < p1.High
      ·
       obtain ⟨B, S, b1, b2, b3, b4, b5, b6⟩ := row r hlt
       have hml : (Xa0 (p1.Dots.extract S (S + p1.Wide.toNat))).length = p1.Wide.toNat := by rw [Xbv, ByteArray.size_extract]; omega
       have hin : loop (Xb6 p0 p1 x y ((r : Int), s)) (0, s) = some (over s B (Xa0 (p1.Dots.extract S (S + p1.Wide.toNat)))) := by
        obtain ⟨o, e, ho⟩ := Xjk (f := Xb6 p0 p1 x y ((r : Int), s)) p1.Wide.toNat (fun k t => t = over s B ((Xa0 (p1.Dots.extract S (S + p1.Wide.toNat))).take k)) (by
         intro k t hk ht
         subst ht
         have hol : (over s B ((Xa0 (p1.Dots.extract S (S + p1.Wide.toNat))).take k)).length = s.length := Xrt (by rw [List.length_take]; omega)
         have hbt : Xl2 p1.Dots ((S : Int) + k) = (Xa0 (p1.Dots.extract S (S + p1.Wide.toNat))).getD k 0 := by
          rw [Yih _ k (by rw [ByteArray.size_extract]; omega)]
          unfold Xl2
          rw [dif_pos (show ((S : Int) + k).toNat < p1.Dots.size by omega), dif_pos (by rw [ByteArray.size_extract]; omega), ByteArray.getElem_extract]
          congr 2
         unfold Xb6
         simp only
         rw [syA, wkA (e := (r : Int) * p1.Wide), wkA (e := y + (r : Int)), wkA (e := (y + (r : Int)) * p0.Wide), wkA (e := (y + (r : Int)) * p0.Wide + x), ← b1, ← b3, wkA (e := (S : Int) + (k : Int)), wkA (e := (B : Int) + (k : Int)), rqA, rqA, rqA, wkA (e := (k : Int) + 1), hbt, show ((B : Int) + (k : Int)).toNat = B + k by omega]
         exact ⟨_, rfl, Yx6 (by omega) (by omega)⟩) (fun t _ => by unfold Xb6; rw [Xax (by simp only; omega)]) s (by rw [List.take_zero, Yz5])
        rw [e, ho, List.take_of_length_le (by omega)]
       rw [Xbm hlt, Xbm hlt, hin, Xab, wkA (e := y + (r : Int)), wkA (e := (y + (r : Int)) * p0.Wide), wkA (e := (y + (r : Int)) * p0.Wide + x), wkA (e := (r : Int) + 1), wkA (e := (r : Int) * p1.Wide), wkA (e := ((r : Int) + 1) * p1.Wide), b5, ← b1, ← b3, show (S : Int).toNat = S by omega, show (B : Int).toNat = B by omega, show ((S : Int) + p1.Wide).toNat = S + p1.Wide.toNat by omega, rqA, rqA, Xa6 (by rw [hml]; omega)]
      ·
       rw [Xax hlt, Xax hlt]
     ·
      intro r s v' hr hs he
      unfold Xdz at he
      simp only at he
      by_cases hlt : (r : Int) < p1.High
      ·
       obtain ⟨B, S, b1, b2, b3, b4, b5, b6⟩ := row r hlt
       rw [Xbm hlt] at he
       obtain ⟨o, e, ho⟩ := Xjk (f := Xb6 p0 p1 x y ((r : Int), s)) p1.Wide.toNat (fun k t => t.length = p0.Dots.size) (by
        intro k t hk ht
        unfold Xb6
        simp only
        rw [syA, wkA (e := (r : Int) * p1.Wide), wkA (e := y + (r : Int)), wkA (e := (y + (r : Int)) * p0.Wide), wkA (e := (y + (r : Int)) * p0.Wide + x), ← b1, ← b3, wkA (e := (S : Int) + (k : Int)), wkA (e := (B : Int) + (k : Int)), rqA, rqA, rqA, wkA (e := (k : Int) + 1)]
        exact ⟨_, rfl, by rw [List.length_set]; exact ht⟩) (fun t _ => by unfold Xb6; rw [Xax (by simp only; omega)]) s hs
       rw [e, Xab] at he
       injection he with he
       injection he with he
       subst he
       exact ⟨by simp only; rw [wkA]; rfl, by omega, ho⟩
      ·
       rw [Xax hlt] at he
       cases he
    obtain ⟨o, e, ho2⟩ := Xjk (f := Xdz p0 p1 x y) p1.High.toNat (fun _ s => s.length = p0.Dots.size) (by
     intro r s hr hs
     obtain ⟨B, S, b1, b2, b3, b4, b5, b6⟩ := row r (by omega)
     obtain ⟨o, e, ho⟩ := Xjk (f := Xb6 p0 p1 x y ((r : Int), s)) p1.Wide.toNat (fun k t => t.length = p0.Dots.size) (by
      intro k t hk ht
      unfold Xb6
      simp only
      rw [syA, wkA (e := (r : Int) * p1.Wide), wkA (e := y + (r : Int)), wkA (e := (y + (r : Int)) * p0.Wide), wkA (e := (y + (r : Int)) * p0.Wide + x), ← b1, ← b3, wkA (e := (S : Int) + (k : Int)), wkA (e := (B : Int) + (k : Int)), rqA, rqA, rqA, wkA (e := (k : Int) + 1)]
      exact ⟨_, rfl, by rw [List.length_set]; exact ht⟩) (fun t _ => by unfold Xb6; rw [Xax (by simp only; omega)]) s hs
     unfold Xdz
     simp only
     rw [syA, e, Xab, wkA]
     exact ⟨_, rfl, ho⟩) (fun t _ => by unfold Xdz; rw [Xax (by simp only; omega)]) (Xa0 p0.Dots) (Xbv _)
    rw [hl, e, Xab]
    exact ⟨_, true, rfl, rfl, rfl, rfl, by rw [strOfNums_size]; exact ho2, fun h => by cases h⟩
def Xjw (p : Pic) : Bool := (p.Wide == 0) && ((p.High == 0) && ((p.Dots.size : Int) == 0))
theorem Yvz (s : ByteArray) : (s.toList == (⟨#[]⟩ : ByteArray).toList) = ((s.size : Int) == 0) := by
 rw [Bool.eq_iff_iff, beq_iff_eq, beq_iff_eq, Ycb]
 constructor
 ·
  intro h; rw [h]; rfl
 ·
  intro h
  have := Xum s
  have hn : Xa0 s = [] := List.length_eq_zero_iff.1 (by rw [Xbv]; omega)
  rw [hn] at this
  exact this.symm
theorem Ykp (p : Pic) : Xfp p = some (Xjw p) := by
 unfold Xfp Xjw
 cases (p.Wide == 0) with
 | false => rfl
 | true => cases (p.High == 0) <;> rfl
theorem Yfv (p : Pic) (s : Seq) : Xjj p s = some (Xi1 p s) := by
 unfold Xjj Xi1
 rw [Xp7, Xab, Xgy, Xab]
 cases Xct p with
 | false => rfl
 | true => cases (p.Wide == (Xh4 s).1) <;> rfl
def Yr5 (s : Seq) : Bool := (s.Level == 0) && ((s.Bits == 0) && (((s.Cols.length : Int) == 0) && ((s.Rows.length : Int) == 0)))
theorem Yhz (s : Seq) : Xnd s = some (Yr5 s) := by
 unfold Xnd Yr5
 cases (s.Level == 0) with
 | false => rfl
 | true =>
  cases (s.Bits == 0) with
  | false => rfl
  | true => cases ((s.Cols.length : Int) == 0) <;> rfl
def Ycv (p : Par) : Bool := (p.Qp == 0) && ((p.Large == false) && ((p.Exact == false) && (p.Confined == false)))
def Xe0 (d : Xak) : Bool :=
 if d.HasSeq = true then
  Xf7 d.Seq && ((if d.HasPar = true then Xlo d.Par else Ycv d.Par && (decide (d.Got = 0) && !d.HasRef)) && (decide (-1 ≤ d.Frame ∧ d.Frame < 2 ^ d.Seq.Bits.toNat) && (decide (0 ≤ d.Got ∧ d.Got < Xbn d.Seq) && ((if d.Got > 0 then !(d.Frame == -1) && Xi1 d.Now d.Seq else Xjw d.Now) && (if d.HasRef = true then Xi1 d.Ref d.Seq else Xjw d.Ref)))))
 else
  !d.HasPar && (!d.HasRef && (Yr5 d.Seq && (Ycv d.Par && ((d.Frame == -1) && ((d.Got == 0) && (Xjw d.Now && Xjw d.Ref))))))
theorem Xlr (d : Xak) : Xqv d = some (Xe0 d) := by
 unfold Xqv Xe0
 have hP : ((d.Par.Qp == 0) && ((d.Par.Large == false) && ((d.Par.Exact == false) && (d.Par.Confined == false)))) = Ycv d.Par := rfl
 rw [hP]
 simp only [Ykp, Yfv, Xlv, Xog, Xex, Xab]
 cases hS : d.HasSeq with
 | false =>
  rw [Bool.not_false, Xav, if_neg (by decide)]
  cases d.HasPar with
  | true => rfl
  | false =>
   cases d.HasRef with
   | true => rfl
   | false =>
    unfold Yr5
    cases (d.Seq.Level == 0) with
    | false => rfl
    | true =>
     cases (d.Seq.Bits == 0) with
     | false => rfl
     | true =>
      cases ((d.Seq.Cols.length : Int) == 0) with
      | false => rfl
      | true =>
       cases ((d.Seq.Rows.length : Int) == 0) with
       | false => rfl
       | true =>
        cases Ycv d.Par with
        | false => rfl
        | true =>
         cases (d.Frame == -1) with
         | false => rfl
         | true =>
          cases (d.Got == 0) with
          | false => rfl
          | true => cases Xjw d.Now <;> rfl
 | true =>
  rw [Bool.not_true, Xam, if_pos rfl]
  cases hs : Xf7 d.Seq with
  | false => rfl
  | true =>
   obtain ⟨_, _, b1, b2⟩ := Xbf hs
   obtain ⟨s1, s2, s3, s4, s5⟩ := Xhc d.Seq.Bits ⟨b1, b2⟩
   have ht := Xei hs
   rw [Xav, s2, Bool.true_and]
   generalize (2 : Int) ^ d.Seq.Bits.toNat = N at *
   generalize Xbn d.Seq = T at *
   have tailE : ∀ v : Bool, (bnd (sel (decide (d.Frame < (-1))) (some true) (req (0 ≤ (Xaa .u64 (d.Seq.Bits))) <| sel (decide (d.Frame ≥ N)) (some true) (sel (decide (d.Got < 0)) (some true) (sel (decide (d.Got ≥ T)) (some true) (some v))))) fun v7 => sel v7 (some false) (bnd (sel (decide (d.Got > 0)) (sel (d.Frame == (-1)) (some true) (sel (Xi1 d.Now d.Seq) (sel (d.Got == 0) (some (!Xjw d.Now)) (some false)) (some true))) (sel (d.Got == 0) (some (!Xjw d.Now)) (some false))) fun v9 => sel v9 (some false) (bnd (sel d.HasRef (sel (Xi1 d.Ref d.Seq) (some true) (some false)) (some (Xjw d.Ref))) fun v13 => some v13))) = some (!v && (decide (-1 ≤ d.Frame ∧ d.Frame < N) && (decide (0 ≤ d.Got ∧ d.Got < T) && ((if d.Got > 0 then !(d.Frame == -1) && Xi1 d.Now d.Seq else Xjw d.Now) && (if d.HasRef = true then Xi1 d.Ref d.Seq else Xjw d.Ref))))) := by
    intro v
    rw [Xa6 s1]
    by_cases f1 : d.Frame < -1
    ·
     rw [Xbm f1, Xab, Xav, decide_eq_false (show ¬ (-1 ≤ d.Frame ∧ d.Frame < N) from fun h => by omega), Bool.false_and, Bool.and_false]
    rw [Xax f1]
    by_cases f2 : d.Frame ≥ N
    ·
     rw [Xbm f2, Xab, Xav, decide_eq_false (show ¬ (-1 ≤ d.Frame ∧ d.Frame < N) from fun h => by omega), Bool.false_and, Bool.and_false]
    rw [Xax f2, decide_eq_true (show -1 ≤ d.Frame ∧ d.Frame < N by omega), Bool.true_and]
    by_cases g1 : d.Got < 0
    ·
     rw [Xbm g1, Xab, Xav, decide_eq_false (show ¬ (0 ≤ d.Got ∧ d.Got < T) from fun h => by omega), Bool.false_and, Bool.and_false]
    rw [Xax g1]
    by_cases g2 : d.Got ≥ T
    ·
     rw [Xbm g2, Xab, Xav, decide_eq_false (show ¬ (0 ≤ d.Got ∧ d.Got < T) from fun h => by omega), Bool.false_and, Bool.and_false]
    rw [Xax g2, decide_eq_true (show 0 ≤ d.Got ∧ d.Got < T by omega), Bool.true_and, Xab]
    cases v with
    | true => rfl
    | false =>
     rw [Xam, Bool.not_false, Bool.true_and]
     by_cases g3 : d.Got > 0
     ·
      rw [Xbm g3, if_pos g3, Xbc (b := d.Got == 0) (by rw [beq_eq_false_iff_ne]; omega)]
      cases (d.Frame == -1) with
      | true => rfl
      | false =>
       cases Xi1 d.Now d.Seq with
       | false => rfl
       | true =>
        cases d.HasRef with
        | false => cases Xjw d.Ref <;> rfl
        | true => cases Xi1 d.Ref d.Seq <;> rfl
     ·
      rw [Xax g3, if_neg g3, Xbl (b := d.Got == 0) (by rw [beq_iff_eq]; omega)]
      cases Xjw d.Now with
      | false => rfl
      | true =>
       cases d.HasRef with
       | false => cases Xjw d.Ref <;> rfl
       | true => cases Xi1 d.Ref d.Seq <;> rfl
   cases hp : d.HasPar with
   | true =>
    rw [Xav, if_pos rfl]
    cases Xlo d.Par with
    | false => rfl
    | true =>
     rw [Xav, Xab, Xam, Bool.true_and]
     exact (tailE false).trans (by rw [Bool.not_false, Bool.true_and])
   | false =>
    rw [Xam, if_neg (by decide)]
    cases Ycv d.Par with
    | false => rfl
    | true =>
     rw [show ((true : Bool) == false) = false from rfl, Xab, Xam, Bool.true_and]
     have h2 : (sel (decide (d.Got > 0)) (some true) (some d.HasRef)) = some (decide (d.Got > 0) || d.HasRef) := by
      cases decide (d.Got > 0) <;> rfl
     simp only [Xam]
     rw [h2]
     refine (tailE _).trans ?_
     by_cases g0 : d.Got = 0
     ·
      rw [decide_eq_true g0, decide_eq_false (show ¬ d.Got > 0 by omega), Bool.false_or, Bool.true_and]
     ·
      rw [decide_eq_false g0, Bool.false_and, Bool.false_and]
      by_cases g1 : d.Got > 0
      ·
       rw [decide_eq_true g1, Bool.true_or, Bool.not_true, Bool.false_and]
      ·
       rw [decide_eq_false (show ¬ (0 ≤ d.Got ∧ d.Got < T) from fun h => by omega), Bool.false_and, Bool.and_false, Bool.and_false]
theorem Xx0 (d : Xak) (h1 : d.Seq.Cols.length ≤ maxLen) (h2 : d.Seq.Rows.length ≤ maxLen) : Xoo d = some (Xe0 d) := by
 unfold Xoo Xe0
 have hP : ((d.Par.Qp == 0) && ((d.Par.Large == false) && ((d.Par.Exact == false) && (d.Par.Confined == false)))) = Ycv d.Par := rfl
 have hN : ((d.Now.Wide == 0) && ((d.Now.High == 0) && ((d.Now.Dots.size : Int) == 0))) = Xjw d.Now := rfl
 have hR : ((d.Ref.Wide == 0) && ((d.Ref.High == 0) && ((d.Ref.Dots.size : Int) == 0))) = Xjw d.Ref := rfl
 rw [hP]
 simp only [Yvz, hN, hR, Yhz, Yrl _ _ h1 h2, Xff _ h1 h2, Xi2, Xhy _ h1 h2, Xaj, Xab]
 cases hS : d.HasSeq with
 | false =>
  rw [Bool.not_false, Xav, if_neg (by decide)]
  cases d.HasPar with
  | true => rfl
  | false =>
   cases d.HasRef with
   | true => rfl
   | false =>
    cases Yr5 d.Seq with
    | false => rfl
    | true =>
     cases Ycv d.Par with
     | false => rfl
     | true =>
      cases (d.Frame == -1) with
      | false => rfl
      | true =>
       cases (d.Got == 0) with
       | false => rfl
       | true => cases Xjw d.Now <;> cases Xjw d.Ref <;> rfl
 | true =>
  rw [Bool.not_true, Xam, if_pos rfl]
  cases hs : Xf7 d.Seq with
  | false => rfl
  | true =>
   obtain ⟨_, _, b1, b2⟩ := Xbf hs
   obtain ⟨s1, s2, s3, s4, s5⟩ := Xhc d.Seq.Bits ⟨b1, b2⟩
   have ht := Xei hs
   rw [Xav, s3, Bool.true_and]
   generalize (2 : Int) ^ d.Seq.Bits.toNat = N at *
   generalize Xbn d.Seq = T at *
   rw [wkA (e := N - 1), wkA (e := T - 1)]
   have e1 : decide (-1 ≤ d.Frame ∧ d.Frame ≤ N - 1) = decide (-1 ≤ d.Frame ∧ d.Frame < N) := by rw [decide_eq_decide]; omega
   have e2 : decide (0 ≤ d.Got ∧ d.Got ≤ T - 1) = decide (0 ≤ d.Got ∧ d.Got < T) := by rw [decide_eq_decide]; omega
   rw [e1, e2, rqA]
   have tailE : (bnd (sel (decide (-1 ≤ d.Frame ∧ d.Frame < N)) (some (!decide (0 ≤ d.Got ∧ d.Got < T))) (some true)) fun v6 => sel v6 (some false) (bnd (sel (decide (d.Got > 0)) (sel (d.Frame == (-1)) (some true) (sel (Xi1 d.Now d.Seq) (sel (d.Got == 0) (some (Xjw d.Now == false)) (some false)) (some true))) (sel (d.Got == 0) (some (Xjw d.Now == false)) (some false))) fun v10 => sel v10 (some false) (sel d.HasRef (some (Xi1 d.Ref d.Seq)) (some (Xjw d.Ref == true))))) = some (decide (-1 ≤ d.Frame ∧ d.Frame < N) && (decide (0 ≤ d.Got ∧ d.Got < T) && ((if d.Got > 0 then !(d.Frame == -1) && Xi1 d.Now d.Seq else Xjw d.Now) && (if d.HasRef = true then Xi1 d.Ref d.Seq else Xjw d.Ref)))) := by
    by_cases f1 : -1 ≤ d.Frame ∧ d.Frame < N
    ·
     rw [decide_eq_true f1, Bool.true_and, Xav, Xab]
     by_cases g1 : 0 ≤ d.Got ∧ d.Got < T
     ·
      rw [decide_eq_true g1, Bool.true_and, Bool.not_true, Xam]
      by_cases g3 : d.Got > 0
      ·
       rw [Xbm g3, if_pos g3, Xbc (b := d.Got == 0) (by rw [beq_eq_false_iff_ne]; omega)]
       cases (d.Frame == -1) with
       | true => rfl
       | false =>
        cases Xi1 d.Now d.Seq with
        | false => rfl
        | true =>
         cases d.HasRef with
         | false => cases Xjw d.Ref <;> rfl
         | true => cases Xi1 d.Ref d.Seq <;> rfl
      ·
       rw [Xax g3, if_neg g3, Xbl (b := d.Got == 0) (by rw [beq_iff_eq]; omega)]
       cases Xjw d.Now with
       | false => rfl
       | true =>
        cases d.HasRef with
        | false => cases Xjw d.Ref <;> rfl
        | true => cases Xi1 d.Ref d.Seq <;> rfl
     ·
      rw [decide_eq_false g1, Bool.false_and]; rfl
    ·
     rw [decide_eq_false f1, Bool.false_and]; rfl
   cases hp : d.HasPar with
   | true =>
    rw [Xav, if_pos rfl]
    cases Xlo d.Par with
    | false => rfl
    | true =>
     rw [Xav, Xab, Xam, Bool.true_and]
     exact tailE
   | false =>
    rw [Xam, if_neg (by decide)]
    cases Ycv d.Par with
    | false => rfl
    | true =>
     rw [show ((true : Bool) == false) = false from rfl, Xam]
     by_cases g0 : d.Got = 0
     ·
      rw [Xbc (b := d.Got != 0) (by rw [bne_eq_false_iff_eq]; exact g0), decide_eq_true g0]
      cases hr : d.HasRef with
      | true => rfl
      | false =>
       rw [hr] at tailE
       rw [Xab, Xam]
       exact tailE
     ·
      rw [Xbl (b := d.Got != 0) (by rw [bne_iff_ne]; exact g0), decide_eq_false g0]
      rfl
theorem Xt4 (s : Seq) (h1 : s.Cols.length ≤ 1048576) (h2 : s.Rows.length ≤ 1048576) : Xim s = some s ∧ Xnc s = some s := by
 have hm : maxLen = 9223372036854775807 := rfl
 constructor
 ·
  unfold Xim
  rw [Xa6 (by simp only [List.length_nil]; omega), Xa6 (by simp only [List.length_nil]; omega)]
  rfl
 ·
  unfold Xnc Xfh
  rw [Xa6 (by simp only [List.length_nil]; omega), Xa6 (by simp only [List.length_nil]; omega), Xab, Xab]
  rfl
theorem Ygs {d : Xak} (h : Xe0 d = true) (hp : d.HasPar = true) : d.HasSeq = true := by
 unfold Xe0 at h
 cases hs : d.HasSeq with
 | true => rfl
 | false =>
  rw [hs, if_neg (by decide), hp] at h
  simp at h
theorem Yxc {d : Xak} (h : Xe0 d = true) (hs : d.HasSeq = true) (g : d.Got ≠ 0) : Xct d.Now = true := by
 unfold Xe0 at h
 rw [if_pos hs] at h
 simp only [Bool.and_eq_true, decide_eq_true_eq] at h
 obtain ⟨_, _, _, ⟨g1, _⟩, hn, _⟩ := h
 rw [if_pos (by omega)] at hn
 unfold Xi1 at hn
 simp only [Bool.and_eq_true] at hn
 exact hn.2.1
theorem Ynh {L : List Int} (hb : Xe1 L) (hl : L.length ≤ 400000) (d : Xak) (hd : Xe0 d = true) (h1 : d.Seq.Cols.length ≤ maxLen) (h2 : d.Seq.Rows.length ≤ maxLen) (k : Int) (hk : k = 1 ∨ k = 5) : ∃ (D : Xak) (co : Int) (P : Pic), Xcb d k (strOfNums L) = some (D, co, P) ∧ Xdt d (k == 5) (strOfNums L) = some (D, co, P, d) ∧ D.Seq = d.Seq ∧ (P = ⟨0, 0, ⟨#[]⟩⟩ ∨ Xct P = true) := by
 have hm : maxLen = 9223372036854775807 := rfl
 have fin : ∀ {x : Option (Xak × Int × Pic)} {z : Option (Xak × Int × Pic × Xak)} {co : Int}, x = some (d, co, ⟨0, 0, ⟨#[]⟩⟩) → z = some (d, co, ⟨0, 0, ⟨#[]⟩⟩, d) → ∃ (D : Xak) (co : Int) (P : Pic), x = some (D, co, P) ∧ z = some (D, co, P, d) ∧ D.Seq = d.Seq ∧ (P = ⟨0, 0, ⟨#[]⟩⟩ ∨ Xct P = true) := fun e1 e2 => ⟨d, _, _, e1, e2, rfl, .inl rfl⟩
 unfold Xcb Xdt
 cases hp : d.HasPar with
 | false =>
  refine fin (co := 4) rfl ?_
  cases d.HasSeq <;> rfl
 | true =>
  rw [Ygs hd hp, Xav, Bool.not_true, Xam, Xab, Xam]
  rcases Xq9 hb hl d.Seq d.Par h1 h2 with ⟨h, j, e1, e2, hh, hj⟩ | ⟨e1, e2⟩
  ·
   rw [e1, Xab, e2, Xab]
   simp only
   rw [Bool.not_true, Xam, Xam]
   cases ht : (h.Tile != d.Got) with
   | true => exact fin (co := 6) rfl rfl
   | false =>
    rw [Xam, Xam]
    have ex : ∃ b : Bool, (sel (d.Frame != (-1)) (some (d.Frame != h.Frame)) (some false)) = some b := by cases (d.Frame != (-1)) <;> exact ⟨_, rfl⟩
    obtain ⟨b, eb⟩ := ex
    rw [eb, Xab, Xab]
    cases b with
    | true => exact fin (co := 7) rfl rfl
    | false =>
     rw [Xam, Xam]
     have e8 : (sel (k == 1) (some (!d.HasRef)) (some false)) = some (!(k == 5) && !d.HasRef) ∧ (sel (k == 5) (some false) (some (!d.HasRef))) = some (!(k == 5) && !d.HasRef) := by
      rcases hk with rfl | rfl <;> exact ⟨rfl, rfl⟩
     rw [e8.1, e8.2, Xab, Xab]
     cases (!(k == 5) && !d.HasRef) with
     | true => exact fin (co := 8) rfl rfl
     | false =>
      rw [Xam, Xam]
      unfold Xl4 at hh
      simp only [Bool.and_eq_true, decide_eq_true_eq] at hh
      obtain ⟨hs, hpar, hti, hfr, hqp⟩ := hh
      obtain ⟨s1, s2, b1, b2⟩ := Xbf hs
      have i1 := Xs8 s1
      have i2 := Xs8 s2
      obtain ⟨r, t1, t2, rw_, rh⟩ := Xv9 hs h1 h2 h.Tile hti
      have sw := Xh3 rw_
      have sh := Xh3 rh
      have mb : r.Wide / 8 * (r.High / 8) ≤ 8 * 8 := Int.mul_le_mul (by omega) (by omega) (by omega) (by omega)
      have m0 : 1 * 1 ≤ r.Wide / 8 * (r.High / 8) := Int.mul_le_mul (by omega) (by omega) (by omega) (by omega)
      have q1 : Xb2 d.Seq h.Tile = some (r.Wide / 8 * (r.High / 8)) := by
       unfold Xb2
       rw [t2, Xab, rqA, rqA, Xbr (a := r.Wide) (by omega), Xbr (a := r.High) (by omega), wkA (e := r.Wide / 8), wkA (e := r.High / 8), wkA]
      have q2 : Xg5 d.Seq h.Tile = some (r.Wide / 8 * (r.High / 8)) := by
       unfold Xg5
       rw [t1, Xab, rqA, rqA, Xbr (a := r.Wide) (by omega), Xbr (a := r.High) (by omega), wkA (e := r.Wide / 8), wkA (e := r.High / 8), wkA]
      rw [q1, Xab, q2, Xab]
      obtain ⟨l, ok, r1, r2, l1, l2, l3⟩ := Xra (strOfNums L) (j : Int) (r.Wide / 8 * (r.High / 8)) ⟨k == 5, h.Qp, d.Par.Large, d.Par.Exact⟩
      rw [r1, Xab, r2, Xab]
      cases ok with
      | false => exact fin (co := 9) rfl rfl
      | true =>
       obtain ⟨x, x1, x2, _⟩ := Xxk d.Ref r ⟨k == 5, h.Qp, d.Par.Large, d.Par.Exact⟩ d.Par.Confined l (by omega) (fun q hq => by have := l2 q hq; omega)
       simp only
       rw [Bool.not_true, Xam, Xam, t1, Xab, t2, Xab]
       simp only
       rw [x1, Xab, x2, Xab]
       have ev : ∃ n : Pic, (sel (d.Got == 0) (bnd (Xif d.Seq) fun q9 => bnd (Xnn q9.1 q9.2) fun q10 => some (q10.Wide, q10.High, q10.Dots)) (some (d.Now.Wide, d.Now.High, d.Now.Dots))) = some (n.Wide, n.High, n.Dots) ∧ (sel (d.Got == 0) (bnd (Xkh d.Seq) fun q9 => bnd (Xos q9.1 q9.2) fun q10 => some (q10.Wide, q10.High, q10.Dots)) (some (d.Now.Wide, d.Now.High, d.Now.Dots))) = some (n.Wide, n.High, n.Dots) ∧ Xct n = true := by
        cases hg : (d.Got == 0) with
        | false => exact ⟨d.Now, rfl, rfl, Yxc hd (Ygs hd hp) (by rw [beq_eq_false_iff_ne] at hg; exact hg)⟩
        | true =>
         have hsz : Xh4 d.Seq = (8 * Xl5 d.Seq.Cols, 8 * Xl5 d.Seq.Rows) := by unfold Xh4; rw [if_pos hs]
         refine ⟨Yzv (8 * Xl5 d.Seq.Cols) (8 * Xl5 d.Seq.Rows), ?_, ?_, Yxj (by omega) (by omega)⟩
         ·
          rw [Xav, Xp7, Xab, hsz, Xtd _ _ (by simp only; omega) (by simp only; omega), Xab]
          rfl
         ·
          rw [Xav, Xvf _ h1 h2, Xab, hsz, Yco _ _ (by simp only; omega) (by simp only; omega), Xab]
          rfl
       obtain ⟨n, n1, n2, nok⟩ := ev
       rw [n1, Xab, n2, Xab]
       simp only
       obtain ⟨o, bo, p1, p2, ow, oh, p3, _⟩ := Ygg n x.1 r.Left r.Top
       have ho : Xct o = true := by
        obtain ⟨k1, k2, k3⟩ := Xby nok
        exact Xuf (by rw [ow]; exact k1) (by rw [oh]; exact k2) (by rw [p3, ow, oh]; exact k3)
       rw [show (⟨n.Wide, n.High, n.Dots⟩ : Pic) = n from rfl, p1, Xab, p2, Xab, Xex, Xab, Xhy _ h1 h2, Xab]
       simp only
       cases decide ((Xaa .i64 (d.Got + 1)) < Xbn d.Seq) with
       | true => exact ⟨_, _, _, rfl, rfl, rfl, .inl rfl⟩
       | false =>
        obtain ⟨z1, z2, z3, z4, z5⟩ := Xhc d.Seq.Bits ⟨b1, b2⟩
        have nz : (2 : Int) ^ d.Seq.Bits.toNat ≠ 0 := by
         generalize (2 : Int) ^ d.Seq.Bits.toNat = N at z4 z5 ⊢
         omega
        have nb : 0 ≤ d.Seq.Bits := by omega
        rw [Xam, Xam, z2, Xa6 z1, Xa6 nz]
        unfold Xt6
        rw [z3, Xa6 nb, Xa6 nz, Xab]
        exact ⟨_, _, _, rfl, rfl, rfl, .inr ho⟩
  ·
   rw [e1, Xab, e2, Xab]
   simp only
   rw [Bool.not_false, Xav, Xav]
   exact fin (co := 5) rfl rfl
theorem Yce (d : Xak) (u : ByteArray) (h1 : d.Seq.Cols.length ≤ 1048576) (h2 : d.Seq.Rows.length ≤ 1048576) (hu : u.size ≤ 1048576) : ∃ (D : Xak) (co : Int) (P : Pic), Xgl d u = some (D, co, P) ∧ Xb9 d u = some (D, co, P) ∧ D.Seq.Cols.length ≤ 1048576 ∧ D.Seq.Rows.length ≤ 1048576 ∧ (P = ⟨0, 0, ⟨#[]⟩⟩ ∨ Xct P = true) := by
 have hm : maxLen = 9223372036854775807 := rfl
 obtain ⟨_, cp⟩ := Xt4 d.Seq h1 h2
 have cd : Xdd d = some d := by unfold Xdd; rw [cp, Xab]
 have key : ∀ {z x : Option (Xak × Int × Pic)} {D : Xak} {co : Int} {P : Pic}, z = some (D, co, P) → x = some (D, co, P) → D.Seq.Cols.length ≤ 1048576 → D.Seq.Rows.length ≤ 1048576 → (P = ⟨0, 0, ⟨#[]⟩⟩ ∨ Xct P = true) → ∃ (D : Xak) (co : Int) (P : Pic), z = some (D, co, P) ∧ (bnd x fun q1 => bnd (Xim q1.1.Seq) fun q2 => some ((⟨q1.1.HasSeq, q1.1.HasPar, q1.1.HasRef, q2, q1.1.Par, q1.1.Frame, q1.1.Got, q1.1.Now, q1.1.Ref⟩ : Xak), q1.2.1, q1.2.2)) = some (D, co, P) ∧ D.Seq.Cols.length ≤ 1048576 ∧ D.Seq.Rows.length ≤ 1048576 ∧ (P = ⟨0, 0, ⟨#[]⟩⟩ ∨ Xct P = true) := fun {z x D co P} e1 e2 l1 l2 hP => by
  refine ⟨D, co, P, e1, ?_, l1, l2, hP⟩
  rw [e2, Xab]
  simp only
  rw [(Xt4 D.Seq l1 l2).1, Xab]
 unfold Xgl Xb9 Xen
 rw [cd, Xab, Xx0 d (by omega) (by omega), Xab, Xlr, Xab]
 cases hd : Xe0 d with
 | false => exact key (D := d) (co := 1) rfl rfl h1 h2 (.inl rfl)
 | true =>
  rw [Bool.not_true, Xam, Xam]
  rcases Xwb u hu with ⟨k, L, hk, hb, hl, e1, e2⟩ | ⟨e1, e2⟩
  ·
   rw [e1, Xab, e2, Xab]
   simp only
   rw [Bool.not_true, Xam, Xam]
   unfold Xng at hk
   simp only [Bool.or_eq_true, beq_iff_eq] at hk
   have hz : ((0 : Nat) : Int) = 0 := rfl
   by_cases k7 : k = 7
   ·
    subst k7
    rw [Xbl (b := (7 : Int) == 7) (by rfl), Xbl (b := (7 : Int) == 7) (by rfl)]
    rcases Xst hb hl 0 (by omega) with ⟨q, j, r1, r2, hs, l1, l2, _⟩ | ⟨r1, r2⟩
    ·
     rw [hz] at r1 r2
     rw [r1, Xab, r2, Xab]
     simp only
     simp only [Xav, Xab]
     cases ((j : Int) != ((strOfNums L).size : Int)) with
     | true => exact key (D := d) (co := 3) rfl rfl h1 h2 (.inl rfl)
     | false => exact key (D := ⟨true, false, false, q, ⟨0, false, false, false⟩, -1, 0, ⟨0, 0, ⟨#[]⟩⟩, ⟨0, 0, ⟨#[]⟩⟩⟩) (co := 0) rfl rfl (by simp only; omega) (by simp only; omega) (.inl rfl)
    ·
     rw [hz] at r1 r2
     rw [r1, Xab, r2, Xab]
     simp only
     simp only [Xam, Xav, Xab]
     exact key (D := d) (co := 3) rfl rfl h1 h2 (.inl rfl)
   ·
    rw [Xbc (b := k == 7) (by rw [beq_eq_false_iff_ne]; exact k7), Xbc (b := k == 7) (by rw [beq_eq_false_iff_ne]; exact k7)]
    by_cases k8 : k = 8
    ·
     subst k8
     rw [Xbl (b := (8 : Int) == 8) (by rfl), Xbl (b := (8 : Int) == 8) (by rfl)]
     rcases Xss hb hl 0 (by omega) with ⟨q, j, r1, r2, hs, _⟩ | ⟨r1, r2⟩
     ·
      rw [hz] at r1 r2
      rw [r1, Xab, r2, Xab]
      simp only
      simp only [Xav, Xab]
      cases ((j : Int) != ((strOfNums L).size : Int)) with
      | true => exact key (D := d) (co := 3) rfl rfl h1 h2 (.inl rfl)
      | false =>
       simp only [Xam]
       cases hS : d.HasSeq with
       | false => exact key (D := d) (co := 4) rfl rfl h1 h2 (.inl rfl)
       | true =>
        simp only [Xav, Xab]
        cases decide (d.Got > 0) with
        | true => exact key (D := d) (co := 4) rfl rfl h1 h2 (.inl rfl)
        | false => exact key (D := ⟨true, true, d.HasRef, d.Seq, q, d.Frame, d.Got, d.Now, d.Ref⟩) (co := 0) rfl rfl h1 h2 (.inl rfl)
     ·
      rw [hz] at r1 r2
      rw [r1, Xab, r2, Xab]
      simp only
      simp only [Xam, Xav, Xab]
      exact key (D := d) (co := 3) rfl rfl h1 h2 (.inl rfl)
    ·
     rw [Xbc (b := k == 8) (by rw [beq_eq_false_iff_ne]; exact k8), Xbc (b := k == 8) (by rw [beq_eq_false_iff_ne]; exact k8)]
     obtain ⟨D, co, P, s1, s2, s3, s4⟩ := Ynh hb hl d hd (by omega) (by omega) k (by omega)
     rw [s1, Xab, s2, Xab]
     refine key (D := D) (co := co) (P := P) ?_ rfl (by rw [s3]; exact h1) (by rw [s3]; exact h2) s4
     simp only
     rw [← s3]
  ·
   rw [e1, Xab, e2, Xab]
   exact key (D := d) (co := 2) rfl rfl h1 h2 (.inl rfl)
abbrev Zeq := Int × Bool × Bool × Bool × Int × Int × Int × Bool × Bool × Bool × Int × Int × Int × Int × ByteArray × Int × Int × ByteArray × (List Pic) × (List Int) × (List Int) × (List Int)
def Yqk (k : Int) (d : Xak) (ps : List Pic) (cs : List Int) : Zeq := (k, d.HasSeq, d.HasPar, d.HasRef, d.Seq.Level, d.Seq.Bits, d.Par.Qp, d.Par.Large, d.Par.Exact, d.Par.Confined, d.Frame, d.Got, d.Now.Wide, d.Now.High, d.Now.Dots, d.Ref.Wide, d.Ref.High, d.Ref.Dots, ps, cs, d.Seq.Cols, d.Seq.Rows)
theorem Yxb (us : List ByteArray) (h400 : us.length ≤ 400) (hu : ∀ u ∈ us, u.size ≤ 1048576) : ∀ n k : Nat, k + n = us.length → ∀ (d : Xak) (ps : List Pic) (cs : List Int), d.Seq.Cols.length ≤ 1048576 → d.Seq.Rows.length ≤ 1048576 → ps.length ≤ k → cs.length = k →
  ∃ (D : Xak) (ps' : List Pic) (cs' : List Int), loop (Xjp us) (Yqk (k : Int) d ps cs) = some (Yqk 0 D ps' cs').2 ∧ loop (Xc3 us) (Yqk (k : Int) d ps cs) = some (Yqk 0 D ps' cs').2 ∧ D.Seq.Cols.length ≤ 1048576 ∧ D.Seq.Rows.length ≤ 1048576 ∧ ps'.length ≤ 400 ∧ cs'.length ≤ 400
 | 0, k, hk, d, ps, cs, h1, h2, hp, hc => by
  refine ⟨d, ps, cs, Xcn ?_, Xcn ?_, h1, h2, by omega, by omega⟩
  ·
   unfold Xjp Yqk
   simp only
   rw [snA]
  ·
   unfold Xc3 Yqk
   simp only
   rw [snA]
 | n + 1, k, hk, d, ps, cs, h1, h2, hp, hc => by
  have hm : maxLen = 9223372036854775807 := rfl
  have hz := hu (us.getD k Xb3) (by rw [Xb4 us k (by omega)]; exact List.getElem_mem _)
  obtain ⟨D, co, P, ei, es, d1, d2, hP⟩ := Yce d (us.getD k Xb3) h1 h2 hz
  have ei' : Xgl (⟨d.HasSeq, d.HasPar, d.HasRef, ⟨d.Seq.Level, d.Seq.Bits, d.Seq.Cols, d.Seq.Rows⟩, ⟨d.Par.Qp, d.Par.Large, d.Par.Exact, d.Par.Confined⟩, d.Frame, d.Got, ⟨d.Now.Wide, d.Now.High, d.Now.Dots⟩, ⟨d.Ref.Wide, d.Ref.High, d.Ref.Dots⟩⟩ : Xak) (us.getD k Xb3) = some (D, co, P) := ei
  have es' : Xb9 (⟨d.HasSeq, d.HasPar, d.HasRef, ⟨d.Seq.Level, d.Seq.Bits, d.Seq.Cols, d.Seq.Rows⟩, ⟨d.Par.Qp, d.Par.Large, d.Par.Exact, d.Par.Confined⟩, d.Frame, d.Got, ⟨d.Now.Wide, d.Now.High, d.Now.Dots⟩, ⟨d.Ref.Wide, d.Ref.High, d.Ref.Dots⟩⟩ : Xak) (us.getD k Xb3) = some (D, co, P) := es
  have hw : decide (P.Wide > 0) = Xct P := by
   rcases hP with h | h
   ·
    rw [h]; rfl
   ·
    obtain ⟨k1, _, _⟩ := Xby h
    rw [h]; exact decide_eq_true (by omega)
  have gI : Xjp us (Yqk (k : Int) d ps cs) = some (.go (Yqk ((k + 1 : Nat) : Int) D (if Xct P = true then ps ++ [P] else ps) (cs ++ [co]))) := by
   unfold Xjp Yqk
   simp only [Int.toNat_natCast]
   rw [syA, rqA, ei', Xab]
   simp only
   rw [Xa6 (by simp only [List.length_singleton]; omega), Xc5, Xab]
   cases Xct P with
   | true => rw [Xav, Xa6 (by simp only [List.length_singleton]; omega), Xab, wkA]; rfl
   | false => rw [Xam, Xab, wkA]; rfl
  have gS : Xc3 us (Yqk (k : Int) d ps cs) = some (.go (Yqk ((k + 1 : Nat) : Int) D (if Xct P = true then ps ++ [P] else ps) (cs ++ [co]))) := by
   unfold Xc3 Yqk
   simp only [Int.toNat_natCast]
   rw [syA, rqA, es', Xab]
   simp only
   rw [Xa6 (by simp only [List.length_singleton]; omega), hw]
   cases Xct P with
   | true => rw [Xav, Xa6 (by simp only [List.length_singleton]; omega), Xab, wkA]; rfl
   | false => rw [Xam, Xab, wkA]; rfl
  have hl : (if Xct P = true then ps ++ [P] else ps).length ≤ k + 1 := by
   split
   ·
    rw [List.length_append, List.length_singleton]; omega
   ·
    omega
  obtain ⟨D', ps', cs', r1, r2, r3⟩ := Yxb us h400 hu n (k + 1) (by omega) D _ (cs ++ [co]) d1 d2 hl (by rw [List.length_append, List.length_singleton]; omega)
  exact ⟨D', ps', cs', lgo gI r1, lgo gS r2, r3⟩
theorem Ys1 (d : Xak) (us : List ByteArray) (h1 : d.Seq.Cols.length ≤ 1048576) (h2 : d.Seq.Rows.length ≤ 1048576) (hu : ∀ u ∈ us, u.size ≤ 1048576) : ∃ (D : Xak) (ps : List Pic) (cs : List Int), Xwh d us = some (D, ps, cs) ∧ Xh9 d us = some (D, ps, cs) ∧ D.Seq.Cols.length ≤ 1048576 ∧ D.Seq.Rows.length ≤ 1048576 ∧ ps.length ≤ 400 ∧ cs.length ≤ 400 := by
 obtain ⟨c1, c2⟩ := Xt4 d.Seq h1 h2
 have cd : Xdd d = some d := by unfold Xdd; rw [c2, Xab]
 unfold Xwh Xh9
 rw [cd, Xab, c1, Xab]
 by_cases h4 : (us.length : Int) > 400
 ·
  rw [Xbm h4, Xbm h4]
  exact ⟨d, [], [], rfl, rfl, h1, h2, by simp, by simp⟩
 ·
  rw [Xax h4, Xax h4]
  obtain ⟨D, ps, cs, r1, r2, r3⟩ := Yxb us (by omega) hu us.length 0 (by omega) d [] [] h1 h2 (by simp) rfl
  refine ⟨D, ps, cs, (Xey r1).trans rfl, (Xey r2).trans rfl, r3⟩
theorem Yxe : ∀ n : Nat, ∀ c : List Int, c.length = n → Xe1 c → Xz5 n (Xhs c) = c
 | 0, c, h, _ => by rw [List.length_eq_zero_iff.1 h]; rfl
 | n + 1, c, h, hb => by
  have hne : c ≠ [] := fun e => by rw [e] at h; simp at h
  have hc := (List.dropLast_concat_getLast hne).symm
  have hl : c.dropLast.length = n := by rw [List.length_dropLast]; omega
  have ih := Yxe n c.dropLast hl (fun x hx => hb x (List.dropLast_subset c hx))
  have hx := hb _ (List.getLast_mem hne)
  generalize c.getLast hne = x at hc hx
  have hv : Xhs c = Xhs c.dropLast * 2 + (x - 48) := by
   rw [hc, Xr3, ← hc]
   show Xhs c.dropLast * 2 ^ 1 + Xhs [x] = _
   rw [show Xhs [x] = x - 48 by simp [Xhs], show (2 : Int) ^ 1 = 2 from rfl]
  rw [Xz5, hv, show (Xhs c.dropLast * 2 + (x - 48)) / 2 = Xhs c.dropLast by omega, show (48 : Int) + (Xhs c.dropLast * 2 + (x - 48)) % 2 = x by omega, ih]
  exact hc.symm
theorem Yq2 : ∀ (m : Nat) (V : List Int) (q : Nat), q < m → (Xqc m V).getD q 0 = Xhs ((V.drop (8 * q)).take 8)
 | 0, _, _, h => by omega
 | m + 1, V, 0, _ => rfl
 | m + 1, V, q + 1, h => by
  rw [Xqc, List.getD_cons_succ, Yq2 m (V.drop 8) q (by omega), List.drop_drop, show 8 + 8 * q = 8 * (q + 1) by omega]
theorem Xrc : ∀ (m : Nat) (V : List Int), Xe1 V → Yvu (Xqc m V)
 | 0, _, _ => fun x hx => by simp [Xqc] at hx
 | m + 1, V, h => fun x hx => by
  rw [Xqc] at hx
  rcases List.mem_cons.1 hx with rfl | hx
  ·
   have r := Xj5 (l := V.take 8) (fun x hx => h x (List.mem_of_mem_take hx))
   have h8 : (V.take 8).length ≤ 8 := by rw [List.length_take]; omega
   have hp : (2 : Int) ^ (V.take 8).length ≤ 2 ^ 8 := by
    have : ∀ k : Fin 9, (2 : Int) ^ k.val ≤ 2 ^ 8 := by decide
    exact this ⟨(V.take 8).length, by omega⟩
   have e8 : (2 : Int) ^ 8 = 256 := rfl
   omega
  ·
   exact Xrc m (V.drop 8) (fun x hx => h x (List.mem_of_mem_drop hx)) x hx
theorem Zbt (V : List Int) (a n k : Nat) (h : k < n) : ((V.drop a).take n).getD k 0 = V.getD (a + k) 0 := by
 rw [List.getD_eq_getElem?_getD, List.getD_eq_getElem?_getD, List.getElem?_take_of_lt h, List.getElem?_drop]
theorem Yzi (V : List Int) (hb : Xe1 V) (m : Nat) (hV : V.length = 8 * m) (i : Nat) (hi : i < 8 * m) : Xz9 (strOfNums (Xqc m V)) i = V.getD i 0 := by
 have hc := Xrc m V hb
 unfold Xz9
 rw [Xsw _ hc (i / 8) (by rw [Yaa]; omega), Yq2 m V (i / 8) (by omega)]
 have h8 : ((V.drop (8 * (i / 8))).take 8).length = 8 := by rw [List.length_take, List.length_drop]; omega
 have hcb : Xe1 ((V.drop (8 * (i / 8))).take 8) := fun x hx => hb x (List.mem_of_mem_drop (List.mem_of_mem_take hx))
 have hr := Xj5 hcb
 rw [h8] at hr
 have e8 : (2 : Int) ^ 8 = 256 := rfl
 have f1 := Yxe 8 _ h8 hcb
 rw [Zef _ ⟨hr.1, by omega⟩] at f1
 have f2 : (_ : Int) = _ := congrArg (fun l => List.getD l (i % 8) 0) f1
 rw [Xj8 _ (by omega), Zbt V _ _ _ (by omega), show 8 * (i / 8) + i % 8 = i by omega] at f2
 exact f2
theorem Yx8 (L : List Int) : ∃ z, L ++ 49 :: List.replicate (8 * (L.length / 8 + 1) - L.length - 1) 48 = L ++ 49 :: List.replicate z 48 ∧ z ≤ 7 ∧ L.length + 1 + z = 8 * (L.length / 8 + 1) := ⟨_, rfl, by omega, by omega⟩
theorem Yqy (L : List Int) (hb : Xe1 L) : ∃ z, Xjl (strOfNums (Xqa L)) = L ++ 49 :: List.replicate z 48 ∧ L.length + 1 + z = 8 * (L.length / 8 + 1) := by
 obtain ⟨z, h1, h2, h3⟩ := Yx8 L
 refine ⟨z, ?_, h3⟩
 have hV : Xe1 (L ++ 49 :: List.replicate z 48) := Xa9 hb (fun x hx => by
  rcases List.mem_cons.1 hx with rfl | hx
  ·
   exact .inr rfl
  ·
   exact Xxp z x hx)
 have hl : (L ++ 49 :: List.replicate z 48).length = 8 * (L.length / 8 + 1) := by
  rw [List.length_append, List.length_cons, List.length_replicate]; omega
 refine List.ext_getElem (by rw [Xqb, strOfNums_size, Xka, hl]) fun i i1 i2 => ?_
 rw [Xqb, strOfNums_size, Xka] at i1
 have e1 : (Xjl (strOfNums (Xqa L)))[i] = (Xjl (strOfNums (Xqa L))).getD i 0 := (Xb4 _ _ (by rw [Xqb, strOfNums_size, Xka]; exact i1) 0).symm
 have e2 : (L ++ 49 :: List.replicate z 48)[i] = (L ++ 49 :: List.replicate z 48).getD i 0 := (Xb4 _ _ i2 0).symm
 rw [e1, e2, Xxq _ (by rw [strOfNums_size, Xka]; exact i1)]
 unfold Xqa
 rw [h1]
 exact Yzi _ hV _ hl i i1
theorem Yuc : ∀ b : Fin 256, ∀ k : Fin 8, 48 + ((b.val : Int) / 2 ^ (7 - k.val)) % 2 = 49 → b.val ≠ 0 := by decide +kernel
theorem Yn6 (L : List Int) (hb : Xe1 L) (hl : L.length ≤ 400000) : Xe8 (strOfNums (Xqa L)) = some (strOfNums L, true) := by
 obtain ⟨z, h1, h3⟩ := Yqy L hb
 have hs : (strOfNums (Xqa L)).size = L.length / 8 + 1 := by rw [strOfNums_size, Xka]
 generalize hS : strOfNums (Xqa L) = s at h1 hs
 have k2 : (Xjl s).getD L.length 0 = 49 := by
  rw [h1]
  have := Ynq L (49 :: List.replicate z 48) 0
  rw [Nat.add_zero] at this
  rw [this]; rfl
 have k3 : ∀ j, L.length + 1 ≤ j → j < 8 * s.size → (Xjl s).getD j 0 = 48 := fun j j1 j2 => by
  rw [h1]
  have := Ynq L (49 :: List.replicate z 48) (j - L.length)
  rw [show L.length + (j - L.length) = j by omega] at this
  rw [this, show j - L.length = (j - L.length - 1) + 1 by omega, List.getD_cons_succ, Xb4 _ _ (by rw [List.length_replicate]; omega) 0, List.getElem_replicate]
 have hb0 := Xpm s ((s.size : Int) - 1)
 have hz : (Xl2 s ((s.size : Int) - 1) == 0) = false := by
  rw [beq_eq_false_iff_ne]
  intro h0
  have hk := k2
  rw [Xxq s (by omega)] at hk
  unfold Xz9 at hk
  rw [show L.length / 8 = s.size - 1 by omega, show (((s.size - 1 : Nat)) : Int) = (s.size : Int) - 1 by omega, h0] at hk
  exact Yuc ⟨0, by omega⟩ ⟨L.length % 8, by omega⟩ hk rfl
 unfold Xe8
 rw [wkA (e := 8 * (s.size : Int)), Xbc (b := (8 * (s.size : Int)) == 0) (by rw [beq_eq_false_iff_ne]; omega), wkA (e := (s.size : Int) - 1), Xa6 (show 0 ≤ (s.size : Int) - 1 ∧ (s.size : Int) - 1 < s.size by omega), hz, Xam, decide_eq_false (by omega), Xab, Xam, Xa6 (show 0 ≤ (0 : Int) ∧ (0 : Int) ≤ 8 * (s.size : Int) ∧ 8 * (s.size : Int) * 1 ≤ 281474976710656 by omega), show (List.replicate (0 : Int).toNat (0 : Int)) = [] from rfl, Xpn s (by omega), Xab]
 have hbl := Xqb s
 have lI : loop (Xcd (Xjl s)) (8 * (s.size : Int)) = some ((L.length + 1 : Nat) : Int) := by
  have key : ∀ m : Nat, L.length + 1 + m ≤ 8 * s.size → loop (Xcd (Xjl s)) ((L.length + 1 + m : Nat) : Int) = some ((L.length + 1 : Nat) : Int) := by
   intro m
   induction m with
   | zero =>
    intro _
    refine Xcn ?_
    unfold Xcd
    rw [wkA, rqA, rqA, show (((L.length + 1 + 0 : Nat) : Int) - 1).toNat = L.length by omega, k2]
    rfl
   | succ m ih =>
    intro hm
    refine lgo ?_ (ih (by omega))
    unfold Xcd
    rw [wkA, rqA, rqA, show (((L.length + 1 + (m + 1) : Nat) : Int) - 1).toNat = L.length + 1 + m by omega, k3 _ (by omega) (by omega), show ((L.length + 1 + (m + 1) : Nat) : Int) - 1 = ((L.length + 1 + m : Nat) : Int) by omega]
    rfl
  have := key (8 * s.size - (L.length + 1)) (by omega)
  rwa [show ((L.length + 1 + (8 * s.size - (L.length + 1)) : Nat) : Int) = 8 * (s.size : Int) by omega] at this
 rw [lI, Xab, wkA (e := ((L.length + 1 : Nat) : Int) - 1), show ((L.length + 1 : Nat) : Int) - 1 = (L.length : Int) by omega, snA, rqA, rqA]
 have ht : (Xjl s).take L.length = L := by rw [h1, List.take_left]
 simp only [Int.toNat_natCast, Int.toNat_zero, Nat.sub_zero, List.drop_zero]
 rw [ht]
theorem Ysw {k : Int} (hk : Xng k = true) (L : List Int) (hb : Xe1 L) : Yvu (k :: Xqa L) := fun x hx => by
 have hi := Yib hk
 rcases List.mem_cons.1 hx with rfl | hx
 ·
  omega
 ·
  obtain ⟨z, h1, _, h3⟩ := Yx8 L
  unfold Xqa at hx
  rw [h1] at hx
  exact Xrc _ _ (Xa9 hb (fun y hy => by
   rcases List.mem_cons.1 hy with rfl | hy
   ·
    exact .inr rfl
   ·
    exact Xxp z y hy)) x hx
theorem Yqu {k : Int} (hk : Xng k = true) (L : List Int) (hb : Xe1 L) (hl : L.length ≤ 400000) : Xgw (strOfNums (k :: Xqa L)) = some (k, strOfNums L, true) := by
 have hby := Ysw hk L hb
 have hsz : (strOfNums (k :: Xqa L)).size = L.length / 8 + 2 := by rw [strOfNums_size, List.length_cons, Xka]
 have hne : ((strOfNums (k :: Xqa L)).toList == (⟨#[]⟩ : ByteArray).toList) = false := by
  rw [beq_eq_false_iff_ne]
  intro h
  rw [Ycb.1 h] at hsz
  have : (⟨#[]⟩ : ByteArray).size = 0 := rfl
  omega
 have b0 : Xl2 (strOfNums (k :: Xqa L)) 0 = k := Xsw _ hby 0 (by simp)
 have hi := Yib hk
 have hx : (strOfNums (k :: Xqa L)).extract (1 : Int).toNat (((strOfNums (k :: Xqa L)).size : Int)).toNat = strOfNums (Xqa L) := by
  rw [show k :: Xqa L = [k] ++ Xqa L from rfl, ← Xbu]
  have h1 : (strOfNums [k]).size = 1 := by rw [strOfNums_size]; rfl
  rw [ByteArray.size_append, h1]
  have : (1 : Int).toNat = (strOfNums [k]).size := by rw [h1]; rfl
  rw [this, show (((1 + (strOfNums (Xqa L)).size : Nat)) : Int).toNat = (strOfNums [k]).size + (strOfNums (Xqa L)).size by rw [h1]; omega]
  exact ByteArray.extract_append_eq_right rfl rfl
 have hiw : Xaa .i64 k = k := wkA
 have r0 : ∀ {β : Type} (x : Option β), req (0 ≤ (0 : Int) ∧ (0 : Int) < ((strOfNums (k :: Xqa L)).size : Int)) x = x := fun x => rqA
 have r1 : ∀ {β : Type} (x : Option β), req (0 ≤ (1 : Int) ∧ (1 : Int) ≤ ((strOfNums (k :: Xqa L)).size : Int) ∧ ((strOfNums (k :: Xqa L)).size : Int) ≤ ((strOfNums (k :: Xqa L)).size : Int)) x = x := fun x => rqA
 unfold Xgw
 rw [hne, Xam]
 simp only [r0, r1, b0, hiw, Xvi, hk, Xab, Bool.not_true, Xam, hx, Yn6 L hb hl]
theorem Xwa {k : Int} (hk : Xng k = true) (L : List Int) (hb : Xe1 L) (hl : L.length ≤ 400000) : Xgw (strOfNums (k :: Xqa L)) = some (k, strOfNums L, true) ∧ Xkj (strOfNums (k :: Xqa L)) = some (k, strOfNums L, true) := by
 have hsz : (strOfNums (k :: Xqa L)).size = L.length / 8 + 2 := by rw [strOfNums_size, List.length_cons, Xka]
 have hI := Yqu hk L hb hl
 refine ⟨hI, ?_⟩
 rcases Xwb (strOfNums (k :: Xqa L)) (by omega) with ⟨kd, M, _, _, _, e1, e2⟩ | ⟨e1, e2⟩
 ·
  rw [hI] at e1
  rw [e2, ← e1]
 ·
  rw [hI] at e1
  have := congrArg (fun o => o.map fun x => x.2.2) e1
  simp at this
theorem Yqe : ∀ (w : Nat) (n : Int), 0 ≤ n → n < 2 ^ w → Xhs (Xz5 w n) = n
 | 0, n, h0, h1 => by
  have : (2 : Int) ^ 0 = 1 := rfl
  rw [show n = 0 by omega]; rfl
 | w + 1, n, h0, h1 => by
  rw [Int.pow_succ] at h1
  rw [Xz5, Xr3, Yqe w (n / 2) (by omega) (by omega)]
  show n / 2 * 2 ^ 1 + Xhs [48 + n % 2] = n
  rw [show Xhs [48 + n % 2] = n % 2 from (by simp only [Xhs, List.foldl_cons, List.foldl_nil]; omega), show (2 : Int) ^ 1 = 2 from rfl]
  omega
theorem Yuw {L : List Int} (hb : Xe1 L) (hl : L.length ≤ 400000) (q1 : Int × Xk7) (l : List Int) (ha : l.all Xfj = true) (h4 : l.length ≤ 4) (hq : q1.1 = (l.length : Int)) (b : List Int) : ∀ (r pre a : List Int), l = pre ++ r → L = a ++ (Yvl r ++ b) → loop (Xa4 q1) ((pre.length : Int), strOfNums L, (a.length : Int), false, pre) = some (l, strOfNums L, ((a.length + (Yvl r).length : Nat) : Int), false)
 | [], pre, a, h1, h2 => by
  refine Xcn ?_
  rw [List.append_nil] at h1
  unfold Xa4
  simp only
  rw [hq, h1, snA, Xab, Xam]
  rfl
 | x :: r, pre, a, h1, h2 => by
  have hm : maxLen = 9223372036854775807 := rfl
  have hlen : l.length = pre.length + (r.length + 1) := by rw [h1]; simp
  have hx : Xfj x = true := List.all_eq_true.1 ha x (by rw [h1]; simp)
  have hx : 1 ≤ x ∧ x ≤ 8 := by simpa [Xfj] using hx
  rw [Yvl, List.append_assoc] at h2
  have e := Xja h2 hb hl (by omega)
  have ih := Yuw hb hl q1 l ha h4 hq b r (pre ++ [x]) (a ++ ueL x.toNat) (by rw [h1]; simp) (by rw [h2]; simp only [List.append_assoc])
  refine lgo ?_ (ih.trans ?_)
  ·
   unfold Xa4
   simp only
   rw [hq, syA, Bool.not_false, Xab, Xav, e, Xab]
   simp only
   rw [Xa6 (by simp only [List.length_singleton]; omega), wkA, List.length_append, List.length_append, List.length_singleton, show ((x.toNat : Nat) : Int) = x by omega]
   rfl
  ·
   rw [Yvl, List.length_append, List.length_append, Nat.add_assoc]
theorem Ycx {L a b l : List Int} (hL : L = a ++ (Xrq l ++ b)) (hb : Xe1 L) (hl : L.length ≤ 400000) (ho : Xeu l = true) : Xck ⟨strOfNums L, (a.length : Int), false⟩ = some (l, ⟨strOfNums L, ((a.length + (Xrq l).length : Nat) : Int), false⟩) := by
 have h4 := Xbj ho
 unfold Xeu at ho
 rw [Bool.and_eq_true] at ho
 unfold Xrq at hL ⊢
 rw [List.append_assoc] at hL
 have e := Xja hL hb hl (by omega)
 unfold Xck
 rw [e, Xab]
 simp only
 rw [snA, Xab]
 have := Yuw hb hl ((l.length : Int), ⟨strOfNums L, ((a.length + (ueL l.length).length : Nat) : Int), false⟩) l ho.2 h4.2 rfl b l [] (a ++ ueL l.length) rfl (by rw [hL]; simp only [List.append_assoc])
 rw [List.length_append] at this
 refine (Xey this).trans ?_
 rw [List.length_append, Nat.add_assoc]
theorem Xuk {s : Seq} (h : Xf7 s = true) : (Xxi s).length ≤ 400000 := by have := Yvd h; omega
theorem Yoc {s : Seq} (h : Xf7 s = true) : Xdv (strOfNums (Xxi s)) 0 = some (s, ((Xxi s).length : Int), true) := by
 have hm : maxLen = 9223372036854775807 := rfl
 have hb := Xy5 s
 have hl := Xuk h
 obtain ⟨s1, s2, b1, b2⟩ := Xbf h
 have lv := Xwz h
 have c1 := Xbj s1
 have c2 := Xbj s2
 have p1 : Xxi s = [] ++ (ueL s.Level.toNat ++ (Xz5 4 s.Bits ++ Xrq s.Cols ++ Xrq s.Rows)) := by unfold Xxi; simp only [List.nil_append, List.append_assoc]
 have p2 : Xxi s = ueL s.Level.toNat ++ (Xz5 4 s.Bits ++ (Xrq s.Cols ++ Xrq s.Rows)) := by unfold Xxi; simp only [List.append_assoc]
 have p3 : Xxi s = (ueL s.Level.toNat ++ Xz5 4 s.Bits) ++ (Xrq s.Cols ++ Xrq s.Rows) := by unfold Xxi; simp only [List.append_assoc]
 have p4 : Xxi s = (ueL s.Level.toNat ++ Xz5 4 s.Bits ++ Xrq s.Cols) ++ (Xrq s.Rows ++ []) := by unfold Xxi; simp only [List.append_assoc, List.append_nil]
 have hlen : (Xxi s).length = (ueL s.Level.toNat).length + 4 + (Xrq s.Cols).length + (Xrq s.Rows).length := by unfold Xxi; simp only [List.length_append, Xc4]
 generalize Xxi s = L at *
 have e1 := Xja p1 hb hl (by omega)
 have e2 := Xh2 p2 hb hl (by rw [Xc4]; omega)
 have e3 := Ycx p3 hb hl s1
 have e4 := Ycx p4 hb hl s2
 rw [Xc4, Yqe 4 s.Bits (by omega) (by have : (2 : Int) ^ 4 = 16 := rfl; omega)] at e2
 rw [List.length_append, Xc4] at e3
 rw [List.length_append, List.length_append, Xc4] at e4
 rw [List.length_nil, Nat.zero_add] at e1
 have o := Xo0 hb hl 0 (by omega)
 unfold Xdv
 rw [show (0 : Int) = ((0 : Nat) : Int) from rfl, o, Xab, e1, Xab]
 simp only
 rw [show (4 : Int) = ((4 : Nat) : Int) from rfl, e2, Xab]
 simp only
 rw [e3, Xab]
 simp only
 rw [e4, Xab]
 simp only
 rw [Xam, show ((s.Level.toNat : Nat) : Int) = s.Level by omega, show (⟨s.Level, s.Bits, s.Cols, s.Rows⟩ : Seq) = s from rfl, Xff _ (by omega) (by omega), Xab, h, Xab, hlen]
 rfl
theorem Yqp {s : Seq} (h : Xf7 s = true) : Xdv (strOfNums (Xxi s)) 0 = some (s, ((Xxi s).length : Int), true) ∧ Xd1 (strOfNums (Xxi s)) 0 = some (s, ((Xxi s).length : Int), true) := by
 have hb := Xy5 s
 have hl := Xuk h
 have hI := Yoc h
 generalize Xxi s = L at *
 refine ⟨hI, ?_⟩
 rcases Xst hb hl 0 (by omega) with ⟨q, j, r1, r2, _⟩ | ⟨_, r2⟩
 ·
  have r1' : Xd1 (strOfNums L) 0 = _ := r1
  have r2' : Xdv (strOfNums L) 0 = _ := r2
  rw [hI] at r2'
  rw [r1', ← r2']
 ·
  have r2' : Xdv (strOfNums L) 0 = _ := r2
  rw [hI] at r2'
  have := congrArg (fun o => o.map fun x => x.2.2) r2'
  simp at this
theorem Zac (b : Bool) : Xhs (Xp5 b) = if b = true then 1 else 0 := by cases b <;> rfl
theorem Yob {p : Par} (h : Xlo p = true) : Xdu (strOfNums (Yd5 p)) 0 = some (p, 9, true) := by
 have hb := Xyx p
 have hl9 := Xud p
 have hl : (Yd5 p).length ≤ 400000 := by omega
 have hq := Xue h
 have p1 : Yd5 p = [] ++ (Xz5 6 p.Qp ++ (Xp5 p.Large ++ Xp5 p.Exact ++ Xp5 p.Confined)) := by unfold Yd5; simp only [List.nil_append, List.append_assoc]
 have p2 : Yd5 p = Xz5 6 p.Qp ++ (Xp5 p.Large ++ (Xp5 p.Exact ++ Xp5 p.Confined)) := by unfold Yd5; simp only [List.append_assoc]
 have p3 : Yd5 p = (Xz5 6 p.Qp ++ Xp5 p.Large) ++ (Xp5 p.Exact ++ Xp5 p.Confined) := by unfold Yd5; simp only [List.append_assoc]
 have p4 : Yd5 p = (Xz5 6 p.Qp ++ Xp5 p.Large ++ Xp5 p.Exact) ++ (Xp5 p.Confined ++ []) := by unfold Yd5; simp only [List.append_assoc, List.append_nil]
 generalize Yd5 p = L at *
 have e1 := Xh2 p1 hb hl (by rw [Xc4]; omega)
 have e2 := Xh2 p2 hb hl (by rw [Xnk]; omega)
 have e3 := Xh2 p3 hb hl (by rw [Xnk]; omega)
 have e4 := Xh2 p4 hb hl (by rw [Xnk]; omega)
 simp only [List.length_append, Xc4, Xnk, Zac, List.length_nil] at e1 e2 e3 e4
 rw [Yqe 6 p.Qp (by omega) (by have : (2 : Int) ^ 6 = 64 := rfl; omega)] at e1
 have o := Xo0 hb hl 0 (by omega)
 unfold Xdu
 rw [show (0 : Int) = ((0 : Nat) : Int) from rfl, o, Xab, show (6 : Int) = ((6 : Nat) : Int) from rfl, e1, Xab]
 simp only
 rw [show (1 : Int) = ((1 : Nat) : Int) from rfl, e2, Xab]
 simp only
 rw [e3, Xab]
 simp only
 rw [e4, Xab]
 simp only
 have hbit : ∀ b : Bool, ((if b = true then (1 : Int) else 0) == ((1 : Nat) : Int)) = b := fun b => by cases b <;> rfl
 rw [hbit, hbit, hbit, Xam, show (⟨p.Qp, p.Large, p.Exact, p.Confined⟩ : Par) = p from rfl, Xi2, Xab, h, Xab]
 rfl
theorem Yqo {p : Par} (h : Xlo p = true) : Xdu (strOfNums (Yd5 p)) 0 = some (p, 9, true) ∧ Xd0 (strOfNums (Yd5 p)) 0 = some (p, 9, true) := by
 have hb := Xyx p
 have hl9 := Xud p
 have hI := Yob h
 generalize Yd5 p = L at *
 have hl : L.length ≤ 400000 := by omega
 refine ⟨hI, ?_⟩
 rcases Xss hb hl 0 (by omega) with ⟨q, j, r1, r2, _⟩ | ⟨_, r2⟩
 ·
  have r1' : Xd0 (strOfNums L) 0 = _ := r1
  have r2' : Xdu (strOfNums L) 0 = _ := r2
  rw [hI] at r2'
  rw [r1', ← r2']
 ·
  have r2' : Xdu (strOfNums L) 0 = _ := r2
  rw [hI] at r2'
  have := congrArg (fun o => o.map fun x => x.2.2) r2'
  simp at this
def Xqe (q : Seq) (p : Par) (h : Xq8) : List Int := ueL h.Tile.toNat ++ Xz5 q.Bits.toNat h.Frame ++ seL (h.Qp - p.Qp)
theorem Yrg (q : Seq) (p : Par) (h : Xq8) : Xe1 (Xqe q p h) := Xa9 (Xa9 (Xn1 _) (Xxv _ _)) (Xn1 _)
theorem Xgk {q : Seq} {p : Par} {h : Xq8} (hh : Xl4 q p h = true) : Xf7 q = true ∧ Xlo p = true ∧ (0 ≤ h.Tile ∧ h.Tile < Xbn q) ∧ (0 ≤ h.Frame ∧ h.Frame < 2 ^ q.Bits.toNat) ∧ (0 ≤ h.Qp ∧ h.Qp ≤ 40) := by
 unfold Xl4 at hh
 simp only [Bool.and_eq_true, decide_eq_true_eq] at hh
 exact hh
theorem Yrh {q : Seq} {p : Par} {h : Xq8} (hh : Xl4 q p h = true) : (Xqe q p h).length ≤ 200 := by
 obtain ⟨hs, hp, ht, hf, hq⟩ := Xgk hh
 obtain ⟨_, _, b1, b2⟩ := Xbf hs
 have hr := Xei hs
 have pq := Xue hp
 have u := Xg2 h.Tile.toNat (by omega)
 have z := Xrv (h.Qp - p.Qp) (by omega)
 unfold Xqe
 simp only [List.length_append, Xc4]
 omega
theorem Yje {q : Seq} {p : Par} {h : Xq8} (hh : Xl4 q p h = true) : Xno q p h = some (strOfNums (Xqe q p h), true) := by
 obtain ⟨hs, hp, ht, hf, hq⟩ := Xgk hh
 obtain ⟨_, _, b1, b2⟩ := Xbf hs
 obtain ⟨_, _, _, w4, _⟩ := Xhc q.Bits ⟨b1, b2⟩
 have hr := Xei hs
 have pq := Xue hp
 unfold Xno
 have fl := Xc4 q.Bits.toNat h.Frame
 have u := Xg2 h.Tile.toNat (by omega)
 have z := Xrv (h.Qp - p.Qp) (by omega)
 rw [Xvr, Xab, hh, Bool.not_true, Xam, show h.Tile = ((h.Tile.toNat : Nat) : Int) by omega, Xeh _ (by omega), Xab, show q.Bits = ((q.Bits.toNat : Nat) : Int) by omega, Xm3 h.Frame _ hf.1 (by omega) (by omega), Xab, wkA (e := h.Qp - p.Qp), Xa6 (by simp only [strOfNums_size]; omega), Xoi _ (by omega), Xab, Xbu, Xa6 (by simp only [strOfNums_size, List.length_append]; omega), Xbu]
 rfl
theorem Yk1 {q : Seq} {p : Par} {h : Xq8} {L R : List Int} (hh : Xl4 q p h = true) (hL : L = Xqe q p h ++ R) (hb : Xe1 L) (hl : L.length ≤ 400000) : Xec q p (strOfNums L) = some (h, ((Xqe q p h).length : Int), true) := by
 have hm : maxLen = 9223372036854775807 := rfl
 obtain ⟨hs, hp, ht, hf, hq⟩ := Xgk hh
 obtain ⟨s1, s2, b1, b2⟩ := Xbf hs
 obtain ⟨_, _, _, w4, _⟩ := Xhc q.Bits ⟨b1, b2⟩
 have hr := Xei hs
 have pq := Xue hp
 have c1 := Xbj s1
 have c2 := Xbj s2
 have p1 : L = [] ++ (ueL h.Tile.toNat ++ (Xz5 q.Bits.toNat h.Frame ++ seL (h.Qp - p.Qp) ++ R)) := by rw [hL]; unfold Xqe; simp only [List.nil_append, List.append_assoc]
 have p2 : L = ueL h.Tile.toNat ++ (Xz5 q.Bits.toNat h.Frame ++ (seL (h.Qp - p.Qp) ++ R)) := by rw [hL]; unfold Xqe; simp only [List.append_assoc]
 have p3 : L = (ueL h.Tile.toNat ++ Xz5 q.Bits.toNat h.Frame) ++ (seL (h.Qp - p.Qp) ++ R) := by rw [hL]; unfold Xqe; simp only [List.append_assoc]
 have e1 := Xja p1 hb hl (by omega)
 have e2 := Xh2 p2 hb hl (by rw [Xc4]; omega)
 have e3 := Xuj p3 hb hl (by omega)
 rw [Xc4, Yqe _ h.Frame hf.1 hf.2] at e2
 rw [List.length_append, Xc4] at e3
 rw [List.length_nil, Nat.zero_add] at e1
 have hlen : (Xqe q p h).length = (ueL h.Tile.toNat).length + q.Bits.toNat + (seL (h.Qp - p.Qp)).length := by unfold Xqe; simp only [List.length_append, Xc4]
 have o := Xo0 hb hl 0 (by omega)
 unfold Xec
 rw [show (0 : Int) = ((0 : Nat) : Int) from rfl, o, Xab, Xff _ (by omega) (by omega), Xab, hs, Xav, Xi2, Xab, hp, Xab, Bool.not_true, Xam, e1, Xab]
 simp only
 rw [show q.Bits = ((q.Bits.toNat : Nat) : Int) by omega, e2, Xab]
 simp only
 rw [e3, Xab]
 simp only
 rw [Xam, wkA, show h.Qp - p.Qp + p.Qp = h.Qp by omega, show ((h.Tile.toNat : Nat) : Int) = h.Tile by omega, show (⟨h.Tile, h.Frame, h.Qp⟩ : Xq8) = h from rfl, Xu9 _ _ _ (by omega) (by omega), Xab, hh, Xab, hlen]
 rfl
theorem Yoa {q : Seq} {p : Par} {h : Xq8} {L R : List Int} (hh : Xl4 q p h = true) (hL : L = Xqe q p h ++ R) (hb : Xe1 L) (hl : L.length ≤ 400000) : Xec q p (strOfNums L) = some (h, ((Xqe q p h).length : Int), true) ∧ Xfl q p (strOfNums L) = some (h, ((Xqe q p h).length : Int), true) := by
 have hm : maxLen = 9223372036854775807 := rfl
 obtain ⟨hs, hp, ht, hf, hq⟩ := Xgk hh
 obtain ⟨s1, s2, b1, b2⟩ := Xbf hs
 have c1 := Xbj s1
 have c2 := Xbj s2
 have hI := Yk1 hh hL hb hl
 refine ⟨hI, ?_⟩
 rcases Xq9 hb hl q p (by omega) (by omega) with ⟨g, j, r1, r2, _⟩ | ⟨_, r2⟩
 ·
  rw [hI] at r2
  rw [r1, ← r2]
 ·
  rw [hI] at r2
  have := congrArg (fun o => o.map fun x => x.2.2) r2
  simp at this
theorem Yqq {l : List Xar} {c : Xf0} {A L : List Int} (hs : Ykr l c = true) (hc : Xg3 c = true) (hl : 1 ≤ l.length ∧ l.length ≤ 64) (hL : L = A ++ Xk6 l c) (hb : Xe1 L) (hL4 : L.length ≤ 400000) : Xfe (strOfNums L) (A.length : Int) (l.length : Int) c = some (l, true) := by
 have hm : maxLen = 9223372036854775807 := rfl
 have key : ∀ (r pre : List Xar) (a : List Int), l = pre ++ r → L = a ++ Xk6 r c → loop (Xbe (l.length : Int) c) ((pre.length : Int), strOfNums L, (a.length : Int), false, pre) = some (.out (strOfNums L, (L.length : Int), false, l)) := by
  intro r
  induction r with
  | nil =>
   intro pre a h1 h2
   refine Xcn ?_
   rw [List.append_nil] at h1
   rw [Xk6, List.append_nil] at h2
   unfold Xbe
   simp only
   rw [Xax (by rw [h1]; omega), h1, h2]
  | cons s r ih =>
   intro pre a h1 h2
   have hlen : l.length = pre.length + (r.length + 1) := by rw [h1]; simp
   have hmem : s ∈ l := by rw [h1]; simp
   have hq := List.all_eq_true.1 hs s hmem
   simp only [Bool.and_eq_true] at hq
   obtain ⟨q1, q2, q3⟩ := hq
   rw [Xk6] at h2
   have hsc := Ylx h2 hb hL4 q1 q3
   have := ih (pre ++ [s]) (a ++ sqL s c) (by rw [h1]; simp) (by rw [h2]; simp only [List.append_assoc])
   refine lgo ?_ this
   unfold Xbe
   simp only
   rw [syA, hsc, Xab]
   simp only
   rw [Xa6 (by simp only [List.length_singleton]; omega), Xam, wkA, List.length_append, List.length_append, List.length_singleton]
   rfl
 have := key l [] A rfl hL
 have hA : A.length ≤ L.length := by rw [hL, List.length_append]; omega
 unfold Xfe
 rw [Xo0 hb hL4 A.length hA, Xab, Xaj, Xab, decide_eq_true (by omega), Xav, Xdm, Xab, hc, Xab, Bool.not_true, Xam]
 refine (Xey this).trans ?_
 simp only
 rw [strOfNums_size, bne_self_eq_false, Xam]
theorem Ys3 {l : List Xar} {c : Xf0} {A L : List Int} (hs : Ykr l c = true) (hc : Xg3 c = true) (hl : 1 ≤ l.length ∧ l.length ≤ 64) (hL : L = A ++ Xk6 l c) (hb : Xe1 L) (hL4 : L.length ≤ 400000) : Xfe (strOfNums L) (A.length : Int) (l.length : Int) c = some (l, true) ∧ Xgz (strOfNums L) (A.length : Int) (l.length : Int) c = some (l, true) := by
 have hI := Yqq hs hc hl hL hb hL4
 refine ⟨hI, ?_⟩
 obtain ⟨l', b', r1, r2, _⟩ := Xra (strOfNums L) (A.length : Int) (l.length : Int) c
 rw [hI] at r1
 rw [r2, ← r1]
abbrev Xoz : Pic := ⟨0, 0, ⟨#[]⟩⟩
def Xh6 (d : Xak) (h : Xq8) (o : Pic) : Xak × Int × Pic :=
 if d.Got + 1 < Xbn d.Seq then (⟨d.HasSeq, d.HasPar, d.HasRef, d.Seq, d.Par, h.Frame, d.Got + 1, o, d.Ref⟩, 0, Xoz)
 else (⟨d.HasSeq, d.HasPar, true, d.Seq, d.Par, (h.Frame + 1) % 2 ^ d.Seq.Bits.toNat, 0, Xoz, o⟩, 0, o)
def Ya5 (d : Xak) : Pic := if d.Got = 0 then Yzv (Xh4 d.Seq).1 (Xh4 d.Seq).2 else d.Now
theorem Yt0 (d : Xak) (h : Xq8) (o : Pic) : (Xh6 d h o).2.1 = 0 := by
 unfold Xh6
 split <;> rfl
theorem Xsx {d : Xak} (hd : Xe0 d = true) (hp : d.HasPar = true) : d.HasSeq = true ∧ Xf7 d.Seq = true ∧ Xlo d.Par = true ∧ (-1 ≤ d.Frame ∧ d.Frame < 2 ^ d.Seq.Bits.toNat) ∧ (0 ≤ d.Got ∧ d.Got < Xbn d.Seq) ∧ (0 < d.Got → d.Frame ≠ -1 ∧ Xi1 d.Now d.Seq = true) ∧ (d.Got = 0 → Xjw d.Now = true) ∧ (d.HasRef = true → Xi1 d.Ref d.Seq = true) ∧ (d.HasRef = false → Xjw d.Ref = true) := by
 have hs := Ygs hd hp
 unfold Xe0 at hd
 rw [if_pos hs, if_pos hp] at hd
 simp only [Bool.and_eq_true, decide_eq_true_eq] at hd
 obtain ⟨a, b, c, g, n, r⟩ := hd
 refine ⟨hs, a, b, c, g, ?_, ?_, ?_, ?_⟩
 ·
  intro h
  rw [if_pos h] at n
  simpa using n
 ·
  intro h
  rw [if_neg (by omega)] at n
  exact n
 ·
  intro h
  rw [if_pos h] at r
  exact r
 ·
  intro h
  rw [if_neg (by rw [h]; decide)] at r
  exact r
theorem Yor {d : Xak} (h1 : d.HasSeq = true) (h2 : d.HasPar = true) (h3 : Xf7 d.Seq = true) (h4 : Xlo d.Par = true) (h5 : -1 ≤ d.Frame ∧ d.Frame < 2 ^ d.Seq.Bits.toNat) (h6 : 0 ≤ d.Got ∧ d.Got < Xbn d.Seq) (h7 : 0 < d.Got → d.Frame ≠ -1 ∧ Xi1 d.Now d.Seq = true) (h8 : d.Got = 0 → Xjw d.Now = true) (h9 : d.HasRef = true → Xi1 d.Ref d.Seq = true) (h10 : d.HasRef = false → Xjw d.Ref = true) : Xe0 d = true := by
 unfold Xe0
 rw [if_pos h1, if_pos h2, h3, h4, decide_eq_true h5, decide_eq_true h6]
 simp only [Bool.true_and, Bool.and_eq_true]
 constructor
 ·
  by_cases g : d.Got > 0
  ·
   rw [if_pos g]
   obtain ⟨a, b⟩ := h7 g
   rw [b]; simpa using a
  ·
   rw [if_neg g]
   exact h8 (by omega)
 ·
  cases hr : d.HasRef with
  | true => rw [if_pos rfl]; exact h9 hr
  | false => rw [if_neg (by decide)]; exact h10 hr
theorem Zba {b : Nat} (h : 8 ≤ (2 : Int) ^ b) : (2 : Int) ^ b ≠ 0 := by
 generalize (2 : Int) ^ b = N at h ⊢
 omega
theorem Zbb {b : Nat} (h : 8 ≤ (2 : Int) ^ b) : 0 < (2 : Int) ^ b := by
 generalize (2 : Int) ^ b = N at h ⊢
 omega
theorem Yth {b : Nat} {f : Int} (h : (2 : Int) ^ b ≤ 256) (h1 : f < 2 ^ b) : f ≤ 255 := by
 generalize (2 : Int) ^ b = N at h h1
 omega
theorem Zb1 : Xjw Xoz = true := rfl
theorem Ysm {d : Xak} (hd : Xe0 d = true) (hp : d.HasPar = true) {h : Xq8} (hh : Xl4 d.Seq d.Par h = true) (ht : h.Tile = d.Got) {o : Pic} (ho : Xi1 o d.Seq = true) : Xe0 (Xh6 d h o).1 = true := by
 obtain ⟨a1, a2, a3, a4, a5, a6, a7, a8, a9⟩ := Xsx hd hp
 obtain ⟨_, _, _, hf, _⟩ := Xgk hh
 obtain ⟨_, _, b1, b2⟩ := Xbf a2
 obtain ⟨_, _, _, z4, z5⟩ := Xhc d.Seq.Bits ⟨b1, b2⟩
 unfold Xh6
 by_cases hl : d.Got + 1 < Xbn d.Seq
 ·
  rw [if_pos hl]
  exact Yor a1 hp a2 a3 ⟨by simp only; omega, hf.2⟩ ⟨by simp only; omega, hl⟩ (fun _ => ⟨by simp only; omega, ho⟩) (fun g => by simp only at g; omega) a8 a9
 ·
  rw [if_neg hl]
  have m0 := Int.emod_nonneg (h.Frame + 1) (Zba z5)
  have m1 := Int.emod_lt_of_pos (h.Frame + 1) (Zbb z5)
  generalize hN : (h.Frame + 1) % (2 : Int) ^ d.Seq.Bits.toNat = N at m0 m1 ⊢
  exact Yor a1 hp a2 a3 ⟨by simp only; omega, m1⟩ ⟨by simp only; omega, by simp only; omega⟩ (fun g => by simp only at g; omega) (fun _ => Zb1) (fun _ => ho) (fun g => by simp at g)
theorem Yq9 {p : Pic} {s : Seq} (h : Xi1 p s = true) : Xct p = true ∧ p.Wide = (Xh4 s).1 ∧ p.High = (Xh4 s).2 := by
 unfold Xi1 at h
 simp only [Bool.and_eq_true, beq_iff_eq] at h
 exact h
theorem Yxd {p : Pic} {s : Seq} (h1 : Xct p = true) (h2 : p.Wide = (Xh4 s).1) (h3 : p.High = (Xh4 s).2) : Xi1 p s = true := by
 unfold Xi1
 simp only [Bool.and_eq_true, beq_iff_eq]
 exact ⟨h1, h2, h3⟩
theorem Yyn {s : Seq} (h : Xf7 s = true) : Xh4 s = (8 * Xl5 s.Cols, 8 * Xl5 s.Rows) ∧ (1 ≤ Xl5 s.Cols ∧ Xl5 s.Cols ≤ 32) ∧ (1 ≤ Xl5 s.Rows ∧ Xl5 s.Rows ≤ 32) := by
 obtain ⟨s1, s2, _⟩ := Xbf h
 exact ⟨by unfold Xh4; rw [if_pos h], Xs8 s1, Xs8 s2⟩
theorem Yv3 (w h : Int) : (Yzv w h).Wide = w := rfl
theorem Yv2 (w h : Int) : (Yzv w h).High = h := rfl
theorem Yv5 {d : Xak} (hd : Xe0 d = true) (hp : d.HasPar = true) : Xi1 (Ya5 d) d.Seq = true := by
 obtain ⟨a1, a2, a3, a4, a5, a6, a7, a8, a9⟩ := Xsx hd hp
 obtain ⟨e, i1, i2⟩ := Yyn a2
 unfold Ya5
 by_cases g : d.Got = 0
 ·
  rw [if_pos g, e]
  exact Yxd (Yxj (by simp only; omega) (by simp only; omega)) (by rw [e, Yv3]) (by rw [e, Yv2])
 ·
  rw [if_neg g]
  exact (a6 (by omega)).2
theorem Ysn {d : Xak} (hd : Xe0 d = true) (hp : d.HasPar = true) (h1 : d.Seq.Cols.length ≤ maxLen) (h2 : d.Seq.Rows.length ≤ maxLen) {k : Int} (hk : k = 1 ∨ k = 5) {p2 : ByteArray} {h : Xq8} {at_ n4 : Int} {l : List Xar} (hh : Xl4 d.Seq d.Par h = true) (ht : h.Tile = d.Got) (hf : d.Frame = -1 ∨ d.Frame = h.Frame) (hr : k = 5 ∨ d.HasRef = true) (e1 : Xfl d.Seq d.Par p2 = some (h, at_, true)) (e2 : Xb2 d.Seq h.Tile = some n4) (e3 : Xgz p2 at_ n4 ⟨k == 5, h.Qp, d.Par.Large, d.Par.Exact⟩ = some (l, true)) (hl : l.length ≤ 64) (hlv : ∀ q ∈ l, q.Levels.length ≤ 64) :
  ∃ (r : Xpw) (x : Pic × Bool) (o : Pic) (b : Bool), Xcb d k p2 = some (Xh6 d h o) ∧ Xi1 o d.Seq = true ∧ Xdn d.Seq h.Tile = some (r, true) ∧ Xg0 d.Ref r ⟨k == 5, h.Qp, d.Par.Large, d.Par.Exact⟩ d.Par.Confined l = some x ∧ Xki (Ya5 d) x.1 r.Left r.Top = some (o, b) := by
 obtain ⟨a1, a2, a3, a4, a5, a6, a7, a8, a9⟩ := Xsx hd hp
 obtain ⟨_, _, hti, hfr, _⟩ := Xgk hh
 obtain ⟨_, _, b1, b2⟩ := Xbf a2
 obtain ⟨e, i1, i2⟩ := Yyn a2
 obtain ⟨r, t1, t2, rw_, rh⟩ := Xv9 a2 h1 h2 h.Tile hti
 obtain ⟨x, x1, x2, _⟩ := Xxk d.Ref r ⟨k == 5, h.Qp, d.Par.Large, d.Par.Exact⟩ d.Par.Confined l (by omega) (fun q hq => by have := hlv q hq; omega)
 obtain ⟨o, bo, p1, p2', ow, oh, p3, _⟩ := Ygg (Ya5 d) x.1 r.Left r.Top
 obtain ⟨nok, nw, nh⟩ := Yq9 (Yv5 hd hp)
 have ho : Xi1 o d.Seq = true := by
  obtain ⟨k1, k2, k3⟩ := Xby nok
  exact Yxd (Xuf (by rw [ow]; exact k1) (by rw [oh]; exact k2) (by rw [p3, ow, oh]; exact k3)) (by rw [ow]; exact nw) (by rw [oh]; exact nh)
 refine ⟨r, x, o, bo, ?_, ho, t2, x2, p2'⟩
 have tr := Xei a2
 have c1 : (sel (d.Frame != (-1)) (some (d.Frame != h.Frame)) (some false)) = some false := by
  rcases hf with hf | hf
  ·
   rw [hf]; rfl
  ·
   rw [hf]
   cases (h.Frame != -1) with
   | true => rw [Xav, bne_self_eq_false]
   | false => rfl
 have c2 : (sel (k == 1) (some (!d.HasRef)) (some false)) = some false := by
  rcases hk with rfl | rfl
  ·
   rcases hr with hr | hr
   ·
    omega
   ·
    rw [hr]; rfl
  ·
   rfl
 have ev : (sel (d.Got == 0) (bnd (Xif d.Seq) fun q9 => bnd (Xnn q9.1 q9.2) fun q10 => some (q10.Wide, q10.High, q10.Dots)) (some (d.Now.Wide, d.Now.High, d.Now.Dots))) = some ((Ya5 d).Wide, (Ya5 d).High, (Ya5 d).Dots) := by
  unfold Ya5
  by_cases g : d.Got = 0
  ·
   rw [Xbl (by rw [beq_iff_eq]; exact g), if_pos g, Xp7, Xab, e, Xtd _ _ (by simp only; omega) (by simp only; omega), Xab]
   rfl
  ·
   rw [Xbc (by rw [beq_eq_false_iff_ne]; exact g), if_neg g]
 unfold Xcb
 rw [hp, Bool.not_true, Xam, e1, Xab]
 simp only
 rw [Bool.not_true, Xam, Xbc (by rw [bne_eq_false_iff_eq]; exact ht), c1, Xab, Xam, c2, Xab, Xam, e2, Xab, e3, Xab]
 simp only
 rw [Bool.not_true, Xam, t2, Xab]
 simp only
 rw [x2, Xab, ev, Xab]
 simp only
 rw [show (⟨(Ya5 d).Wide, (Ya5 d).High, (Ya5 d).Dots⟩ : Pic) = Ya5 d from rfl, p2', Xab, Xex, Xab, wkA (e := d.Got + 1)]
 simp only
 unfold Xh6
 by_cases hlt : d.Got + 1 < Xbn d.Seq
 ·
  rw [Xbm hlt, if_pos hlt, hp]
 ·
  obtain ⟨z1, z2, z3, z4, z5⟩ := Xhc d.Seq.Bits ⟨b1, b2⟩
  rw [Xax hlt, if_neg hlt, z2, Xa6 z1, Xa6 (Zba z5), wk (e := h.Frame + 1) (by have := hfr.1; omega) (by have := Yth z4 hfr.2; omega), Xbs (by have := hfr.1; omega), hp]
theorem Xw6 {q : Seq} (hs : Xf7 q = true) (h1 : q.Cols.length ≤ maxLen) (h2 : q.Rows.length ≤ maxLen) (t : Int) (ht : 0 ≤ t ∧ t < Xbn q) : ∃ n : Int, Xb2 q t = some n ∧ 1 ≤ n ∧ n ≤ 64 := by
 obtain ⟨r, t1, t2, rw_, rh⟩ := Xv9 hs h1 h2 t ht
 have sw := Xh3 rw_
 have sh := Xh3 rh
 have mb : r.Wide / 8 * (r.High / 8) ≤ 8 * 8 := Int.mul_le_mul (by omega) (by omega) (by omega) (by omega)
 have m0 : 1 * 1 ≤ r.Wide / 8 * (r.High / 8) := Int.mul_le_mul (by omega) (by omega) (by omega) (by omega)
 refine ⟨r.Wide / 8 * (r.High / 8), ?_, by omega, by omega⟩
 unfold Xb2
 rw [t2, Xab, rqA, rqA, Xbr (a := r.Wide) (by omega), Xbr (a := r.High) (by omega), wkA (e := r.Wide / 8), wkA (e := r.High / 8), wkA]
theorem Yza {L : List Int} (hb : Xe1 L) (hl : L.length ≤ 400000) {d : Xak} (hd : Xe0 d = true) (h1 : d.Seq.Cols.length ≤ maxLen) (h2 : d.Seq.Rows.length ≤ maxLen) {k : Int} (hk : k = 1 ∨ k = 5) : ∃ (D : Xak) (co : Int) (P : Pic), Xcb d k (strOfNums L) = some (D, co, P) ∧ Xe0 D = true ∧ (co ≠ 0 → D = d ∧ P = Xoz) := by
 have fin : ∀ {x : Option (Xak × Int × Pic)} {co : Int}, x = some (d, co, Xoz) → ∃ (D : Xak) (co : Int) (P : Pic), x = some (D, co, P) ∧ Xe0 D = true ∧ (co ≠ 0 → D = d ∧ P = Xoz) := fun e1 => ⟨d, _, _, e1, hd, fun _ => ⟨rfl, rfl⟩⟩
 cases hp : d.HasPar with
 | false => exact fin (co := 4) (by unfold Xcb; rw [hp]; rfl)
 | true =>
  rcases Xq9 hb hl d.Seq d.Par h1 h2 with ⟨h, j, e1, _, hh, hj⟩ | ⟨e1, _⟩
  ·
   by_cases ht : h.Tile = d.Got
   ·
    by_cases hf : d.Frame = -1 ∨ d.Frame = h.Frame
    ·
     by_cases hr : k = 5 ∨ d.HasRef = true
     ·
      obtain ⟨hs, _, hti, _⟩ := Xgk hh
      obtain ⟨n4, e2, _⟩ := Xw6 hs h1 h2 h.Tile hti
      obtain ⟨l, ok, _, e3, l1, l2, _⟩ := Xra (strOfNums L) (j : Int) n4 ⟨k == 5, h.Qp, d.Par.Large, d.Par.Exact⟩
      cases ok with
      | true =>
       obtain ⟨_, _, o, _, e, ho, _⟩ := Ysn hd hp h1 h2 hk hh ht hf hr e1 e2 e3 l1 l2
       refine ⟨_, _, _, e, Ysm hd hp hh ht ho, ?_⟩
       intro hc
       exact absurd (Yt0 d h o) hc
      | false =>
       refine fin (co := 9) ?_
       have c1 : (sel (d.Frame != (-1)) (some (d.Frame != h.Frame)) (some false)) = some false := by
        rcases hf with hf | hf
        ·
         rw [hf]; rfl
        ·
         rw [hf]
         cases (h.Frame != -1) with
         | true => rw [Xav, bne_self_eq_false]
         | false => rfl
       have c2 : (sel (k == 1) (some (!d.HasRef)) (some false)) = some false := by
        rcases hk with rfl | rfl
        ·
         rcases hr with hr | hr
         ·
          omega
         ·
          rw [hr]; rfl
        ·
         rfl
       unfold Xcb
       rw [hp, Bool.not_true, Xam, e1, Xab]
       simp only
       rw [Bool.not_true, Xam, Xbc (by rw [bne_eq_false_iff_eq]; exact ht), c1, Xab, Xam, c2, Xab, Xam, e2, Xab, e3, Xab]
       rfl
     ·
      refine fin (co := 8) ?_
      have c1 : (sel (d.Frame != (-1)) (some (d.Frame != h.Frame)) (some false)) = some false := by
       rcases hf with hf | hf
       ·
        rw [hf]; rfl
       ·
        rw [hf]
        cases (h.Frame != -1) with
        | true => rw [Xav, bne_self_eq_false]
        | false => rfl
      have hk1 : k = 1 := hk.elim id fun hk => absurd (.inl hk) hr
      have hr0 : d.HasRef = false := by cases hx : d.HasRef with | true => exact absurd (.inr hx) hr | false => rfl
      unfold Xcb
      rw [hp, Bool.not_true, Xam, e1, Xab]
      simp only
      rw [Bool.not_true, Xam, Xbc (by rw [bne_eq_false_iff_eq]; exact ht), c1, Xab, Xam, hk1, hr0]
      rfl
    ·
     refine fin (co := 7) ?_
     have c1 : (sel (d.Frame != (-1)) (some (d.Frame != h.Frame)) (some false)) = some true := by
      rw [Xbl (by rw [bne_iff_ne]; exact fun e => hf (.inl e))]
      exact congrArg some (by rw [bne_iff_ne]; exact fun e => hf (.inr e))
     unfold Xcb
     rw [hp, Bool.not_true, Xam, e1, Xab]
     simp only
     rw [Bool.not_true, Xam, Xbc (by rw [bne_eq_false_iff_eq]; exact ht), c1, Xab, Xav]
   ·
    refine fin (co := 6) ?_
    unfold Xcb
    rw [hp, Bool.not_true, Xam, e1, Xab]
    simp only
    rw [Bool.not_true, Xam, Xbl (by rw [bne_iff_ne]; exact ht)]
  ·
   refine fin (co := 5) ?_
   unfold Xcb
   rw [hp, Bool.not_true, Xam, e1, Xab]
   rfl
theorem Yck {q : Seq} (h : Xf7 q = true) : Xe0 ⟨true, false, false, q, ⟨0, false, false, false⟩, -1, 0, Xoz, Xoz⟩ = true := by
 obtain ⟨_, _, b1, b2⟩ := Xbf h
 obtain ⟨_, _, _, _, z5⟩ := Xhc q.Bits ⟨b1, b2⟩
 have tr := Xxg h
 have ht : Xbn q = (q.Cols.length : Int) * q.Rows.length := by unfold Xbn; rw [if_pos h]
 have p := Zbb z5
 unfold Xe0
 simp only [if_pos, h]
 generalize (2 : Int) ^ q.Bits.toNat = N at p
 rw [decide_eq_true (show (-1 : Int) ≤ -1 ∧ (-1 : Int) < N by omega), decide_eq_true (show (0 : Int) ≤ 0 ∧ (0 : Int) < Xbn q by omega)]
 rfl
theorem Ynn : Xe0 ⟨false, false, false, ⟨0, 0, [], []⟩, ⟨0, false, false, false⟩, -1, 0, Xoz, Xoz⟩ = true := rfl
theorem Ycj {d : Xak} (hd : Xe0 d = true) (hs : d.HasSeq = true) (g : ¬ d.Got > 0) {p : Par} (hp : Xlo p = true) : Xe0 ⟨true, true, d.HasRef, d.Seq, p, d.Frame, d.Got, d.Now, d.Ref⟩ = true := by
 unfold Xe0 at hd
 rw [if_pos hs] at hd
 simp only [Bool.and_eq_true, decide_eq_true_eq] at hd
 obtain ⟨a, _, f, g0, n, r⟩ := hd
 rw [if_neg g] at n
 refine Yor rfl rfl a hp f g0 (fun h => absurd h g) (fun _ => n) ?_ ?_
 ·
  intro h
  rw [if_pos h] at r
  exact r
 ·
  intro h
  rw [if_neg (by rw [h]; decide)] at r
  exact r
theorem Ynf {d : Xak} (hd : Xe0 d = true) (u : ByteArray) (h1 : d.Seq.Cols.length ≤ 1048576) (h2 : d.Seq.Rows.length ≤ 1048576) (hu : u.size ≤ 1048576) : ∃ (D : Xak) (co : Int) (P : Pic), Xgl d u = some (D, co, P) ∧ Xb9 d u = some (D, co, P) ∧ Xe0 D = true ∧ (co ≠ 0 → D = d ∧ P = Xoz) ∧ D.Seq.Cols.length ≤ 1048576 ∧ D.Seq.Rows.length ≤ 1048576 := by
 have hm : maxLen = 9223372036854775807 := rfl
 obtain ⟨D, co, P, ei, es, l1, l2, _⟩ := Yce d u h1 h2 hu
 have key : ∃ (D' : Xak) (co' : Int) (P' : Pic), Xen d u = some (D', co', P') ∧ Xe0 D' = true ∧ (co' ≠ 0 → D' = d ∧ P' = Xoz) ∧ D'.Seq.Cols.length ≤ 1048576 ∧ D'.Seq.Rows.length ≤ 1048576 := by
  have fin : ∀ {x : Option (Xak × Int × Pic)} {co : Int}, x = some (d, co, Xoz) → ∃ (D' : Xak) (co' : Int) (P' : Pic), x = some (D', co', P') ∧ Xe0 D' = true ∧ (co' ≠ 0 → D' = d ∧ P' = Xoz) ∧ D'.Seq.Cols.length ≤ 1048576 ∧ D'.Seq.Rows.length ≤ 1048576 := fun e1 => ⟨d, _, _, e1, hd, fun _ => ⟨rfl, rfl⟩, h1, h2⟩
  unfold Xen
  rw [Xlr, Xab, hd, Bool.not_true, Xam]
  rcases Xwb u hu with ⟨k, L, hk, hb, hl, _, e2⟩ | ⟨_, e2⟩
  ·
   rw [e2, Xab]
   simp only
   rw [Bool.not_true, Xam]
   unfold Xng at hk
   simp only [Bool.or_eq_true, beq_iff_eq] at hk
   have hz : ((0 : Nat) : Int) = 0 := rfl
   by_cases k7 : k = 7
   ·
    subst k7
    rw [Xbl (b := (7 : Int) == 7) (by rfl)]
    rcases Xst hb hl 0 (by omega) with ⟨q, j, r1, _, hs, c1, c2, _⟩ | ⟨r1, _⟩
    ·
     rw [hz] at r1
     rw [r1, Xab]
     simp only
     rw [Xav, Xab]
     cases ((j : Int) != ((strOfNums L).size : Int)) with
     | true => exact fin (co := 3) rfl
     | false => exact ⟨_, _, _, rfl, Yck hs, fun h => absurd rfl h, by simp only; omega, by simp only; omega⟩
    ·
     rw [hz] at r1
     rw [r1, Xab]
     exact fin (co := 3) rfl
   ·
    rw [Xbc (b := k == 7) (by rw [beq_eq_false_iff_ne]; exact k7)]
    by_cases k8 : k = 8
    ·
     subst k8
     rw [Xbl (b := (8 : Int) == 8) (by rfl)]
     rcases Xss hb hl 0 (by omega) with ⟨q, j, r1, _, hs, _⟩ | ⟨r1, _⟩
     ·
      rw [hz] at r1
      rw [r1, Xab]
      simp only
      rw [Xav, Xab]
      cases ((j : Int) != ((strOfNums L).size : Int)) with
      | true => exact fin (co := 3) rfl
      | false =>
       rw [Xam]
       cases hS : d.HasSeq with
       | false => exact fin (co := 4) rfl
       | true =>
        rw [Xav, Xab]
        by_cases g : d.Got > 0
        ·
         rw [Xbm g]
         exact fin (co := 4) rfl
        ·
         rw [Xax g]
         exact ⟨_, _, _, rfl, Ycj hd hS g hs, fun h => absurd rfl h, h1, h2⟩
     ·
      rw [hz] at r1
      rw [r1, Xab]
      exact fin (co := 3) rfl
    ·
     rw [Xbc (b := k == 8) (by rw [beq_eq_false_iff_ne]; exact k8)]
     obtain ⟨D', co', P', s1, s2, s3⟩ := Yza hb hl hd (by omega) (by omega) (k := k) (by omega)
     obtain ⟨D2, co2, P2, t1, _, t2, _⟩ := Ynh hb hl d hd (by omega) (by omega) k (by omega)
     rw [s1] at t1
     have e : D2 = D' := (congrArg (fun o => (o.getD (d, 0, Xoz)).1) t1).symm
     rw [e] at t2
     rw [s1, Xab]
     exact ⟨D', co', P', rfl, s2, s3, by rw [t2]; exact h1, by rw [t2]; exact h2⟩
  ·
   rw [e2, Xab]
   exact fin (co := 2) rfl
 obtain ⟨D', co', P', e', ok', r', c1, c2⟩ := key
 have es2 := es
 unfold Xb9 at es2
 rw [e', Xab] at es2
 simp only at es2
 rw [(Xt4 D'.Seq c1 c2).1, Xab] at es2
 have h := Option.some.inj es2
 have a1 : D' = D := congrArg (·.1) h
 have a2 : co' = co := congrArg (·.2.1) h
 have a3 : P' = P := congrArg (·.2.2) h
 subst a1 a2 a3
 exact ⟨D', co', P', ei, es, ok', r', l1, l2⟩
theorem Zc2 (us : List ByteArray) (h400 : us.length ≤ 400) (hu : ∀ u ∈ us, u.size ≤ 1048576) : ∀ n k : Nat, k + n = us.length → ∀ (d : Xak) (ps : List Pic) (cs : List Int), Xe0 d = true → d.Seq.Cols.length ≤ 1048576 → d.Seq.Rows.length ≤ 1048576 → ps.length ≤ k → cs.length = k →
  ∃ (D : Xak) (ps' : List Pic) (cs' : List Int), loop (Xc3 us) (Yqk (k : Int) d ps cs) = some (Yqk 0 D ps' cs').2 ∧ Xe0 D = true
 | 0, k, hk, d, ps, cs, hd, h1, h2, hp, hc => by
  refine ⟨d, ps, cs, Xcn ?_, hd⟩
  unfold Xc3 Yqk
  simp only
  rw [snA]
 | n + 1, k, hk, d, ps, cs, hd, h1, h2, hp, hc => by
  have hm : maxLen = 9223372036854775807 := rfl
  have hz := hu (us.getD k Xb3) (by rw [Xb4 us k (by omega)]; exact List.getElem_mem _)
  obtain ⟨D, co, P, _, es, ok, _, d1, d2⟩ := Ynf hd (us.getD k Xb3) h1 h2 hz
  have es' : Xb9 (⟨d.HasSeq, d.HasPar, d.HasRef, ⟨d.Seq.Level, d.Seq.Bits, d.Seq.Cols, d.Seq.Rows⟩, ⟨d.Par.Qp, d.Par.Large, d.Par.Exact, d.Par.Confined⟩, d.Frame, d.Got, ⟨d.Now.Wide, d.Now.High, d.Now.Dots⟩, ⟨d.Ref.Wide, d.Ref.High, d.Ref.Dots⟩⟩ : Xak) (us.getD k Xb3) = some (D, co, P) := es
  have gS : Xc3 us (Yqk (k : Int) d ps cs) = some (.go (Yqk ((k + 1 : Nat) : Int) D (if P.Wide > 0 then ps ++ [P] else ps) (cs ++ [co]))) := by
   unfold Xc3 Yqk
   simp only [Int.toNat_natCast]
   rw [syA, rqA, es', Xab]
   simp only
   rw [Xa6 (by simp only [List.length_singleton]; omega)]
   by_cases hw : P.Wide > 0
   ·
    rw [Xbm hw, if_pos hw, Xa6 (by simp only [List.length_singleton]; omega), Xab, wkA]; rfl
   ·
    rw [Xax hw, if_neg hw, Xab, wkA]; rfl
  have hl : (if P.Wide > 0 then ps ++ [P] else ps).length ≤ k + 1 := by
   split
   ·
    rw [List.length_append, List.length_singleton]; omega
   ·
    omega
  obtain ⟨D', ps', cs', r2, r3⟩ := Zc2 us h400 hu n (k + 1) (by omega) D _ (cs ++ [co]) ok d1 d2 hl (by rw [List.length_append, List.length_singleton]; omega)
  exact ⟨D', ps', cs', lgo gS r2, r3⟩
theorem Ywt {d : Xak} (hd : Xe0 d = true) (us : List ByteArray) (h1 : d.Seq.Cols.length ≤ 1048576) (h2 : d.Seq.Rows.length ≤ 1048576) (hu : ∀ u ∈ us, u.size ≤ 1048576) : ∃ (D : Xak) (ps : List Pic) (cs : List Int), Xwh d us = some (D, ps, cs) ∧ Xh9 d us = some (D, ps, cs) ∧ Xe0 D = true ∧ D.Seq.Cols.length ≤ 1048576 ∧ D.Seq.Rows.length ≤ 1048576 ∧ ps.length ≤ 400 ∧ cs.length ≤ 400 := by
 obtain ⟨D, ps, cs, ei, es, l1, l2, l3, l4⟩ := Ys1 d us h1 h2 hu
 have ok : Xe0 D = true := by
  have c1 := (Xt4 d.Seq h1 h2).1
  have es2 := es
  unfold Xh9 at es2
  rw [c1, Xab] at es2
  by_cases h4 : (us.length : Int) > 400
  ·
   rw [Xbm h4] at es2
   have : d = D := congrArg (·.1) (Option.some.inj es2)
   rw [← this]; exact hd
  ·
   rw [Xax h4] at es2
   obtain ⟨D', ps', cs', r1, r2⟩ := Zc2 us (by omega) hu us.length 0 (by omega) d [] [] hd h1 h2 (by simp) rfl
   have e := es2.symm.trans ((Xey r1).trans rfl)
   have : D = D' := congrArg (·.1) (Option.some.inj e)
   rw [this]; exact r2
 exact ⟨D, ps, cs, ei, es, ok, l1, l2, l3, l4⟩
def Yya (q : Seq) (x y : Nat) : Xpw := ⟨8 * Xl5 (q.Cols.take x), 8 * Xl5 (q.Rows.take y), 8 * q.Cols.getD x 0, 8 * q.Rows.getD y 0⟩
theorem Yqt {q : Seq} (hs : Xf7 q = true) (h1 : q.Cols.length ≤ maxLen) (h2 : q.Rows.length ≤ maxLen) (t : Int) (ht : 0 ≤ t ∧ t < Xbn q) : ∃ x y : Nat, (x : Int) = t % (q.Cols.length : Int) ∧ (y : Int) = t / (q.Cols.length : Int) ∧ x < q.Cols.length ∧ y < q.Rows.length ∧ Xfg q t = some (Yya q x y, true) ∧ Xdn q t = some (Yya q x y, true) ∧ (1 ≤ q.Cols.getD x 0 ∧ q.Cols.getD x 0 ≤ 8) ∧ (1 ≤ q.Rows.getD y 0 ∧ q.Rows.getD y 0 ≤ 8) := by
 have hr := Xei hs
 have hto : Xbn q = (q.Cols.length : Int) * q.Rows.length := by unfold Xbn; rw [if_pos hs]
 obtain ⟨s1, s2, _⟩ := Xbf hs
 have c1 := Xbj s1
 have c2 := Xbj s2
 unfold Xeu at s1 s2
 rw [Bool.and_eq_true] at s1 s2
 have m0 := Int.emod_nonneg t (show (q.Cols.length : Int) ≠ 0 by omega)
 have m1 := Int.emod_lt_of_pos t (show 0 < (q.Cols.length : Int) by omega)
 have d0 : 0 ≤ t / (q.Cols.length : Int) := Int.ediv_nonneg ht.1 (by omega)
 have d1 : t / (q.Cols.length : Int) < q.Rows.length := Int.ediv_lt_of_lt_mul (by omega) (by rw [Int.mul_comm, ← hto]; exact ht.2)
 have ex : ∃ x y : Nat, (x : Int) = t % (q.Cols.length : Int) ∧ (y : Int) = t / (q.Cols.length : Int) := ⟨(t % (q.Cols.length : Int)).toNat, (t / (q.Cols.length : Int)).toNat, by omega, by omega⟩
 obtain ⟨x, y, hx, hy⟩ := ex
 have tm : t.tmod (q.Cols.length : Int) = (x : Int) := by rw [Xbs ht.1]; exact hx.symm
 have td : Xaa .i64 (t.tdiv (q.Cols.length : Int)) = (y : Int) := by rw [Xbr ht.1, ← hy, wkA]
 have bx := Xks s1.2 c1.2 x
 have by_ := Xks s2.2 c2.2 y
 have gx := Xoj s1.2 (i := x) (by omega)
 have gy := Xoj s2.2 (i := y) (by omega)
 refine ⟨x, y, hx, hy, by omega, by omega, ?_, ?_, gx, gy⟩
 ·
  unfold Xfg
  rw [Xhy q h1 h2, Xab, wkA (e := Xbn q - 1), Xaj, Xab, decide_eq_true (by omega), Bool.not_true, Xam, rqA, tm, td, rqA, rqA]
  simp only [Int.toNat_natCast]
  rw [show (0 : Int).toNat = 0 from rfl, List.drop_zero, List.drop_zero, Nat.sub_zero, Nat.sub_zero, Ygd (List.all_eq_true.2 fun z hz => List.all_eq_true.1 s1.2 z (List.mem_of_mem_take hz)) (by rw [List.length_take]; omega), Xab, rqA, Ygd (List.all_eq_true.2 fun z hz => List.all_eq_true.1 s2.2 z (List.mem_of_mem_take hz)) (by rw [List.length_take]; omega), Xab, rqA, rqA, wkA (e := 8 * Xl5 (q.Cols.take x)), wkA (e := 8 * Xl5 (q.Rows.take y)), wkA (e := 8 * q.Cols.getD x 0), wkA (e := 8 * q.Rows.getD y 0)]
  rfl
 ·
  unfold Xdn
  rw [snA, Xex, Xab, decide_eq_false (by omega), Xab, Xam, rqA, tm, td, rqA, Xxo s1.2 c1.2 x (by omega), Xab, Xxo s2.2 c2.2 y (by omega), Xab, rqA, rqA]
  simp only [Int.toNat_natCast]
  rw [wkA (e := 8 * Xl5 (q.Cols.take x)), wkA (e := 8 * Xl5 (q.Rows.take y)), wkA (e := 8 * q.Cols.getD x 0), wkA (e := 8 * q.Rows.getD y 0)]
  rfl
theorem Ygj {q : Seq} (hs : Xf7 q = true) (h1 : q.Cols.length ≤ maxLen) (h2 : q.Rows.length ≤ maxLen) (t : Int) (ht : 0 ≤ t ∧ t < Xbn q) : ∃ x y : Nat, (x : Int) = t % (q.Cols.length : Int) ∧ (y : Int) = t / (q.Cols.length : Int) ∧ x < q.Cols.length ∧ y < q.Rows.length ∧ Xb2 q t = some (q.Cols.getD x 0 * q.Rows.getD y 0) ∧ (1 ≤ q.Cols.getD x 0 ∧ q.Cols.getD x 0 ≤ 8) ∧ (1 ≤ q.Rows.getD y 0 ∧ q.Rows.getD y 0 ≤ 8) := by
 obtain ⟨x, y, hx, hy, lx, ly, _, e, gx, gy⟩ := Yqt hs h1 h2 t ht
 have mb : q.Cols.getD x 0 * q.Rows.getD y 0 ≤ 8 * 8 := Int.mul_le_mul (by omega) (by omega) (by omega) (by omega)
 have m0 : 1 * 1 ≤ q.Cols.getD x 0 * q.Rows.getD y 0 := Int.mul_le_mul (by omega) (by omega) (by omega) (by omega)
 refine ⟨x, y, hx, hy, lx, ly, ?_, gx, gy⟩
 unfold Xb2
 rw [e, Xab]
 unfold Yya
 simp only
 rw [rqA, rqA, Xbr (by omega), Xbr (by omega), show 8 * q.Cols.getD x 0 / 8 = q.Cols.getD x 0 by omega, show 8 * q.Rows.getD y 0 / 8 = q.Rows.getD y 0 by omega, wkA (e := q.Cols.getD x 0), wkA (e := q.Rows.getD y 0), wkA]
def Xxh (k : Int) (L : List Int) : ByteArray := strOfNums (k :: Xqa L)
theorem Ywq (k : Int) (L : List Int) : (Xxh k L).size = L.length / 8 + 2 := by unfold Xxh; rw [strOfNums_size, List.length_cons, Xka]
theorem Yt8 {d : Xak} {u : ByteArray} {D : Xak} {co : Int} {P : Pic} (e : Xen d u = some (D, co, P)) (h1 : D.Seq.Cols.length ≤ 1048576) (h2 : D.Seq.Rows.length ≤ 1048576) : Xb9 d u = some (D, co, P) := by
 unfold Xb9
 rw [e, Xab]
 simp only
 rw [(Xt4 D.Seq h1 h2).1, Xab]
theorem Zai {d : Xak} (hd : Xe0 d = true) {s : Seq} (hs : Xf7 s = true) : Xb9 d (Xxh 7 (Xxi s)) = some (⟨true, false, false, s, ⟨0, false, false, false⟩, -1, 0, Xoz, Xoz⟩, 0, Xoz) := by
 obtain ⟨s1, s2, _⟩ := Xbf hs
 have c1 := Xbj s1
 have c2 := Xbj s2
 refine Yt8 ?_ (by simp only; omega) (by simp only; omega)
 unfold Xen
 rw [Xlr, Xab, hd, Bool.not_true, Xam, show Xxh 7 (Xxi s) = strOfNums (7 :: Xqa (Xxi s)) from rfl, (Xwa (k := 7) rfl (Xxi s) (Xy5 s) (Xuk hs)).2, Xab]
 simp only
 rw [Bool.not_true, Xam, Xbl (b := (7 : Int) == 7) (by rfl), (Yqp hs).2, Xab]
 simp only
 rw [Xav, strOfNums_size, bne_self_eq_false, Xab, Xam]
theorem Zah {d : Xak} (hd : Xe0 d = true) (hq : d.HasSeq = true) (g : ¬ d.Got > 0) {p : Par} (hp : Xlo p = true) (h1 : d.Seq.Cols.length ≤ 1048576) (h2 : d.Seq.Rows.length ≤ 1048576) : Xb9 d (Xxh 8 (Yd5 p)) = some (⟨true, true, d.HasRef, d.Seq, p, d.Frame, d.Got, d.Now, d.Ref⟩, 0, Xoz) := by
 refine Yt8 ?_ h1 h2
 unfold Xen
 rw [Xlr, Xab, hd, Bool.not_true, Xam, show Xxh 8 (Yd5 p) = strOfNums (8 :: Xqa (Yd5 p)) from rfl, (Xwa (k := 8) rfl (Yd5 p) (Xyx p) (by rw [Xud]; omega)).2, Xab]
 simp only
 rw [Bool.not_true, Xam, Xbc (b := (8 : Int) == 7) (by rfl), Xbl (b := (8 : Int) == 8) (by rfl), (Yqo hp).2, Xab]
 simp only
 rw [Xav, strOfNums_size, Xud, show ((9 : Int) != ((9 : Nat) : Int)) = false from rfl, Xab, Xam, hq, Xav, Xab, Xax g]
theorem Yn1 (d : Xak) (h : Xq8) (o : Pic) : (Xh6 d h o).1.Seq = d.Seq ∧ (Xh6 d h o).1.Par = d.Par ∧ (Xh6 d h o).1.HasPar = d.HasPar := by
 unfold Xh6
 split <;> exact ⟨rfl, rfl, rfl⟩
theorem Ywm {d : Xak} (hd : Xe0 d = true) (hp : d.HasPar = true) {k : Int} (hk : k = 1 ∨ k = 5) {h : Xq8} {l : List Xar} (hh : Xl4 d.Seq d.Par h = true) (ht : h.Tile = d.Got) (hf : d.Frame = -1 ∨ d.Frame = h.Frame) (hr : k = 5 ∨ d.HasRef = true) (hl : 1 ≤ l.length ∧ l.length ≤ 64) (hs : Ykr l ⟨k == 5, h.Qp, d.Par.Large, d.Par.Exact⟩ = true) (hlv : ∀ q ∈ l, q.Levels.length ≤ 64) (e2 : Xb2 d.Seq h.Tile = some (l.length : Int)) :
  ∃ (r : Xpw) (x : Pic × Bool) (o : Pic) (b : Bool), Xb9 d (Xxh k (Xqe d.Seq d.Par h ++ Xk6 l ⟨k == 5, h.Qp, d.Par.Large, d.Par.Exact⟩)) = some (Xh6 d h o) ∧ Xi1 o d.Seq = true ∧ Xdn d.Seq h.Tile = some (r, true) ∧ Xg0 d.Ref r ⟨k == 5, h.Qp, d.Par.Large, d.Par.Exact⟩ d.Par.Confined l = some x ∧ Xki (Ya5 d) x.1 r.Left r.Top = some (o, b) := by
 have hm : maxLen = 9223372036854775807 := rfl
 obtain ⟨q1, _, _, _, hq⟩ := Xgk hh
 obtain ⟨s1, s2, _⟩ := Xbf q1
 have c1 := Xbj s1
 have c2 := Xbj s2
 have hpar := (Xsx hd hp).2.2.1
 have hc : Xg3 ⟨k == 5, h.Qp, d.Par.Large, d.Par.Exact⟩ = true := by
  unfold Xg3
  unfold Xlo at hpar
  rw [Bool.and_eq_true] at hpar
  rw [Bool.and_eq_true]
  exact ⟨decide_eq_true hq, hpar.2⟩
 have hb : Xe1 (Xqe d.Seq d.Par h ++ Xk6 l ⟨k == 5, h.Qp, d.Par.Large, d.Par.Exact⟩) := Xa9 (Yrg _ _ _) (Yb9 _ _)
 have hlen : (Xqe d.Seq d.Par h ++ Xk6 l ⟨k == 5, h.Qp, d.Par.Large, d.Par.Exact⟩).length ≤ 400000 := by
  have a := Yrh hh
  have b := Yca hs
  rw [List.length_append]
  omega
 obtain ⟨_, e1⟩ := Yoa hh rfl hb hlen
 obtain ⟨_, e3⟩ := Ys3 hs hc hl rfl hb hlen
 obtain ⟨r, x, o, b, e, ho, t1, t2, t3⟩ := Ysn hd hp (by omega) (by omega) hk hh ht hf hr e1 e2 e3 hl.2 hlv
 refine ⟨r, x, o, b, ?_, ho, t1, t2, t3⟩
 have hsq := (Yn1 d h o).1
 refine Yt8 (D := (Xh6 d h o).1) (co := (Xh6 d h o).2.1) (P := (Xh6 d h o).2.2) ?_ (by rw [hsq]; omega) (by rw [hsq]; omega)
 have hkk : Xng k = true := by rcases hk with rfl | rfl <;> rfl
 unfold Xen
 rw [Xlr, Xab, hd, Bool.not_true, Xam]
 unfold Xxh
 rw [(Xwa hkk _ hb hlen).2, Xab]
 simp only
 rw [Bool.not_true, Xam, Xbc (b := k == 7) (by rw [beq_eq_false_iff_ne]; omega), Xbc (b := k == 8) (by rw [beq_eq_false_iff_ne]; omega), e, Xab]
def Ywr : List ByteArray → Xak → Xak → List Pic → Prop
 | [], d, D, ps => D = d ∧ ps = []
 | u :: us, d, D, ps => ∃ (d1 : Xak) (P : Pic) (qs : List Pic), Xb9 d u = some (d1, 0, P) ∧ u.size ≤ 60000 ∧ Ywr us d1 D qs ∧ ps = (if P.Wide > 0 then P :: qs else qs)
theorem Xv8 : ∀ (us vs : List ByteArray) (d d1 D : Xak) (ps qs : List Pic), Ywr us d d1 ps → Ywr vs d1 D qs → Ywr (us ++ vs) d D (ps ++ qs)
 | [], vs, d, d1, D, ps, qs, h1, h2 => by
  obtain ⟨rfl, rfl⟩ := h1
  exact h2
 | u :: us, vs, d, d1, D, ps, qs, h1, h2 => by
  obtain ⟨e, P, rs, a1, a2, a3, a4⟩ := h1
  refine ⟨e, P, rs ++ qs, a1, a2, Xv8 us vs e d1 D rs qs a3 h2, ?_⟩
  rw [a4]
  split <;> rfl
theorem Ys7 {l : List Int} (h : l.all Ylu = true) (i : Nat) {x : Int} (hx : -5000 ≤ x ∧ x ≤ 5000) : (l.set i x).all Ylu = true := List.all_eq_true.2 fun y hy => by
 rcases List.mem_or_eq_of_mem_set hy with hy | hy
 ·
  exact List.all_eq_true.1 h y hy
 ·
  rw [hy]; exact Yf8.2 hx
theorem Zbz {l : List Int} (h : l.length = 64) (h2 : l.all Ylu = true) : Yky l = true := by
 unfold Yky
 rw [decide_eq_true h, h2]; rfl
theorem Xq3 (c : Xa7) (hc : Xht c) : ∃ l c', Xhk c 64 = some (l, c') ∧ Yky l = true ∧ Xht c' := by
 unfold Xhk
 rw [rqA]
 obtain ⟨o, h, h2, h3⟩ := Xua (f := Xjh 64) (fun v => 0 ≤ v.1 ∧ v.1 ≤ 6 ∧ Xht ⟨v.2.1, v.2.2.1, v.2.2.2.1⟩ ∧ v.2.2.2.2.length = 64 ∧ v.2.2.2.2.all Ylu = true) (fun v => (6 - v.1).toNat) (fun _ o => Yky o.1 = true ∧ Xht ⟨o.2.1, o.2.2.1, o.2.2.2⟩) (by
  intro ⟨i, b, j, h, l⟩ ⟨h1, h2, h3, h4, h5⟩
  unfold Xjh
  simp only at h1 h2 h3 h4 h5 ⊢
  obtain ⟨x, c', ex, x0, x1, _, hx⟩ := Xa3 _ 7 h3
  rw [ex, Xab]
  simp only
  by_cases hi : i < x
  ·
   rw [Xbm hi, Xab]
   simp only
   rw [decide_eq_true (by omega), Xav]
   obtain ⟨y, c2, ey, y0, y1, _, hy⟩ := Xa3 c' 64 hx
   have ey' : Xay ⟨c'.b_, c'.i_, c'.h_⟩ 64 = some (y, c2) := ey
   rw [ey', Xab]
   obtain ⟨w, c3, ew, hw⟩ := Xdc c2 2 hy
   simp only
   rw [ew, Xab]
   simp only
   have step : ∃ p, (sel w (req ((5 : Int) ≠ 0) <| some ((y.tmod 5), c3.b_, c3.i_, c3.h_)) (some (y, c3.b_, c3.i_, c3.h_))) = some (p, c3.b_, c3.i_, c3.h_) ∧ 0 ≤ p ∧ p < 64 := by
    cases w with
    | true => rw [Xav, rqA]; exact ⟨_, rfl, by rw [Xbs y0]; omega, by rw [Xbs y0]; omega⟩
    | false => rw [Xam]; exact ⟨_, rfl, y0, by omega⟩
   obtain ⟨p, ep, p0, p1⟩ := step
   rw [ep, Xab]
   simp only
   obtain ⟨z, c4, ez, z0, z1, _, hz⟩ := Xa3 c3 21 hw
   have ez' : Xay ⟨c3.b_, c3.i_, c3.h_⟩ 21 = some (z, c4) := ez
   rw [ez', Xab]
   simp only
   obtain ⟨u, c5, eu, hu⟩ := Xdc c4 6 hz
   rw [rqA, rqA, eu, Xab]
   simp only
   cases u with
   | true =>
    obtain ⟨t, c6, et, t0, t1, _, ht⟩ := Xa3 c5 10001 hu
    rw [Xav, et, Xab, Xa6 (by rw [List.length_set]; omega), Xa6 (by rw [List.length_set]; omega), Xab]
    refine .inr ⟨_, rfl, ⟨?_, ?_, ht, ?_, Ys7 (Ys7 h5 _ (by rw [wkA]; omega)) _ (by have := t1 (by omega); rw [wkA]; omega)⟩, ?_, fun _ h => h⟩
    ·
     simp only; rw [wkA]; omega
    ·
     simp only; rw [wkA]; omega
    ·
     simp only [List.length_set]; exact h4
    ·
     simp only; rw [wkA]; omega
   | false =>
    rw [Xam, Xab]
    refine .inr ⟨_, rfl, ⟨?_, ?_, hu, ?_, Ys7 h5 _ (by rw [wkA]; omega)⟩, ?_, fun _ h => h⟩
    ·
     simp only; rw [wkA]; omega
    ·
     simp only; rw [wkA]; omega
    ·
     simp only [List.length_set]; exact h4
    ·
     simp only; rw [wkA]; omega
  ·
   rw [Xax hi, Xab]
   simp only
   rw [Xam]
   exact .inl ⟨_, rfl, Zbz h4 h5, hx⟩) (0, c.b_, c.i_, c.h_, List.replicate (64 : Int).toNat 0) ⟨by simp, by simp, hc, by simp, List.all_eq_true.2 fun x hx => by rw [List.eq_of_mem_replicate hx]; rfl⟩
 rw [h, Xab]
 exact ⟨_, _, rfl, h2, h3⟩
theorem Yby (u : Xa7) (hu : Xht u) (c : Xf0) : ∃ q u', Xj3 u c = some (q, u') ∧ (Xnq q = true ∧ Xiy q c = true) ∧ Xht u' := by
 unfold Xj3
 have s1 : ∃ (b : Bool) (v : Xa7), (sel c.Key (some (false, u.b_, u.i_, u.h_)) (bnd (Xbt u 4) fun q2 => some (q2.1, q2.2.b_, q2.2.i_, q2.2.h_))) = some (b, v.b_, v.i_, v.h_) ∧ (b = true → c.Key = false) ∧ Xht v := by
  obtain ⟨w, v, ew, hv⟩ := Xdc u 4 hu
  cases hk : c.Key with
  | true => exact ⟨false, u, rfl, (fun h => by cases h), hu⟩
  | false => rw [Xam, ew, Xab]; exact ⟨w, v, rfl, (fun _ => rfl), hv⟩
 obtain ⟨b, v, e1, kb, hv⟩ := s1
 rw [e1, Xab]
 simp only
 cases b with
 | true => rw [Xav]; exact ⟨_, _, rfl, ⟨Yys, by unfold Xiy; rw [kb rfl]; rfl⟩, hv⟩
 | false =>
  rw [Xam]
  have s2 : ∃ (b : Bool) (w : Xa7), (sel c.Key (some (false, v.b_, v.i_, v.h_)) (bnd (Xbt (⟨v.b_, v.i_, v.h_⟩ : Xa7) 2) fun q4 => some (q4.1, q4.2.b_, q4.2.i_, q4.2.h_))) = some (b, w.b_, w.i_, w.h_) ∧ (b = true → c.Key = false) ∧ Xht w := by
   obtain ⟨w, v', ew, hv'⟩ := Xdc v 2 hv
   cases hk : c.Key with
   | true => exact ⟨false, v, rfl, (fun h => by cases h), hv⟩
   | false =>
    have ew' : Xbt ⟨v.b_, v.i_, v.h_⟩ 2 = some (w, v') := ew
    rw [Xam, ew', Xab]; exact ⟨w, v', rfl, (fun _ => rfl), hv'⟩
  obtain ⟨b2, w, e2, kb2, hw⟩ := s2
  rw [e2, Xab]
  simp only
  cases b2 with
  | true =>
   rw [Xav]
   obtain ⟨x, c1, ex, x0, x1, _, h1⟩ := Xa3 w 7 hw
   have ex' : Xay ⟨w.b_, w.i_, w.h_⟩ 7 = some (x, c1) := ex
   obtain ⟨y, c2, ey, y0, y1, _, h2⟩ := Xa3 c1 7 h1
   obtain ⟨l, c3, el, hl, h3⟩ := Xq3 c2 h2
   obtain ⟨z, c4, ez, h4⟩ := Xdc c3 6 h3
   rw [ex', Xab]
   simp only
   rw [ey, Xab]
   simp only
   rw [el, Xab]
   simp only
   rw [ez, Xab]
   simp only
   cases z with
   | true =>
    obtain ⟨t, c5, et, t0, t1, _, h5⟩ := Xa3 c4 33 h4
    rw [Xav, et, Xab, Xab]
    exact ⟨_, _, rfl, ⟨Ysp (by have := t1 (by omega); rw [wkA]; omega) (by have := y1 (by omega); rw [wkA]; omega) hl, by unfold Xiy; rw [kb2 rfl]; rfl⟩, h5⟩
   | false =>
    rw [Xam, Xab]
    exact ⟨_, _, rfl, ⟨Ysp (by have := x1 (by omega); rw [wkA]; omega) (by have := y1 (by omega); rw [wkA]; omega) hl, by unfold Xiy; rw [kb2 rfl]; rfl⟩, h4⟩
  | false =>
   rw [Xam]
   obtain ⟨x, c1, ex, x0, x1, _, h1⟩ := Xa3 w 4 hw
   have ex' : Xay ⟨w.b_, w.i_, w.h_⟩ 4 = some (x, c1) := ex
   obtain ⟨l, c3, el, hl, h3⟩ := Xq3 c1 h1
   rw [ex', Xab]
   simp only
   rw [el, Xab]
   exact ⟨_, _, rfl, ⟨Ywj ⟨x0, by have := x1 (by omega); omega⟩ hl, by unfold Xiy; cases c.Key <;> rfl⟩, h3⟩
theorem Xz4 (u : Xa7) (hu : Xht u) (n : Int) (h0 : 0 ≤ n) (h1 : n ≤ 1000) (c : Xf0) : ∃ l u', Xiw u n c = some (l, u') ∧ (l.length : Int) = n ∧ (∀ q ∈ l, Xnq q = true ∧ Xiy q c = true) ∧ Xht u' := by
 have hm : maxLen = 9223372036854775807 := rfl
 unfold Xiw
 obtain ⟨o, h, h2, h5, h6⟩ := Xua (f := Xhr n c) (fun v => 0 ≤ v.1 ∧ v.1 ≤ n ∧ Xht ⟨v.2.1, v.2.2.1, v.2.2.2.1⟩ ∧ (v.2.2.2.2.length : Int) = v.1 ∧ ∀ q ∈ v.2.2.2.2, Xnq q = true ∧ Xiy q c = true) (fun v => (n - v.1).toNat) (fun _ o => (o.1.length : Int) = n ∧ (∀ q ∈ o.1, Xnq q = true ∧ Xiy q c = true) ∧ Xht ⟨o.2.1, o.2.2.1, o.2.2.2⟩) (by
  intro ⟨i, b, j, h, l⟩ ⟨h1, h2, h3, h4, h5⟩
  unfold Xhr
  simp only at h1 h2 h3 h4 h5 ⊢
  by_cases hi : i < n
  ·
   obtain ⟨q, c', eq, hok, hq⟩ := Yby _ h3 c
   rw [Xbm hi, eq, Xab, Xa6 (by simp only [List.length_singleton]; omega)]
   refine .inr ⟨_, rfl, ⟨?_, ?_, hq, ?_, fun y hy => (List.mem_append.1 hy).elim (h5 y) fun hy => by rw [List.mem_singleton.1 hy]; exact hok⟩, ?_, fun _ h => h⟩
   ·
    simp only; rw [wkA]; omega
   ·
    simp only; rw [wkA]; omega
   ·
    simp only [List.length_append, List.length_singleton]; rw [wkA]; omega
   ·
    simp only; rw [wkA]; omega
  ·
   rw [Xax hi]
   exact .inl ⟨_, rfl, by simp only; omega, h5, h3⟩) (0, u.b_, u.i_, u.h_, []) ⟨by simp, h0, hu, by simp, fun q hq => by simp at hq⟩
 rw [h, Xab]
 exact ⟨_, _, rfl, h2, h5, h6⟩
def Yte (u : ByteArray) : Prop := 1 ≤ u.size ∧ u.size ≤ 1400 ∧ Xl2 u ((u.size : Int) - 1) ≠ 0
theorem Yx7 (L : List Int) (hb : Xe1 L) : (Xqa L).getD (L.length / 8) 0 ≠ 0 := by
 obtain ⟨z, h1, h3⟩ := Yqy L hb
 obtain ⟨z', p1, p2, p3⟩ := Yx8 L
 have hs : (strOfNums (Xqa L)).size = L.length / 8 + 1 := by rw [strOfNums_size, Xka]
 have hV : Xe1 (L ++ 49 :: List.replicate z' 48) := Xa9 hb (fun x hx => by
  rcases List.mem_cons.1 hx with rfl | hx
  ·
   exact .inr rfl
  ·
   exact Xxp z' x hx)
 have hby : Yvu (Xqa L) := by unfold Xqa; rw [p1]; exact Xrc _ _ hV
 have k2 : (Xjl (strOfNums (Xqa L))).getD L.length 0 = 49 := by
  rw [h1]
  have := Ynq L (49 :: List.replicate z 48) 0
  rw [Nat.add_zero] at this
  rw [this]; rfl
 rw [Xxq _ (by omega)] at k2
 unfold Xz9 at k2
 rw [Xsw _ hby _ (by rw [Xka]; omega)] at k2
 intro h0
 rw [h0] at k2
 exact Yuc ⟨0, by omega⟩ ⟨L.length % 8, by omega⟩ k2 rfl
theorem Ycc {k : Int} (hk : Xng k = true) {L : List Int} (hb : Xe1 L) (hl : L.length ≤ 11000) : Yte (Xxh k L) := by
 have hs := Ywq k L
 refine ⟨by omega, by omega, ?_⟩
 rw [hs, show ((L.length / 8 + 2 : Nat) : Int) - 1 = ((L.length / 8 + 1 : Nat) : Int) by omega]
 unfold Xxh
 rw [Xsw _ (Ysw hk L hb) _ (by rw [List.length_cons, Xka]; omega), List.getD_cons_succ]
 exact Yx7 L hb
def Yp2 (s : Seq) : Prop := s.Level = 3 ∧ s.Bits = 3 ∧ (s.Cols = [1] ∨ s.Cols = [1, 1] ∨ s.Cols = [1, 2]) ∧ (s.Rows = [1] ∨ s.Rows = [1, 1])
theorem Yve {s : Seq} (h : Yp2 s) : Xf7 s = true ∧ (1 ≤ Xbn s ∧ Xbn s ≤ 4) ∧ s.Bits = 3 ∧ (∀ x : Nat, s.Cols.getD x 0 ≤ 2) ∧ (∀ y : Nat, s.Rows.getD y 0 ≤ 1) := by
 obtain ⟨lv, bt, co, ro⟩ := s
 obtain ⟨h1, h2, h3, h4⟩ := h
 simp only at h1 h2 h3 h4
 subst h1 h2
 have at3 : ∀ (a b : Int) (n : Nat), ([a, b] : List Int).getD n 0 = if n = 0 then a else if n = 1 then b else 0 := fun a b n => by
  match n with
  | 0 => rfl
  | 1 => rfl
  | n + 2 => rfl
 have at1 : ∀ (a : Int) (n : Nat), ([a] : List Int).getD n 0 = if n = 0 then a else 0 := fun a n => by
  match n with
  | 0 => rfl
  | n + 1 => rfl
 refine ⟨?_, ?_, rfl, ?_, ?_⟩
 ·
  rcases h3 with rfl | rfl | rfl <;> rcases h4 with rfl | rfl <;> decide +kernel
 ·
  rcases h3 with rfl | rfl | rfl <;> rcases h4 with rfl | rfl <;> decide +kernel
 ·
  intro x
  rcases h3 with rfl | rfl | rfl
  ·
   simp only [at1]; split <;> omega
  ·
   simp only [at3]
   split
   ·
    omega
   ·
    split <;> omega
  ·
   simp only [at3]
   split
   ·
    omega
   ·
    split <;> omega
 ·
  intro y
  rcases h4 with rfl | rfl
  ·
   simp only [at1]; split <;> omega
  ·
   simp only [at3]
   split
   ·
    omega
   ·
    split <;> omega
theorem Ywe (d : Xak) (h : Xq8) (o : Pic) : Xh6 d h o = ((Xh6 d h o).1, 0, (Xh6 d h o).2.2) := by
 unfold Xh6
 split <;> rfl
theorem Yb3 (c : Xa7) (hc : Xht c) (s : Seq) (hs : Yp2 s) (p : Par) (f : Int) (hf : 0 ≤ f ∧ f < 8) (key : Bool) (d : Xak) (hd : Xe0 d = true) (hp : d.HasPar = true) (eS : d.Seq = s) (eP : d.Par = p) (g : d.Got = 0) (hfr : d.Frame = -1 ∨ d.Frame = f) (hr : key = true ∨ d.HasRef = true) :
  ∃ us c', Xgi c s p f 0 key = some (us, c', s) ∧ Xht c' ∧ (1 ≤ us.length ∧ us.length ≤ 4) ∧ (∀ u ∈ us, Yte u) ∧ ∃ D ps, Ywr us d D ps ∧ Xe0 D = true ∧ D.HasPar = true ∧ D.Seq = s ∧ D.Par = p ∧ D.Got = 0 ∧ D.Frame = (f + 1) % 8 ∧ D.HasRef = true ∧ ps.length = 1 := by
 have hm : maxLen = 9223372036854775807 := rfl
 obtain ⟨so, ⟨t1, t4⟩, sb, sx, sy⟩ := Yve hs
 obtain ⟨o1, o2, _⟩ := Xbf so
 have l1 := Xbj o1
 have l2 := Xbj o2
 have po : Xlo p = true := by rw [← eP]; exact (Xsx hd hp).2.2.1
 have h8 : (2 : Int) ^ s.Bits.toNat = 8 := by rw [sb]; rfl
 unfold Xgi
 obtain ⟨o, h, r1, r2, r3, r4⟩ := Xua (f := Xf1 s p f key)
  (fun (t, b, i, h, us) => (0 ≤ t ∧ t ≤ Xbn s) ∧ Xht ⟨b, i, h⟩ ∧ (us.length : Int) = t ∧ (∀ u ∈ us, Yte u) ∧ ∃ D ps, Ywr us d D ps ∧ Xe0 D = true ∧ D.HasPar = true ∧ D.Seq = s ∧ D.Par = p ∧ (t < Xbn s → D.Got = t ∧ (D.Frame = -1 ∨ D.Frame = f) ∧ (key = true ∨ D.HasRef = true) ∧ ps = []) ∧ (t = Xbn s → D.Got = 0 ∧ D.Frame = (f + 1) % 8 ∧ D.HasRef = true ∧ ps.length = 1))
  (fun v => (Xbn s - v.1).toNat)
  (fun _ (us, b, i, h) => Xht ⟨b, i, h⟩ ∧ (us.length : Int) = Xbn s ∧ (∀ u ∈ us, Yte u) ∧ ∃ D ps, Ywr us d D ps ∧ Xe0 D = true ∧ D.HasPar = true ∧ D.Seq = s ∧ D.Par = p ∧ D.Got = 0 ∧ D.Frame = (f + 1) % 8 ∧ D.HasRef = true ∧ ps.length = 1) (by
  intro ⟨t, b, i, h, us⟩ ⟨i1, i2, i3, i4, D, ps, k1, k2, k3, k4, k5, k6, k7⟩
  unfold Xf1
  simp only
  rw [Xex, Xab]
  by_cases hlt : t < Xbn s
  ·
   obtain ⟨n1, n2, n3, n4⟩ := k6 hlt
   rw [Xbm hlt]
   have ev : ∃ (ky : Bool) (qp : Int) (w : Xa7), (sel key (bnd (Xay (⟨b, i, h⟩ : Xa7) 41) fun q29 => some (q29.2.b_, q29.2.i_, q29.2.h_, true, q29.1)) (bnd (Xbt (⟨b, i, h⟩ : Xa7) 4) fun q30 => bnd (Xay q30.2 41) fun q31 => some (q31.2.b_, q31.2.i_, q31.2.h_, q30.1, q31.1))) = some (w.b_, w.i_, w.h_, ky, qp) ∧ (ky = false → key = false) ∧ (0 ≤ qp ∧ qp ≤ 40) ∧ Xht w := by
    cases hk : key with
    | true =>
     obtain ⟨x, w, e, x0, x1, _, hw⟩ := Xa3 _ 41 i2
     rw [Xav, e, Xab]
     exact ⟨true, x, w, rfl, fun h => (by cases h), ⟨x0, by have := x1 (by omega); omega⟩, hw⟩
    | false =>
     obtain ⟨z, w', e', hw'⟩ := Xdc _ 4 i2
     obtain ⟨x, w, e, x0, x1, _, hw⟩ := Xa3 w' 41 hw'
     rw [Xam, e', Xab]
     simp only
     rw [e, Xab]
     exact ⟨z, x, w, rfl, (by intro _; first | rfl | trivial), ⟨x0, by have := x1 (by omega); omega⟩, hw⟩
   obtain ⟨ky, qp, w, e1, e2, e3, hw⟩ := ev
   rw [e1, Xab]
   simp only
   have hh : Xl4 s p ⟨t, f, qp⟩ = true := by
    unfold Xl4
    simp only [Bool.and_eq_true, decide_eq_true_eq]
    exact ⟨so, po, ⟨i1.1, hlt⟩, ⟨hf.1, by rw [h8]; exact hf.2⟩, e3⟩
   obtain ⟨x, y, hx, hy, lx, ly, eT, gx, gy⟩ := Ygj so (by omega) (by omega) t ⟨i1.1, hlt⟩
   have ax := sx x
   have ay := sy y
   have e1' : s.Rows.getD y 0 = 1 := by omega
   have hn : s.Cols.getD x 0 * s.Rows.getD y 0 = s.Cols.getD x 0 := by rw [e1', Int.mul_one]
   rw [hn] at eT
   generalize s.Cols.getD x 0 = n at eT gx ax
   obtain ⟨l, w2, e4, e5, e6, hw2⟩ := Xz4 w hw n (by omega) (by omega) ⟨ky, qp, p.Large, p.Exact⟩
   have hsq : Ykr l ⟨ky, qp, p.Large, p.Exact⟩ = true := List.all_eq_true.2 fun q hq => by
    have hpo := po
    unfold Xlo at hpo
    rw [Bool.and_eq_true] at hpo
    have hc : Xg3 ⟨ky, qp, p.Large, p.Exact⟩ = true := by
     unfold Xg3
     rw [Bool.and_eq_true]
     exact ⟨decide_eq_true e3, hpo.2⟩
    obtain ⟨a, b⟩ := e6 q hq
    rw [a, b, hc]; rfl
   have hlv : ∀ q ∈ l, q.Levels.length ≤ 64 := fun q hq => by
    obtain ⟨a, _⟩ := e6 q hq
    have := Xq7 a
    by_cases z0 : q.Kind = 0
    ·
     rw [Yt6 a z0]; simp
    ·
     by_cases z1 : q.Kind = 1
     ·
      have := (Xkv (Xr0 a z1).2.2).1; omega
     ·
      have := (Xkv (Xul a (by omega)).2).1; omega
   have hb : Xe1 (Xqe s p ⟨t, f, qp⟩ ++ Xk6 l ⟨ky, qp, p.Large, p.Exact⟩) := Xa9 (Yrg _ _ _) (Yb9 _ _)
   have a := Yrh hh
   have bb := Yca hsq
   have hlen : (Xqe s p ⟨t, f, qp⟩ ++ Xk6 l ⟨ky, qp, p.Large, p.Exact⟩).length ≤ 11000 := by
    rw [List.length_append]
    omega
   have hlen' := hlen
   rw [List.length_append] at hlen'
   have kk : ∃ k : Int, (sel ky (some (5 : Int)) (some 1)) = some k ∧ (k = 1 ∨ k = 5) ∧ (k == 5) = ky := by
    cases ky with
    | true => exact ⟨5, rfl, .inr rfl, rfl⟩
    | false => exact ⟨1, rfl, .inl rfl, rfl⟩
   obtain ⟨k, f1, f2, f3⟩ := kk
   have hkk : Xng k = true := by rcases f2 with rfl | rfl <;> rfl
   have st := Ywm k2 k3 (k := k) f2 (h := ⟨t, f, qp⟩) (l := l) (by rw [k4, k5]; exact hh) (by simp only; omega) n2 (by
    rcases f2 with f2 | f2
    ·
     right
     rcases n3 with n3 | n3
     ·
      exfalso
      rw [f2] at f3
      have := e2 f3.symm
      rw [n3] at this
      cases this
     ·
      exact n3
    ·
     exact .inl f2) (by omega) (by rw [f3, k5]; exact hsq) hlv (by rw [k4, eT, e5])
   rw [k4, k5, f3] at st
   obtain ⟨r, xx, o, bo, st1, st2, _⟩ := st
   have hfin := Ycc hkk hb hlen
   rw [Yje hh, Xab, f1, Xab, eT, Xab]
   simp only
   rw [show (⟨w.b_, w.i_, w.h_⟩ : Xa7) = w from rfl, e4, Xab]
   simp only
   rw [Ynd l _ (fun q hq => (e6 q hq).1) (by omega), Xab, Xa6 (by simp only [strOfNums_size]; omega), Xbu, Xp9 k _ hkk hb (by omega), Xab]
   simp only
   rw [Xa6 (by simp only [List.length_singleton]; omega), wkA]
   refine .inr ⟨_, rfl, ⟨⟨by omega, by omega⟩, hw2, ?_, ?_, ?_⟩, ?_, fun _ h => h⟩
   ·
    rw [List.length_append, List.length_singleton]; omega
   ·
    intro u hu
    rcases List.mem_append.1 hu with hu | hu
    ·
     exact i4 u hu
    ·
     rw [List.mem_singleton.1 hu]; exact hfin
   ·
    have hone : Ywr [Xxh k (Xqe s p ⟨t, f, qp⟩ ++ Xk6 l ⟨ky, qp, p.Large, p.Exact⟩)] D (Xh6 D ⟨t, f, qp⟩ o).1 (if (Xh6 D ⟨t, f, qp⟩ o).2.2.Wide > 0 then [(Xh6 D ⟨t, f, qp⟩ o).2.2] else []) := ⟨_, _, [], st1.trans (congrArg some (Ywe D ⟨t, f, qp⟩ o)), (by have := hfin.2.1; omega), ⟨rfl, rfl⟩, rfl⟩
    have hg := Xv8 us _ d D _ ps _ k1 hone
    have hok := Ysm k2 k3 (h := ⟨t, f, qp⟩) (by rw [k4, k5]; exact hh) (by simp only; omega) (o := o) (by rw [k4]; exact st2)
    obtain ⟨g1, g2, g3⟩ := Yn1 D ⟨t, f, qp⟩ o
    have ow := (Xby (Yq9 st2).1).1
    refine ⟨_, _, hg, hok, by rw [g3]; exact k3, by rw [g1]; exact k4, by rw [g2]; exact k5, ?_, ?_⟩
    ·
     intro hl
     unfold Xh6
     rw [if_pos (by rw [n1, k4]; exact hl)]
     refine ⟨by simp only; omega, .inr rfl, n3, ?_⟩
     rw [n4]
     rfl
    ·
     intro hl
     unfold Xh6
     rw [if_neg (by rw [n1, k4]; omega)]
     refine ⟨rfl, ?_, rfl, ?_⟩
     ·
      simp only
      rw [k4, h8]
     ·
      simp only
      rw [if_pos (by omega), n4]
      rfl
   ·
    simp only; omega
  ·
   obtain ⟨n1, n2, n3, n4⟩ := k7 (by omega)
   rw [Xax hlt]
   exact .inl ⟨_, rfl, i2, by simp only; omega, i4, D, ps, k1, k2, k3, k4, k5, n1, n2, n3, n4⟩) (0, c.b_, c.i_, c.h_, []) ⟨⟨Int.le_refl _, by omega⟩, hc, rfl, fun u hu => by simp at hu, d, [], ⟨rfl, rfl⟩, hd, hp, eS, eP, fun _ => ⟨g, hfr, hr, rfl⟩, fun h => by omega⟩
 obtain ⟨us, b, i, hh⟩ := o
 rw [h, Xab]
 simp only at r1 r2 r3 r4
 exact ⟨us, _, rfl, r1, ⟨by omega, by omega⟩, r3, r4⟩
def Ynm : Xak := ⟨false, false, false, ⟨0, 0, [], []⟩, ⟨0, false, false, false⟩, -1, 0, Xoz, Xoz⟩
theorem Yl4 : Xry = some Ynm := rfl
theorem Yf2 (c : Xa7) (hc : Xht c) : ∃ us c', Xl1 c = some (us, c') ∧ Xht c' ∧ (2 ≤ us.length ∧ us.length ≤ 14) ∧ (∀ u ∈ us, Yte u) ∧ ∃ D ps, Ywr us Ynm D ps ∧ 1 ≤ ps.length ∧ ps.length ≤ 3 := by
 have hm : maxLen = 9223372036854775807 := rfl
 unfold Xl1
 have ec : ∃ (co : List Int) (w : Xa7), (bnd (Xbt c 2) fun q2 => sel q2.1 (bnd (Xay q2.2 2) fun q3 => some (q3.2.b_, q3.2.i_, q3.2.h_, [1, Xaa .i64 (1 + q3.1)])) (some (q2.2.b_, q2.2.i_, q2.2.h_, [1]))) = some (w.b_, w.i_, w.h_, co) ∧ (co = [1] ∨ co = [1, 1] ∨ co = [1, 2]) ∧ Xht w := by
  obtain ⟨z, w, e, hw⟩ := Xdc c 2 hc
  rw [e, Xab]
  simp only
  cases z with
  | true =>
   obtain ⟨x, w', e', x0, x1, _, hw'⟩ := Xa3 w 2 hw
   have x1' := x1 (by omega)
   rw [Xav, e', Xab, wkA]
   refine ⟨_, w', rfl, ?_, hw'⟩
   obtain rfl | rfl : x = 0 ∨ x = 1 := by omega
   ·
    exact .inr (.inl rfl)
   ·
    exact .inr (.inr rfl)
  | false => exact ⟨_, w, rfl, .inl rfl, hw⟩
 obtain ⟨co, w1, e1, hco, hw1⟩ := ec
 rw [e1, Xab]
 simp only
 have er : ∃ (ro : List Int) (w : Xa7), (bnd (Xbt (⟨w1.b_, w1.i_, w1.h_⟩ : Xa7) 3) fun q5 => sel q5.1 (some (q5.2.b_, q5.2.i_, q5.2.h_, ([1, 1] : List Int))) (some (q5.2.b_, q5.2.i_, q5.2.h_, [1]))) = some (w.b_, w.i_, w.h_, ro) ∧ (ro = [1] ∨ ro = [1, 1]) ∧ Xht w := by
  obtain ⟨z, w, e, hw⟩ := Xdc w1 3 hw1
  have e' : Xbt ⟨w1.b_, w1.i_, w1.h_⟩ 3 = some (z, w) := e
  rw [e', Xab]
  simp only
  cases z with
  | true => exact ⟨_, w, rfl, .inr rfl, hw⟩
  | false => exact ⟨_, w, rfl, .inl rfl, hw⟩
 obtain ⟨ro, w2, e2, hro, hw2⟩ := er
 rw [e2, Xab]
 simp only
 obtain ⟨p, w3, e3, po, hw3⟩ := Xw9 w2 hw2
 have sm : Yp2 ⟨3, 3, co, ro⟩ := ⟨rfl, rfl, hco, hro⟩
 obtain ⟨so, _⟩ := Yve sm
 have h7 := Ycc (k := 7) rfl (Xy5 ⟨3, 3, co, ro⟩) (by have := Yvd so; omega)
 have h8 := Ycc (k := 8) rfl (Xyx p) (by rw [Xud]; omega)
 obtain ⟨x, w4, e4, x0, x1, _, hw4⟩ := Xa3 w3 8 hw3
 have x1' := x1 (by omega)
 rw [show (⟨w2.b_, w2.i_, w2.h_⟩ : Xa7) = w2 from rfl, e3, Xab]
 simp only
 rw [Ym2 _ so, Xab, Xp9 7 _ rfl (Xy5 _) (Xuk so), Xab, Ym0 p po, Xab, Xp9 8 _ rfl (Xyx p) (by rw [Xud]; omega), Xab, e4, Xab]
 simp only
 have l1 := Xbj (Xbf so).1
 have l2 := Xbj (Xbf so).2.1
 simp only at l1 l2
 have d0 := Ynn
 have d1 := Yck so
 have d2 := Ycj d1 rfl (by simp) po
 have g1 : Ywr [Xxh 7 (Xxi ⟨3, 3, co, ro⟩), Xxh 8 (Yd5 p)] Ynm ⟨true, true, false, ⟨3, 3, co, ro⟩, p, -1, 0, Xoz, Xoz⟩ [] := ⟨_, _, [], Zai d0 so, (by have := h7.2.1; omega), ⟨_, _, [], Zah d1 rfl (by simp) po (by simp only; omega) (by simp only; omega), (by have := h8.2.1; omega), ⟨rfl, rfl⟩, rfl⟩, rfl⟩
 obtain ⟨o, h, r1, r2, r3, r4⟩ := Xua (f := Xhb (p, w3))
  (fun (f, n, b, i, h, us, cc, rr) => (0 ≤ f ∧ f < 8) ∧ (0 ≤ n ∧ n ≤ 3) ∧ Xht ⟨b, i, h⟩ ∧ (2 ≤ us.length ∧ (us.length : Int) ≤ 2 + 4 * n) ∧ (∀ u ∈ us, Yte u) ∧ cc = co ∧ rr = ro ∧ ∃ D ps, Ywr us Ynm D ps ∧ Xe0 D = true ∧ D.HasPar = true ∧ D.Seq = ⟨3, 3, co, ro⟩ ∧ D.Par = p ∧ D.Got = 0 ∧ (D.Frame = -1 ∨ D.Frame = f) ∧ (n = 0 ∨ D.HasRef = true) ∧ (ps.length : Int) = n)
  (fun v => (3 - v.2.1).toNat)
  (fun _ (us, b, i, h) => Xht ⟨b, i, h⟩ ∧ (2 ≤ us.length ∧ us.length ≤ 14) ∧ (∀ u ∈ us, Yte u) ∧ ∃ D ps, Ywr us Ynm D ps ∧ 1 ≤ ps.length ∧ ps.length ≤ 3) (by
  intro ⟨f, n, b, i, h, us, cc, rr⟩ ⟨i1, i2, i3, i4, i5, i6, i7, D, ps, k1, k2, k3, k4, k5, k6, k7, k8, k9⟩
  subst i6 i7
  unfold Xhb
  simp only
  obtain ⟨y, v, ey, y0, y1, _, hv⟩ := Xa3 _ 3 i3
  have y1' := y1 (by omega)
  rw [ey, Xab]
  simp only
  rw [wkA (e := 1 + y)]
  by_cases hlt : n < 1 + y
  ·
   obtain ⟨vs, v2, e5, hv2, q1, q2, E, qs, z1, z2, z3, z4, z5, z6, z7, z8, z9⟩ := Yb3 v hv ⟨3, 3, cc, rr⟩ sm p f i1 (n == 0) D k2 k3 k4 k5 k6 k7 (by
    rcases k8 with k8 | k8
    ·
     left; rw [k8]; rfl
    ·
     exact .inr k8)
   rw [Xbm hlt, e5, Xab]
   simp only
   rw [rqA, rqA, wkA (e := f + 1), wkA (e := n + 1), Xbs (by omega)]
   refine .inr ⟨_, rfl, ⟨by simp only; omega, by simp only; omega, hv2, ?_, ?_, rfl, rfl, E, ps ++ qs, Xv8 us vs _ D E ps qs k1 z1, z2, z3, z4, z5, z6, .inr z7, .inr z8, ?_⟩, by simp only; omega, fun _ h => h⟩
   ·
    simp only [List.length_append]; omega
   ·
    intro u hu
    exact (List.mem_append.1 hu).elim (i5 u) (q2 u)
   ·
    simp only [List.length_append]; omega
  ·
   rw [Xax hlt]
   exact .inl ⟨_, rfl, hv, by simp only; omega, i5, D, ps, k1, by omega, by omega⟩) (x, 0, w4.b_, w4.i_, w4.h_, [Xxh 7 (Xxi ⟨3, 3, co, ro⟩), Xxh 8 (Yd5 p)], co, ro) ⟨⟨x0, x1'⟩, by omega, hw4, by simp, (fun u hu => by
   rcases List.mem_cons.1 hu with rfl | hu
   ·
    exact h7
   ·
    rw [List.mem_singleton.1 hu]; exact h8), rfl, rfl, _, [], g1, d2, rfl, rfl, rfl, rfl, .inl rfl, .inl rfl, rfl⟩
 obtain ⟨us, b, i, hh⟩ := o
 have h' : loop (Xhb (p, w3)) (x, 0, w4.b_, w4.i_, w4.h_, [strOfNums (7 :: Xqa (Xxi ⟨3, 3, co, ro⟩)), strOfNums (8 :: Xqa (Yd5 p))], co, ro) = some (us, b, i, hh) := h
 rw [h', Xab]
 exact ⟨us, _, rfl, r1, r2, r3, r4⟩
theorem Ya2 (s : Seq) (h1 : s.Cols.length ≤ 1048576) (h2 : s.Rows.length ≤ 1048576) : Xni s s = some true := by
 unfold Xni
 rw [Xpq _ (by omega), Xpq _ (by omega)]
 simp only [beq_self_eq_true, Xav, Xab]
theorem Xnh (d : Xak) (h1 : d.Seq.Cols.length ≤ 1048576) (h2 : d.Seq.Rows.length ≤ 1048576) : Xe4 d d = some true := by
 unfold Xe4
 simp only [beq_self_eq_true, Bool.and_self, Xav, Ya2 d.Seq h1 h2, Xab]
theorem Yfy (c : Xa7) (hc : Xht c) : ∃ d u c', Xl0 c = some (d, u, c') ∧ Xe0 d = true ∧ d.Seq.Cols.length ≤ 1048576 ∧ d.Seq.Rows.length ≤ 1048576 ∧ u.size ≤ 1400 ∧ Xht c' := by
 have hm : maxLen = 9223372036854775807 := rfl
 obtain ⟨us, w, e, hw, hl, hf, _⟩ := Yf2 c hc
 obtain ⟨k, w1, e1, k0, k1, _, hw1⟩ := Xa3 w (us.length : Int) hw
 have k1' := k1 (by omega)
 have hp : ∀ x ∈ (us.drop (0 : Int).toNat).take (k.toNat - (0 : Int).toNat), x.size ≤ 1048576 := fun x hx => by
  have := (hf x (List.mem_of_mem_drop (List.mem_of_mem_take hx))).2.1
  omega
 obtain ⟨d, ps, cs, _, es, ok, c1, c2, _⟩ := Ywt Ynn ((us.drop (0 : Int).toNat).take (k.toNat - (0 : Int).toNat)) (by simp) (by simp) hp
 have hu := hf (us.getD k.toNat Xb3) (by rw [Xb4 us _ (by omega)]; exact List.getElem_mem _)
 unfold Xl0
 rw [e, Xab]
 simp only
 rw [e1, Xab, Yl4, Xab]
 simp only
 have es' : Xh9 Ynm ((us.drop (0 : Int).toNat).take (k.toNat - (0 : Int).toNat)) = some (d, ps, cs) := es
 rw [rqA, rqA, es', Xab, rqA, rqA]
 obtain ⟨z, w2, e2, z0, z1, _, hw2⟩ := Xa3 w1 10 hw1
 rw [e2, Xab]
 simp only
 generalize us.getD k.toNat Xb3 = u at hu ⊢
 cases (z == 0) with
 | true =>
  obtain ⟨y, w3, e3, y0, y1, _, hw3⟩ := Xa3 w2 (us.length : Int) hw2
  have y1' := y1 (by omega)
  have hv := hf (us.getD y.toNat Xb3) (by rw [Xb4 us _ (by omega)]; exact List.getElem_mem _)
  rw [Xav, e3, Xab]
  simp only
  rw [rqA, rqA, Xab]
  exact ⟨d, _, _, rfl, ok, c1, c2, hv.2.1, hw3⟩
 | false =>
  rw [Xam]
  cases (z == 1) with
  | true =>
   have hn := Xbv u
   obtain ⟨y, w3, e3, y0, y1, _, hw3⟩ := Xa3 w2 ((Xa0 u).length : Int) hw2
   have y1' := y1 (by have := hu.1; omega)
   obtain ⟨x, w4, e4, x0, x1, _, hw4⟩ := Xa3 w3 8 hw3
   have hx : 0 ≤ Xaa .u64 x := by unfold Xaa; simp only; exact Int.emod_nonneg _ (by decide)
   rw [Xav, Xa6 (by have := hu.2.1; omega), e3, Xab]
   simp only
   rw [rqA, rqA, e4, Xab]
   simp only
   rw [Xa6 hx, rqA, rqA, Xab]
   refine ⟨d, _, _, rfl, ok, c1, c2, ?_, hw4⟩
   rw [strOfNums_size, List.length_set]
   have := hu.2.1
   omega
  | false =>
   rw [Xam, Xab]
   exact ⟨d, _, _, rfl, ok, c1, c2, hu.2.1, hw2⟩
theorem FnRefused {p0 : List Int} (h0 : p0.length ≤ maxLen ∧ ∀ y ∈ p0, (Lit.int .u8 y).wf = true) : Xmx p0 = some true := by
 have hm : maxLen = 9223372036854775807 := rfl
 unfold Xmx
 rw [Yto, Xab]
 by_cases hbig : (p0.length : Int) > 1048576
 ·
  rw [Xbm hbig]
 rw [Xax hbig]
 obtain ⟨c, ec, hc⟩ := Xv0 p0 (by omega)
 obtain ⟨d, u, c', es, ok, c1, c2, hu, _⟩ := Yfy c hc
 have ed : Xhf p0 = some (d, u) := by
  unfold Xhf
  rw [ec, Xab, es, Xab]
 obtain ⟨pl, ep, l12, _⟩ := Xy8 p0 (by omega)
 rw [ed, Xab, Xab, ep, Xab]
 simp only
 rw [rqA]
 have hn := Xbv u
 have hp0 : 0 ≤ pl.getD 0 0 := by
  rename_i hpl
  exact (hpl _ (by rw [Xb4 pl 0 (by omega)]; exact List.getElem_mem _)).1
 have ev : ∃ v : List Int, v.length = u.size ∧ (sel (decide (((Xa0 u).length : Int) > 0)) (req (0 ≤ (0 : Int) ∧ (0 : Int) < pl.length) <| req ((0 : Int).toNat < pl.length) <| req (((Xa0 u).length : Int) ≠ 0) <| req (0 ≤ (0 : Int) ∧ (0 : Int) < pl.length) <| req ((0 : Int).toNat < pl.length) <| req (((Xa0 u).length : Int) ≠ 0) <| req (0 ≤ ((pl.getD ((0 : Int).toNat) 0).tmod ((Xa0 u).length : Int)) ∧ ((pl.getD ((0 : Int).toNat) 0).tmod ((Xa0 u).length : Int)) < (Xa0 u).length) <| req (((pl.getD ((0 : Int).toNat) 0).tmod ((Xa0 u).length : Int)).toNat < (Xa0 u).length) <| req (0 ≤ (1 : Int) ∧ (1 : Int) < pl.length) <| req ((1 : Int).toNat < pl.length) <| req ((255 : Int) ≠ 0) <| req (0 ≤ ((pl.getD ((0 : Int).toNat) 0).tmod ((Xa0 u).length : Int)) ∧ ((pl.getD ((0 : Int).toNat) 0).tmod ((Xa0 u).length : Int)) < (Xa0 u).length) <| req (((pl.getD ((0 : Int).toNat) 0).tmod ((Xa0 u).length : Int)).toNat < (Xa0 u).length) <| some ((Xa0 u).set (((pl.getD ((0 : Int).toNat) 0).tmod ((Xa0 u).length : Int)).toNat) (IntKind.wrap .u8 (BitVec.ofInt (IntKind.bits .u8) ((Xa0 u).getD (((pl.getD ((0 : Int).toNat) 0).tmod ((Xa0 u).length : Int)).toNat) 0) ^^^ BitVec.ofInt (IntKind.bits .u8) (Xaa .u8 (Xaa .i64 (1 + ((pl.getD ((1 : Int).toNat) 0).tmod 255))))).toNat))) (some (Xa0 u))) = some v := by
  by_cases hz : ((Xa0 u).length : Int) > 0
  ·
   have m0 := Int.emod_nonneg (pl.getD 0 0) (show ((Xa0 u).length : Int) ≠ 0 by omega)
   have m1 := Int.emod_lt_of_pos (pl.getD 0 0) hz
   have e0 : (0 : Int).toNat = 0 := rfl
   have e1 : (1 : Int).toNat = 1 := rfl
   rw [Xbm hz, e0, e1, Xbs hp0]
   generalize pl.getD 0 0 % ((Xa0 u).length : Int) = m at m0 m1 ⊢
   rw [rqA, rqA, rqA, rqA, rqA, rqA, rqA, rqA, rqA, rqA, rqA, rqA, rqA]
   exact ⟨_, by rw [List.length_set]; exact hn, rfl⟩
  ·
   rw [Xax hz]
   exact ⟨_, hn, rfl⟩
 obtain ⟨v, hv, e⟩ := ev
 rw [e, Xab]
 obtain ⟨D, co, P, ei, es, ok', r, d1, d2⟩ := Ynf ok (strOfNums v) c1 c2 (by rw [strOfNums_size]; omega)
 rw [ei, Xab, es, Xab]
 simp only
 rw [bne_self_eq_false, Xam, Xnh D d1 d2, Xab, Xav, Xx0 D (by omega) (by omega), Xab, ok']
 simp only [beq_self_eq_true, Bool.and_self, Bool.not_true, Xam, Xab, show (true == false) = false from rfl]
 cases hco : (co == 0) with
 | true => rfl
 | false =>
  obtain ⟨rfl, rfl⟩ := r (by rw [beq_eq_false_iff_ne] at hco; exact hco)
  rw [Xam, Xnh _ c1 c2, Xab]
  rfl
end Go.Proofs.YtjgbfopmjpkkhaaGreat.A.Pure
