/- The pure statement of the law FnStreams, part 3: over numbers, texts and lists alone, what the law computes is true. Conditions: the sizes of what a machine holds. -/
import Derived.Test.YtnhflbeahbcklabGreatPureFnStreamsx1
namespace Go.Proofs.YtnhflbeahbcklabGreat.A.Pure
open Go Go.Proofs Go.Proofs.YtnhflbeahbcklabGreatAL Go.RowKit
set_option linter.unusedVariables false
set_option linter.unusedSimpArgs false
set_option maxHeartbeats 1000000
theorem Yrg {L : List Int} (hb : Xeo L) (hl : L.length ≤ 400000) : ∀ n k : Nat, k + n = 4 → ∀ (i : Nat) (l : List Int), i ≤ L.length → l.length = 16 * k →
  (∃ (l' : List Int) (j : Nat), loop (Xek (strOfNums L)) ((i : Int), (k : Int), l) = some (.out ((j : Int), l')) ∧ loop Xa3 ((k : Int), strOfNums L, (i : Int), false, l) = some (l', strOfNums L, (j : Int), false) ∧ l'.length = 64 ∧ j ≤ L.length) ∨
  (loop (Xek (strOfNums L)) ((i : Int), (k : Int), l) = some (.ret ([], 0, false)) ∧ ∃ (l' : List Int) (a : Int), loop Xa3 ((k : Int), strOfNums L, (i : Int), false, l) = some (l', strOfNums L, a, true) ∧ l'.length = 64)
 | 0, k, hk, i, l, hi, hll => .inl ⟨l, i, Xbx (by unfold Xek; simp only; rw [snA]), Xbx (by unfold Xa3; simp only; rw [snA]), by omega, hi⟩
 | n + 1, k, hk, i, l, hi, hll => by
  have hm : maxLen = 9223372036854775807 := rfl
  rcases You hb hl 16 (by omega) i hi with ⟨q, j, e1, e2, h1, h2⟩ | ⟨e1, q, a, e2, h1⟩
  ·
   have gI : Xa3 ((k : Int), strOfNums L, (i : Int), false, l) = some (.go (((k + 1 : Nat) : Int), strOfNums L, (j : Int), false, l ++ q)) := by
    unfold Xa3
    simp only
    rw [syA]
    refine (Xc3 e2).trans ?_
    simp only
    rw [rqA, wkA]
    rfl
   have gS : Xek (strOfNums L) ((i : Int), (k : Int), l) = some (.go ((j : Int), ((k + 1 : Nat) : Int), l ++ q)) := by
    unfold Xek
    simp only
    rw [syA]
    refine (Xc3 e1).trans ?_
    simp only
    rw [Bool.not_true, Xam, rqA, wkA]
    rfl
   rcases Yrg hb hl n (k + 1) (by omega) j (l ++ q) h2 (by rw [List.length_append]; omega) with ⟨l', j', r1, r2, r3, r4⟩ | ⟨r1, l', a, r2, r3⟩
   ·
    exact .inl ⟨l', j', lgo gS r1, lgo gI r2, r3, r4⟩
   ·
    exact .inr ⟨lgo gS r1, l', a, lgo gI r2, r3⟩
  ·
   obtain ⟨l', r1, r2⟩ := Yp4 (strOfNums L) a n (k + 1) (by omega) (l ++ q) (by rw [List.length_append]; omega)
   refine .inr ⟨Xbx ?_, l', a, lgo ?_ r1, r2⟩
   ·
    unfold Xek
    simp only
    rw [syA]
    refine (Xc3 e1).trans ?_
    rfl
   ·
    unfold Xa3
    simp only
    rw [syA]
    refine (Xc3 e2).trans ?_
    simp only
    rw [rqA, wkA]
    rfl
theorem Yfr {L : List Int} (hb : Xeo L) (hl : L.length ≤ 400000) (i : Nat) (hi : i ≤ L.length) (c : Xfg) :
  (∃ (l : List Int) (j : Nat), Xkb (strOfNums L) (i : Int) c = some (l, (j : Int), true) ∧ Xbh ⟨strOfNums L, (i : Int), false⟩ c = some (l, ⟨strOfNums L, (j : Int), false⟩) ∧ l.length = 64 ∧ j ≤ L.length) ∨
  (Xkb (strOfNums L) (i : Int) c = some ([], 0, false) ∧ ∃ (l : List Int) (a : Int), Xbh ⟨strOfNums L, (i : Int), false⟩ c = some (l, ⟨strOfNums L, a, true⟩) ∧ l.length = 64) := by
 unfold Xkb Xbh
 rw [Ya6, Xab, Xab]
 by_cases h : (c.Large || c.Exact) = true
 ·
  rw [Xbb h, Xbb h]
  rcases You hb hl 64 (by omega) i hi with ⟨q, j, e1, e2, h1, h2⟩ | ⟨e1, q, a, e2, h1⟩
  ·
   exact .inl ⟨q, j, (Xc3 e1).trans rfl, (Xc3 e2).trans rfl, h1, h2⟩
  ·
   exact .inr ⟨(Xc3 e1).trans rfl, q, a, (Xc3 e2).trans rfl, h1⟩
 ·
  rw [Xaz (by simpa using h), Xaz (by simpa using h)]
  rcases Yrg hb hl 4 0 rfl i [] hi rfl with ⟨l', j', r1, r2, r3, r4⟩ | ⟨r1, l', a, r2, r3⟩
  ·
   exact .inl ⟨l', j', (Xc3 r1).trans rfl, (Xc3 r2).trans rfl, r3, r4⟩
  ·
   exact .inr ⟨(Xc3 r1).trans rfl, l', a, (Xc3 r2).trans rfl, r3⟩
theorem Ykb (s : ByteArray) (a : Int) (c : Xfg) : ∃ (q : Xao) (a' : Int), Xca ⟨s, a, true⟩ c = some (q, ⟨s, a', true⟩) := by
 unfold Xca
 cases hK : c.Key with
 | true => exact ⟨_, _, rfl⟩
 | false =>
  simp only
  rw [Bool.not_false, Xaq, Yr5, Xab, Xab]
  exact ⟨_, _, rfl⟩
theorem Yqm {L : List Int} (hb : Xeo L) (hl : L.length ≤ 400000) (i : Nat) (hi : i ≤ L.length) (c : Xfg) :
  (∃ (q : Xao) (j : Nat), Xpe (strOfNums L) (i : Int) c = some (q, (j : Int), true) ∧ Xca ⟨strOfNums L, (i : Int), false⟩ c = some (q, ⟨strOfNums L, (j : Int), false⟩) ∧ q.Levels.length ≤ 64 ∧ j ≤ L.length ∧ Xm9 q = true ∧ Xhu q c = true) ∨
  (Xpe (strOfNums L) (i : Int) c = some (⟨0, 0, 0, 0, []⟩, 0, false) ∧ ∃ (q : Xao) (a : Int), Xca ⟨strOfNums L, (i : Int), false⟩ c = some (q, ⟨strOfNums L, a, true⟩)) := by
 -- the kind
 have tail : ∀ (kd : Int) (i1 : Nat), i1 ≤ L.length → (0 ≤ kd ∧ kd ≤ 2) → (c.Key = true → kd = 2) → ∀ (x y : Option (Xao × Int × Bool)) (z : Option (Xao × Xkf)),
   x = (sel (kd == 0) (some ((⟨kd, 0, 0, 0, []⟩ : Xao), (i1 : Int), true)) (sel (kd == 1) (bnd (Xco (strOfNums L) i1) fun q5 => sel (!q5.2.2) (some ((⟨0, 0, 0, 0, []⟩ : Xao), 0, false)) (bnd (Xco (strOfNums L) q5.2.1) fun q6 => (sel (!q6.2.2) (some ((⟨0, 0, 0, 0, []⟩ : Xao), 0, false)) (bnd (Xkb (strOfNums L) q6.2.1 c) fun q8 => bnd (sel q8.2.2 (bnd (Xgc (⟨kd, 0, q5.1, q6.1, q8.1⟩ : Xao)) fun q10 => some (!q10)) (some true)) fun v9 => sel v9 (some ((⟨0, 0, 0, 0, []⟩ : Xao), 0, false)) (some ((⟨kd, 0, q5.1, q6.1, q8.1⟩ : Xao), q8.2.1, true)))))) (bnd (Xbo (strOfNums L) i1) fun q7 => (sel (!q7.2.2) (some ((⟨0, 0, 0, 0, []⟩ : Xao), 0, false)) (bnd (Xkb (strOfNums L) q7.2.1 c) fun q8 => bnd (sel q8.2.2 (bnd (Xgc (⟨kd, q7.1, 0, 0, q8.1⟩ : Xao)) fun q10 => some (!q10)) (some true)) fun v9 => sel v9 (some ((⟨0, 0, 0, 0, []⟩ : Xao), 0, false)) (some ((⟨kd, q7.1, 0, 0, q8.1⟩ : Xao), q8.2.1, true))))))) →
   z = (bnd (sel (kd == 1) (bnd (Xbw (⟨strOfNums L, (i1 : Int), false⟩ : Xkf)) fun q4 => bnd (Xbw q4.2) fun q5 => bnd (Xbh q5.2 c) fun q6 => some (q6.2.row_, q6.2.at_, q6.2.bad_, (0 : Int), q4.1, q5.1, q6.1)) (sel (kd == 2) (bnd (Xbj (⟨strOfNums L, (i1 : Int), false⟩ : Xkf)) fun q7 => bnd (Xbh q7.2 c) fun q8 => some (q8.2.row_, q8.2.at_, q8.2.bad_, q7.1, 0, 0, q8.1)) (some (strOfNums L, (i1 : Int), false, 0, 0, 0, [])))) fun v3 => bnd (sel v3.2.2.1 (some true) (bnd (Xf9 (⟨kd, v3.2.2.2.1, v3.2.2.2.2.1, v3.2.2.2.2.2.1, v3.2.2.2.2.2.2⟩ : Xao)) fun q10 => some (!q10))) fun v9 => some ((⟨kd, v3.2.2.2.1, v3.2.2.2.2.1, v3.2.2.2.2.2.1, v3.2.2.2.2.2.2⟩ : Xao), (⟨v3.1, v3.2.1, v9⟩ : Xkf))) →
   (∃ (q : Xao) (j : Nat), x = some (q, (j : Int), true) ∧ z = some (q, ⟨strOfNums L, (j : Int), false⟩) ∧ q.Levels.length ≤ 64 ∧ j ≤ L.length ∧ Xm9 q = true ∧ Xhu q c = true) ∨ (x = some (⟨0, 0, 0, 0, []⟩, 0, false) ∧ ∃ (q : Xao) (a : Int), z = some (q, ⟨strOfNums L, a, true⟩)) := by
  intro kd i1 hi1 hkd hkey x _ z hx hz
  subst hx; subst hz
  obtain h0 | h1 | h2 : kd = 0 ∨ kd = 1 ∨ kd = 2 := by omega
  ·
   subst h0
   exact .inl ⟨⟨0, 0, 0, 0, []⟩, i1, rfl, rfl, by simp, hi1, rfl, by
    unfold Xhu
    cases hK : c.Key with
    | false => rfl
    | true => exact absurd (hkey hK) (by decide)⟩
  ·
   subst h1
   have hlet : ∀ q : Xao, q.Kind = 1 → Xhu q c = true := fun q hq => by
    unfold Xhu
    cases hK : c.Key with
    | false => rfl
    | true => exact absurd (hkey hK) (by decide)
   rw [Xaz (b := ((1 : Int) == 0)) (by rfl), Xbb (b := ((1 : Int) == 1)) (by rfl), Xbb (b := ((1 : Int) == 1)) (by rfl)]
   rcases Yga hb hl i1 hi1 with ⟨dx, j, e1, e2, h1, h2, h3⟩ | ⟨e1, a, e2⟩
   ·
    rw [e1, Xab, e2, Xab]
    simp only
    rw [Bool.not_true, Xam]
    rcases Yga hb hl j h3 with ⟨dy, j2, f1, f2, g1, g2, g3⟩ | ⟨f1, a, f2⟩
    ·
     rw [f1, Xab, f2, Xab]
     simp only
     rw [Bool.not_true, Xam]
     rcases Yfr hb hl j2 g3 c with ⟨lv, j3, k1, k2, k3, k4⟩ | ⟨k1, lv, a, k2, k3⟩
     ·
      rw [k1, Xab, k2, Xab, Xab]
      simp only
      rw [Xaq, Xam, Xjh, Xab, Xen _ (by simp only; omega), Xab, Xab, Xab]
      cases hq : Xm9 ⟨1, 0, dx, dy, lv⟩ with
      | true => exact .inl ⟨_, j3, rfl, rfl, by simp only; omega, k4, hq, hlet _ rfl⟩
      | false => exact .inr ⟨rfl, _, _, rfl⟩
     ·
      rw [k1, Xab, k2, Xab, Xab]
      exact .inr ⟨rfl, _, _, rfl⟩
    ·
     rw [f1, Xab, f2, Xab]
     obtain ⟨lv, k2, _⟩ := Xzt (strOfNums L) a c
     simp only
     rw [k2, Xab, Xab]
     exact .inr ⟨rfl, _, _, rfl⟩
   ·
    rw [e1, Xab, e2, Xab]
    obtain ⟨lv, k2, _⟩ := Xzt (strOfNums L) a c
    simp only
    rw [Yrx, Xab]
    simp only
    rw [k2, Xab, Xab]
    exact .inr ⟨rfl, _, _, rfl⟩
  ·
   subst h2
   have hlet : ∀ q : Xao, q.Kind = 2 → Xhu q c = true := fun q hq => by
    unfold Xhu
    rw [hq]
    cases c.Key <;> rfl
   rw [Xaz (b := ((2 : Int) == 0)) (by rfl), Xaz (b := ((2 : Int) == 1)) (by rfl), Xaz (b := ((2 : Int) == 1)) (by rfl), Xbb (b := ((2 : Int) == 2)) (by rfl)]
   rcases Xrl hb hl i1 hi1 with ⟨m, j2, f1, f2, g1, g2, g3⟩ | ⟨f1, a, f2⟩
   ·
    rw [f1, Xab, f2, Xab]
    simp only
    rw [Bool.not_true, Xam]
    rcases Yfr hb hl j2 g3 c with ⟨lv, j3, k1, k2, k3, k4⟩ | ⟨k1, lv, a, k2, k3⟩
    ·
     rw [k1, Xab, k2, Xab, Xab]
     simp only
     rw [Xaq, Xam, Xjh, Xab, Xen _ (by simp only; omega), Xab, Xab, Xab]
     cases hq : Xm9 ⟨2, (m : Int), 0, 0, lv⟩ with
     | true => exact .inl ⟨_, j3, rfl, rfl, by simp only; omega, k4, hq, hlet _ rfl⟩
     | false => exact .inr ⟨rfl, _, _, rfl⟩
    ·
     rw [k1, Xab, k2, Xab, Xab]
     exact .inr ⟨rfl, _, _, rfl⟩
   ·
    rw [f1, Xab, f2, Xab]
    obtain ⟨lv, k2, _⟩ := Xzt (strOfNums L) a c
    simp only
    rw [k2, Xab, Xab]
    exact .inr ⟨rfl, _, _, rfl⟩
 unfold Xpe Xca
 simp only [Yn7]
 cases hK : c.Key with
 | true =>
  rw [Bool.not_true, Xam, Xam, Xab]
  simp only
  rw [Xam]
  exact tail 2 i hi (by omega) (fun _ => rfl) _ none _ rfl rfl
 | false =>
  rw [Bool.not_false, Xaq, Xaq]
  rcases Xrl hb hl i hi with ⟨v, j, e1, e2, h1, h2, h3⟩ | ⟨e1, a, e2⟩
  ·
   rw [e1, Xab, e2, Xab, Xab]
   simp only
   rw [Xaq, Xab]
   by_cases hv : (v : Int) > 2
   ·
    rw [Xa9 hv]
    rw [Xam, Xaz (b := (v : Int) == 1) (by rw [beq_eq_false_iff_ne]; omega), Xaz (b := (v : Int) == 2) (by rw [beq_eq_false_iff_ne]; omega), Xab]
    simp only
    have hq : Xm9 ⟨(v : Int), 0, 0, 0, []⟩ = false := by
     unfold Xm9
     rw [if_neg (by simp only; omega), if_neg (by simp only; omega), if_neg (by simp only; omega)]
    rw [Xam, Xen _ (by simp), Xab, hq]
    exact .inr ⟨trivial, _, _, rfl⟩
   ·
    rw [Xas hv, Xam]
    exact tail v j h3 (by omega) (fun h => by rw [hK] at h; cases h) _ none _ rfl rfl
  ·
   rw [e1, Xab, e2, Xab, Xab]
   exact .inr ⟨rfl, _, _, rfl⟩
theorem Xqk (s : ByteArray) : (∃ L : List Int, s = strOfNums L ∧ Xeo L ∧ L.length ≤ 400000 ∧ Xjv s = some true ∧ Xgx s = some true) ∨ (Xjv s = some false ∧ Xgx s = some false) := by
 have hf : Xhy s = Xdf s := rfl
 unfold Xjv Xgx
 by_cases hs : s.size ≤ 400000
 ·
  rw [snA, syA, hf]
  unfold Xl5
  have hl := Ykp (fun x => x == 48 || x == 49) (Xal s) (Xdf s) (by
   intro i hi
   rw [Xap] at hi
   unfold Xdf
   rw [syA, rqA, rqA, Yfx s i hi, wkA]
   generalize Xcd s i = x
   cases h1 : (x == 48) <;> cases h2 : (x == 49) <;> simp only [bne, h1, h2, sel, bnd, Bool.not_true, Bool.not_false, Bool.or_false, Bool.or_true, Bool.true_or] <;> rfl) (by
   rw [Xap]
   unfold Xdf
   rw [snA])
  rw [hl]
  by_cases hall : (Xal s).all (fun x => x == 48 || x == 49) = true
  ·
   rw [if_pos hall]
   refine .inl ⟨Xal s, (Xkd s).symm, fun x hx => ?_, by rw [Xap]; exact hs, rfl, rfl⟩
   have := List.all_eq_true.1 hall x hx
   simpa using this
  ·
   rw [if_neg hall]
   exact .inr ⟨rfl, rfl⟩
 ·
  rw [syA, snA]
  exact .inr ⟨rfl, rfl⟩
theorem Yo8 {L : List Int} (hb : Xeo L) (hl : L.length ≤ 400000) (N : Nat) (hN : N ≤ 64) (c : Xfg) (hc : Xge c = true) : ∀ n k : Nat, k + n = N → ∀ (i : Nat) (l : List Xao), i ≤ L.length → l.length = k → (∀ q ∈ l, q.Levels.length ≤ 64) → Yhb l c = true →
  (∃ (l' : List Xao) (j : Nat), loop (Xcl (strOfNums L) (N : Int) c) ((i : Int), (k : Int), l) = some (.out ((j : Int), l')) ∧ loop (Xba (N : Int) c) ((k : Int), strOfNums L, (i : Int), false, l) = some (.out (strOfNums L, (j : Int), false, l')) ∧ l'.length = N ∧ (∀ q ∈ l', q.Levels.length ≤ 64) ∧ Yhb l' c = true) ∨
  (loop (Xcl (strOfNums L) (N : Int) c) ((i : Int), (k : Int), l) = some (.ret ([], false)) ∧ loop (Xba (N : Int) c) ((k : Int), strOfNums L, (i : Int), false, l) = some (.ret ([], false)))
 | 0, k, hk, i, l, hi, hll, hq, hs => .inl ⟨l, i, Xbx (by unfold Xcl; simp only; rw [snA]), Xbx (by unfold Xba; simp only; rw [snA]), by omega, hq, hs⟩
 | n + 1, k, hk, i, l, hi, hll, hq, hs => by
  have hm : maxLen = 9223372036854775807 := rfl
  rcases Yqm hb hl i hi c with ⟨q, j, e1, e2, h1, h2, h3, h4⟩ | ⟨e1, q, a, e2⟩
  ·
   have gI : Xba (N : Int) c ((k : Int), strOfNums L, (i : Int), false, l) = some (.go (((k + 1 : Nat) : Int), strOfNums L, (j : Int), false, l ++ [q])) := by
    unfold Xba
    simp only
    rw [syA, e2, Xab]
    simp only
    rw [Xav (by simp only [List.length_singleton]; omega), Xam, wkA]
    rfl
   have gS : Xcl (strOfNums L) (N : Int) c ((i : Int), (k : Int), l) = some (.go ((j : Int), ((k + 1 : Nat) : Int), l ++ [q])) := by
    unfold Xcl
    simp only
    rw [syA, e1, Xab]
    simp only
    rw [Bool.not_true, Xam, Xav (by simp only [List.length_singleton]; omega), wkA]
    rfl
   have hq' : ∀ x ∈ l ++ [q], x.Levels.length ≤ 64 := fun x hx => by
    rcases List.mem_append.1 hx with h | h
    ·
     exact hq x h
    ·
     rw [List.mem_singleton.1 h]; exact h1
   have hs' : Yhb (l ++ [q]) c = true := by
    unfold Yhb at hs ⊢
    rw [List.all_append, hs, Bool.true_and, List.all_cons, h3, hc, h4]; rfl
   rcases Yo8 hb hl N hN c hc n (k + 1) (by omega) j (l ++ [q]) h2 (by rw [List.length_append, hll]; rfl) hq' hs' with ⟨l', j', r1, r2, r3⟩ | ⟨r1, r2⟩
   ·
    exact .inl ⟨l', j', lgo gS r1, lgo gI r2, r3⟩
   ·
    exact .inr ⟨lgo gS r1, lgo gI r2⟩
  ·
   refine .inr ⟨Xbx ?_, Xbx ?_⟩
   ·
    unfold Xcl
    simp only
    rw [syA, e1, Xab]
    rfl
   ·
    unfold Xba
    simp only
    rw [syA, e2, Xab]
    simp only
    rw [Xav (by simp only [List.length_singleton]; omega), Xaq]
def Zai (n : Int) (c : Xfg) (l : List Xao) : Prop := Xge c = true ∧ (1 ≤ n ∧ n ≤ 64) ∧ (l.length : Int) = n ∧ Yhb l c = true
theorem Xwh (s : ByteArray) (a n : Int) (c : Xfg) : ∃ (l : List Xao) (b : Bool), Xev s a n c = some (l, b) ∧ Xk4 s a n c = some (l, b) ∧ l.length ≤ 64 ∧ (∀ q ∈ l, q.Levels.length ≤ 64) ∧ (b = true → Zai n c l) := by
 have hm : maxLen = 9223372036854775807 := rfl
 have fin : ∀ {x y : Option (List Xao × Bool)}, x = some ([], false) → y = some ([], false) → ∃ (l : List Xao) (b : Bool), x = some (l, b) ∧ y = some (l, b) ∧ l.length ≤ 64 ∧ (∀ q ∈ l, q.Levels.length ≤ 64) ∧ (b = true → Zai n c l) := fun h1 h2 => ⟨[], false, h1, h2, by simp, fun q hq => by simp at hq, fun h => by cases h⟩
 unfold Xev Xk4 Xe7
 by_cases hn : 1 ≤ n ∧ n ≤ 64
 ·
  by_cases hc : Xge c = true
  case neg =>
   have hc : Xge c = false := by simpa using hc
   refine fin ?_ ?_
   ·
    rcases Xqk s with ⟨L, _, _, _, r1, _⟩ | ⟨r1, _⟩
    ·
     rw [r1, Xab, Xaq, Xaj, Xab, Xab, Xab, Xaj, Xab, decide_eq_true hn, Xaq, Xdc, Xab, hc, Xab]; rfl
    ·
     rw [r1, Xab, Xam, Xab, Xab, Xaj, Xab, decide_eq_true hn, Xaq, Xdc, Xab, hc, Xab]; rfl
   ·
    rcases Xqk s with ⟨L, _, _, _, _, r1⟩ | ⟨_, r1⟩
    ·
     rw [r1, Xab, Xaq, Xai, Xab, Xe9, Xab, hc, Xam]
     cases decide (0 ≤ a ∧ a ≤ (s.size : Int)) <;> rfl
    ·
     rw [r1, Xab, Xam, Xab, Xaq]
  case pos =>
   rcases Xqk s with ⟨L, hL, hb, hl, r1, r2⟩ | ⟨r1, r2⟩
   ·
    rw [r1, r2, Xab, Xab, Xaq, Xaq, Xaj, Xab, Xai, Xab, Xab, Xab, Xaj, Xab, decide_eq_true hn, Xaq, Xdc, Xab, hc, Xab, Xe9, Xab, hc, Xaq, Xai, Xab, decide_eq_true hn]
    by_cases ha : 0 ≤ a ∧ a ≤ (s.size : Int)
    ·
     rw [decide_eq_true ha]
     simp only [Bool.not_true, Xam, Xaq, Xab]
     subst hL
     rw [strOfNums_size] at ha ⊢
     obtain ⟨i, rfl⟩ : ∃ i : Nat, a = i := ⟨a.toNat, by omega⟩
     obtain ⟨N, rfl⟩ : ∃ N : Nat, n = N := ⟨n.toNat, by omega⟩
     rcases Yo8 hb hl N (by omega) c hc N 0 (by omega) i [] (by omega) rfl (fun q hq => by simp at hq) rfl with ⟨l', j, k1, k2, k3, k4, k5⟩ | ⟨k1, k2⟩
     ·
      have k1' : loop (Xcl (strOfNums L) (N : Int) c) ((i : Int), 0, []) = some (.out ((j : Int), l')) := k1
      have k2' : loop (Xba (N : Int) c) (0, strOfNums L, (i : Int), false, []) = some (.out (strOfNums L, (j : Int), false, l')) := k2
      rw [k1', k2', Xab, Xab]
      simp only
      by_cases hj : (j : Int) = (L.length : Int)
      ·
       rw [Xaz (by rw [bne_eq_false_iff_eq]; exact hj)]
       exact ⟨l', true, rfl, rfl, by omega, k4, fun _ => ⟨hc, hn, by omega, k5⟩⟩
      ·
       rw [Xbb (by rw [bne_iff_ne]; exact hj)]
       exact fin rfl rfl
     ·
      have k1' : loop (Xcl (strOfNums L) (N : Int) c) ((i : Int), 0, []) = some (.ret ([], false)) := k1
      have k2' : loop (Xba (N : Int) c) (0, strOfNums L, (i : Int), false, []) = some (.ret ([], false)) := k2
      rw [k1', k2', Xab, Xab]
      exact fin rfl rfl
    ·
     rw [decide_eq_false ha]
     simp only [Bool.not_true, Bool.not_false, Xam, Xaq, Xab]
     obtain ⟨q, a', eq⟩ := Ykb s a c
     have hd : Xba n c (0, s, a, true, []) = some (.done (.ret ([], false))) := by
      unfold Xba
      simp only
      rw [syA, eq, Xab]
      simp only
      rw [Xav (by simp only [List.length_singleton, List.length_nil]; omega), Xaq]
     rw [Xci hd, Xab]
     exact fin rfl rfl
   ·
    refine fin ?_ ?_
    ·
     rw [r1, Xab, Xam, Xab, Xab, Xaj, Xab, decide_eq_true hn, Xaq, Xdc, Xab, hc, Xab, Bool.not_true, Xam]
     simp only
     obtain ⟨q, a', eq⟩ := Ykb s a c
     have hd : Xba n c (0, s, a, true, []) = some (.done (.ret ([], false))) := by
      unfold Xba
      simp only
      rw [syA, eq, Xab]
      simp only
      rw [Xav (by simp only [List.length_singleton, List.length_nil]; omega), Xaq]
     rw [Xci hd, Xab]
    ·
     rw [r2, Xab, Xam, Xab, Xaq]
 ·
  refine fin ?_ ?_
  ·
   rcases Xqk s with ⟨L, _, _, _, r1, _⟩ | ⟨r1, _⟩
   ·
    rw [r1, Xab, Xaq, Xaj, Xab, Xab, Xab, Xaj, Xab, decide_eq_false hn, Xam, Xab, Xaq]
   ·
    rw [r1, Xab, Xam, Xab, Xab, Xaj, Xab, decide_eq_false hn, Xam, Xab, Xaq]
  ·
   rcases Xqk s with ⟨L, _, _, _, _, r1⟩ | ⟨_, r1⟩
   ·
    rw [r1, Xab, Xaq, Xai, Xab, Xe9, Xab, Xai, Xab, decide_eq_false hn]
    cases decide (0 ≤ a ∧ a ≤ (s.size : Int)) <;> cases Xge c <;> rfl
   ·
    rw [r1, Xab, Xam, Xab, Xaq]
def Yw8 (w h : Int) : Pic := ⟨w, h, strOfNums (List.replicate (w * h).toNat 128)⟩
def Xyw (s : ByteArray) (i : Nat) : Int := 48 + (Xcd s ((i / 8 : Nat) : Int) / 2 ^ (7 - i % 8)) % 2
def Xig (s : ByteArray) : List Int := (List.range (8 * s.size)).map (Xyw s)
theorem Yw1 : ∀ b : Fin 256, Xys 8 (b.val : Int) = (List.range 8).map fun k => 48 + ((b.val : Int) / 2 ^ (7 - k)) % 2 := by decide +kernel
theorem Zb7 (b : Int) (h : 0 ≤ b ∧ b ≤ 255) : Xys 8 b = (List.range 8).map fun k => 48 + (b / 2 ^ (7 - k)) % 2 := by
 have := Yw1 ⟨b.toNat, by omega⟩
 simp only at this
 rwa [show ((b.toNat : Nat) : Int) = b by omega] at this
theorem Yt0 (s : ByteArray) (i : Nat) : Xyw s i = 48 ∨ Xyw s i = 49 := by unfold Xyw; omega
theorem Ysg (s : ByteArray) : Xeo (Xig s) := fun x hx => by
 obtain ⟨i, _, rfl⟩ := List.mem_map.1 hx
 exact Yt0 s i
theorem Xpz (s : ByteArray) : (Xig s).length = 8 * s.size := by simp [Xig]
theorem Xwo (s : ByteArray) {i : Nat} (h : i < 8 * s.size) : (Xig s).getD i 0 = Xyw s i := Xjc _ h
theorem Yqb (f : Nat → Int) (n : Nat) : (List.range (8 * n)).map f ++ (List.range 8).map (fun k => f (8 * n + k)) = (List.range (8 * (n + 1))).map f := by
 rw [show 8 * (n + 1) = 8 * n + 8 by omega, List.range_add, List.map_append, List.map_map]
 rfl
theorem Xwq (s : ByteArray) (hs : s.size ≤ 50001) : loop (Xgk s) (0, []) = some (Xig s) := by
 have hm : maxLen = 9223372036854775807 := rfl
 obtain ⟨o, e, ho⟩ := Xff (f := Xgk s) s.size (fun i l => l = (List.range (8 * i)).map (Xyw s)) (by
  intro i l hi g
  subst g
  have hb := Xo2 s i
  unfold Xgk
  simp only
  rw [syA, rqA, wkA (e := Xcd s i), show (8 : Int) = ((8 : Nat) : Int) from rfl, Xmp _ 8 hb.1 (by omega) (by omega), Xab, Yde _ (Xkg (Xwv _ _)), Xav (by simp only [Xcp, List.length_map, List.length_range]; omega), wkA (e := (i : Int) + 1)]
  refine ⟨_, rfl, ?_⟩
  rw [← Yqb, Zb7 _ hb]
  congr 1
  refine List.map_congr_left fun k hk => ?_
  have hk8 := List.mem_range.1 hk
  unfold Xyw
  rw [show (8 * i + k) / 8 = i by omega, show (8 * i + k) % 8 = k by omega]) (by intro l; unfold Xgk; rw [Xas (by simp)]) [] rfl
 rw [e, ho]; rfl
theorem Ysf : ∀ b : Fin 256, ∀ k : Fin 8, Xaa .u8 (48 + (IntKind.wrap .u8 (BitVec.ofInt (IntKind.bits .u8) ((b.val : Int) / 2 ^ min (k.val) (IntKind.bits .u8)) &&& BitVec.ofInt (IntKind.bits .u8) 1).toNat)) = 48 + ((b.val : Int) / 2 ^ k.val) % 2 := by decide +kernel
theorem Zan (b : Int) (h : 0 ≤ b ∧ b ≤ 255) (k : Nat) (hk : k < 8) : Xaa .u8 (48 + (IntKind.wrap .u8 (BitVec.ofInt (IntKind.bits .u8) (b / 2 ^ min k (IntKind.bits .u8)) &&& BitVec.ofInt (IntKind.bits .u8) 1).toNat)) = 48 + (b / 2 ^ k) % 2 := by
 have := Ysf ⟨b.toNat, by omega⟩ ⟨k, hk⟩
 simp only at this
 rwa [show ((b.toNat : Nat) : Int) = b by omega] at this
theorem Xo3 (s : ByteArray) (hs : s.size ≤ 50001) : loop (Xem s) (0, []) = some (Xig s) := by
 have hm : maxLen = 9223372036854775807 := rfl
 have := Ywo (f := Xem s) (8 * s.size) (Xyw s) [] (by
  intro i hi
  have hb := Xo2 s ((i / 8 : Nat) : Int)
  unfold Xem
  simp only
  rw [wkA (e := 8 * (s.size : Int)), syA, rqA, Xbp (by omega), wkA (e := (i : Int) / 8), rqA, rqA, Xbq (by omega), wkA (e := 7 - (i : Int) % 8), rqA, show (7 - (i : Int) % 8).toNat = 7 - i % 8 by omega, show (i : Int) / 8 = ((i / 8 : Nat) : Int) by omega, Zan _ hb (7 - i % 8) (by omega), Xav (by simp only [List.length_append, List.length_nil, List.length_map, List.length_range, List.length_singleton]; omega), wkA (e := (i : Int) + 1)]
  rfl) (by unfold Xem; rw [wkA (e := 8 * (s.size : Int)), Xas (by simp)])
 rw [List.nil_append] at this
 exact this
theorem Yq9 {V : List Int} (hV : Xeo V) : ∀ n : Nat, n ≤ V.length → (∃ j, j < n ∧ V.getD j 0 = 49) → ∃ k, k + 1 ≤ n ∧ V.getD k 0 = 49 ∧ ∀ j, k + 1 ≤ j → j < n → V.getD j 0 = 48
 | 0, _, ⟨j, h, _⟩ => by omega
 | n + 1, hn, ⟨j, hj, h⟩ => by
  rcases hV (V.getD n 0) (by rw [Xb2 V n (by omega)]; exact List.getElem_mem _) with e | e
  ·
   have hjn : j ≠ n := fun h2 => by rw [h2, e] at h; omega
   obtain ⟨k, h1, h2, h3⟩ := Yq9 hV n (by omega) ⟨j, by omega, h⟩
   refine ⟨k, by omega, h2, fun i h4 h5 => ?_⟩
   by_cases hi : i = n
   ·
    rw [hi]; exact e
   ·
    exact h3 i h4 (by omega)
  ·
   exact ⟨n, by omega, e, fun i h1 h2 => by omega⟩
theorem Ywt : ∀ b : Fin 256, b.val ≠ 0 → ∃ k : Fin 8, 48 + ((b.val : Int) / 2 ^ (7 - k.val)) % 2 = 49 := by decide +kernel
theorem Ykf (s : ByteArray) (hs : s.size ≤ 1048576) : (∃ L : List Int, Xeo L ∧ L.length ≤ 400000 ∧ Xeq s = some (strOfNums L, true) ∧ Xnw s = some (strOfNums L, true)) ∨ (Xeq s = some (⟨#[]⟩, false) ∧ Xnw s = some (⟨#[]⟩, false)) := by
 unfold Xeq Xnw
 rw [wkA (e := 8 * (s.size : Int))]
 by_cases h0 : s.size = 0
 ·
  rw [h0]
  exact .inr ⟨rfl, rfl⟩
 rw [Xaz (b := (8 * (s.size : Int)) == 0) (by rw [beq_eq_false_iff_ne]; omega), Xaz (b := (s.size : Int) == 0) (by rw [beq_eq_false_iff_ne]; omega), wkA (e := (s.size : Int) - 1), Xav (show 0 ≤ (s.size : Int) - 1 ∧ (s.size : Int) - 1 < s.size by omega)]
 by_cases hbig : s.size > 50001
 ·
  rw [syA, decide_eq_true (by omega), Xab, Xaq]
  refine .inr ⟨?_, rfl⟩
  cases (Xcd s ((s.size : Int) - 1) == 0) <;> rfl
 rw [snA, Xav (show 0 ≤ (s.size : Int) - 1 ∧ (s.size : Int) - 1 < s.size by omega), decide_eq_false (by omega)]
 cases hz : (Xcd s ((s.size : Int) - 1) == 0) with
 | true => exact .inr ⟨rfl, rfl⟩
 | false =>
  rw [Xam, Xab, Xab, Xam, Xam, Xav (show 0 ≤ (0 : Int) ∧ (0 : Int) ≤ 8 * (s.size : Int) ∧ 8 * (s.size : Int) * 1 ≤ 281474976710656 by omega), show (List.replicate (0 : Int).toNat (0 : Int)) = [] from rfl, Xo3 s (by omega), Xwq s (by omega), Xab, Xab]
  have hl := Xpz s
  have hV := Ysg s
  obtain ⟨k, k1, k2, k3⟩ := Yq9 hV (8 * s.size) (by omega) (by
   have hb := Xo2 s ((s.size : Int) - 1)
   rw [beq_eq_false_iff_ne] at hz
   obtain ⟨k, hk⟩ := Ywt ⟨(Xcd s ((s.size : Int) - 1)).toNat, by omega⟩ (by simp only; omega)
   have hk8 := k.isLt
   simp only at hk
   rw [show (((Xcd s ((s.size : Int) - 1)).toNat : Nat) : Int) = Xcd s ((s.size : Int) - 1) by omega] at hk
   refine ⟨8 * (s.size - 1) + k.val, by omega, ?_⟩
   rw [Xwo s (by omega)]
   unfold Xyw
   rw [show (8 * (s.size - 1) + k.val) / 8 = s.size - 1 by omega, show (8 * (s.size - 1) + k.val) % 8 = k.val by omega, show (((s.size - 1 : Nat)) : Int) = (s.size : Int) - 1 by omega]
   exact hk)
  have lI : loop (Xb9 (Xig s)) (8 * (s.size : Int)) = some ((k + 1 : Nat) : Int) := by
   have key : ∀ m : Nat, k + 1 + m ≤ 8 * s.size → loop (Xb9 (Xig s)) ((k + 1 + m : Nat) : Int) = some ((k + 1 : Nat) : Int) := by
    intro m
    induction m with
    | zero =>
     intro _
     refine Xbx ?_
     unfold Xb9
     rw [wkA, rqA, rqA, show (((k + 1 + 0 : Nat) : Int) - 1).toNat = k by omega, k2]
     rfl
    | succ m ih =>
     intro hm
     refine lgo ?_ (ih (by omega))
     unfold Xb9
     rw [wkA, rqA, rqA, show (((k + 1 + (m + 1) : Nat) : Int) - 1).toNat = k + 1 + m by omega, k3 _ (by omega) (by omega), show ((k + 1 + (m + 1) : Nat) : Int) - 1 = ((k + 1 + m : Nat) : Int) by omega]
     rfl
   have := key (8 * s.size - (k + 1)) (by omega)
   rwa [show ((k + 1 + (8 * s.size - (k + 1)) : Nat) : Int) = 8 * (s.size : Int) by omega] at this
  have lS : loop (Xgl (Xig s)) ((Xig s).length : Int) = some ((k + 1 : Nat) : Int) := by
   have key : ∀ m : Nat, k + 1 + m ≤ 8 * s.size → loop (Xgl (Xig s)) ((k + 1 + m : Nat) : Int) = some ((k + 1 : Nat) : Int) := by
    intro m
    induction m with
    | zero =>
     intro _
     refine Xbx ?_
     unfold Xgl
     rw [syA, wkA, rqA, rqA, show (((k + 1 + 0 : Nat) : Int) - 1).toNat = k by omega, k2]
     rfl
    | succ m ih =>
     intro hm
     refine lgo ?_ (ih (by omega))
     unfold Xgl
     rw [syA, wkA, rqA, rqA, show (((k + 1 + (m + 1) : Nat) : Int) - 1).toNat = k + 1 + m by omega, k3 _ (by omega) (by omega), show ((k + 1 + (m + 1) : Nat) : Int) - 1 = ((k + 1 + m : Nat) : Int) by omega]
     rfl
   have := key (8 * s.size - (k + 1)) (by omega)
   rwa [show ((k + 1 + (8 * s.size - (k + 1)) : Nat) : Int) = ((Xig s).length : Int) by omega] at this
  rw [lI, lS, Xab, wkA (e := ((k + 1 : Nat) : Int) - 1), show ((k + 1 : Nat) : Int) - 1 = (k : Int) by omega]
  by_cases hk : (k : Int) > 400000
  ·
   rw [Xa9 hk]
   exact .inr ⟨rfl, rfl⟩
  ·
   rw [Xas hk, rqA, rqA]
   exact .inl ⟨(Xig s).take k, fun x hx => hV x (List.mem_of_mem_take hx), by rw [List.length_take]; omega, rfl, rfl⟩
theorem Ydq (s : ByteArray) (hs : s.size ≤ 1048576) : (∃ (kd : Int) (L : List Int), Xno kd = true ∧ Xeo L ∧ L.length ≤ 400000 ∧ Xga s = some (kd, strOfNums L, true) ∧ Xon s = some (kd, strOfNums L, true)) ∨ (Xga s = some (0, ⟨#[]⟩, false) ∧ Xon s = some (0, ⟨#[]⟩, false)) := by
 unfold Xga Xon
 by_cases h0 : s.size = 0
 ·
  have hd : s = ⟨#[]⟩ := by
   have := Xkd s
   have hn : Xal s = [] := List.length_eq_zero_iff.1 (by rw [Xap]; exact h0)
   rw [hn] at this
   exact this.symm
  subst hd
  have e0 : ((⟨#[]⟩ : ByteArray).toList == (⟨#[]⟩ : ByteArray).toList) = true := beq_self_eq_true _
  have e1 : ((⟨#[]⟩ : ByteArray).size : Int) < 1 := by decide
  rw [e0, Xaq, Xa9 e1]
  exact .inr ⟨rfl, rfl⟩
 have hne : (s.toList == (⟨#[]⟩ : ByteArray).toList) = false := by
  rw [beq_eq_false_iff_ne]
  intro h
  exact h0 (by rw [Xtv.1 h]; rfl)
 have hb := Xo2 s 0
 have r0 : ∀ {β : Type} (k : Option β), req (0 ≤ (0 : Int) ∧ (0 : Int) < (s.size : Int)) k = k := fun k => rqA
 have r1 : ∀ {β : Type} (k : Option β), req (0 ≤ (1 : Int) ∧ (1 : Int) ≤ (s.size : Int) ∧ (s.size : Int) ≤ (s.size : Int)) k = k := fun k => rqA
 rw [hne, Xam, snA]
 simp only [r0, r1, wkA (e := Xcd s 0), Xus, Xs3, Xab]
 cases hk : Xno (Xcd s 0) with
 | false => exact .inr ⟨rfl, rfl⟩
 | true =>
  rw [Bool.not_true, Xam, Xam]
  rcases Ykf (s.extract (1 : Int).toNat (s.size : Int).toNat) (by rw [ByteArray.size_extract]; omega) with ⟨L, l1, l2, e1, e2⟩ | ⟨e1, e2⟩
  ·
   rw [e1, e2, Xab]
   exact .inl ⟨_, L, hk, l1, l2, rfl, rfl⟩
  ·
   rw [e1, e2, Xab]
   exact .inr ⟨rfl, rfl⟩
theorem Xqy {L : List Int} (hb : Xeo L) (hl : L.length ≤ 400000) (i : Nat) (hi : i ≤ L.length) (w : Nat) (hw : w ≤ 41) :
  (∃ v : Int, i + w ≤ L.length ∧ v = Xg5 ((L.drop i).take w) ∧ (0 ≤ v ∧ v < 2 ^ w) ∧ Xc0 (strOfNums L) (i : Int) (w : Int) = some (v, ((i + w : Nat) : Int), true) ∧ Xa0 ⟨strOfNums L, (i : Int), false⟩ (w : Int) = some (v, ⟨strOfNums L, ((i + w : Nat) : Int), false⟩)) ∨
  (L.length < i + w ∧ Xc0 (strOfNums L) (i : Int) (w : Int) = some (0, 0, false) ∧ Xa0 ⟨strOfNums L, (i : Int), false⟩ (w : Int) = some (0, ⟨strOfNums L, (i : Int), true⟩)) := by
 have es := Xv6 hb hl hi hw
 by_cases h : i + w ≤ L.length
 ·
  rw [if_pos h] at es
  have hr := Xi8 (l := (L.drop i).take w) (fun x hx => hb x (List.mem_of_mem_drop (List.mem_of_mem_take hx)))
  have hlen : ((L.drop i).take w).length = w := by rw [List.length_take, List.length_drop]; omega
  rw [hlen] at hr
  exact .inl ⟨_, h, rfl, hr, es, Ye8 hb hl h hw⟩
 ·
  rw [if_neg h] at es
  refine .inr ⟨by omega, es, ?_⟩
  unfold Xa0
  simp only
  rw [Xam, strOfNums_size, wkA, Xab, syA]
theorem Yd4 (s : ByteArray) (a w : Int) : Xa0 ⟨s, a, true⟩ w = some (0, ⟨s, a, true⟩) := rfl
theorem Xx0 (s : ByteArray) (a : Int) : Xcf ⟨s, a, true⟩ = some ([], ⟨s, a, true⟩) := by
 unfold Xcf
 rw [Yr5, Xab]
 have h : Xay (0, ⟨s, a, true⟩) (0, s, a, true, []) = some (.done ([], s, a, true)) := rfl
 simp only
 rw [snA, Xab, Xci h, Xab]
theorem Yod {L : List Int} (hb : Xeo L) (hl : L.length ≤ 400000) (q1 : Int × Int × Bool) (q2 : Int × Xkf) (N : Nat) (hN : N ≤ 4) (h1 : q1.1 = (N : Int)) (h2 : q2.1 = (N : Int)) : ∀ n k : Nat, k + n = N → ∀ (i : Nat) (l : List Int), i ≤ L.length → l.length = k →
  (∃ (l' : List Int) (j : Nat), loop (Xb1 (strOfNums L) q1) ((i : Int), (k : Int), l) = some (.out ((j : Int), l')) ∧ loop (Xay q2) ((k : Int), strOfNums L, (i : Int), false, l) = some (l', strOfNums L, (j : Int), false) ∧ l'.length ≤ 4 ∧ j ≤ L.length) ∨
  (loop (Xb1 (strOfNums L) q1) ((i : Int), (k : Int), l) = some (.ret ([], 0, false)) ∧ ∃ (l' : List Int) (a : Int), loop (Xay q2) ((k : Int), strOfNums L, (i : Int), false, l) = some (l', strOfNums L, a, true) ∧ l'.length ≤ 4)
 | 0, k, hk, i, l, hi, hll => .inl ⟨l, i, Xbx (by unfold Xb1; simp only; rw [snA]), Xbx (by unfold Xay; simp only; rw [snA, Xab, Xam]), by omega, hi⟩
 | n + 1, k, hk, i, l, hi, hll => by
  have hm : maxLen = 9223372036854775807 := rfl
  rcases Xrl hb hl i hi with ⟨v, j, e1, e2, v1, v2, v3⟩ | ⟨e1, a, e2⟩
  ·
   have gI : Xay q2 ((k : Int), strOfNums L, (i : Int), false, l) = some (.go (((k + 1 : Nat) : Int), strOfNums L, (j : Int), false, l ++ [(v : Int)])) := by
    unfold Xay
    simp only
    rw [syA, Bool.not_false, Xab, Xaq, e2, Xab]
    simp only
    rw [Xav (by simp only [List.length_singleton]; omega), wkA]
    rfl
   have gS : Xb1 (strOfNums L) q1 ((i : Int), (k : Int), l) = some (.go ((j : Int), ((k + 1 : Nat) : Int), l ++ [(v : Int)])) := by
    unfold Xb1
    simp only
    rw [syA, e1, Xab]
    simp only
    rw [Bool.not_true, Xam, Xav (by simp only [List.length_singleton]; omega), wkA]
    rfl
   rcases Yod hb hl q1 q2 N hN h1 h2 n (k + 1) (by omega) j (l ++ [(v : Int)]) v3 (by rw [List.length_append, List.length_singleton]; omega) with ⟨l', j', r1, r2, r3, r4⟩ | ⟨r1, l', a, r2, r3⟩
   ·
    exact .inl ⟨l', j', lgo gS r1, lgo gI r2, r3, r4⟩
   ·
    exact .inr ⟨lgo gS r1, l', a, lgo gI r2, r3⟩
  ·
   have gI : Xay q2 ((k : Int), strOfNums L, (i : Int), false, l) = some (.go (((k + 1 : Nat) : Int), strOfNums L, a, true, l ++ [0])) := by
    unfold Xay
    simp only
    rw [syA, Bool.not_false, Xab, Xaq, e2, Xab]
    simp only
    rw [Xav (by simp only [List.length_singleton]; omega), wkA]
    rfl
   have dI : Xay q2 (((k + 1 : Nat) : Int), strOfNums L, a, true, l ++ [0]) = some (.done (l ++ [0], strOfNums L, a, true)) := by
    unfold Xay
    simp only
    cases decide (((k + 1 : Nat) : Int) < q2.1) <;> rfl
   refine .inr ⟨Xbx ?_, l ++ [0], a, lgo gI (Xbx dI), by rw [List.length_append, List.length_singleton]; omega⟩
   unfold Xb1
   simp only
   rw [syA, e1, Xab]
   rfl
theorem Yoc {L : List Int} (hb : Xeo L) (hl : L.length ≤ 400000) (i : Nat) (hi : i ≤ L.length) :
  (∃ (l : List Int) (j : Nat), Xgo (strOfNums L) (i : Int) = some (l, (j : Int), true) ∧ Xcf ⟨strOfNums L, (i : Int), false⟩ = some (l, ⟨strOfNums L, (j : Int), false⟩) ∧ l.length ≤ 4 ∧ j ≤ L.length) ∨
  (Xgo (strOfNums L) (i : Int) = some ([], 0, false) ∧ ∃ (l : List Int) (a : Int), Xcf ⟨strOfNums L, (i : Int), false⟩ = some (l, ⟨strOfNums L, a, true⟩) ∧ l.length ≤ 4) := by
 unfold Xgo Xcf
 rcases Xrl hb hl i hi with ⟨v, j, e1, e2, v1, v2, v3⟩ | ⟨e1, a, e2⟩
 ·
  rw [e1, Xab, e2, Xab]
  simp only
  rw [Xaq, Xab]
  by_cases hv : (v : Int) > 4
  ·
   rw [Xa9 hv, Xa9 hv, Xab]
   have h : Xay ((v : Int), ⟨strOfNums L, (j : Int), false⟩) (0, strOfNums L, (j : Int), true, []) = some (.done ([], strOfNums L, (j : Int), true)) := by
    unfold Xay
    simp only
    rw [syA]
    rfl
   rw [Xci h, Xab]
   exact .inr ⟨rfl, [], j, rfl, by simp⟩
  ·
   rw [Xas hv, Xas hv, Xab]
   rcases Yod hb hl ((v : Int), (j : Int), true) ((v : Int), ⟨strOfNums L, (j : Int), false⟩) v (by omega) rfl rfl v 0 (by omega) j [] v3 rfl with ⟨l', j', r1, r2, r3, r4⟩ | ⟨r1, l', a, r2, r3⟩
   ·
    have r1' : loop (Xb1 (strOfNums L) ((v : Int), (j : Int), true)) ((j : Int), 0, []) = _ := r1
    have r2' : loop (Xay ((v : Int), ⟨strOfNums L, (j : Int), false⟩)) (0, strOfNums L, (j : Int), false, []) = _ := r2
    rw [r1', r2', Xab, Xab]
    exact .inl ⟨l', j', rfl, rfl, r3, r4⟩
   ·
    have r1' : loop (Xb1 (strOfNums L) ((v : Int), (j : Int), true)) ((j : Int), 0, []) = _ := r1
    have r2' : loop (Xay ((v : Int), ⟨strOfNums L, (j : Int), false⟩)) (0, strOfNums L, (j : Int), false, []) = _ := r2
    rw [r1', r2', Xab, Xab]
    exact .inr ⟨rfl, l', a, rfl, r3⟩
 ·
  rw [e1, Xab, e2, Xab]
  simp only
  rw [Xam, Xab, Xaq, snA, Xab]
  have h : Xay (0, ⟨strOfNums L, a, true⟩) (0, strOfNums L, a, true, []) = some (.done ([], strOfNums L, a, true)) := rfl
  rw [Xci h, Xab]
  exact .inr ⟨rfl, [], a, rfl, by simp⟩
theorem Xog {L : List Int} (hb : Xeo L) (hl : L.length ≤ 400000) (i : Nat) (hi : i ≤ L.length) : Xe7 (strOfNums L) (i : Int) = some ⟨strOfNums L, (i : Int), false⟩ := by
 unfold Xe7
 rw [Ylc L hb hl, Xab, Xaq, Xaj, Xab, strOfNums_size, decide_eq_true (by omega), Xab]
 rfl
theorem Yao {L : List Int} (hb : Xeo L) (hl : L.length ≤ 400000) (i : Nat) (hi : i ≤ L.length) :
  (∃ (q : Seq) (j : Nat), Xfx (strOfNums L) (i : Int) = some (q, (j : Int), true) ∧ Xdl (strOfNums L) (i : Int) = some (q, (j : Int), true) ∧ Xf2 q = true ∧ q.Cols.length ≤ 4 ∧ q.Rows.length ≤ 4 ∧ j ≤ L.length) ∨
  (Xfx (strOfNums L) (i : Int) = some (⟨0, 0, [], []⟩, 0, false) ∧ Xdl (strOfNums L) (i : Int) = some (⟨0, 0, [], []⟩, 0, false)) := by
 have hm : maxLen = 9223372036854775807 := rfl
 unfold Xfx Xdl
 rw [Xog hb hl i hi, Xab]
 rcases Xrl hb hl i hi with ⟨v, j, e1, e2, v1, v2, v3⟩ | ⟨e1, a, e2⟩
 ·
  rw [e1, Xab, e2, Xab]
  simp only
  rw [Bool.not_true, Xam]
  rcases Xqy hb hl j v3 4 (by omega) with ⟨w, w1, _, w2, f1, f2⟩ | ⟨_, f1, f2⟩
  ·
   have f1' : Xc0 (strOfNums L) (j : Int) 4 = some (w, ((j + 4 : Nat) : Int), true) := f1
   have f2' : Xa0 ⟨strOfNums L, (j : Int), false⟩ 4 = some (w, ⟨strOfNums L, ((j + 4 : Nat) : Int), false⟩) := f2
   rw [f1', Xab, f2', Xab]
   simp only
   rw [Bool.not_true, Xam]
   rcases Yoc hb hl (j + 4) w1 with ⟨l, j2, g1, g2, g3, g4⟩ | ⟨g1, l, a, g2, g3⟩
   ·
    rw [g1, Xab, g2, Xab]
    simp only
    rw [Bool.not_true, Xam]
    rcases Yoc hb hl j2 g4 with ⟨m, j3, k1, k2, k3, k4⟩ | ⟨k1, m, a, k2, k3⟩
    ·
     rw [k1, Xab, k2, Xab]
     simp only
     rw [Xaq, Xam, Xk5, Xab, Xew _ (by simp only; omega) (by simp only; omega), Xab, Xab, Xab]
     cases hq : Xf2 ⟨(v : Int), w, l, m⟩ with
     | true => exact .inl ⟨_, j3, rfl, rfl, hq, g3, k3, k4⟩
     | false => exact .inr ⟨rfl, rfl⟩
    ·
     rw [k1, Xab, k2, Xab]
     exact .inr ⟨rfl, rfl⟩
   ·
    rw [g1, Xab, g2, Xab]
    simp only
    rw [Xx0, Xab]
    exact .inr ⟨rfl, rfl⟩
  ·
   have f1' : Xc0 (strOfNums L) (j : Int) 4 = some (0, 0, false) := f1
   have f2' : Xa0 ⟨strOfNums L, (j : Int), false⟩ 4 = some (0, ⟨strOfNums L, (j : Int), true⟩) := f2
   rw [f1', Xab, f2', Xab]
   simp only
   rw [Xx0, Xab]
   simp only
   rw [Xx0, Xab]
   exact .inr ⟨rfl, rfl⟩
 ·
  rw [e1, Xab, e2, Xab]
  simp only
  rw [Yd4, Xab]
  simp only
  rw [Xx0, Xab]
  simp only
  rw [Xx0, Xab]
  exact .inr ⟨rfl, rfl⟩
theorem Yzn {L : List Int} (hb : Xeo L) {j : Nat} (h : j + 1 ≤ L.length) : Xg5 ((L.drop j).take 1) = L.getD j 0 - 48 := by
 have : Xg5 ((L.drop j).take 1) = 2 * Xg5 ((L.drop j).take 0) + L.getD j 0 - 48 := Xrn (L := L) (i := j) (k := 0) (by omega)
 rw [this, show Xg5 ((L.drop j).take 0) = 0 from rfl]; omega
theorem Yan {L : List Int} (hb : Xeo L) (hl : L.length ≤ 400000) (i : Nat) (hi : i ≤ L.length) :
  (∃ (p : Par) (j : Nat), Xfw (strOfNums L) (i : Int) = some (p, (j : Int), true) ∧ Xdk (strOfNums L) (i : Int) = some (p, (j : Int), true) ∧ Xky p = true ∧ j ≤ L.length) ∨
  (Xfw (strOfNums L) (i : Int) = some (⟨0, false, false, false⟩, 0, false) ∧ Xdk (strOfNums L) (i : Int) = some (⟨0, false, false, false⟩, 0, false)) := by
 unfold Xfw Xdk
 rw [Xog hb hl i hi, Xab]
 rcases Xqy hb hl i hi 6 (by omega) with ⟨w, w1, _, w2, f1, f2⟩ | ⟨_, f1, f2⟩
 ·
  have f1' : Xc0 (strOfNums L) (i : Int) 6 = some (w, ((i + 6 : Nat) : Int), true) := f1
  have f2' : Xa0 ⟨strOfNums L, (i : Int), false⟩ 6 = some (w, ⟨strOfNums L, ((i + 6 : Nat) : Int), false⟩) := f2
  rw [f1', Xab, f2', Xab]
  simp only
  rw [Xaq, strOfNums_size, wkA (e := (L.length : Int) - ((i + 6 : Nat) : Int))]
  by_cases h3 : i + 9 ≤ L.length
  ·
   have bit : ∀ j : Nat, j + 1 ≤ L.length → Xa0 ⟨strOfNums L, (j : Int), false⟩ 1 = some (L.getD j 0 - 48, ⟨strOfNums L, ((j + 1 : Nat) : Int), false⟩) ∧ ((L.getD j 0 - 48 == 1) = (Xcd (strOfNums L) (j : Int) == 49)) := fun j hj => by
    rcases Xqy hb hl j (by omega) 1 (by omega) with ⟨u, _, u1, _, _, g2⟩ | ⟨u1, _⟩
    ·
     rw [Yzn hb hj] at u1
     rw [u1] at g2
     refine ⟨g2, ?_⟩
     obtain ⟨b1, b2⟩ := Yar hb (i := j) (by omega)
     rw [b1]
     rcases b2 with b2 | b2 <;> rw [b2] <;> rfl
    ·
     omega
   obtain ⟨a1, a2⟩ := bit (i + 6) (by omega)
   obtain ⟨b1, b2⟩ := bit (i + 6 + 1) (by omega)
   obtain ⟨c1, c2⟩ := bit (i + 6 + 1 + 1) (by omega)
   rw [decide_eq_false (by omega), Xab, Xam, rqA, wkA (e := ((i + 6 : Nat) : Int) + 1), rqA, wkA (e := ((i + 6 : Nat) : Int) + 2), rqA, wkA (e := ((i + 6 : Nat) : Int) + 3), a1, Xab]
   simp only
   rw [b1, Xab]
   simp only
   rw [c1, Xab]
   simp only
   rw [Xam, a2, b2, c2, show ((i + 6 : Nat) : Int) + 1 = ((i + 6 + 1 : Nat) : Int) by omega, show ((i + 6 : Nat) : Int) + 2 = ((i + 6 + 1 + 1 : Nat) : Int) by omega, Xny, Xhx, Xab, Xab, Xab]
   cases hp : Xky ⟨w, Xcd (strOfNums L) ((i + 6 : Nat) : Int) == 49, Xcd (strOfNums L) ((i + 6 + 1 : Nat) : Int) == 49, Xcd (strOfNums L) ((i + 6 + 1 + 1 : Nat) : Int) == 49⟩ with
   | true => exact .inl ⟨_, i + 9, (by rw [Bool.not_true, Xam]; try rfl), (by rw [Bool.not_true, Xam]; try rfl), hp, h3⟩
   | false => exact .inr ⟨rfl, rfl⟩
  ·
   rw [decide_eq_true (by omega), Xab, Xaq]
   refine .inr ⟨rfl, ?_⟩
   have three : ∀ j : Nat, j ≤ L.length → L.length < j + 3 → ∃ (a b c : Int) (e f g : Xkf), Xa0 ⟨strOfNums L, (j : Int), false⟩ 1 = some (a, e) ∧ Xa0 e 1 = some (b, f) ∧ Xa0 f 1 = some (c, g) ∧ g.bad_ = true := fun j h1 h2 => by
    rcases Xqy hb hl j h1 1 (by omega) with ⟨u, k1, _, _, _, g2⟩ | ⟨_, _, g2⟩
    ·
     rcases Xqy hb hl (j + 1) k1 1 (by omega) with ⟨u', k2, _, _, _, g3⟩ | ⟨_, _, g3⟩
     ·
      rcases Xqy hb hl (j + 1 + 1) k2 1 (by omega) with ⟨u'', k3, _, _, _, g4⟩ | ⟨_, _, g4⟩
      ·
       omega
      ·
       exact ⟨_, _, _, _, _, _, g2, g3, g4, rfl⟩
     ·
      exact ⟨_, _, _, _, _, _, g2, g3, Yd4 _ _ _, rfl⟩
    ·
     exact ⟨_, _, _, _, _, _, g2, Yd4 _ _ _, Yd4 _ _ _, rfl⟩
   obtain ⟨a, b, c, e, f, g, r1, r2, r3, r4⟩ := three (i + 6) w1 (by omega)
   rw [r1, Xab]
   simp only
   rw [r2, Xab]
   simp only
   rw [r3, Xab]
   simp only
   rw [r4, Xaq, Xab, Xaq]
 ·
  have f1' : Xc0 (strOfNums L) (i : Int) 6 = some (0, 0, false) := f1
  have f2' : Xa0 ⟨strOfNums L, (i : Int), false⟩ 6 = some (0, ⟨strOfNums L, (i : Int), true⟩) := f2
  rw [f1', Xab, f2', Xab]
  exact .inr ⟨rfl, rfl⟩
theorem Xgq (b : Int) (h : 3 ≤ b ∧ b ≤ 8) : 0 ≤ Xaa .u64 b ∧ Xaa .i64 (1 * 2 ^ min (Xaa .u64 b).toNat (IntKind.bits .i64)) = 2 ^ b.toNat ∧ Xaa .i64 (1 * 2 ^ min b.toNat (IntKind.bits .i64)) = 2 ^ b.toNat ∧ (2 : Int) ^ b.toNat ≤ 256 ∧ 8 ≤ (2 : Int) ^ b.toNat := by
 obtain h | h | h | h | h | h : b = 3 ∨ b = 4 ∨ b = 5 ∨ b = 6 ∨ b = 7 ∨ b = 8 := by omega
 all_goals (subst h; decide +kernel)
def Xlh (q : Seq) (p : Par) (h : Xrz) : Bool := Xf2 q && (Xky p && (decide (0 ≤ h.Tile ∧ h.Tile < Xbk q) && (decide (0 ≤ h.Frame ∧ h.Frame < 2 ^ q.Bits.toNat) && decide (0 ≤ h.Qp ∧ h.Qp ≤ 40))))
theorem Xd4 {q : Seq} (h : Xf2 q = true) : 0 ≤ Xbk q ∧ Xbk q ≤ 1000000 := by
 obtain ⟨h1, h2, _⟩ := Xbc h
 unfold Xbk
 rw [if_pos h]
 have a := Xbi h1
 have b := Xbi h2
 have : (q.Cols.length : Int) * q.Rows.length ≤ 4 * 4 := Int.mul_le_mul (by omega) (by omega) (by omega) (by omega)
 exact ⟨Int.mul_nonneg (by omega) (by omega), by omega⟩
theorem Xuj (q : Seq) (p : Par) (h : Xrz) (h1 : q.Cols.length ≤ maxLen) (h2 : q.Rows.length ≤ maxLen) : Xn9 q p h = some (Xlh q p h) := by
 unfold Xn9 Xlh
 rw [Xew q h1 h2, Xab]
 cases hs : Xf2 q with
 | false => rfl
 | true =>
  rw [Xaq, Xhx, Xab, Bool.true_and]
  cases hp : Xky p with
  | false => rfl
  | true =>
   obtain ⟨_, _, b1, b2⟩ := Xbc hs
   obtain ⟨s1, s2, s3, s4, s5⟩ := Xgq q.Bits ⟨b1, b2⟩
   have ht := Xd4 hs
   rw [Xaq, Xhc q h1 h2, Xab, Xaj, Xab, wkA (e := Xbk q - 1), Bool.true_and, rqA, s3, wkA (e := (2 : Int) ^ q.Bits.toNat - 1), Xaj, Xab, Xaj, Xab]
   have e1 : decide (0 ≤ h.Tile ∧ h.Tile ≤ Xbk q - 1) = decide (0 ≤ h.Tile ∧ h.Tile < Xbk q) := by rw [decide_eq_decide]; omega
   have e2 : decide (0 ≤ h.Frame ∧ h.Frame ≤ 2 ^ q.Bits.toNat - 1) = decide (0 ≤ h.Frame ∧ h.Frame < 2 ^ q.Bits.toNat) := by rw [decide_eq_decide]; omega
   rw [e1, e2, Xcm, Xcm, Xab]
theorem Xu0 (q : Seq) (p : Par) (h : Xrz) : Xl0 q p h = some (Xlh q p h) := by
 unfold Xl0 Xlh
 rw [Xny, Xab]
 cases hp : Xky p with
 | false => rw [Xam, Xab, Bool.false_and, Bool.and_false]
 | true =>
  rw [Xaq, Xei, Xab, Bool.true_and]
  cases hs : Xf2 q with
  | false =>
   have : Xbk q = 0 := by unfold Xbk; rw [hs]; rfl
   rw [this, Bool.false_and]
   by_cases h0 : h.Tile ≥ 0
   ·
    rw [Xa9 h0, snA, Xab]
   ·
    rw [Xas h0, Xab]
  | true =>
   obtain ⟨_, _, b1, b2⟩ := Xbc hs
   obtain ⟨s1, s2, s3, s4, s5⟩ := Xgq q.Bits ⟨b1, b2⟩
   rw [Bool.true_and, Xav s1, s2, Xai, Xab, Yin, Yin, Yin, Yin]
   by_cases t1 : h.Tile ≥ 0
   ·
    rw [if_pos t1]
    by_cases t2 : h.Tile < Xbk q
    ·
     rw [if_pos t2, decide_eq_true (show 0 ≤ h.Tile ∧ h.Tile < Xbk q from ⟨t1, t2⟩), Bool.true_and]
     by_cases f1 : h.Frame ≥ 0
     ·
      rw [if_pos f1]
      by_cases f2 : h.Frame < 2 ^ q.Bits.toNat
      ·
       rw [if_pos f2, decide_eq_true (show 0 ≤ h.Frame ∧ h.Frame < 2 ^ q.Bits.toNat from ⟨f1, f2⟩), Bool.true_and, Xab]
      ·
       rw [if_neg f2, decide_eq_false (show ¬ (0 ≤ h.Frame ∧ h.Frame < 2 ^ q.Bits.toNat) from fun h => f2 h.2), Bool.false_and, Xab]
     ·
      rw [if_neg f1, decide_eq_false (show ¬ (0 ≤ h.Frame ∧ h.Frame < 2 ^ q.Bits.toNat) from fun h => f1 h.1), Bool.false_and, Xab]
    ·
     rw [if_neg t2, decide_eq_false (show ¬ (0 ≤ h.Tile ∧ h.Tile < Xbk q) from fun h => t2 h.2), Bool.false_and, Xab]
   ·
    rw [if_neg t1, decide_eq_false (show ¬ (0 ≤ h.Tile ∧ h.Tile < Xbk q) from fun h => t1 h.1), Bool.false_and, Xab]
theorem Xwg {L : List Int} (hb : Xeo L) (hl : L.length ≤ 400000) (q : Seq) (p : Par) (h1 : q.Cols.length ≤ maxLen) (h2 : q.Rows.length ≤ maxLen) :
  (∃ (h : Xrz) (j : Nat), Xh7 q p (strOfNums L) = some (h, (j : Int), true) ∧ Xd0 q p (strOfNums L) = some (h, (j : Int), true) ∧ Xlh q p h = true ∧ j ≤ L.length) ∨
  (Xh7 q p (strOfNums L) = some (⟨0, 0, 0⟩, 0, false) ∧ Xd0 q p (strOfNums L) = some (⟨0, 0, 0⟩, 0, false)) := by
 unfold Xh7 Xd0
 have ho : Xe7 (strOfNums L) 0 = some ⟨strOfNums L, ((0 : Nat) : Int), false⟩ := Xog hb hl 0 (by omega)
 rw [ho, Xab, Xyf L hb hl, Xab, Xaq, Xk5, Xab, Xny, Xab, Xew q h1 h2, Xab, Xhx, Xab]
 cases hs : Xf2 q with
 | false => exact .inr ⟨rfl, rfl⟩
 | true =>
  cases hp : Xky p with
  | false => exact .inr ⟨rfl, rfl⟩
  | true =>
   rw [Xaq, Bool.not_true, Xab, Xam, Xab, Xam]
   have hpq : 0 ≤ p.Qp ∧ p.Qp ≤ 40 := Xtl hp
   obtain ⟨_, _, b1, b2⟩ := Xbc hs
   rcases Xrl hb hl 0 (by omega) with ⟨v, j, e1, e2, v1, v2, v3⟩ | ⟨e1, a, e2⟩
   ·
    have e1' : Xbo (strOfNums L) 0 = some ((v : Int), (j : Int), true) := e1
    rw [e1', Xab, e2, Xab]
    simp only
    rw [Bool.not_true, Xam]
    rcases Xqy hb hl j v3 q.Bits.toNat (by omega) with ⟨w, w1, _, w2, f1, f2⟩ | ⟨_, f1, f2⟩
    ·
     rw [show ((q.Bits.toNat : Nat) : Int) = q.Bits by omega] at f1 f2
     rw [f1, Xab, f2, Xab]
     simp only
     rw [Bool.not_true, Xam]
     rcases Yga hb hl (j + q.Bits.toNat) w1 with ⟨n, j2, g1, g2, g3, g4, g5⟩ | ⟨g1, a, g2⟩
     ·
      rw [g1, Xab, g2, Xab]
      simp only
      rw [Xaq, Xam, wkA (e := p.Qp + n), wkA (e := n + p.Qp), Int.add_comm n p.Qp, Xu0, Xuj _ _ _ h1 h2, Xab, Xab]
      cases hh : Xlh q p ⟨(v : Int), w, p.Qp + n⟩ with
      | true => exact .inl ⟨_, j2, rfl, rfl, hh, g5⟩
      | false => exact .inr ⟨rfl, rfl⟩
     ·
      rw [g1, Xab, g2, Xab]
      exact .inr ⟨rfl, rfl⟩
    ·
     rw [show ((q.Bits.toNat : Nat) : Int) = q.Bits by omega] at f1 f2
     rw [f1, Xab, f2, Xab]
     simp only
     rw [Yrx, Xab]
     exact .inr ⟨rfl, rfl⟩
   ·
    have e1' : Xbo (strOfNums L) 0 = some (0, 0, false) := e1
    rw [e1', Xab, e2, Xab]
    simp only
    rw [Yd4, Xab]
    simp only
    rw [Yrx, Xab]
    exact .inr ⟨rfl, rfl⟩
theorem Yn5 : ∀ (a : List Int) (x : Int), Xli (a ++ [x]) = Xli a + x
 | [], x => by simp [Xli]
 | y :: a, x => by rw [List.cons_append, Xli, Xli, Yn5 a x, Int.add_assoc]
theorem Yn6 {l : List Int} : ∀ k : Nat, k < l.length → Xli (l.take (k + 1)) = Xli (l.take k) + l.getD k 0 := by
 intro k hk
 rw [List.take_add_one, List.getElem?_eq_getElem hk, Xb2 l k hk]
 exact Yn5 _ _
theorem Xn2 {l : List Int} (h : l.all Xe0 = true) {i : Nat} (hi : i < l.length) : 1 ≤ l.getD i 0 ∧ l.getD i 0 ≤ 8 := by
 have := List.all_eq_true.1 h (l.getD i 0) (by rw [Xb2 l i hi]; exact List.getElem_mem _)
 unfold Xe0 at this
 rwa [decide_eq_true_eq] at this
theorem Xjy {l : List Int} (h : l.all Xe0 = true) (hl : l.length ≤ 4) (i : Nat) : 0 ≤ Xli (l.take i) ∧ Xli (l.take i) ≤ 32 := by
 have := Xq9 (l := l.take i) (List.all_eq_true.2 fun x hx => List.all_eq_true.1 h x (List.mem_of_mem_take hx))
 rw [List.length_take] at this
 omega
theorem Xwm {l : List Int} (h : l.all Xe0 = true) (hl : l.length ≤ 4) (k : Nat) (hk : k ≤ l.length) : Xi3 l (k : Int) = some (Xli (l.take k)) := by
 have key : ∀ i : Nat, i ≤ k → loop (Xfy l (k : Int)) (Xli (l.take i), (i : Int)) = some (Xli (l.take k)) := by
  refine Xc1 _ (Xbx (by unfold Xfy; rw [Xas (by simp)])) ?_
  intro i hi ih
  refine lgo ?_ ih
  have a := Xn2 h (i := i) (by omega)
  have b := Xjy h hl i
  unfold Xfy
  simp only [Int.toNat_natCast]
  rw [syA, rqA, wkA (e := Xli (l.take i) + l.getD i 0), wkA (e := (i : Int) + 1), Yn6 i (by omega)]
  rfl
 exact Xc3 (key 0 (by omega))
theorem Ydi {l : List Int} (h : l.all Xe0 = true) (hl : l.length ≤ 4) : Xcn l = some (Xli l) := by
 have key : ∀ i : Nat, i ≤ l.length → loop (Xd1 l) (Xli (l.take i), (i : Int)) = some (Xli l) := by
  refine Xc1 _ (Xbx (by unfold Xd1; rw [Xas (by simp), List.take_length])) ?_
  intro i hi ih
  refine lgo ?_ ih
  have a := Xn2 h (i := i) (by omega)
  have b := Xjy h hl i
  unfold Xd1
  simp only [Int.toNat_natCast]
  rw [syA, rqA, wkA (e := Xli (l.take i) + l.getD i 0), wkA (e := (i : Int) + 1), Yn6 i (by omega)]
  rfl
 exact Xc3 (key 0 (by omega))
theorem Ydo {q : Seq} (hs : Xf2 q = true) (h1 : q.Cols.length ≤ maxLen) (h2 : q.Rows.length ≤ maxLen) (t : Int) (ht : 0 ≤ t ∧ t < Xbk q) : ∃ r : Xph, Xex q t = some (r, true) ∧ Xde q t = some (r, true) ∧ Xrh r.Wide = true ∧ Xrh r.High = true := by
 have hr := Xd4 hs
 have hto : Xbk q = (q.Cols.length : Int) * q.Rows.length := by unfold Xbk; rw [if_pos hs]
 obtain ⟨s1, s2, _⟩ := Xbc hs
 have c1 := Xbi s1
 have c2 := Xbi s2
 unfold Xee at s1 s2
 rw [Bool.and_eq_true] at s1 s2
 have m0 := Int.emod_nonneg t (show (q.Cols.length : Int) ≠ 0 by omega)
 have m1 := Int.emod_lt_of_pos t (show 0 < (q.Cols.length : Int) by omega)
 have d0 : 0 ≤ t / (q.Cols.length : Int) := Int.ediv_nonneg ht.1 (by omega)
 have d1 : t / (q.Cols.length : Int) < q.Rows.length := Int.ediv_lt_of_lt_mul (by omega) (by rw [Int.mul_comm, ← hto]; exact ht.2)
 have ex : ∃ x y : Nat, (x : Int) = t % (q.Cols.length : Int) ∧ (y : Int) = t / (q.Cols.length : Int) := ⟨(t % (q.Cols.length : Int)).toNat, (t / (q.Cols.length : Int)).toNat, by omega, by omega⟩
 obtain ⟨x, y, hx, hy⟩ := ex
 have tm : t.tmod (q.Cols.length : Int) = (x : Int) := by rw [Xbq ht.1]; exact hx.symm
 have td : Xaa .i64 (t.tdiv (q.Cols.length : Int)) = (y : Int) := by rw [Xbp ht.1, ← hy, wkA]
 have bx := Xjy s1.2 c1.2 x
 have by_ := Xjy s2.2 c2.2 y
 have gx := Xn2 s1.2 (i := x) (by omega)
 have gy := Xn2 s2.2 (i := y) (by omega)
 have side8 : ∀ v : Int, 1 ≤ v ∧ v ≤ 8 → Xrh (8 * v) = true := fun v hv => by
  unfold Xrh
  rw [Bool.and_eq_true, decide_eq_true_eq, decide_eq_true_eq, Xbq (by omega)]
  omega
 refine ⟨⟨8 * Xli (q.Cols.take x), 8 * Xli (q.Rows.take y), 8 * q.Cols.getD x 0, 8 * q.Rows.getD y 0⟩, ?_, ?_, side8 _ gx, side8 _ gy⟩
 ·
  unfold Xex
  rw [Xhc q h1 h2, Xab, wkA (e := Xbk q - 1), Xaj, Xab, decide_eq_true (by omega), Bool.not_true, Xam, rqA, tm, td, rqA, rqA]
  simp only [Int.toNat_natCast]
  rw [show (0 : Int).toNat = 0 from rfl, List.drop_zero, List.drop_zero, Nat.sub_zero, Nat.sub_zero, Ydi (List.all_eq_true.2 fun z hz => List.all_eq_true.1 s1.2 z (List.mem_of_mem_take hz)) (by rw [List.length_take]; omega), Xab, rqA, Ydi (List.all_eq_true.2 fun z hz => List.all_eq_true.1 s2.2 z (List.mem_of_mem_take hz)) (by rw [List.length_take]; omega), Xab, rqA, rqA, wkA (e := 8 * Xli (q.Cols.take x)), wkA (e := 8 * Xli (q.Rows.take y)), wkA (e := 8 * q.Cols.getD x 0), wkA (e := 8 * q.Rows.getD y 0)]
 ·
  unfold Xde
  rw [snA, Xei, Xab, decide_eq_false (by omega), Xab, Xam, rqA, tm, td, rqA, Xwm s1.2 c1.2 x (by omega), Xab, Xwm s2.2 c2.2 y (by omega), Xab, rqA, rqA]
  simp only [Int.toNat_natCast]
  rw [wkA (e := 8 * Xli (q.Cols.take x)), wkA (e := 8 * Xli (q.Rows.take y)), wkA (e := 8 * q.Cols.getD x 0), wkA (e := 8 * q.Rows.getD y 0)]
theorem Yu9 {l m : List Int} {b x : Nat} (h : b + m.length ≤ l.length) (hx : x < m.length) : (over l b (m.take x)).set (b + x) (m.getD x 0) = over l b (m.take (x + 1)) := by
 have h1 : b + (m.take x).length ≤ l.length := by rw [List.length_take]; omega
 have h2 : b + (m.take (x + 1)).length ≤ l.length := by rw [List.length_take]; omega
 apply List.ext_getElem?
 intro j
 rw [List.getElem?_set, Xrd h1, Ydf h1, Ydf h2]
 simp only [List.length_take]
 by_cases hj : b + x = j
 ·
  subst hj
  rw [if_pos rfl, if_pos (by omega), if_pos (by omega), Xb2 m x hx, List.getElem?_take, if_pos (by omega), show b + x - b = x by omega, List.getElem?_eq_getElem hx]
 ·
  rw [if_neg hj]
  by_cases hin : b ≤ j ∧ j < b + x
  ·
   rw [if_pos (by omega), if_pos (by omega), List.getElem?_take, List.getElem?_take, if_pos (by omega), if_pos (by omega)]
  ·
   rw [if_neg (by omega), if_neg (by omega)]
theorem Yxh (l : List Int) (b : Nat) : over l b [] = l := by
 unfold over
 rw [List.append_nil, List.length_nil, Nat.add_zero, List.take_append_drop]
theorem Ydl (p0 p1 : Pic) (x y : Int) : ∃ (o : Pic) (b : Bool), Xoa p0 p1 x y = some (o, b) ∧ Xok p0 p1 x y = some (o, b) ∧ o.Wide = p0.Wide ∧ o.High = p0.High ∧ o.Dots.size = p0.Dots.size ∧ (b = false → o = p0) := by
 unfold Xoa Xok
 have hw := Xl6 p0 ⟨x, y, p1.Wide, p1.High⟩
 simp only at hw
 rw [Xcq, Xab, Xgb, Xab, hw]
 cases ok1 : Xck p1 with
 | false =>
  rw [Xam, Xab, Xaq]
  refine ⟨p0, false, ?_, rfl, rfl, rfl, rfl, fun _ => rfl⟩
  cases Xck p0 with
  | false => rfl
  | true => rw [Xaq, Xcq, Xab, ok1]; rfl
 | true =>
  rw [Xaq, Xab, Xab, Xcq, Xab, ok1]
  cases ok0 : Xck p0 with
  | false => exact ⟨p0, false, rfl, rfl, rfl, rfl, rfl, fun _ => rfl⟩
  | true =>
   rw [Xaq, Xaq, Xq4 ok0, Xab]
   cases ho : Xms p0 ⟨x, y, p1.Wide, p1.High⟩ with
   | false => exact ⟨p0, false, rfl, rfl, rfl, rfl, rfl, fun _ => rfl⟩
   | true =>
    have hm : maxLen = 9223372036854775807 := rfl
    obtain ⟨k1, k2, k3⟩ := Xbu ok0
    obtain ⟨g1, g2, g3⟩ := Xbu ok1
    obtain ⟨a1, a2, a3, a4⟩ := Xjq ho
    simp only at a1 a2 a3 a4
    have ar := Xd7 k1 k2
    have ar1 := Xd7 g1 g2
    have hdl := Yqy ok0
    unfold Xqb
    simp only [Bool.and_self, Bool.not_true, Xab, Xam]
    rw [rqA, rqA, Xab]
    -- places of a row
    have row : ∀ r : Nat, (r : Int) < p1.High → ∃ B S : Nat, (B : Int) = (y + (r : Int)) * p0.Wide + x ∧ B + p1.Wide.toNat ≤ p0.Dots.size ∧ (S : Int) = (r : Int) * p1.Wide ∧ S + p1.Wide.toNat ≤ p1.Dots.size ∧ ((r : Int) + 1) * p1.Wide = (S : Int) + p1.Wide ∧ 0 ≤ (y + (r : Int)) * p0.Wide := fun r hr => by
     have e1 : 0 ≤ (y + (r : Int)) * p0.Wide := Int.mul_nonneg (by omega) (by omega)
     have e2 : (y + (r : Int)) * p0.Wide ≤ (p0.High - 1) * p0.Wide := Int.mul_le_mul_of_nonneg_right (by omega) (by omega)
     have e3 : (p0.High - 1) * p0.Wide = p0.Wide * p0.High - p0.Wide := by rw [Int.sub_mul, Int.one_mul, Int.mul_comm]
     have f1 : 0 ≤ (r : Int) * p1.Wide := Int.mul_nonneg (by omega) (by omega)
     have f2 : (r : Int) * p1.Wide ≤ (p1.High - 1) * p1.Wide := Int.mul_le_mul_of_nonneg_right (by omega) (by omega)
     have f3 : (p1.High - 1) * p1.Wide = p1.Wide * p1.High - p1.Wide := by rw [Int.sub_mul, Int.one_mul, Int.mul_comm]
     have f4 : ((r : Int) + 1) * p1.Wide = (r : Int) * p1.Wide + p1.Wide := by rw [Int.add_mul, Int.one_mul]
     refine ⟨((y + (r : Int)) * p0.Wide + x).toNat, ((r : Int) * p1.Wide).toNat, by omega, by omega, by omega, by omega, by omega, e1⟩
    have hl : loop (Xmf p0 p1 x y) (0, Xal p0.Dots) = loop (Xeg p0 p1 x y) (0, Xal p0.Dots) := by
     refine Yrl p1.High.toNat (fun _ s => s.length = p0.Dots.size) ?_ ?_ (Xap _)
     ·
      intro r s hr hs
      unfold Xmf Xeg
      simp only
      by_cases hlt : (r : Int) < p1.High
      ·
       obtain ⟨B, S, b1, b2, b3, b4, b5, b6⟩ := row r hlt
       have hml : (Xal (p1.Dots.extract S (S + p1.Wide.toNat))).length = p1.Wide.toNat := by rw [Xap, ByteArray.size_extract]; omega
       have hin : loop (Xb8 p0 p1 x y ((r : Int), s)) (0, s) = some (over s B (Xal (p1.Dots.extract S (S + p1.Wide.toNat)))) := by
        obtain ⟨o, e, ho⟩ := Xie (f := Xb8 p0 p1 x y ((r : Int), s)) p1.Wide.toNat (fun k t => t = over s B ((Xal (p1.Dots.extract S (S + p1.Wide.toNat))).take k)) (by
         intro k t hk ht
         subst ht
         have hol : (over s B ((Xal (p1.Dots.extract S (S + p1.Wide.toNat))).take k)).length = s.length := Xrd (by rw [List.length_take]; omega)
         have hbt : Xcd p1.Dots ((S : Int) + k) = (Xal (p1.Dots.extract S (S + p1.Wide.toNat))).getD k 0 := by
          rw [Yfx _ k (by rw [ByteArray.size_extract]; omega)]
          unfold Xcd
          rw [dif_pos (show ((S : Int) + k).toNat < p1.Dots.size by omega), dif_pos (by rw [ByteArray.size_extract]; omega), ByteArray.getElem_extract]
          congr 2
         unfold Xb8
         simp only
         rw [syA, wkA (e := (r : Int) * p1.Wide), wkA (e := y + (r : Int)), wkA (e := (y + (r : Int)) * p0.Wide), wkA (e := (y + (r : Int)) * p0.Wide + x), ← b1, ← b3, wkA (e := (S : Int) + (k : Int)), wkA (e := (B : Int) + (k : Int)), rqA, rqA, rqA, wkA (e := (k : Int) + 1), hbt, show ((B : Int) + (k : Int)).toNat = B + k by omega]
         exact ⟨_, rfl, Yu9 (by omega) (by omega)⟩) (fun t _ => by unfold Xb8; rw [Xas (by simp only; omega)]) s (by rw [List.take_zero, Yxh])
        rw [e, ho, List.take_of_length_le (by omega)]
       rw [Xa9 hlt, Xa9 hlt, hin, Xab, wkA (e := y + (r : Int)), wkA (e := (y + (r : Int)) * p0.Wide), wkA (e := (y + (r : Int)) * p0.Wide + x), wkA (e := (r : Int) + 1), wkA (e := (r : Int) * p1.Wide), wkA (e := ((r : Int) + 1) * p1.Wide), b5, ← b1, ← b3, show (S : Int).toNat = S by omega, show (B : Int).toNat = B by omega, show ((S : Int) + p1.Wide).toNat = S + p1.Wide.toNat by omega, rqA, rqA, Xav (by rw [hml]; omega)]
      ·
       rw [Xas hlt, Xas hlt]
     ·
      intro r s v' hr hs he
      unfold Xeg at he
      simp only at he
      by_cases hlt : (r : Int) < p1.High
      ·
       obtain ⟨B, S, b1, b2, b3, b4, b5, b6⟩ := row r hlt
       rw [Xa9 hlt] at he
       obtain ⟨o, e, ho⟩ := Xie (f := Xb8 p0 p1 x y ((r : Int), s)) p1.Wide.toNat (fun k t => t.length = p0.Dots.size) (by
        intro k t hk ht
        unfold Xb8
        simp only
        rw [syA, wkA (e := (r : Int) * p1.Wide), wkA (e := y + (r : Int)), wkA (e := (y + (r : Int)) * p0.Wide), wkA (e := (y + (r : Int)) * p0.Wide + x), ← b1, ← b3, wkA (e := (S : Int) + (k : Int)), wkA (e := (B : Int) + (k : Int)), rqA, rqA, rqA, wkA (e := (k : Int) + 1)]
        exact ⟨_, rfl, by rw [List.length_set]; exact ht⟩) (fun t _ => by unfold Xb8; rw [Xas (by simp only; omega)]) s hs
       rw [e, Xab] at he
       injection he with he
       injection he with he
       subst he
       exact ⟨by simp only; rw [wkA]; rfl, by omega, ho⟩
      ·
       rw [Xas hlt] at he
       cases he
    obtain ⟨o, e, ho2⟩ := Xie (f := Xeg p0 p1 x y) p1.High.toNat (fun _ s => s.length = p0.Dots.size) (by
     intro r s hr hs
     obtain ⟨B, S, b1, b2, b3, b4, b5, b6⟩ := row r (by omega)
     obtain ⟨o, e, ho⟩ := Xie (f := Xb8 p0 p1 x y ((r : Int), s)) p1.Wide.toNat (fun k t => t.length = p0.Dots.size) (by
      intro k t hk ht
      unfold Xb8
      simp only
      rw [syA, wkA (e := (r : Int) * p1.Wide), wkA (e := y + (r : Int)), wkA (e := (y + (r : Int)) * p0.Wide), wkA (e := (y + (r : Int)) * p0.Wide + x), ← b1, ← b3, wkA (e := (S : Int) + (k : Int)), wkA (e := (B : Int) + (k : Int)), rqA, rqA, rqA, wkA (e := (k : Int) + 1)]
      exact ⟨_, rfl, by rw [List.length_set]; exact ht⟩) (fun t _ => by unfold Xb8; rw [Xas (by simp only; omega)]) s hs
     unfold Xeg
     simp only
     rw [syA, e, Xab, wkA]
     exact ⟨_, rfl, ho⟩) (fun t _ => by unfold Xeg; rw [Xas (by simp only; omega)]) (Xal p0.Dots) (Xap _)
    rw [hl, e, Xab]
    exact ⟨_, true, rfl, rfl, rfl, rfl, by rw [strOfNums_size]; exact ho2, fun h => by cases h⟩
def Xiv (p : Pic) : Bool := (p.Wide == 0) && ((p.High == 0) && ((p.Dots.size : Int) == 0))
theorem Ysr (s : ByteArray) : (s.toList == (⟨#[]⟩ : ByteArray).toList) = ((s.size : Int) == 0) := by
 rw [Bool.eq_iff_iff, beq_iff_eq, beq_iff_eq, Xtv]
 constructor
 ·
  intro h; rw [h]; rfl
 ·
  intro h
  have := Xkd s
  have hn : Xal s = [] := List.length_eq_zero_iff.1 (by rw [Xap]; omega)
  rw [hn] at this
  exact this.symm
theorem Yha (p : Pic) : Xht p = some (Xiv p) := by
 unfold Xht Xiv
 cases (p.Wide == 0) with
 | false => rfl
 | true => cases (p.High == 0) <;> rfl
theorem Yc4 (p : Pic) (s : Seq) : Xn1 p s = some (Xhw p s) := by
 unfold Xn1 Xhw
 rw [Xpu, Xab, Xgb, Xab]
 cases Xck p with
 | false => rfl
 | true => cases (p.Wide == (Xhh s).1) <;> rfl
def Yoj (s : Seq) : Bool := (s.Level == 0) && ((s.Bits == 0) && (((s.Cols.length : Int) == 0) && ((s.Rows.length : Int) == 0)))
theorem Yfc (s : Seq) : Xmy s = some (Yoj s) := by
 unfold Xmy Yoj
 cases (s.Level == 0) with
 | false => rfl
 | true =>
  cases (s.Bits == 0) with
  | false => rfl
  | true => cases ((s.Cols.length : Int) == 0) <;> rfl
def Ya2 (p : Par) : Bool := (p.Qp == 0) && ((p.Large == false) && ((p.Exact == false) && (p.Confined == false)))
def Xil (d : Xar) : Bool :=
 if d.HasSeq = true then
  Xf2 d.Seq && ((if d.HasPar = true then Xky d.Par else Ya2 d.Par && (decide (d.Got = 0) && !d.HasRef)) && (decide (-1 ≤ d.Frame ∧ d.Frame < 2 ^ d.Seq.Bits.toNat) && (decide (0 ≤ d.Got ∧ d.Got < Xbk d.Seq) && ((if d.Got > 0 then !(d.Frame == -1) && Xhw d.Now d.Seq else Xiv d.Now) && (if d.HasRef = true then Xhw d.Ref d.Seq else Xiv d.Ref)))))
 else
  !d.HasPar && (!d.HasRef && (Yoj d.Seq && (Ya2 d.Par && ((d.Frame == -1) && ((d.Got == 0) && (Xiv d.Now && Xiv d.Ref))))))
theorem Xnx (d : Xar) : Xzz d = some (Xil d) := by
 unfold Xzz Xil
 have hP : ((d.Par.Qp == 0) && ((d.Par.Large == false) && ((d.Par.Exact == false) && (d.Par.Confined == false)))) = Ya2 d.Par := rfl
 rw [hP]
 simp only [Yha, Yc4, Xk5, Xny, Xei, Xab]
 cases hS : d.HasSeq with
 | false =>
  rw [Bool.not_false, Xaq, if_neg (by decide)]
  cases d.HasPar with
  | true => rfl
  | false =>
   cases d.HasRef with
   | true => rfl
   | false =>
    unfold Yoj
    cases (d.Seq.Level == 0) with
    | false => rfl
    | true =>
     cases (d.Seq.Bits == 0) with
     | false => rfl
     | true =>
      cases ((d.Seq.Cols.length : Int) == 0) with
      | false => rfl
      | true =>
       cases ((d.Seq.Rows.length : Int) == 0) with
       | false => rfl
       | true =>
        cases Ya2 d.Par with
        | false => rfl
        | true =>
         cases (d.Frame == -1) with
         | false => rfl
         | true =>
          cases (d.Got == 0) with
          | false => rfl
          | true => cases Xiv d.Now <;> rfl
 | true =>
  rw [Bool.not_true, Xam, if_pos rfl]
  cases hs : Xf2 d.Seq with
  | false => rfl
  | true =>
   obtain ⟨_, _, b1, b2⟩ := Xbc hs
   obtain ⟨s1, s2, s3, s4, s5⟩ := Xgq d.Seq.Bits ⟨b1, b2⟩
   have ht := Xd4 hs
   rw [Xaq, s2, Bool.true_and]
   generalize (2 : Int) ^ d.Seq.Bits.toNat = N at *
   generalize Xbk d.Seq = T at *
   have tailE : ∀ v : Bool, (bnd (sel (decide (d.Frame < (-1))) (some true) (req (0 ≤ (Xaa .u64 (d.Seq.Bits))) <| sel (decide (d.Frame ≥ N)) (some true) (sel (decide (d.Got < 0)) (some true) (sel (decide (d.Got ≥ T)) (some true) (some v))))) fun v7 => sel v7 (some false) (bnd (sel (decide (d.Got > 0)) (sel (d.Frame == (-1)) (some true) (sel (Xhw d.Now d.Seq) (sel (d.Got == 0) (some (!Xiv d.Now)) (some false)) (some true))) (sel (d.Got == 0) (some (!Xiv d.Now)) (some false))) fun v9 => sel v9 (some false) (bnd (sel d.HasRef (sel (Xhw d.Ref d.Seq) (some true) (some false)) (some (Xiv d.Ref))) fun v13 => some v13))) = some (!v && (decide (-1 ≤ d.Frame ∧ d.Frame < N) && (decide (0 ≤ d.Got ∧ d.Got < T) && ((if d.Got > 0 then !(d.Frame == -1) && Xhw d.Now d.Seq else Xiv d.Now) && (if d.HasRef = true then Xhw d.Ref d.Seq else Xiv d.Ref))))) := by
    intro v
    rw [Xav s1]
    by_cases f1 : d.Frame < -1
    ·
     rw [Xa9 f1, Xab, Xaq, decide_eq_false (show ¬ (-1 ≤ d.Frame ∧ d.Frame < N) from fun h => by omega), Bool.false_and, Bool.and_false]
    rw [Xas f1]
    by_cases f2 : d.Frame ≥ N
    ·
     rw [Xa9 f2, Xab, Xaq, decide_eq_false (show ¬ (-1 ≤ d.Frame ∧ d.Frame < N) from fun h => by omega), Bool.false_and, Bool.and_false]
    rw [Xas f2, decide_eq_true (show -1 ≤ d.Frame ∧ d.Frame < N by omega), Bool.true_and]
    by_cases g1 : d.Got < 0
    ·
     rw [Xa9 g1, Xab, Xaq, decide_eq_false (show ¬ (0 ≤ d.Got ∧ d.Got < T) from fun h => by omega), Bool.false_and, Bool.and_false]
    rw [Xas g1]
    by_cases g2 : d.Got ≥ T
    ·
     rw [Xa9 g2, Xab, Xaq, decide_eq_false (show ¬ (0 ≤ d.Got ∧ d.Got < T) from fun h => by omega), Bool.false_and, Bool.and_false]
    rw [Xas g2, decide_eq_true (show 0 ≤ d.Got ∧ d.Got < T by omega), Bool.true_and, Xab]
    cases v with
    | true => rfl
    | false =>
     rw [Xam, Bool.not_false, Bool.true_and]
     by_cases g3 : d.Got > 0
     ·
      rw [Xa9 g3, if_pos g3, Xaz (b := d.Got == 0) (by rw [beq_eq_false_iff_ne]; omega)]
      cases (d.Frame == -1) with
      | true => rfl
      | false =>
       cases Xhw d.Now d.Seq with
       | false => rfl
       | true =>
        cases d.HasRef with
        | false => cases Xiv d.Ref <;> rfl
        | true => cases Xhw d.Ref d.Seq <;> rfl
     ·
      rw [Xas g3, if_neg g3, Xbb (b := d.Got == 0) (by rw [beq_iff_eq]; omega)]
      cases Xiv d.Now with
      | false => rfl
      | true =>
       cases d.HasRef with
       | false => cases Xiv d.Ref <;> rfl
       | true => cases Xhw d.Ref d.Seq <;> rfl
   cases hp : d.HasPar with
   | true =>
    rw [Xaq, if_pos rfl]
    cases Xky d.Par with
    | false => rfl
    | true =>
     rw [Xaq, Xab, Xam, Bool.true_and]
     exact (tailE false).trans (by rw [Bool.not_false, Bool.true_and])
   | false =>
    rw [Xam, if_neg (by decide)]
    cases Ya2 d.Par with
    | false => rfl
    | true =>
     rw [show ((true : Bool) == false) = false from rfl, Xab, Xam, Bool.true_and]
     have h2 : (sel (decide (d.Got > 0)) (some true) (some d.HasRef)) = some (decide (d.Got > 0) || d.HasRef) := by
      cases decide (d.Got > 0) <;> rfl
     simp only [Xam]
     rw [h2]
     refine (tailE _).trans ?_
     by_cases g0 : d.Got = 0
     ·
      rw [decide_eq_true g0, decide_eq_false (show ¬ d.Got > 0 by omega), Bool.false_or, Bool.true_and]
     ·
      rw [decide_eq_false g0, Bool.false_and, Bool.false_and]
      by_cases g1 : d.Got > 0
      ·
       rw [decide_eq_true g1, Bool.true_or, Bool.not_true, Bool.false_and]
      ·
       rw [decide_eq_false (show ¬ (0 ≤ d.Got ∧ d.Got < T) from fun h => by omega), Bool.false_and, Bool.and_false, Bool.and_false]
theorem Yk8 (d : Xar) (h1 : d.Seq.Cols.length ≤ maxLen) (h2 : d.Seq.Rows.length ≤ maxLen) : Xp3 d = some (Xil d) := by
 unfold Xp3 Xil
 have hP : ((d.Par.Qp == 0) && ((d.Par.Large == false) && ((d.Par.Exact == false) && (d.Par.Confined == false)))) = Ya2 d.Par := rfl
 have hN : ((d.Now.Wide == 0) && ((d.Now.High == 0) && ((d.Now.Dots.size : Int) == 0))) = Xiv d.Now := rfl
 have hR : ((d.Ref.Wide == 0) && ((d.Ref.High == 0) && ((d.Ref.Dots.size : Int) == 0))) = Xiv d.Ref := rfl
 rw [hP]
 simp only [Ysr, hN, hR, Yfc, Yny _ _ h1 h2, Xew _ h1 h2, Xhx, Xhc _ h1 h2, Xaj, Xab]
 cases hS : d.HasSeq with
 | false =>
  rw [Bool.not_false, Xaq, if_neg (by decide)]
  cases d.HasPar with
  | true => rfl
  | false =>
   cases d.HasRef with
   | true => rfl
   | false =>
    cases Yoj d.Seq with
    | false => rfl
    | true =>
     cases Ya2 d.Par with
     | false => rfl
     | true =>
      cases (d.Frame == -1) with
      | false => rfl
      | true =>
       cases (d.Got == 0) with
       | false => rfl
       | true => cases Xiv d.Now <;> cases Xiv d.Ref <;> rfl
 | true =>
  rw [Bool.not_true, Xam, if_pos rfl]
  cases hs : Xf2 d.Seq with
  | false => rfl
  | true =>
   obtain ⟨_, _, b1, b2⟩ := Xbc hs
   obtain ⟨s1, s2, s3, s4, s5⟩ := Xgq d.Seq.Bits ⟨b1, b2⟩
   have ht := Xd4 hs
   rw [Xaq, s3, Bool.true_and]
   generalize (2 : Int) ^ d.Seq.Bits.toNat = N at *
   generalize Xbk d.Seq = T at *
   rw [wkA (e := N - 1), wkA (e := T - 1)]
   have e1 : decide (-1 ≤ d.Frame ∧ d.Frame ≤ N - 1) = decide (-1 ≤ d.Frame ∧ d.Frame < N) := by rw [decide_eq_decide]; omega
   have e2 : decide (0 ≤ d.Got ∧ d.Got ≤ T - 1) = decide (0 ≤ d.Got ∧ d.Got < T) := by rw [decide_eq_decide]; omega
   rw [e1, e2, rqA]
   have tailE : (bnd (sel (decide (-1 ≤ d.Frame ∧ d.Frame < N)) (some (!decide (0 ≤ d.Got ∧ d.Got < T))) (some true)) fun v6 => sel v6 (some false) (bnd (sel (decide (d.Got > 0)) (sel (d.Frame == (-1)) (some true) (sel (Xhw d.Now d.Seq) (sel (d.Got == 0) (some (Xiv d.Now == false)) (some false)) (some true))) (sel (d.Got == 0) (some (Xiv d.Now == false)) (some false))) fun v10 => sel v10 (some false) (sel d.HasRef (some (Xhw d.Ref d.Seq)) (some (Xiv d.Ref == true))))) = some (decide (-1 ≤ d.Frame ∧ d.Frame < N) && (decide (0 ≤ d.Got ∧ d.Got < T) && ((if d.Got > 0 then !(d.Frame == -1) && Xhw d.Now d.Seq else Xiv d.Now) && (if d.HasRef = true then Xhw d.Ref d.Seq else Xiv d.Ref)))) := by
    by_cases f1 : -1 ≤ d.Frame ∧ d.Frame < N
    ·
     rw [decide_eq_true f1, Bool.true_and, Xaq, Xab]
     by_cases g1 : 0 ≤ d.Got ∧ d.Got < T
     ·
      rw [decide_eq_true g1, Bool.true_and, Bool.not_true, Xam]
      by_cases g3 : d.Got > 0
      ·
       rw [Xa9 g3, if_pos g3, Xaz (b := d.Got == 0) (by rw [beq_eq_false_iff_ne]; omega)]
       cases (d.Frame == -1) with
       | true => rfl
       | false =>
        cases Xhw d.Now d.Seq with
        | false => rfl
        | true =>
         cases d.HasRef with
         | false => cases Xiv d.Ref <;> rfl
         | true => cases Xhw d.Ref d.Seq <;> rfl
      ·
       rw [Xas g3, if_neg g3, Xbb (b := d.Got == 0) (by rw [beq_iff_eq]; omega)]
       cases Xiv d.Now with
       | false => rfl
       | true =>
        cases d.HasRef with
        | false => cases Xiv d.Ref <;> rfl
        | true => cases Xhw d.Ref d.Seq <;> rfl
     ·
      rw [decide_eq_false g1, Bool.false_and]; rfl
    ·
     rw [decide_eq_false f1, Bool.false_and]; rfl
   cases hp : d.HasPar with
   | true =>
    rw [Xaq, if_pos rfl]
    cases Xky d.Par with
    | false => rfl
    | true =>
     rw [Xaq, Xab, Xam, Bool.true_and]
     exact tailE
   | false =>
    rw [Xam, if_neg (by decide)]
    cases Ya2 d.Par with
    | false => rfl
    | true =>
     rw [show ((true : Bool) == false) = false from rfl, Xam]
     by_cases g0 : d.Got = 0
     ·
      rw [Xaz (b := d.Got != 0) (by rw [bne_eq_false_iff_eq]; exact g0), decide_eq_true g0]
      cases hr : d.HasRef with
      | true => rfl
      | false =>
       rw [hr] at tailE
       rw [Xab, Xam]
       exact tailE
     ·
      rw [Xbb (b := d.Got != 0) (by rw [bne_iff_ne]; exact g0), decide_eq_false g0]
      rfl
theorem Xws (s : Seq) (h1 : s.Cols.length ≤ 1048576) (h2 : s.Rows.length ≤ 1048576) : Xm6 s = some s ∧ Xmx s = some s := by
 have hm : maxLen = 9223372036854775807 := rfl
 constructor
 ·
  unfold Xm6
  rw [Xav (by simp only [List.length_nil]; omega), Xav (by simp only [List.length_nil]; omega)]
  rfl
 ·
  unfold Xmx Xey
  rw [Xav (by simp only [List.length_nil]; omega), Xav (by simp only [List.length_nil]; omega), Xab, Xab]
  rfl
theorem Yd0 {d : Xar} (h : Xil d = true) (hp : d.HasPar = true) : d.HasSeq = true := by
 unfold Xil at h
 cases hs : d.HasSeq with
 | true => rfl
 | false =>
  rw [hs, if_neg (by decide), hp] at h
  simp at h
theorem Yt8 {d : Xar} (h : Xil d = true) (hs : d.HasSeq = true) (g : d.Got ≠ 0) : Xck d.Now = true := by
 unfold Xil at h
 rw [if_pos hs] at h
 simp only [Bool.and_eq_true, decide_eq_true_eq] at h
 obtain ⟨_, _, _, ⟨g1, _⟩, hn, _⟩ := h
 rw [if_pos (by omega)] at hn
 unfold Xhw at hn
 simp only [Bool.and_eq_true] at hn
 exact hn.2.1
theorem Ysc {L : List Int} (hb : Xeo L) (hl : L.length ≤ 400000) (d : Xar) (hd : Xil d = true) (h1 : d.Seq.Cols.length ≤ maxLen) (h2 : d.Seq.Rows.length ≤ maxLen) (k : Int) (hk : k = 1 ∨ k = 5) : ∃ (D : Xar) (co : Int) (P : Pic), Xld d k (strOfNums L) = some (D, co, P) ∧ Xdj d (k == 5) (strOfNums L) = some (D, co, P, d) ∧ D.Seq = d.Seq ∧ (P = ⟨0, 0, ⟨#[]⟩⟩ ∨ Xck P = true) := by
 have hm : maxLen = 9223372036854775807 := rfl
 have fin : ∀ {x : Option (Xar × Int × Pic)} {z : Option (Xar × Int × Pic × Xar)} {co : Int}, x = some (d, co, ⟨0, 0, ⟨#[]⟩⟩) → z = some (d, co, ⟨0, 0, ⟨#[]⟩⟩, d) → ∃ (D : Xar) (co : Int) (P : Pic), x = some (D, co, P) ∧ z = some (D, co, P, d) ∧ D.Seq = d.Seq ∧ (P = ⟨0, 0, ⟨#[]⟩⟩ ∨ Xck P = true) := fun e1 e2 => ⟨d, _, _, e1, e2, rfl, .inl rfl⟩
 unfold Xld Xdj
 cases hp : d.HasPar with
 | false =>
  refine fin (co := 4) rfl ?_
  cases d.HasSeq <;> rfl
 | true =>
  rw [Yd0 hd hp, Xaq, Bool.not_true, Xam, Xab, Xam]
  rcases Xwg hb hl d.Seq d.Par h1 h2 with ⟨h, j, e1, e2, hh, hj⟩ | ⟨e1, e2⟩
  ·
   rw [e1, Xab, e2, Xab]
   simp only
   rw [Bool.not_true, Xam, Xam]
   cases ht : (h.Tile != d.Got) with
   | true => exact fin (co := 6) rfl rfl
   | false =>
    rw [Xam, Xam]
    have ex : ∃ b : Bool, (sel (d.Frame != (-1)) (some (d.Frame != h.Frame)) (some false)) = some b := by cases (d.Frame != (-1)) <;> exact ⟨_, rfl⟩
    obtain ⟨b, eb⟩ := ex
    rw [eb, Xab, Xab]
    cases b with
    | true => exact fin (co := 7) rfl rfl
    | false =>
     rw [Xam, Xam]
     have e8 : (sel (k == 1) (some (!d.HasRef)) (some false)) = some (!(k == 5) && !d.HasRef) ∧ (sel (k == 5) (some false) (some (!d.HasRef))) = some (!(k == 5) && !d.HasRef) := by
      rcases hk with rfl | rfl <;> exact ⟨rfl, rfl⟩
     rw [e8.1, e8.2, Xab, Xab]
     cases (!(k == 5) && !d.HasRef) with
     | true => exact fin (co := 8) rfl rfl
     | false =>
      rw [Xam, Xam]
      unfold Xlh at hh
      simp only [Bool.and_eq_true, decide_eq_true_eq] at hh
      obtain ⟨hs, hpar, hti, hfr, hqp⟩ := hh
      obtain ⟨s1, s2, b1, b2⟩ := Xbc hs
      have i1 := Xsl s1
      have i2 := Xsl s2
      obtain ⟨r, t1, t2, rw_, rh⟩ := Ydo hs h1 h2 h.Tile hti
      have sw := Xly rw_
      have sh := Xly rh
      have mb : r.Wide / 8 * (r.High / 8) ≤ 8 * 8 := Int.mul_le_mul (by omega) (by omega) (by omega) (by omega)
      have m0 : 1 * 1 ≤ r.Wide / 8 * (r.High / 8) := Int.mul_le_mul (by omega) (by omega) (by omega) (by omega)
      have q1 : Xcb d.Seq h.Tile = some (r.Wide / 8 * (r.High / 8)) := by
       unfold Xcb
       rw [t2, Xab, rqA, rqA, Xbp (a := r.Wide) (by omega), Xbp (a := r.High) (by omega), wkA (e := r.Wide / 8), wkA (e := r.High / 8), wkA]
      have q2 : Xgg d.Seq h.Tile = some (r.Wide / 8 * (r.High / 8)) := by
       unfold Xgg
       rw [t1, Xab, rqA, rqA, Xbp (a := r.Wide) (by omega), Xbp (a := r.High) (by omega), wkA (e := r.Wide / 8), wkA (e := r.High / 8), wkA]
      rw [q1, Xab, q2, Xab]
      obtain ⟨l, ok, r1, r2, l1, l2, l3⟩ := Xwh (strOfNums L) (j : Int) (r.Wide / 8 * (r.High / 8)) ⟨k == 5, h.Qp, d.Par.Large, d.Par.Exact⟩
      rw [r1, Xab, r2, Xab]
      cases ok with
      | false => exact fin (co := 9) rfl rfl
      | true =>
       obtain ⟨x, x1, x2, _⟩ := Xwi d.Ref r ⟨k == 5, h.Qp, d.Par.Large, d.Par.Exact⟩ d.Par.Confined l (by omega) (fun q hq => by have := l2 q hq; omega)
       simp only
       rw [Bool.not_true, Xam, Xam, t1, Xab, t2, Xab]
       simp only
       rw [x1, Xab, x2, Xab]
       have ev : ∃ n : Pic, (sel (d.Got == 0) (bnd (Xl3 d.Seq) fun q9 => bnd (Xqn q9.1 q9.2) fun q10 => some (q10.Wide, q10.High, q10.Dots)) (some (d.Now.Wide, d.Now.High, d.Now.Dots))) = some (n.Wide, n.High, n.Dots) ∧ (sel (d.Got == 0) (bnd (Xjo d.Seq) fun q9 => bnd (Xn8 q9.1 q9.2) fun q10 => some (q10.Wide, q10.High, q10.Dots)) (some (d.Now.Wide, d.Now.High, d.Now.Dots))) = some (n.Wide, n.High, n.Dots) ∧ Xck n = true := by
        cases hg : (d.Got == 0) with
        | false => exact ⟨d.Now, rfl, rfl, Yt8 hd (Yd0 hd hp) (by rw [beq_eq_false_iff_ne] at hg; exact hg)⟩
        | true =>
         have hsz : Xhh d.Seq = (8 * Xli d.Seq.Cols, 8 * Xli d.Seq.Rows) := by unfold Xhh; rw [if_pos hs]
         refine ⟨Yw8 (8 * Xli d.Seq.Cols) (8 * Xli d.Seq.Rows), ?_, ?_, Yum (by omega) (by omega)⟩
         ·
          rw [Xaq, Xpu, Xab, hsz, Xss _ _ (by simp only; omega) (by simp only; omega), Xab]
          rfl
         ·
          rw [Xaq, Xup _ h1 h2, Xab, hsz, Yav _ _ (by simp only; omega) (by simp only; omega), Xab]
          rfl
       obtain ⟨n, n1, n2, nok⟩ := ev
       rw [n1, Xab, n2, Xab]
       simp only
       obtain ⟨o, bo, p1, p2, ow, oh, p3, _⟩ := Ydl n x.1 r.Left r.Top
       have ho : Xck o = true := by
        obtain ⟨k1, k2, k3⟩ := Xbu nok
        exact Xtm (by rw [ow]; exact k1) (by rw [oh]; exact k2) (by rw [p3, ow, oh]; exact k3)
       rw [show (⟨n.Wide, n.High, n.Dots⟩ : Pic) = n from rfl, p1, Xab, p2, Xab, Xei, Xab, Xhc _ h1 h2, Xab]
       simp only
       cases decide ((Xaa .i64 (d.Got + 1)) < Xbk d.Seq) with
       | true => exact ⟨_, _, _, rfl, rfl, rfl, .inl rfl⟩
       | false =>
        obtain ⟨z1, z2, z3, z4, z5⟩ := Xgq d.Seq.Bits ⟨b1, b2⟩
        have nz : (2 : Int) ^ d.Seq.Bits.toNat ≠ 0 := by
         generalize (2 : Int) ^ d.Seq.Bits.toNat = N at z4 z5 ⊢
         omega
        have nb : 0 ≤ d.Seq.Bits := by omega
        rw [Xam, Xam, z2, Xav z1, Xav nz]
        unfold Xtd
        rw [z3, Xav nb, Xav nz, Xab]
        exact ⟨_, _, _, rfl, rfl, rfl, .inr ho⟩
  ·
   rw [e1, Xab, e2, Xab]
   simp only
   rw [Bool.not_false, Xaq, Xaq]
   exact fin (co := 5) rfl rfl
theorem Ymv (d : Xar) (u : ByteArray) (h1 : d.Seq.Cols.length ≤ 1048576) (h2 : d.Seq.Rows.length ≤ 1048576) (hu : u.size ≤ 1048576) : ∃ (D : Xar) (co : Int) (P : Pic), Xjr d u = some (D, co, P) ∧ Xdn d u = some (D, co, P) ∧ D.Seq.Cols.length ≤ 1048576 ∧ D.Seq.Rows.length ≤ 1048576 ∧ (P = ⟨0, 0, ⟨#[]⟩⟩ ∨ Xck P = true) := by
 have hm : maxLen = 9223372036854775807 := rfl
 obtain ⟨_, cp⟩ := Xws d.Seq h1 h2
 have cd : Xcz d = some d := by unfold Xcz; rw [cp, Xab]
 have key : ∀ {z x : Option (Xar × Int × Pic)} {D : Xar} {co : Int} {P : Pic}, z = some (D, co, P) → x = some (D, co, P) → D.Seq.Cols.length ≤ 1048576 → D.Seq.Rows.length ≤ 1048576 → (P = ⟨0, 0, ⟨#[]⟩⟩ ∨ Xck P = true) → ∃ (D : Xar) (co : Int) (P : Pic), z = some (D, co, P) ∧ (bnd x fun q1 => bnd (Xm6 q1.1.Seq) fun q2 => some ((⟨q1.1.HasSeq, q1.1.HasPar, q1.1.HasRef, q2, q1.1.Par, q1.1.Frame, q1.1.Got, q1.1.Now, q1.1.Ref⟩ : Xar), q1.2.1, q1.2.2)) = some (D, co, P) ∧ D.Seq.Cols.length ≤ 1048576 ∧ D.Seq.Rows.length ≤ 1048576 ∧ (P = ⟨0, 0, ⟨#[]⟩⟩ ∨ Xck P = true) := fun {z x D co P} e1 e2 l1 l2 hP => by
  refine ⟨D, co, P, e1, ?_, l1, l2, hP⟩
  rw [e2, Xab]
  simp only
  rw [(Xws D.Seq l1 l2).1, Xab]
 unfold Xjr Xdn Xkc
 rw [cd, Xab, Yk8 d (by omega) (by omega), Xab, Xnx, Xab]
 cases hd : Xil d with
 | false => exact key (D := d) (co := 1) rfl rfl h1 h2 (.inl rfl)
 | true =>
  rw [Bool.not_true, Xam, Xam]
  rcases Ydq u hu with ⟨k, L, hk, hb, hl, e1, e2⟩ | ⟨e1, e2⟩
  ·
   rw [e1, Xab, e2, Xab]
   simp only
   rw [Bool.not_true, Xam, Xam]
   unfold Xno at hk
   simp only [Bool.or_eq_true, beq_iff_eq] at hk
   have hz : ((0 : Nat) : Int) = 0 := rfl
   by_cases k7 : k = 7
   ·
    subst k7
    rw [Xbb (b := (7 : Int) == 7) (by rfl), Xbb (b := (7 : Int) == 7) (by rfl)]
    rcases Yao hb hl 0 (by omega) with ⟨q, j, r1, r2, hs, l1, l2, _⟩ | ⟨r1, r2⟩
    ·
     rw [hz] at r1 r2
     rw [r1, Xab, r2, Xab]
     simp only
     simp only [Xaq, Xab]
     cases ((j : Int) != ((strOfNums L).size : Int)) with
     | true => exact key (D := d) (co := 3) rfl rfl h1 h2 (.inl rfl)
     | false => exact key (D := ⟨true, false, false, q, ⟨0, false, false, false⟩, -1, 0, ⟨0, 0, ⟨#[]⟩⟩, ⟨0, 0, ⟨#[]⟩⟩⟩) (co := 0) rfl rfl (by simp only; omega) (by simp only; omega) (.inl rfl)
    ·
     rw [hz] at r1 r2
     rw [r1, Xab, r2, Xab]
     simp only
     simp only [Xam, Xaq, Xab]
     exact key (D := d) (co := 3) rfl rfl h1 h2 (.inl rfl)
   ·
    rw [Xaz (b := k == 7) (by rw [beq_eq_false_iff_ne]; exact k7), Xaz (b := k == 7) (by rw [beq_eq_false_iff_ne]; exact k7)]
    by_cases k8 : k = 8
    ·
     subst k8
     rw [Xbb (b := (8 : Int) == 8) (by rfl), Xbb (b := (8 : Int) == 8) (by rfl)]
     rcases Yan hb hl 0 (by omega) with ⟨q, j, r1, r2, hs, _⟩ | ⟨r1, r2⟩
     ·
      rw [hz] at r1 r2
      rw [r1, Xab, r2, Xab]
      simp only
      simp only [Xaq, Xab]
      cases ((j : Int) != ((strOfNums L).size : Int)) with
      | true => exact key (D := d) (co := 3) rfl rfl h1 h2 (.inl rfl)
      | false =>
       simp only [Xam]
       cases hS : d.HasSeq with
       | false => exact key (D := d) (co := 4) rfl rfl h1 h2 (.inl rfl)
       | true =>
        simp only [Xaq, Xab]
        cases decide (d.Got > 0) with
        | true => exact key (D := d) (co := 4) rfl rfl h1 h2 (.inl rfl)
        | false => exact key (D := ⟨true, true, d.HasRef, d.Seq, q, d.Frame, d.Got, d.Now, d.Ref⟩) (co := 0) rfl rfl h1 h2 (.inl rfl)
     ·
      rw [hz] at r1 r2
      rw [r1, Xab, r2, Xab]
      simp only
      simp only [Xam, Xaq, Xab]
      exact key (D := d) (co := 3) rfl rfl h1 h2 (.inl rfl)
    ·
     rw [Xaz (b := k == 8) (by rw [beq_eq_false_iff_ne]; exact k8), Xaz (b := k == 8) (by rw [beq_eq_false_iff_ne]; exact k8)]
     obtain ⟨D, co, P, s1, s2, s3, s4⟩ := Ysc hb hl d hd (by omega) (by omega) k (by omega)
     rw [s1, Xab, s2, Xab]
     refine key (D := D) (co := co) (P := P) ?_ rfl (by rw [s3]; exact h1) (by rw [s3]; exact h2) s4
     simp only
     rw [← s3]
  ·
   rw [e1, Xab, e2, Xab]
   exact key (D := d) (co := 2) rfl rfl h1 h2 (.inl rfl)
abbrev Zcj := Int × Bool × Bool × Bool × Int × Int × Int × Bool × Bool × Bool × Int × Int × Int × Int × ByteArray × Int × Int × ByteArray × (List Pic) × (List Int) × (List Int) × (List Int)
def Yms (k : Int) (d : Xar) (ps : List Pic) (cs : List Int) : Zcj := (k, d.HasSeq, d.HasPar, d.HasRef, d.Seq.Level, d.Seq.Bits, d.Par.Qp, d.Par.Large, d.Par.Exact, d.Par.Confined, d.Frame, d.Got, d.Now.Wide, d.Now.High, d.Now.Dots, d.Ref.Wide, d.Ref.High, d.Ref.Dots, ps, cs, d.Seq.Cols, d.Seq.Rows)
theorem Yt7 (us : List ByteArray) (h400 : us.length ≤ 400) (hu : ∀ u ∈ us, u.size ≤ 1048576) : ∀ n k : Nat, k + n = us.length → ∀ (d : Xar) (ps : List Pic) (cs : List Int), d.Seq.Cols.length ≤ 1048576 → d.Seq.Rows.length ≤ 1048576 → ps.length ≤ k → cs.length = k →
  ∃ (D : Xar) (ps' : List Pic) (cs' : List Int), loop (Xgs us) (Yms (k : Int) d ps cs) = some (Yms 0 D ps' cs').2 ∧ loop (Xdd us) (Yms (k : Int) d ps cs) = some (Yms 0 D ps' cs').2 ∧ D.Seq.Cols.length ≤ 1048576 ∧ D.Seq.Rows.length ≤ 1048576 ∧ ps'.length ≤ 400 ∧ cs'.length ≤ 400
 | 0, k, hk, d, ps, cs, h1, h2, hp, hc => by
  refine ⟨d, ps, cs, Xbx ?_, Xbx ?_, h1, h2, by omega, by omega⟩
  ·
   unfold Xgs Yms
   simp only
   rw [snA]
  ·
   unfold Xdd Yms
   simp only
   rw [snA]
 | n + 1, k, hk, d, ps, cs, h1, h2, hp, hc => by
  have hm : maxLen = 9223372036854775807 := rfl
  have hz := hu (us.getD k Xgr) (by rw [Xb2 us k (by omega)]; exact List.getElem_mem _)
  obtain ⟨D, co, P, ei, es, d1, d2, hP⟩ := Ymv d (us.getD k Xgr) h1 h2 hz
  have ei' : Xjr (⟨d.HasSeq, d.HasPar, d.HasRef, ⟨d.Seq.Level, d.Seq.Bits, d.Seq.Cols, d.Seq.Rows⟩, ⟨d.Par.Qp, d.Par.Large, d.Par.Exact, d.Par.Confined⟩, d.Frame, d.Got, ⟨d.Now.Wide, d.Now.High, d.Now.Dots⟩, ⟨d.Ref.Wide, d.Ref.High, d.Ref.Dots⟩⟩ : Xar) (us.getD k Xgr) = some (D, co, P) := ei
  have es' : Xdn (⟨d.HasSeq, d.HasPar, d.HasRef, ⟨d.Seq.Level, d.Seq.Bits, d.Seq.Cols, d.Seq.Rows⟩, ⟨d.Par.Qp, d.Par.Large, d.Par.Exact, d.Par.Confined⟩, d.Frame, d.Got, ⟨d.Now.Wide, d.Now.High, d.Now.Dots⟩, ⟨d.Ref.Wide, d.Ref.High, d.Ref.Dots⟩⟩ : Xar) (us.getD k Xgr) = some (D, co, P) := es
  have hw : decide (P.Wide > 0) = Xck P := by
   rcases hP with h | h
   ·
    rw [h]; rfl
   ·
    obtain ⟨k1, _, _⟩ := Xbu h
    rw [h]; exact decide_eq_true (by omega)
  have gI : Xgs us (Yms (k : Int) d ps cs) = some (.go (Yms ((k + 1 : Nat) : Int) D (if Xck P = true then ps ++ [P] else ps) (cs ++ [co]))) := by
   unfold Xgs Yms
   simp only [Int.toNat_natCast]
   rw [syA, rqA, ei', Xab]
   simp only
   rw [Xav (by simp only [List.length_singleton]; omega), Xcq, Xab]
   cases Xck P with
   | true => rw [Xaq, Xav (by simp only [List.length_singleton]; omega), Xab, wkA]; rfl
   | false => rw [Xam, Xab, wkA]; rfl
  have gS : Xdd us (Yms (k : Int) d ps cs) = some (.go (Yms ((k + 1 : Nat) : Int) D (if Xck P = true then ps ++ [P] else ps) (cs ++ [co]))) := by
   unfold Xdd Yms
   simp only [Int.toNat_natCast]
   rw [syA, rqA, es', Xab]
   simp only
   rw [Xav (by simp only [List.length_singleton]; omega), hw]
   cases Xck P with
   | true => rw [Xaq, Xav (by simp only [List.length_singleton]; omega), Xab, wkA]; rfl
   | false => rw [Xam, Xab, wkA]; rfl
  have hl : (if Xck P = true then ps ++ [P] else ps).length ≤ k + 1 := by
   split
   ·
    rw [List.length_append, List.length_singleton]; omega
   ·
    omega
  obtain ⟨D', ps', cs', r1, r2, r3⟩ := Yt7 us h400 hu n (k + 1) (by omega) D _ (cs ++ [co]) d1 d2 hl (by rw [List.length_append, List.length_singleton]; omega)
  exact ⟨D', ps', cs', lgo gI r1, lgo gS r2, r3⟩
theorem Ypg (d : Xar) (us : List ByteArray) (h1 : d.Seq.Cols.length ≤ 1048576) (h2 : d.Seq.Rows.length ≤ 1048576) (hu : ∀ u ∈ us, u.size ≤ 1048576) : ∃ (D : Xar) (ps : List Pic) (cs : List Int), Xjl d us = some (D, ps, cs) ∧ Xoi d us = some (D, ps, cs) ∧ D.Seq.Cols.length ≤ 1048576 ∧ D.Seq.Rows.length ≤ 1048576 ∧ ps.length ≤ 400 ∧ cs.length ≤ 400 := by
 obtain ⟨c1, c2⟩ := Xws d.Seq h1 h2
 have cd : Xcz d = some d := by unfold Xcz; rw [c2, Xab]
 unfold Xjl Xoi
 rw [cd, Xab, c1, Xab]
 by_cases h4 : (us.length : Int) > 400
 ·
  rw [Xa9 h4, Xa9 h4]
  exact ⟨d, [], [], rfl, rfl, h1, h2, by simp, by simp⟩
 ·
  rw [Xas h4, Xas h4]
  obtain ⟨D, ps, cs, r1, r2, r3⟩ := Yt7 us (by omega) hu us.length 0 (by omega) d [] [] h1 h2 (by simp) rfl
  refine ⟨D, ps, cs, (Xc3 r1).trans rfl, (Xc3 r2).trans rfl, r3⟩
theorem Zav (s : ByteArray) (q1 : List Int) (idx : Nat) (x x' : List ByteArray) (i a : Int) (h : idx < (q1 ++ [(s.size : Int)]).length) (ha : (q1 ++ [(s.size : Int)]).getD idx 0 = a) (a0 : 0 ≤ a ∧ a ≤ 100000) : Xjd s q1 ((idx : Int), x) = Xcc s (a + 3, i, x') := by
 funext v
 unfold Xjd Xcc
 have e1 : (q1 ++ [(s.size : Int)]).getD (((idx : Int), x) : Int × List ByteArray).1.toNat 0 = a := by
  rw [← ha]; rfl
 rw [Xav (by simp only; omega), Xav (by simp only [Int.toNat_natCast]; exact h), e1, wkA (e := a + 3)]
theorem Ysn (s : ByteArray) (hs : s.size ≤ 60000) (b : Int) (i : Nat) (x : List ByteArray) (hi : i ≤ s.size) (hx : x.length = 400) : Xr3 s (b, (i : Int), x) = some x := by
 by_cases hb : 0 ≤ b ∧ b ≤ (i : Int)
 ·
  obtain ⟨e, he, h1, h2⟩ := Yp1 s b i x hb.1 i hb.2 (by omega) (by omega)
  rw [Xwr s hs b i e x (by omega) hb.1 hb.2 he h1 (by omega), if_neg (fun h => by omega)]
 ·
  exact Xr4 s b i x hb
theorem Ytl (s : ByteArray) (hs : s.size ≤ 60000) (x : List ByteArray) (hx : x.length = 400) : ∀ i : Nat, i ≤ s.size + 1 → ∀ b : Int, loop (Xb4 s) (b, (i : Int), x) = some x := by
 refine Xc1 _ (fun b => Xbx (Xtx s b x)) ?_
 intro i hi ih b
 have st := Xma s hs b i x (by omega)
 by_cases hh : Xwz ((Xal s).drop i) ∨ i = s.size
 ·
  rw [if_pos hh, Ysn s hs b i x (by omega) hx, Xab] at st
  exact lgo st (ih _)
 ·
  rw [if_neg hh] at st
  exact lgo st (ih b)
def Xvx (s : ByteArray) (i : Nat) : List Int := if i ≤ s.size then Xo0 (i : Int) ((Xal s).drop i) ++ [(s.size : Int)] else []
theorem Yf0 (s : ByteArray) (i : Nat) (h : Xwz ((Xal s).drop i)) : i + 2 < s.size ∧ Xvx s i = (i : Int) :: Xvx s (i + 1) := by
 have hl := Xap s
 have hlt : i + 2 < s.size := by
  obtain ⟨r, e⟩ := Xw0 _ h
  have := congrArg List.length e
  rw [List.length_drop] at this
  simp at this
  omega
 refine ⟨hlt, ?_⟩
 unfold Xvx
 rw [if_pos (by omega), if_pos (by omega)]
 have hd : (Xal s).drop i = (Xal s)[i]'(by omega) :: (Xal s).drop (i + 1) := List.drop_eq_getElem_cons (by omega)
 rw [hd] at h ⊢
 rw [Xo0, if_pos h, show ((i + 1 : Nat) : Int) = (i : Int) + 1 by omega]
 rfl
theorem Yrq (s : ByteArray) (i : Nat) (hi : i < s.size) (h : ¬ Xwz ((Xal s).drop i)) : Xvx s i = Xvx s (i + 1) := by
 have hl := Xap s
 unfold Xvx
 rw [if_pos (by omega), if_pos (by omega)]
 have hd : (Xal s).drop i = (Xal s)[i]'(by omega) :: (Xal s).drop (i + 1) := List.drop_eq_getElem_cons (by omega)
 rw [hd] at h ⊢
 rw [Xo0, if_neg h, show ((i + 1 : Nat) : Int) = (i : Int) + 1 by omega]
theorem Xx6 (s : ByteArray) : Xvx s s.size = [(s.size : Int)] ∧ Xvx s (s.size + 1) = [] := by
 have hl := Xap s
 unfold Xvx
 rw [if_pos (by omega), if_neg (by omega), List.drop_eq_nil_of_le (by omega)]
 exact ⟨rfl, rfl⟩
theorem Yqp (s : ByteArray) (hs : s.size ≤ 60000) (q1 : List Int) (idx : Nat) (hidx : idx ≤ 100000) (x : List ByteArray) (hx : x.length < 400) (a b : Int) (t : List Int) (hd : (q1 ++ [(s.size : Int)]).drop idx = a :: b :: t) (a0 : 0 ≤ a) (ab : a + 3 ≤ b) (bs : b ≤ s.size) : Xcy s q1 ((idx : Int), x) = bnd (Xr3 s (a + 3, b, x)) fun y => some (.go (((idx + 1 : Nat) : Int), y)) := by
 have hm : maxLen = 9223372036854775807 := rfl
 have hlen : idx + 1 < (q1 ++ [(s.size : Int)]).length := by
  have := congrArg List.length hd
  rw [List.length_drop] at this
  simp only [List.length_cons] at this
  omega
 have ga : (q1 ++ [(s.size : Int)]).getD idx 0 = a := by
  rw [List.getD_eq_getElem?_getD, show idx = idx + 0 from rfl, ← List.getElem?_drop, hd]; rfl
 have gb : (q1 ++ [(s.size : Int)]).getD (idx + 1) 0 = b := by
  rw [List.getD_eq_getElem?_getD, ← List.getElem?_drop, hd]; rfl
 clear hd
 subst ga
 subst gb
 generalize hA : (q1 ++ [(s.size : Int)]).getD idx 0 = a at *
 generalize hB : (q1 ++ [(s.size : Int)]).getD (idx + 1) 0 = b at *
 obtain ⟨e, he, h1, h2⟩ := Yp1 s (a + 3) b x (by omega) b ab bs (by omega)
 have hc := Xwr s hs (a + 3) b e x (by omega) (by omega) ab he h1 (by omega)
 have el := Zav s q1 idx x x b a (by omega) hA (by omega)
 rw [hc, Xab]
 unfold Xcy
 simp only [Int.toNat_natCast]
 rw [wkA (e := (idx : Int) + 1), show (idx : Int) + 1 = ((idx + 1 : Nat) : Int) by omega, syA, decide_eq_true (by omega), Xab, Xaq, rqA, rqA, Int.toNat_natCast, hB, el, he, Xab, rqA, rqA]
 have hw : Xaa .i64 ((q1 ++ [(s.size : Int)]).getD idx 0 + 3) = a + 3 := by rw [hA, wkA]
 simp only [hw]
 rw [rqA, Xzk _ (by rw [ByteArray.size_extract]; omega), Xab]
 cases hu : (unV (s.extract (a + 3).toNat e.toNat)).2 with
 | true => rw [Xaq, Xav (by simp only [List.length_singleton]; omega), Xab, if_pos ⟨rfl, hx⟩]
 | false => rw [Xam, Xab, if_neg (fun h => by simp at h)]
theorem Xwd (s : ByteArray) (q1 : List Int) (idx : Nat) (hidx : idx ≤ 100000) (x : List ByteArray) (hx : x.length = 400 ∨ (q1 ++ [(s.size : Int)]).length ≤ idx + 1) : Xcy s q1 ((idx : Int), x) = some (.done x) := by
 unfold Xcy
 simp only
 rw [wkA (e := (idx : Int) + 1)]
 by_cases h : (idx : Int) + 1 < ((q1 ++ [(s.size : Int)]).length : Int)
 ·
  rw [Xa9 h, decide_eq_false (by omega), Xab, Xam]
 ·
  rw [Xas h, Xab, Xam]
theorem Ytm (s : ByteArray) (hs : s.size ≤ 60000) (q1 : List Int) (hq : q1.length ≤ 60000) : ∀ i : Nat, i ≤ s.size + 1 → ∀ (idx : Nat) (p : Int) (x : List ByteArray), (q1 ++ [(s.size : Int)]).drop idx = p :: Xvx s i → 0 ≤ p → (∀ j : Nat, i ≤ j → j ≤ s.size → (Xwz ((Xal s).drop j) ∨ j = s.size) → p + 3 ≤ j) → x.length ≤ 400 → (∀ u ∈ x, u.size ≤ 60000) →
  ∃ r, loop (Xb4 s) (p + 3, (i : Int), x) = some r ∧ loop (Xcy s q1) ((idx : Int), x) = some r ∧ r.length ≤ 400 ∧ ∀ u ∈ r, u.size ≤ 60000 := by
 refine Xc1 _ ?_ ?_
 ·
  intro idx p x hd hp hC hx hxs
  have hl := congrArg List.length hd
  rw [(Xx6 s).2, List.length_drop, List.length_append, List.length_singleton] at hl
  simp only [List.length_cons, List.length_nil] at hl
  exact ⟨x, Xbx (Xtx s _ x), Xbx (Xwd s q1 idx (by omega) x (.inr (by rw [List.length_append, List.length_singleton]; omega))), hx, hxs⟩
 ·
  intro i hi ih idx p x hd hp hC hx hxs
  have hl := congrArg List.length hd
  rw [List.length_drop, List.length_append, List.length_singleton] at hl
  simp only [List.length_cons] at hl
  by_cases h4 : x.length = 400
  ·
   exact ⟨x, Ytl s hs x h4 i (by omega) _, Xbx (Xwd s q1 idx (by omega) x (.inl h4)), hx, hxs⟩
  have st := Xma s hs (p + 3) i x (by omega)
  by_cases hh : Xwz ((Xal s).drop i) ∨ i = s.size
  ·
   have hb := hC i (Nat.le_refl _) (by omega) hh
   have hT : Xvx s i = (i : Int) :: Xvx s (i + 1) := by
    rcases hh with h | h
    ·
     exact (Yf0 s i h).2
    ·
     rw [h, (Xx6 s).1, (Xx6 s).2]
   rw [hT] at hd
   obtain ⟨y, y1, y2, y3⟩ := Ysl s hs (p + 3) i x (by omega) hx hxs
   have sI := Yqp s hs q1 idx (by omega) x (by omega) p i _ hd hp hb (by omega)
   rw [y1, Xab] at sI
   rw [if_pos hh, y1, Xab] at st
   have hd2 : (q1 ++ [(s.size : Int)]).drop (idx + 1) = (i : Int) :: Xvx s (i + 1) := by
    rw [← List.drop_drop, hd]; rfl
   obtain ⟨r, r1, r2, r3⟩ := ih (idx + 1) i y hd2 (by omega) (fun j h1 h2 h3 => by
    rcases hh with h | h
    ·
     have h5 := (Yf0 s i h).1
     rcases Nat.lt_or_ge j (i + 3) with hj | hj
     ·
      rcases h3 with h3 | h3
      ·
       obtain ⟨r, e⟩ := Xw0 _ h
       obtain ⟨z, ez⟩ := Xw0 _ h3
       have : j = i + 1 ∨ j = i + 2 := by omega
       rcases this with rfl | rfl
       ·
        rw [← List.drop_drop, e] at ez; simp at ez
       ·
        rw [← List.drop_drop, e] at ez; simp at ez
      ·
       omega
     ·
      omega
    ·
     omega) y2 y3
   exact ⟨r, lgo st r1, lgo sI r2, r3⟩
  ·
   rw [if_neg hh] at st
   have hne : i < s.size := by
    rcases Nat.lt_or_ge i s.size with h | h
    ·
     exact h
    ·
     exact absurd (Or.inr (by omega)) hh
   rw [Yrq s i hne (fun h => hh (.inl h))] at hd
   obtain ⟨r, r1, r2, r3⟩ := ih idx p x hd hp (fun j h1 h2 h3 => hC j (by omega) h2 h3) hx hxs
   exact ⟨r, lgo st r1, r2, r3⟩
theorem Yoz : ∀ (L : List Int) (p : Int), (Xo0 p L).length ≤ L.length
 | [], p => by simp [Xo0]
 | c :: r, p => by
  rw [Xo0]
  have := Yoz r (p + 1)
  split
  ·
   simp only [List.length_cons]; omega
  ·
   simp only [List.length_cons]; omega
theorem Ym4 (s : ByteArray) : ∃ r : List ByteArray, Xjw s = some r ∧ Xpb s = some r ∧ r.length ≤ 400 ∧ ∀ u ∈ r, u.size ≤ 60000 := by
 have hm : maxLen = 9223372036854775807 := rfl
 unfold Xjw Xpb
 by_cases h6 : (s.size : Int) > 60000
 ·
  rw [Xa9 h6, Xa9 h6]
  exact ⟨[], rfl, rfl, by simp, fun u hu => by simp at hu⟩
 have hs : s.size ≤ 60000 := by omega
 have hq : (Xo0 0 (Xal s)).length ≤ 60000 := by
  have := Yoz (Xal s) 0
  rw [Xap] at this
  omega
 rw [Xas h6, Xas h6, Yig s hs, Xab, Xav (by simp only [List.length_singleton]; omega)]
 have key : ∀ i : Nat, i ≤ s.size → (Xo0 0 (Xal s) ++ [(s.size : Int)]) = Xvx s i → ∃ r, loop (Xb4 s) (-1, (i : Int), []) = some r ∧ loop (Xcy s (Xo0 0 (Xal s))) (((0 : Nat) : Int), []) = some r ∧ r.length ≤ 400 ∧ ∀ u ∈ r, u.size ≤ 60000 := by
  refine Xc1 _ ?_ ?_
  ·
   intro hT
   have st := Xma s hs (-1) s.size [] (Nat.le_refl _)
   rw [if_pos (.inr rfl), Xr4 s (-1) s.size [] (by omega), Xab] at st
   rw [(Xx6 s).1] at hT
   refine ⟨[], lgo st (Xbx (Xtx s _ [])), Xbx (Xwd s _ 0 (by omega) [] (.inr (by rw [hT]; simp))), by simp, fun u hu => by simp at hu⟩
  ·
   intro i hi ih hT
   have st := Xma s hs (-1) i [] (by omega)
   by_cases hh : Xwz ((Xal s).drop i)
   ·
    obtain ⟨h5, hr⟩ := Yf0 s i hh
    rw [if_pos (.inl hh), Xr4 s (-1) i [] (by omega), Xab] at st
    obtain ⟨r, r1, r2, r3⟩ := Ytm s hs (Xo0 0 (Xal s)) hq (i + 1) (by omega) 0 i [] (by rw [List.drop_zero, hT, hr]) (by omega) (fun j h1 h2 h3 => by
     rcases Nat.lt_or_ge j (i + 3) with hj | hj
     ·
      rcases h3 with h3 | h3
      ·
       obtain ⟨r, e⟩ := Xw0 _ hh
       obtain ⟨z, ez⟩ := Xw0 _ h3
       have : j = i + 1 ∨ j = i + 2 := by omega
       rcases this with rfl | rfl
       ·
        rw [← List.drop_drop, e] at ez; simp at ez
       ·
        rw [← List.drop_drop, e] at ez; simp at ez
      ·
       omega
     ·
      omega) (by simp) (fun u hu => by simp at hu)
    exact ⟨r, lgo st r1, r2, r3⟩
   ·
    rw [if_neg (fun h => by rcases h with h | h; exact hh h; omega)] at st
    rw [Yrq s i hi hh] at hT
    obtain ⟨r, r1, r2, r3⟩ := ih hT
    exact ⟨r, lgo st r1, r2, r3⟩
 obtain ⟨r, r1, r2, r3, r4⟩ := key 0 (by omega) (by unfold Xvx; rw [if_pos (by omega), List.drop_zero]; rfl)
 exact ⟨r, (Xc3 r2).trans rfl, (Xc3 r1).trans rfl, r3, r4⟩
theorem Yuf : ∀ n : Nat, ∀ c : List Int, c.length = n → Xeo c → Xys n (Xg5 c) = c
 | 0, c, h, _ => by rw [List.length_eq_zero_iff.1 h]; rfl
 | n + 1, c, h, hb => by
  have hne : c ≠ [] := fun e => by rw [e] at h; simp at h
  have hc := (List.dropLast_concat_getLast hne).symm
  have hl : c.dropLast.length = n := by rw [List.length_dropLast]; omega
  have ih := Yuf n c.dropLast hl (fun x hx => hb x (List.dropLast_subset c hx))
  have hx := hb _ (List.getLast_mem hne)
  generalize c.getLast hne = x at hc hx
  have hv : Xg5 c = Xg5 c.dropLast * 2 + (x - 48) := by
   rw [hc, Xrm, ← hc]
   show Xg5 c.dropLast * 2 ^ 1 + Xg5 [x] = _
   rw [show Xg5 [x] = x - 48 by simp [Xg5], show (2 : Int) ^ 1 = 2 from rfl]
  rw [Xys, hv, show (Xg5 c.dropLast * 2 + (x - 48)) / 2 = Xg5 c.dropLast by omega, show (48 : Int) + (Xg5 c.dropLast * 2 + (x - 48)) % 2 = x by omega, ih]
  exact hc.symm
theorem Ync : ∀ (m : Nat) (V : List Int) (q : Nat), q < m → (Xp0 m V).getD q 0 = Xg5 ((V.drop (8 * q)).take 8)
 | 0, _, _, h => by omega
 | m + 1, V, 0, _ => rfl
 | m + 1, V, q + 1, h => by
  rw [Xp0, List.getD_cons_succ, Ync m (V.drop 8) q (by omega), List.drop_drop, show 8 + 8 * q = 8 * (q + 1) by omega]
theorem Xqw : ∀ (m : Nat) (V : List Int), Xeo V → Ysi (Xp0 m V)
 | 0, _, _ => fun x hx => by simp [Xp0] at hx
 | m + 1, V, h => fun x hx => by
  rw [Xp0] at hx
  rcases List.mem_cons.1 hx with rfl | hx
  ·
   have r := Xi8 (l := V.take 8) (fun x hx => h x (List.mem_of_mem_take hx))
   have h8 : (V.take 8).length ≤ 8 := by rw [List.length_take]; omega
   have hp : (2 : Int) ^ (V.take 8).length ≤ 2 ^ 8 := by
    have : ∀ k : Fin 9, (2 : Int) ^ k.val ≤ 2 ^ 8 := by decide
    exact this ⟨(V.take 8).length, by omega⟩
   have e8 : (2 : Int) ^ 8 = 256 := rfl
   omega
  ·
   exact Xqw m (V.drop 8) (fun x hx => h x (List.mem_of_mem_drop hx)) x hx
theorem Yzd (V : List Int) (a n k : Nat) (h : k < n) : ((V.drop a).take n).getD k 0 = V.getD (a + k) 0 := by
 rw [List.getD_eq_getElem?_getD, List.getD_eq_getElem?_getD, List.getElem?_take_of_lt h, List.getElem?_drop]
theorem Ywr (V : List Int) (hb : Xeo V) (m : Nat) (hV : V.length = 8 * m) (i : Nat) (hi : i < 8 * m) : Xyw (strOfNums (Xp0 m V)) i = V.getD i 0 := by
 have hc := Xqw m V hb
 unfold Xyw
 rw [Xr2 _ hc (i / 8) (by rw [Xyx]; omega), Ync m V (i / 8) (by omega)]
 have h8 : ((V.drop (8 * (i / 8))).take 8).length = 8 := by rw [List.length_take, List.length_drop]; omega
 have hcb : Xeo ((V.drop (8 * (i / 8))).take 8) := fun x hx => hb x (List.mem_of_mem_drop (List.mem_of_mem_take hx))
 have hr := Xi8 hcb
 rw [h8] at hr
 have e8 : (2 : Int) ^ 8 = 256 := rfl
 have f1 := Yuf 8 _ h8 hcb
 rw [Zb7 _ ⟨hr.1, by omega⟩] at f1
 have f2 : (_ : Int) = _ := congrArg (fun l => List.getD l (i % 8) 0) f1
 rw [Xjc _ (by omega), Yzd V _ _ _ (by omega), show 8 * (i / 8) + i % 8 = i by omega] at f2
 exact f2
theorem Yvb (L : List Int) : ∃ z, L ++ 49 :: List.replicate (8 * (L.length / 8 + 1) - L.length - 1) 48 = L ++ 49 :: List.replicate z 48 ∧ z ≤ 7 ∧ L.length + 1 + z = 8 * (L.length / 8 + 1) := ⟨_, rfl, by omega, by omega⟩
theorem Ym8 (L : List Int) (hb : Xeo L) : ∃ z, Xig (strOfNums (Xpy L)) = L ++ 49 :: List.replicate z 48 ∧ L.length + 1 + z = 8 * (L.length / 8 + 1) := by
 obtain ⟨z, h1, h2, h3⟩ := Yvb L
 refine ⟨z, ?_, h3⟩
 have hV : Xeo (L ++ 49 :: List.replicate z 48) := Xa5 hb (fun x hx => by
  rcases List.mem_cons.1 hx with rfl | hx
  ·
   exact .inr rfl
  ·
   exact Xwn z x hx)
 have hl : (L ++ 49 :: List.replicate z 48).length = 8 * (L.length / 8 + 1) := by
  rw [List.length_append, List.length_cons, List.length_replicate]; omega
 refine List.ext_getElem (by rw [Xpz, strOfNums_size, Xjf, hl]) fun i i1 i2 => ?_
 rw [Xpz, strOfNums_size, Xjf] at i1
 have e1 : (Xig (strOfNums (Xpy L)))[i] = (Xig (strOfNums (Xpy L))).getD i 0 := (Xb2 _ _ (by rw [Xpz, strOfNums_size, Xjf]; exact i1) 0).symm
 have e2 : (L ++ 49 :: List.replicate z 48)[i] = (L ++ 49 :: List.replicate z 48).getD i 0 := (Xb2 _ _ i2 0).symm
 rw [e1, e2, Xwo _ (by rw [strOfNums_size, Xjf]; exact i1)]
 unfold Xpy
 rw [h1]
 exact Ywr _ hV _ hl i i1
theorem Yqt : ∀ b : Fin 256, ∀ k : Fin 8, 48 + ((b.val : Int) / 2 ^ (7 - k.val)) % 2 = 49 → b.val ≠ 0 := by decide +kernel
theorem Yke (L : List Int) (hb : Xeo L) (hl : L.length ≤ 400000) : Xeq (strOfNums (Xpy L)) = some (strOfNums L, true) := by
 obtain ⟨z, h1, h3⟩ := Ym8 L hb
 have hs : (strOfNums (Xpy L)).size = L.length / 8 + 1 := by rw [strOfNums_size, Xjf]
 generalize hS : strOfNums (Xpy L) = s at h1 hs
 have k2 : (Xig s).getD L.length 0 = 49 := by
  rw [h1]
  have := Yjz L (49 :: List.replicate z 48) 0
  rw [Nat.add_zero] at this
  rw [this]; rfl
 have k3 : ∀ j, L.length + 1 ≤ j → j < 8 * s.size → (Xig s).getD j 0 = 48 := fun j j1 j2 => by
  rw [h1]
  have := Yjz L (49 :: List.replicate z 48) (j - L.length)
  rw [show L.length + (j - L.length) = j by omega] at this
  rw [this, show j - L.length = (j - L.length - 1) + 1 by omega, List.getD_cons_succ, Xb2 _ _ (by rw [List.length_replicate]; omega) 0, List.getElem_replicate]
 have hb0 := Xo2 s ((s.size : Int) - 1)
 have hz : (Xcd s ((s.size : Int) - 1) == 0) = false := by
  rw [beq_eq_false_iff_ne]
  intro h0
  have hk := k2
  rw [Xwo s (by omega)] at hk
  unfold Xyw at hk
  rw [show L.length / 8 = s.size - 1 by omega, show (((s.size - 1 : Nat)) : Int) = (s.size : Int) - 1 by omega, h0] at hk
  exact Yqt ⟨0, by omega⟩ ⟨L.length % 8, by omega⟩ hk rfl
 unfold Xeq
 rw [wkA (e := 8 * (s.size : Int)), Xaz (b := (8 * (s.size : Int)) == 0) (by rw [beq_eq_false_iff_ne]; omega), wkA (e := (s.size : Int) - 1), Xav (show 0 ≤ (s.size : Int) - 1 ∧ (s.size : Int) - 1 < s.size by omega), hz, Xam, decide_eq_false (by omega), Xab, Xam, Xav (show 0 ≤ (0 : Int) ∧ (0 : Int) ≤ 8 * (s.size : Int) ∧ 8 * (s.size : Int) * 1 ≤ 281474976710656 by omega), show (List.replicate (0 : Int).toNat (0 : Int)) = [] from rfl, Xo3 s (by omega), Xab]
 have hbl := Xpz s
 have lI : loop (Xb9 (Xig s)) (8 * (s.size : Int)) = some ((L.length + 1 : Nat) : Int) := by
  have key : ∀ m : Nat, L.length + 1 + m ≤ 8 * s.size → loop (Xb9 (Xig s)) ((L.length + 1 + m : Nat) : Int) = some ((L.length + 1 : Nat) : Int) := by
   intro m
   induction m with
   | zero =>
    intro _
    refine Xbx ?_
    unfold Xb9
    rw [wkA, rqA, rqA, show (((L.length + 1 + 0 : Nat) : Int) - 1).toNat = L.length by omega, k2]
    rfl
   | succ m ih =>
    intro hm
    refine lgo ?_ (ih (by omega))
    unfold Xb9
    rw [wkA, rqA, rqA, show (((L.length + 1 + (m + 1) : Nat) : Int) - 1).toNat = L.length + 1 + m by omega, k3 _ (by omega) (by omega), show ((L.length + 1 + (m + 1) : Nat) : Int) - 1 = ((L.length + 1 + m : Nat) : Int) by omega]
    rfl
  have := key (8 * s.size - (L.length + 1)) (by omega)
  rwa [show ((L.length + 1 + (8 * s.size - (L.length + 1)) : Nat) : Int) = 8 * (s.size : Int) by omega] at this
 rw [lI, Xab, wkA (e := ((L.length + 1 : Nat) : Int) - 1), show ((L.length + 1 : Nat) : Int) - 1 = (L.length : Int) by omega, snA, rqA, rqA]
 have ht : (Xig s).take L.length = L := by rw [h1, List.take_left]
 simp only [Int.toNat_natCast, Int.toNat_zero, Nat.sub_zero, List.drop_zero]
 rw [ht]
theorem Ypa {k : Int} (hk : Xno k = true) (L : List Int) (hb : Xeo L) : Ysi (k :: Xpy L) := fun x hx => by
 have hi := Yfq hk
 rcases List.mem_cons.1 hx with rfl | hx
 ·
  omega
 ·
  obtain ⟨z, h1, _, h3⟩ := Yvb L
  unfold Xpy at hx
  rw [h1] at hx
  exact Xqw _ _ (Xa5 hb (fun y hy => by
   rcases List.mem_cons.1 hy with rfl | hy
   ·
    exact .inr rfl
   ·
    exact Xwn z y hy)) x hx
theorem Ym3 {k : Int} (hk : Xno k = true) (L : List Int) (hb : Xeo L) (hl : L.length ≤ 400000) : Xga (strOfNums (k :: Xpy L)) = some (k, strOfNums L, true) := by
 have hby := Ypa hk L hb
 have hsz : (strOfNums (k :: Xpy L)).size = L.length / 8 + 2 := by rw [strOfNums_size, List.length_cons, Xjf]
 have hne : ((strOfNums (k :: Xpy L)).toList == (⟨#[]⟩ : ByteArray).toList) = false := by
  rw [beq_eq_false_iff_ne]
  intro h
  rw [Xtv.1 h] at hsz
  have : (⟨#[]⟩ : ByteArray).size = 0 := rfl
  omega
 have b0 : Xcd (strOfNums (k :: Xpy L)) 0 = k := Xr2 _ hby 0 (by simp)
 have hi := Yfq hk
 have hx : (strOfNums (k :: Xpy L)).extract (1 : Int).toNat (((strOfNums (k :: Xpy L)).size : Int)).toNat = strOfNums (Xpy L) := by
  rw [show k :: Xpy L = [k] ++ Xpy L from rfl, ← Xbs]
  have h1 : (strOfNums [k]).size = 1 := by rw [strOfNums_size]; rfl
  rw [ByteArray.size_append, h1]
  have : (1 : Int).toNat = (strOfNums [k]).size := by rw [h1]; rfl
  rw [this, show (((1 + (strOfNums (Xpy L)).size : Nat)) : Int).toNat = (strOfNums [k]).size + (strOfNums (Xpy L)).size by rw [h1]; omega]
  exact ByteArray.extract_append_eq_right rfl rfl
 have hiw : Xaa .i64 k = k := wkA
 have r0 : ∀ {β : Type} (x : Option β), req (0 ≤ (0 : Int) ∧ (0 : Int) < ((strOfNums (k :: Xpy L)).size : Int)) x = x := fun x => rqA
 have r1 : ∀ {β : Type} (x : Option β), req (0 ≤ (1 : Int) ∧ (1 : Int) ≤ ((strOfNums (k :: Xpy L)).size : Int) ∧ ((strOfNums (k :: Xpy L)).size : Int) ≤ ((strOfNums (k :: Xpy L)).size : Int)) x = x := fun x => rqA
 unfold Xga
 rw [hne, Xam]
 simp only [r0, r1, b0, hiw, Xus, hk, Xab, Bool.not_true, Xam, hx, Yke L hb hl]
theorem Xvd {k : Int} (hk : Xno k = true) (L : List Int) (hb : Xeo L) (hl : L.length ≤ 400000) : Xga (strOfNums (k :: Xpy L)) = some (k, strOfNums L, true) ∧ Xon (strOfNums (k :: Xpy L)) = some (k, strOfNums L, true) := by
 have hsz : (strOfNums (k :: Xpy L)).size = L.length / 8 + 2 := by rw [strOfNums_size, List.length_cons, Xjf]
 have hI := Ym3 hk L hb hl
 refine ⟨hI, ?_⟩
 rcases Ydq (strOfNums (k :: Xpy L)) (by omega) with ⟨kd, M, _, _, _, e1, e2⟩ | ⟨e1, e2⟩
 ·
  rw [hI] at e1
  rw [e2, ← e1]
 ·
  rw [hI] at e1
  have := congrArg (fun o => o.map fun x => x.2.2) e1
  simp at this
theorem Yml : ∀ (w : Nat) (n : Int), 0 ≤ n → n < 2 ^ w → Xg5 (Xys w n) = n
 | 0, n, h0, h1 => by
  have : (2 : Int) ^ 0 = 1 := rfl
  rw [show n = 0 by omega]; rfl
 | w + 1, n, h0, h1 => by
  rw [Int.pow_succ] at h1
  rw [Xys, Xrm, Yml w (n / 2) (by omega) (by omega)]
  show n / 2 * 2 ^ 1 + Xg5 [48 + n % 2] = n
  rw [show Xg5 [48 + n % 2] = n % 2 from (by simp only [Xg5, List.foldl_cons, List.foldl_nil]; omega), show (2 : Int) ^ 1 = 2 from rfl]
  omega
theorem Yrh {L : List Int} (hb : Xeo L) (hl : L.length ≤ 400000) (q1 : Int × Xkf) (l : List Int) (ha : l.all Xe0 = true) (h4 : l.length ≤ 4) (hq : q1.1 = (l.length : Int)) (b : List Int) : ∀ (r pre a : List Int), l = pre ++ r → L = a ++ (Yr6 r ++ b) → loop (Xay q1) ((pre.length : Int), strOfNums L, (a.length : Int), false, pre) = some (l, strOfNums L, ((a.length + (Yr6 r).length : Nat) : Int), false)
 | [], pre, a, h1, h2 => by
  refine Xbx ?_
  rw [List.append_nil] at h1
  unfold Xay
  simp only
  rw [hq, h1, snA, Xab, Xam]
  rfl
 | x :: r, pre, a, h1, h2 => by
  have hm : maxLen = 9223372036854775807 := rfl
  have hlen : l.length = pre.length + (r.length + 1) := by rw [h1]; simp
  have hx : Xe0 x = true := List.all_eq_true.1 ha x (by rw [h1]; simp)
  have hx : 1 ≤ x ∧ x ≤ 8 := by simpa [Xe0] using hx
  rw [Yr6, List.append_assoc] at h2
  have e := Xh4 h2 hb hl (by omega)
  have ih := Yrh hb hl q1 l ha h4 hq b r (pre ++ [x]) (a ++ ueL x.toNat) (by rw [h1]; simp) (by rw [h2]; simp only [List.append_assoc])
  refine lgo ?_ (ih.trans ?_)
  ·
   unfold Xay
   simp only
   rw [hq, syA, Bool.not_false, Xab, Xaq, e, Xab]
   simp only
   rw [Xav (by simp only [List.length_singleton]; omega), wkA, List.length_append, List.length_append, List.length_singleton, show ((x.toNat : Nat) : Int) = x by omega]
   rfl
  ·
   rw [Yr6, List.length_append, List.length_append, Nat.add_assoc]
theorem Ya4 {L a b l : List Int} (hL : L = a ++ (Xra l ++ b)) (hb : Xeo L) (hl : L.length ≤ 400000) (ho : Xee l = true) : Xcf ⟨strOfNums L, (a.length : Int), false⟩ = some (l, ⟨strOfNums L, ((a.length + (Xra l).length : Nat) : Int), false⟩) := by
 have h4 := Xbi ho
 unfold Xee at ho
 rw [Bool.and_eq_true] at ho
 unfold Xra at hL ⊢
 rw [List.append_assoc] at hL
 have e := Xh4 hL hb hl (by omega)
 unfold Xcf
 rw [e, Xab]
 simp only
 rw [snA, Xab]
 have := Yrh hb hl ((l.length : Int), ⟨strOfNums L, ((a.length + (ueL l.length).length : Nat) : Int), false⟩) l ho.2 h4.2 rfl b l [] (a ++ ueL l.length) rfl (by rw [hL]; simp only [List.append_assoc])
 rw [List.length_append] at this
 refine (Xc3 this).trans ?_
 rw [List.length_append, Nat.add_assoc]
theorem Xtr {s : Seq} (h : Xf2 s = true) : (Xwe s).length ≤ 400000 := by have := Yry h; omega
theorem Ykk {s : Seq} (h : Xf2 s = true) : Xdl (strOfNums (Xwe s)) 0 = some (s, ((Xwe s).length : Int), true) := by
 have hm : maxLen = 9223372036854775807 := rfl
 have hb := Xyb s
 have hl := Xtr h
 obtain ⟨s1, s2, b1, b2⟩ := Xbc h
 have lv := Xv0 h
 have c1 := Xbi s1
 have c2 := Xbi s2
 have p1 : Xwe s = [] ++ (ueL s.Level.toNat ++ (Xys 4 s.Bits ++ Xra s.Cols ++ Xra s.Rows)) := by unfold Xwe; simp only [List.nil_append, List.append_assoc]
 have p2 : Xwe s = ueL s.Level.toNat ++ (Xys 4 s.Bits ++ (Xra s.Cols ++ Xra s.Rows)) := by unfold Xwe; simp only [List.append_assoc]
 have p3 : Xwe s = (ueL s.Level.toNat ++ Xys 4 s.Bits) ++ (Xra s.Cols ++ Xra s.Rows) := by unfold Xwe; simp only [List.append_assoc]
 have p4 : Xwe s = (ueL s.Level.toNat ++ Xys 4 s.Bits ++ Xra s.Cols) ++ (Xra s.Rows ++ []) := by unfold Xwe; simp only [List.append_assoc, List.append_nil]
 have hlen : (Xwe s).length = (ueL s.Level.toNat).length + 4 + (Xra s.Cols).length + (Xra s.Rows).length := by unfold Xwe; simp only [List.length_append, Xcp]
 generalize Xwe s = L at *
 have e1 := Xh4 p1 hb hl (by omega)
 have e2 := Xhg p2 hb hl (by rw [Xcp]; omega)
 have e3 := Ya4 p3 hb hl s1
 have e4 := Ya4 p4 hb hl s2
 rw [Xcp, Yml 4 s.Bits (by omega) (by have : (2 : Int) ^ 4 = 16 := rfl; omega)] at e2
 rw [List.length_append, Xcp] at e3
 rw [List.length_append, List.length_append, Xcp] at e4
 rw [List.length_nil, Nat.zero_add] at e1
 have o := Xog hb hl 0 (by omega)
 unfold Xdl
 rw [show (0 : Int) = ((0 : Nat) : Int) from rfl, o, Xab, e1, Xab]
 simp only
 rw [show (4 : Int) = ((4 : Nat) : Int) from rfl, e2, Xab]
 simp only
 rw [e3, Xab]
 simp only
 rw [e4, Xab]
 simp only
 rw [Xam, show ((s.Level.toNat : Nat) : Int) = s.Level by omega, show (⟨s.Level, s.Bits, s.Cols, s.Rows⟩ : Seq) = s from rfl, Xew _ (by omega) (by omega), Xab, h, Xab, hlen]
 rfl
theorem Ymy {s : Seq} (h : Xf2 s = true) : Xdl (strOfNums (Xwe s)) 0 = some (s, ((Xwe s).length : Int), true) ∧ Xfx (strOfNums (Xwe s)) 0 = some (s, ((Xwe s).length : Int), true) := by
 have hb := Xyb s
 have hl := Xtr h
 have hI := Ykk h
 generalize Xwe s = L at *
 refine ⟨hI, ?_⟩
 rcases Yao hb hl 0 (by omega) with ⟨q, j, r1, r2, _⟩ | ⟨_, r2⟩
 ·
  have r1' : Xfx (strOfNums L) 0 = _ := r1
  have r2' : Xdl (strOfNums L) 0 = _ := r2
  rw [hI] at r2'
  rw [r1', ← r2']
 ·
  have r2' : Xdl (strOfNums L) 0 = _ := r2
  rw [hI] at r2'
  have := congrArg (fun o => o.map fun x => x.2.2) r2'
  simp at this
theorem Yxp (b : Bool) : Xg5 (Xps b) = if b = true then 1 else 0 := by cases b <;> rfl
theorem Ykj {p : Par} (h : Xky p = true) : Xdk (strOfNums (Ycg p)) 0 = some (p, 9, true) := by
 have hb := Xx2 p
 have hl9 := Xtk p
 have hl : (Ycg p).length ≤ 400000 := by omega
 have hq := Xtl h
 have p1 : Ycg p = [] ++ (Xys 6 p.Qp ++ (Xps p.Large ++ Xps p.Exact ++ Xps p.Confined)) := by unfold Ycg; simp only [List.nil_append, List.append_assoc]
 have p2 : Ycg p = Xys 6 p.Qp ++ (Xps p.Large ++ (Xps p.Exact ++ Xps p.Confined)) := by unfold Ycg; simp only [List.append_assoc]
 have p3 : Ycg p = (Xys 6 p.Qp ++ Xps p.Large) ++ (Xps p.Exact ++ Xps p.Confined) := by unfold Ycg; simp only [List.append_assoc]
 have p4 : Ycg p = (Xys 6 p.Qp ++ Xps p.Large ++ Xps p.Exact) ++ (Xps p.Confined ++ []) := by unfold Ycg; simp only [List.append_assoc, List.append_nil]
 generalize Ycg p = L at *
 have e1 := Xhg p1 hb hl (by rw [Xcp]; omega)
 have e2 := Xhg p2 hb hl (by rw [Xm2]; omega)
 have e3 := Xhg p3 hb hl (by rw [Xm2]; omega)
 have e4 := Xhg p4 hb hl (by rw [Xm2]; omega)
 simp only [List.length_append, Xcp, Xm2, Yxp, List.length_nil] at e1 e2 e3 e4
 rw [Yml 6 p.Qp (by omega) (by have : (2 : Int) ^ 6 = 64 := rfl; omega)] at e1
 have o := Xog hb hl 0 (by omega)
 unfold Xdk
 rw [show (0 : Int) = ((0 : Nat) : Int) from rfl, o, Xab, show (6 : Int) = ((6 : Nat) : Int) from rfl, e1, Xab]
 simp only
 rw [show (1 : Int) = ((1 : Nat) : Int) from rfl, e2, Xab]
 simp only
 rw [e3, Xab]
 simp only
 rw [e4, Xab]
 simp only
 have hbit : ∀ b : Bool, ((if b = true then (1 : Int) else 0) == ((1 : Nat) : Int)) = b := fun b => by cases b <;> rfl
 rw [hbit, hbit, hbit, Xam, show (⟨p.Qp, p.Large, p.Exact, p.Confined⟩ : Par) = p from rfl, Xhx, Xab, h, Xab]
 rfl
theorem Ymx {p : Par} (h : Xky p = true) : Xdk (strOfNums (Ycg p)) 0 = some (p, 9, true) ∧ Xfw (strOfNums (Ycg p)) 0 = some (p, 9, true) := by
 have hb := Xx2 p
 have hl9 := Xtk p
 have hI := Ykj h
 generalize Ycg p = L at *
 have hl : L.length ≤ 400000 := by omega
 refine ⟨hI, ?_⟩
 rcases Yan hb hl 0 (by omega) with ⟨q, j, r1, r2, _⟩ | ⟨_, r2⟩
 ·
  have r1' : Xfw (strOfNums L) 0 = _ := r1
  have r2' : Xdk (strOfNums L) 0 = _ := r2
  rw [hI] at r2'
  rw [r1', ← r2']
 ·
  have r2' : Xdk (strOfNums L) 0 = _ := r2
  rw [hI] at r2'
  have := congrArg (fun o => o.map fun x => x.2.2) r2'
  simp at this
def Xp2 (q : Seq) (p : Par) (h : Xrz) : List Int := ueL h.Tile.toNat ++ Xys q.Bits.toNat h.Frame ++ seL (h.Qp - p.Qp)
theorem Ynt (q : Seq) (p : Par) (h : Xrz) : Xeo (Xp2 q p h) := Xa5 (Xa5 (Xnm _) (Xwv _ _)) (Xnm _)
theorem Xg8 {q : Seq} {p : Par} {h : Xrz} (hh : Xlh q p h = true) : Xf2 q = true ∧ Xky p = true ∧ (0 ≤ h.Tile ∧ h.Tile < Xbk q) ∧ (0 ≤ h.Frame ∧ h.Frame < 2 ^ q.Bits.toNat) ∧ (0 ≤ h.Qp ∧ h.Qp ≤ 40) := by
 unfold Xlh at hh
 simp only [Bool.and_eq_true, decide_eq_true_eq] at hh
 exact hh
theorem Ynu {q : Seq} {p : Par} {h : Xrz} (hh : Xlh q p h = true) : (Xp2 q p h).length ≤ 200 := by
 obtain ⟨hs, hp, ht, hf, hq⟩ := Xg8 hh
 obtain ⟨_, _, b1, b2⟩ := Xbc hs
 have hr := Xd4 hs
 have pq := Xtl hp
 have u := Xgd h.Tile.toNat (by omega)
 have z := Xrf (h.Qp - p.Qp) (by omega)
 unfold Xp2
 simp only [List.length_append, Xcp]
 omega
theorem Ygo {q : Seq} {p : Par} {h : Xrz} (hh : Xlh q p h = true) : Xm4 q p h = some (strOfNums (Xp2 q p h), true) := by
 obtain ⟨hs, hp, ht, hf, hq⟩ := Xg8 hh
 obtain ⟨_, _, b1, b2⟩ := Xbc hs
 obtain ⟨_, _, _, w4, _⟩ := Xgq q.Bits ⟨b1, b2⟩
 have hr := Xd4 hs
 have pq := Xtl hp
 unfold Xm4
 have fl := Xcp q.Bits.toNat h.Frame
 have u := Xgd h.Tile.toNat (by omega)
 have z := Xrf (h.Qp - p.Qp) (by omega)
 rw [Xu0, Xab, hh, Bool.not_true, Xam, show h.Tile = ((h.Tile.toNat : Nat) : Int) by omega, Xd3 _ (by omega), Xab, show q.Bits = ((q.Bits.toNat : Nat) : Int) by omega, Xmp h.Frame _ hf.1 (by omega) (by omega), Xab, wkA (e := h.Qp - p.Qp), Xav (by simp only [strOfNums_size]; omega), Xn0 _ (by omega), Xab, Xbs, Xav (by simp only [strOfNums_size, List.length_append]; omega), Xbs]
 rfl
theorem Yhl {q : Seq} {p : Par} {h : Xrz} {L R : List Int} (hh : Xlh q p h = true) (hL : L = Xp2 q p h ++ R) (hb : Xeo L) (hl : L.length ≤ 400000) : Xd0 q p (strOfNums L) = some (h, ((Xp2 q p h).length : Int), true) := by
 have hm : maxLen = 9223372036854775807 := rfl
 obtain ⟨hs, hp, ht, hf, hq⟩ := Xg8 hh
 obtain ⟨s1, s2, b1, b2⟩ := Xbc hs
 obtain ⟨_, _, _, w4, _⟩ := Xgq q.Bits ⟨b1, b2⟩
 have hr := Xd4 hs
 have pq := Xtl hp
 have c1 := Xbi s1
 have c2 := Xbi s2
 have p1 : L = [] ++ (ueL h.Tile.toNat ++ (Xys q.Bits.toNat h.Frame ++ seL (h.Qp - p.Qp) ++ R)) := by rw [hL]; unfold Xp2; simp only [List.nil_append, List.append_assoc]
 have p2 : L = ueL h.Tile.toNat ++ (Xys q.Bits.toNat h.Frame ++ (seL (h.Qp - p.Qp) ++ R)) := by rw [hL]; unfold Xp2; simp only [List.append_assoc]
 have p3 : L = (ueL h.Tile.toNat ++ Xys q.Bits.toNat h.Frame) ++ (seL (h.Qp - p.Qp) ++ R) := by rw [hL]; unfold Xp2; simp only [List.append_assoc]
 have e1 := Xh4 p1 hb hl (by omega)
 have e2 := Xhg p2 hb hl (by rw [Xcp]; omega)
 have e3 := Xtq p3 hb hl (by omega)
 rw [Xcp, Yml _ h.Frame hf.1 hf.2] at e2
 rw [List.length_append, Xcp] at e3
 rw [List.length_nil, Nat.zero_add] at e1
 have hlen : (Xp2 q p h).length = (ueL h.Tile.toNat).length + q.Bits.toNat + (seL (h.Qp - p.Qp)).length := by unfold Xp2; simp only [List.length_append, Xcp]
 have o := Xog hb hl 0 (by omega)
 unfold Xd0
 rw [show (0 : Int) = ((0 : Nat) : Int) from rfl, o, Xab, Xew _ (by omega) (by omega), Xab, hs, Xaq, Xhx, Xab, hp, Xab, Bool.not_true, Xam, e1, Xab]
 simp only
 rw [show q.Bits = ((q.Bits.toNat : Nat) : Int) by omega, e2, Xab]
 simp only
 rw [e3, Xab]
 simp only
 rw [Xam, wkA, show h.Qp - p.Qp + p.Qp = h.Qp by omega, show ((h.Tile.toNat : Nat) : Int) = h.Tile by omega, show (⟨h.Tile, h.Frame, h.Qp⟩ : Xrz) = h from rfl, Xuj _ _ _ (by omega) (by omega), Xab, hh, Xab, hlen]
 rfl
theorem Yki {q : Seq} {p : Par} {h : Xrz} {L R : List Int} (hh : Xlh q p h = true) (hL : L = Xp2 q p h ++ R) (hb : Xeo L) (hl : L.length ≤ 400000) : Xd0 q p (strOfNums L) = some (h, ((Xp2 q p h).length : Int), true) ∧ Xh7 q p (strOfNums L) = some (h, ((Xp2 q p h).length : Int), true) := by
 have hm : maxLen = 9223372036854775807 := rfl
 obtain ⟨hs, hp, ht, hf, hq⟩ := Xg8 hh
 obtain ⟨s1, s2, b1, b2⟩ := Xbc hs
 have c1 := Xbi s1
 have c2 := Xbi s2
 have hI := Yhl hh hL hb hl
 refine ⟨hI, ?_⟩
 rcases Xwg hb hl q p (by omega) (by omega) with ⟨g, j, r1, r2, _⟩ | ⟨_, r2⟩
 ·
  rw [hI] at r2
  rw [r1, ← r2]
 ·
  rw [hI] at r2
  have := congrArg (fun o => o.map fun x => x.2.2) r2
  simp at this
theorem Ymz {l : List Xao} {c : Xfg} {A L : List Int} (hs : Yhb l c = true) (hc : Xge c = true) (hl : 1 ≤ l.length ∧ l.length ≤ 64) (hL : L = A ++ Xke l c) (hb : Xeo L) (hL4 : L.length ≤ 400000) : Xev (strOfNums L) (A.length : Int) (l.length : Int) c = some (l, true) := by
 have hm : maxLen = 9223372036854775807 := rfl
 have key : ∀ (r pre : List Xao) (a : List Int), l = pre ++ r → L = a ++ Xke r c → loop (Xba (l.length : Int) c) ((pre.length : Int), strOfNums L, (a.length : Int), false, pre) = some (.out (strOfNums L, (L.length : Int), false, l)) := by
  intro r
  induction r with
  | nil =>
   intro pre a h1 h2
   refine Xbx ?_
   rw [List.append_nil] at h1
   rw [Xke, List.append_nil] at h2
   unfold Xba
   simp only
   rw [Xas (by rw [h1]; omega), h1, h2]
  | cons s r ih =>
   intro pre a h1 h2
   have hlen : l.length = pre.length + (r.length + 1) := by rw [h1]; simp
   have hmem : s ∈ l := by rw [h1]; simp
   have hq := List.all_eq_true.1 hs s hmem
   simp only [Bool.and_eq_true] at hq
   obtain ⟨q1, q2, q3⟩ := hq
   rw [Xke] at h2
   have hsc := Yim h2 hb hL4 q1 q3
   have := ih (pre ++ [s]) (a ++ sqL s c) (by rw [h1]; simp) (by rw [h2]; simp only [List.append_assoc])
   refine lgo ?_ this
   unfold Xba
   simp only
   rw [syA, hsc, Xab]
   simp only
   rw [Xav (by simp only [List.length_singleton]; omega), Xam, wkA, List.length_append, List.length_append, List.length_singleton]
   rfl
 have := key l [] A rfl hL
 have hA : A.length ≤ L.length := by rw [hL, List.length_append]; omega
 unfold Xev
 rw [Xog hb hL4 A.length hA, Xab, Xaj, Xab, decide_eq_true (by omega), Xaq, Xdc, Xab, hc, Xab, Bool.not_true, Xam]
 refine (Xc3 this).trans ?_
 simp only
 rw [strOfNums_size, bne_self_eq_false, Xam]
theorem Ypi {l : List Xao} {c : Xfg} {A L : List Int} (hs : Yhb l c = true) (hc : Xge c = true) (hl : 1 ≤ l.length ∧ l.length ≤ 64) (hL : L = A ++ Xke l c) (hb : Xeo L) (hL4 : L.length ≤ 400000) : Xev (strOfNums L) (A.length : Int) (l.length : Int) c = some (l, true) ∧ Xk4 (strOfNums L) (A.length : Int) (l.length : Int) c = some (l, true) := by
 have hI := Ymz hs hc hl hL hb hL4
 refine ⟨hI, ?_⟩
 obtain ⟨l', b', r1, r2, _⟩ := Xwh (strOfNums L) (A.length : Int) (l.length : Int) c
 rw [hI] at r1
 rw [r2, ← r1]
abbrev Xvv : Pic := ⟨0, 0, ⟨#[]⟩⟩
def Xix (d : Xar) (h : Xrz) (o : Pic) : Xar × Int × Pic :=
 if d.Got + 1 < Xbk d.Seq then (⟨d.HasSeq, d.HasPar, d.HasRef, d.Seq, d.Par, h.Frame, d.Got + 1, o, d.Ref⟩, 0, Xvv)
 else (⟨d.HasSeq, d.HasPar, true, d.Seq, d.Par, (h.Frame + 1) % 2 ^ d.Seq.Bits.toNat, 0, Xvv, o⟩, 0, o)
def Xzv (d : Xar) : Pic := if d.Got = 0 then Yw8 (Xhh d.Seq).1 (Xhh d.Seq).2 else d.Now
theorem Xr5 {d : Xar} (hd : Xil d = true) (hp : d.HasPar = true) : d.HasSeq = true ∧ Xf2 d.Seq = true ∧ Xky d.Par = true ∧ (-1 ≤ d.Frame ∧ d.Frame < 2 ^ d.Seq.Bits.toNat) ∧ (0 ≤ d.Got ∧ d.Got < Xbk d.Seq) ∧ (0 < d.Got → d.Frame ≠ -1 ∧ Xhw d.Now d.Seq = true) ∧ (d.Got = 0 → Xiv d.Now = true) ∧ (d.HasRef = true → Xhw d.Ref d.Seq = true) ∧ (d.HasRef = false → Xiv d.Ref = true) := by
 have hs := Yd0 hd hp
 unfold Xil at hd
 rw [if_pos hs, if_pos hp] at hd
 simp only [Bool.and_eq_true, decide_eq_true_eq] at hd
 obtain ⟨a, b, c, g, n, r⟩ := hd
 refine ⟨hs, a, b, c, g, ?_, ?_, ?_, ?_⟩
 ·
  intro h
  rw [if_pos h] at n
  simpa using n
 ·
  intro h
  rw [if_neg (by omega)] at n
  exact n
 ·
  intro h
  rw [if_pos h] at r
  exact r
 ·
  intro h
  rw [if_neg (by rw [h]; decide)] at r
  exact r
theorem Yky {d : Xar} (h1 : d.HasSeq = true) (h2 : d.HasPar = true) (h3 : Xf2 d.Seq = true) (h4 : Xky d.Par = true) (h5 : -1 ≤ d.Frame ∧ d.Frame < 2 ^ d.Seq.Bits.toNat) (h6 : 0 ≤ d.Got ∧ d.Got < Xbk d.Seq) (h7 : 0 < d.Got → d.Frame ≠ -1 ∧ Xhw d.Now d.Seq = true) (h8 : d.Got = 0 → Xiv d.Now = true) (h9 : d.HasRef = true → Xhw d.Ref d.Seq = true) (h10 : d.HasRef = false → Xiv d.Ref = true) : Xil d = true := by
 unfold Xil
 rw [if_pos h1, if_pos h2, h3, h4, decide_eq_true h5, decide_eq_true h6]
 simp only [Bool.true_and, Bool.and_eq_true]
 constructor
 ·
  by_cases g : d.Got > 0
  ·
   rw [if_pos g]
   obtain ⟨a, b⟩ := h7 g
   rw [b]; simpa using a
  ·
   rw [if_neg g]
   exact h8 (by omega)
 ·
  cases hr : d.HasRef with
  | true => rw [if_pos rfl]; exact h9 hr
  | false => rw [if_neg (by decide)]; exact h10 hr
theorem Yyq {b : Nat} (h : 8 ≤ (2 : Int) ^ b) : (2 : Int) ^ b ≠ 0 := by
 generalize (2 : Int) ^ b = N at h ⊢
 omega
theorem Yyr {b : Nat} (h : 8 ≤ (2 : Int) ^ b) : 0 < (2 : Int) ^ b := by
 generalize (2 : Int) ^ b = N at h ⊢
 omega
theorem Ypv {b : Nat} {f : Int} (h : (2 : Int) ^ b ≤ 256) (h1 : f < 2 ^ b) : f ≤ 255 := by
 generalize (2 : Int) ^ b = N at h h1
 omega
theorem Yzl : Xiv Xvv = true := rfl
theorem Yvt {d : Xar} (hd : Xil d = true) (hp : d.HasPar = true) {h : Xrz} (hh : Xlh d.Seq d.Par h = true) (ht : h.Tile = d.Got) {o : Pic} (ho : Xhw o d.Seq = true) : Xil (Xix d h o).1 = true := by
 obtain ⟨a1, a2, a3, a4, a5, a6, a7, a8, a9⟩ := Xr5 hd hp
 obtain ⟨_, _, _, hf, _⟩ := Xg8 hh
 obtain ⟨_, _, b1, b2⟩ := Xbc a2
 obtain ⟨_, _, _, z4, z5⟩ := Xgq d.Seq.Bits ⟨b1, b2⟩
 unfold Xix
 by_cases hl : d.Got + 1 < Xbk d.Seq
 ·
  rw [if_pos hl]
  exact Yky a1 hp a2 a3 ⟨by simp only; omega, hf.2⟩ ⟨by simp only; omega, hl⟩ (fun _ => ⟨by simp only; omega, ho⟩) (fun g => by simp only at g; omega) a8 a9
 ·
  rw [if_neg hl]
  have m0 := Int.emod_nonneg (h.Frame + 1) (Yyq z5)
  have m1 := Int.emod_lt_of_pos (h.Frame + 1) (Yyr z5)
  generalize hN : (h.Frame + 1) % (2 : Int) ^ d.Seq.Bits.toNat = N at m0 m1 ⊢
  exact Yky a1 hp a2 a3 ⟨by simp only; omega, m1⟩ ⟨by simp only; omega, by simp only; omega⟩ (fun g => by simp only at g; omega) (fun _ => Yzl) (fun _ => ho) (fun g => by simp at g)
theorem Ynk {p : Pic} {s : Seq} (h : Xhw p s = true) : Xck p = true ∧ p.Wide = (Xhh s).1 ∧ p.High = (Xhh s).2 := by
 unfold Xhw at h
 simp only [Bool.and_eq_true, beq_iff_eq] at h
 exact h
theorem Yue {p : Pic} {s : Seq} (h1 : Xck p = true) (h2 : p.Wide = (Xhh s).1) (h3 : p.High = (Xhh s).2) : Xhw p s = true := by
 unfold Xhw
 simp only [Bool.and_eq_true, beq_iff_eq]
 exact ⟨h1, h2, h3⟩
theorem Yvr {s : Seq} (h : Xf2 s = true) : Xhh s = (8 * Xli s.Cols, 8 * Xli s.Rows) ∧ (1 ≤ Xli s.Cols ∧ Xli s.Cols ≤ 32) ∧ (1 ≤ Xli s.Rows ∧ Xli s.Rows ≤ 32) := by
 obtain ⟨s1, s2, _⟩ := Xbc h
 exact ⟨by unfold Xhh; rw [if_pos h], Xsl s1, Xsl s2⟩
theorem Ysv (w h : Int) : (Yw8 w h).Wide = w := rfl
theorem Ysu (w h : Int) : (Yw8 w h).High = h := rfl
theorem Ysx {d : Xar} (hd : Xil d = true) (hp : d.HasPar = true) : Xhw (Xzv d) d.Seq = true := by
 obtain ⟨a1, a2, a3, a4, a5, a6, a7, a8, a9⟩ := Xr5 hd hp
 obtain ⟨e, i1, i2⟩ := Yvr a2
 unfold Xzv
 by_cases g : d.Got = 0
 ·
  rw [if_pos g, e]
  exact Yue (Yum (by simp only; omega) (by simp only; omega)) (by rw [e, Ysv]) (by rw [e, Ysu])
 ·
  rw [if_neg g]
  exact (a6 (by omega)).2
theorem Yvu {d : Xar} (hd : Xil d = true) (hp : d.HasPar = true) (h1 : d.Seq.Cols.length ≤ maxLen) (h2 : d.Seq.Rows.length ≤ maxLen) {k : Int} (hk : k = 1 ∨ k = 5) {p2 : ByteArray} {h : Xrz} {at_ n4 : Int} {l : List Xao} (hh : Xlh d.Seq d.Par h = true) (ht : h.Tile = d.Got) (hf : d.Frame = -1 ∨ d.Frame = h.Frame) (hr : k = 5 ∨ d.HasRef = true) (e1 : Xh7 d.Seq d.Par p2 = some (h, at_, true)) (e2 : Xcb d.Seq h.Tile = some n4) (e3 : Xk4 p2 at_ n4 ⟨k == 5, h.Qp, d.Par.Large, d.Par.Exact⟩ = some (l, true)) (hl : l.length ≤ 64) (hlv : ∀ q ∈ l, q.Levels.length ≤ 64) :
  ∃ (r : Xph) (x : Pic × Bool) (o : Pic) (b : Bool), Xld d k p2 = some (Xix d h o) ∧ Xhw o d.Seq = true ∧ Xde d.Seq h.Tile = some (r, true) ∧ Xk6 d.Ref r ⟨k == 5, h.Qp, d.Par.Large, d.Par.Exact⟩ d.Par.Confined l = some x ∧ Xok (Xzv d) x.1 r.Left r.Top = some (o, b) := by
 obtain ⟨a1, a2, a3, a4, a5, a6, a7, a8, a9⟩ := Xr5 hd hp
 obtain ⟨_, _, hti, hfr, _⟩ := Xg8 hh
 obtain ⟨_, _, b1, b2⟩ := Xbc a2
 obtain ⟨e, i1, i2⟩ := Yvr a2
 obtain ⟨r, t1, t2, rw_, rh⟩ := Ydo a2 h1 h2 h.Tile hti
 obtain ⟨x, x1, x2, _⟩ := Xwi d.Ref r ⟨k == 5, h.Qp, d.Par.Large, d.Par.Exact⟩ d.Par.Confined l (by omega) (fun q hq => by have := hlv q hq; omega)
 obtain ⟨o, bo, p1, p2', ow, oh, p3, _⟩ := Ydl (Xzv d) x.1 r.Left r.Top
 obtain ⟨nok, nw, nh⟩ := Ynk (Ysx hd hp)
 have ho : Xhw o d.Seq = true := by
  obtain ⟨k1, k2, k3⟩ := Xbu nok
  exact Yue (Xtm (by rw [ow]; exact k1) (by rw [oh]; exact k2) (by rw [p3, ow, oh]; exact k3)) (by rw [ow]; exact nw) (by rw [oh]; exact nh)
 refine ⟨r, x, o, bo, ?_, ho, t2, x2, p2'⟩
 have tr := Xd4 a2
 have c1 : (sel (d.Frame != (-1)) (some (d.Frame != h.Frame)) (some false)) = some false := by
  rcases hf with hf | hf
  ·
   rw [hf]; rfl
  ·
   rw [hf]
   cases (h.Frame != -1) with
   | true => rw [Xaq, bne_self_eq_false]
   | false => rfl
 have c2 : (sel (k == 1) (some (!d.HasRef)) (some false)) = some false := by
  rcases hk with rfl | rfl
  ·
   rcases hr with hr | hr
   ·
    omega
   ·
    rw [hr]; rfl
  ·
   rfl
 have ev : (sel (d.Got == 0) (bnd (Xl3 d.Seq) fun q9 => bnd (Xqn q9.1 q9.2) fun q10 => some (q10.Wide, q10.High, q10.Dots)) (some (d.Now.Wide, d.Now.High, d.Now.Dots))) = some ((Xzv d).Wide, (Xzv d).High, (Xzv d).Dots) := by
  unfold Xzv
  by_cases g : d.Got = 0
  ·
   rw [Xbb (by rw [beq_iff_eq]; exact g), if_pos g, Xpu, Xab, e, Xss _ _ (by simp only; omega) (by simp only; omega), Xab]
   rfl
  ·
   rw [Xaz (by rw [beq_eq_false_iff_ne]; exact g), if_neg g]
 unfold Xld
 rw [hp, Bool.not_true, Xam, e1, Xab]
 simp only
 rw [Bool.not_true, Xam, Xaz (by rw [bne_eq_false_iff_eq]; exact ht), c1, Xab, Xam, c2, Xab, Xam, e2, Xab, e3, Xab]
 simp only
 rw [Bool.not_true, Xam, t2, Xab]
 simp only
 rw [x2, Xab, ev, Xab]
 simp only
 rw [show (⟨(Xzv d).Wide, (Xzv d).High, (Xzv d).Dots⟩ : Pic) = Xzv d from rfl, p2', Xab, Xei, Xab, wkA (e := d.Got + 1)]
 simp only
 unfold Xix
 by_cases hlt : d.Got + 1 < Xbk d.Seq
 ·
  rw [Xa9 hlt, if_pos hlt, hp]
 ·
  obtain ⟨z1, z2, z3, z4, z5⟩ := Xgq d.Seq.Bits ⟨b1, b2⟩
  rw [Xas hlt, if_neg hlt, z2, Xav z1, Xav (Yyq z5), wk (e := h.Frame + 1) (by have := hfr.1; omega) (by have := Ypv z4 hfr.2; omega), Xbq (by have := hfr.1; omega), hp]
theorem Ynf {q : Seq} (h : Xf2 q = true) : Xil ⟨true, false, false, q, ⟨0, false, false, false⟩, -1, 0, Xvv, Xvv⟩ = true := by
 obtain ⟨_, _, b1, b2⟩ := Xbc h
 obtain ⟨_, _, _, _, z5⟩ := Xgq q.Bits ⟨b1, b2⟩
 have tr := Xwb h
 have ht : Xbk q = (q.Cols.length : Int) * q.Rows.length := by unfold Xbk; rw [if_pos h]
 have p := Yyr z5
 unfold Xil
 simp only [if_pos, h]
 generalize (2 : Int) ^ q.Bits.toNat = N at p
 rw [decide_eq_true (show (-1 : Int) ≤ -1 ∧ (-1 : Int) < N by omega), decide_eq_true (show (0 : Int) ≤ 0 ∧ (0 : Int) < Xbk q by omega)]
 rfl
theorem Yso : Xil ⟨false, false, false, ⟨0, 0, [], []⟩, ⟨0, false, false, false⟩, -1, 0, Xvv, Xvv⟩ = true := rfl
theorem Yne {d : Xar} (hd : Xil d = true) (hs : d.HasSeq = true) (g : ¬ d.Got > 0) {p : Par} (hp : Xky p = true) : Xil ⟨true, true, d.HasRef, d.Seq, p, d.Frame, d.Got, d.Now, d.Ref⟩ = true := by
 unfold Xil at hd
 rw [if_pos hs] at hd
 simp only [Bool.and_eq_true, decide_eq_true_eq] at hd
 obtain ⟨a, _, f, g0, n, r⟩ := hd
 rw [if_neg g] at n
 refine Yky rfl rfl a hp f g0 (fun h => absurd h g) (fun _ => n) ?_ ?_
 ·
  intro h
  rw [if_pos h] at r
  exact r
 ·
  intro h
  rw [if_neg (by rw [h]; decide)] at r
  exact r
def Yvf (q : Seq) (x y : Nat) : Xph := ⟨8 * Xli (q.Cols.take x), 8 * Xli (q.Rows.take y), 8 * q.Cols.getD x 0, 8 * q.Rows.getD y 0⟩
theorem Ym2 {q : Seq} (hs : Xf2 q = true) (h1 : q.Cols.length ≤ maxLen) (h2 : q.Rows.length ≤ maxLen) (t : Int) (ht : 0 ≤ t ∧ t < Xbk q) : ∃ x y : Nat, (x : Int) = t % (q.Cols.length : Int) ∧ (y : Int) = t / (q.Cols.length : Int) ∧ x < q.Cols.length ∧ y < q.Rows.length ∧ Xex q t = some (Yvf q x y, true) ∧ Xde q t = some (Yvf q x y, true) ∧ (1 ≤ q.Cols.getD x 0 ∧ q.Cols.getD x 0 ≤ 8) ∧ (1 ≤ q.Rows.getD y 0 ∧ q.Rows.getD y 0 ≤ 8) := by
 have hr := Xd4 hs
 have hto : Xbk q = (q.Cols.length : Int) * q.Rows.length := by unfold Xbk; rw [if_pos hs]
 obtain ⟨s1, s2, _⟩ := Xbc hs
 have c1 := Xbi s1
 have c2 := Xbi s2
 unfold Xee at s1 s2
 rw [Bool.and_eq_true] at s1 s2
 have m0 := Int.emod_nonneg t (show (q.Cols.length : Int) ≠ 0 by omega)
 have m1 := Int.emod_lt_of_pos t (show 0 < (q.Cols.length : Int) by omega)
 have d0 : 0 ≤ t / (q.Cols.length : Int) := Int.ediv_nonneg ht.1 (by omega)
 have d1 : t / (q.Cols.length : Int) < q.Rows.length := Int.ediv_lt_of_lt_mul (by omega) (by rw [Int.mul_comm, ← hto]; exact ht.2)
 have ex : ∃ x y : Nat, (x : Int) = t % (q.Cols.length : Int) ∧ (y : Int) = t / (q.Cols.length : Int) := ⟨(t % (q.Cols.length : Int)).toNat, (t / (q.Cols.length : Int)).toNat, by omega, by omega⟩
 obtain ⟨x, y, hx, hy⟩ := ex
 have tm : t.tmod (q.Cols.length : Int) = (x : Int) := by rw [Xbq ht.1]; exact hx.symm
 have td : Xaa .i64 (t.tdiv (q.Cols.length : Int)) = (y : Int) := by rw [Xbp ht.1, ← hy, wkA]
 have bx := Xjy s1.2 c1.2 x
 have by_ := Xjy s2.2 c2.2 y
 have gx := Xn2 s1.2 (i := x) (by omega)
 have gy := Xn2 s2.2 (i := y) (by omega)
 refine ⟨x, y, hx, hy, by omega, by omega, ?_, ?_, gx, gy⟩
 ·
  unfold Xex
  rw [Xhc q h1 h2, Xab, wkA (e := Xbk q - 1), Xaj, Xab, decide_eq_true (by omega), Bool.not_true, Xam, rqA, tm, td, rqA, rqA]
  simp only [Int.toNat_natCast]
  rw [show (0 : Int).toNat = 0 from rfl, List.drop_zero, List.drop_zero, Nat.sub_zero, Nat.sub_zero, Ydi (List.all_eq_true.2 fun z hz => List.all_eq_true.1 s1.2 z (List.mem_of_mem_take hz)) (by rw [List.length_take]; omega), Xab, rqA, Ydi (List.all_eq_true.2 fun z hz => List.all_eq_true.1 s2.2 z (List.mem_of_mem_take hz)) (by rw [List.length_take]; omega), Xab, rqA, rqA, wkA (e := 8 * Xli (q.Cols.take x)), wkA (e := 8 * Xli (q.Rows.take y)), wkA (e := 8 * q.Cols.getD x 0), wkA (e := 8 * q.Rows.getD y 0)]
  rfl
 ·
  unfold Xde
  rw [snA, Xei, Xab, decide_eq_false (by omega), Xab, Xam, rqA, tm, td, rqA, Xwm s1.2 c1.2 x (by omega), Xab, Xwm s2.2 c2.2 y (by omega), Xab, rqA, rqA]
  simp only [Int.toNat_natCast]
  rw [wkA (e := 8 * Xli (q.Cols.take x)), wkA (e := 8 * Xli (q.Rows.take y)), wkA (e := 8 * q.Cols.getD x 0), wkA (e := 8 * q.Rows.getD y 0)]
  rfl
theorem Ydp {q : Seq} (hs : Xf2 q = true) (h1 : q.Cols.length ≤ maxLen) (h2 : q.Rows.length ≤ maxLen) (t : Int) (ht : 0 ≤ t ∧ t < Xbk q) : ∃ x y : Nat, (x : Int) = t % (q.Cols.length : Int) ∧ (y : Int) = t / (q.Cols.length : Int) ∧ x < q.Cols.length ∧ y < q.Rows.length ∧ Xcb q t = some (q.Cols.getD x 0 * q.Rows.getD y 0) ∧ (1 ≤ q.Cols.getD x 0 ∧ q.Cols.getD x 0 ≤ 8) ∧ (1 ≤ q.Rows.getD y 0 ∧ q.Rows.getD y 0 ≤ 8) := by
 obtain ⟨x, y, hx, hy, lx, ly, _, e, gx, gy⟩ := Ym2 hs h1 h2 t ht
 have mb : q.Cols.getD x 0 * q.Rows.getD y 0 ≤ 8 * 8 := Int.mul_le_mul (by omega) (by omega) (by omega) (by omega)
 have m0 : 1 * 1 ≤ q.Cols.getD x 0 * q.Rows.getD y 0 := Int.mul_le_mul (by omega) (by omega) (by omega) (by omega)
 refine ⟨x, y, hx, hy, lx, ly, ?_, gx, gy⟩
 unfold Xcb
 rw [e, Xab]
 unfold Yvf
 simp only
 rw [rqA, rqA, Xbp (by omega), Xbp (by omega), show 8 * q.Cols.getD x 0 / 8 = q.Cols.getD x 0 by omega, show 8 * q.Rows.getD y 0 / 8 = q.Rows.getD y 0 by omega, wkA (e := q.Cols.getD x 0), wkA (e := q.Rows.getD y 0), wkA]
def Xwc (k : Int) (L : List Int) : ByteArray := strOfNums (k :: Xpy L)
theorem Ytk (k : Int) (L : List Int) : (Xwc k L).size = L.length / 8 + 2 := by unfold Xwc; rw [strOfNums_size, List.length_cons, Xjf]
theorem Yqn {d : Xar} {u : ByteArray} {D : Xar} {co : Int} {P : Pic} (e : Xkc d u = some (D, co, P)) (h1 : D.Seq.Cols.length ≤ 1048576) (h2 : D.Seq.Rows.length ≤ 1048576) : Xdn d u = some (D, co, P) := by
 unfold Xdn
 rw [e, Xab]
 simp only
 rw [(Xws D.Seq h1 h2).1, Xab]
theorem Yxv {d : Xar} (hd : Xil d = true) {s : Seq} (hs : Xf2 s = true) : Xdn d (Xwc 7 (Xwe s)) = some (⟨true, false, false, s, ⟨0, false, false, false⟩, -1, 0, Xvv, Xvv⟩, 0, Xvv) := by
 obtain ⟨s1, s2, _⟩ := Xbc hs
 have c1 := Xbi s1
 have c2 := Xbi s2
 refine Yqn ?_ (by simp only; omega) (by simp only; omega)
 unfold Xkc
 rw [Xnx, Xab, hd, Bool.not_true, Xam, show Xwc 7 (Xwe s) = strOfNums (7 :: Xpy (Xwe s)) from rfl, (Xvd (k := 7) rfl (Xwe s) (Xyb s) (Xtr hs)).2, Xab]
 simp only
 rw [Bool.not_true, Xam, Xbb (b := (7 : Int) == 7) (by rfl), (Ymy hs).2, Xab]
 simp only
 rw [Xaq, strOfNums_size, bne_self_eq_false, Xab, Xam]
theorem Yxu {d : Xar} (hd : Xil d = true) (hq : d.HasSeq = true) (g : ¬ d.Got > 0) {p : Par} (hp : Xky p = true) (h1 : d.Seq.Cols.length ≤ 1048576) (h2 : d.Seq.Rows.length ≤ 1048576) : Xdn d (Xwc 8 (Ycg p)) = some (⟨true, true, d.HasRef, d.Seq, p, d.Frame, d.Got, d.Now, d.Ref⟩, 0, Xvv) := by
 refine Yqn ?_ h1 h2
 unfold Xkc
 rw [Xnx, Xab, hd, Bool.not_true, Xam, show Xwc 8 (Ycg p) = strOfNums (8 :: Xpy (Ycg p)) from rfl, (Xvd (k := 8) rfl (Ycg p) (Xx2 p) (by rw [Xtk]; omega)).2, Xab]
 simp only
 rw [Bool.not_true, Xam, Xaz (b := (8 : Int) == 7) (by rfl), Xbb (b := (8 : Int) == 8) (by rfl), (Ymx hp).2, Xab]
 simp only
 rw [Xaq, strOfNums_size, Xtk, show ((9 : Int) != ((9 : Nat) : Int)) = false from rfl, Xab, Xam, hq, Xaq, Xab, Xas g]
theorem Yj9 (d : Xar) (h : Xrz) (o : Pic) : (Xix d h o).1.Seq = d.Seq ∧ (Xix d h o).1.Par = d.Par ∧ (Xix d h o).1.HasPar = d.HasPar := by
 unfold Xix
 split <;> exact ⟨rfl, rfl, rfl⟩
theorem Ytg {d : Xar} (hd : Xil d = true) (hp : d.HasPar = true) {k : Int} (hk : k = 1 ∨ k = 5) {h : Xrz} {l : List Xao} (hh : Xlh d.Seq d.Par h = true) (ht : h.Tile = d.Got) (hf : d.Frame = -1 ∨ d.Frame = h.Frame) (hr : k = 5 ∨ d.HasRef = true) (hl : 1 ≤ l.length ∧ l.length ≤ 64) (hs : Yhb l ⟨k == 5, h.Qp, d.Par.Large, d.Par.Exact⟩ = true) (hlv : ∀ q ∈ l, q.Levels.length ≤ 64) (e2 : Xcb d.Seq h.Tile = some (l.length : Int)) :
  ∃ (r : Xph) (x : Pic × Bool) (o : Pic) (b : Bool), Xdn d (Xwc k (Xp2 d.Seq d.Par h ++ Xke l ⟨k == 5, h.Qp, d.Par.Large, d.Par.Exact⟩)) = some (Xix d h o) ∧ Xhw o d.Seq = true ∧ Xde d.Seq h.Tile = some (r, true) ∧ Xk6 d.Ref r ⟨k == 5, h.Qp, d.Par.Large, d.Par.Exact⟩ d.Par.Confined l = some x ∧ Xok (Xzv d) x.1 r.Left r.Top = some (o, b) := by
 have hm : maxLen = 9223372036854775807 := rfl
 obtain ⟨q1, _, _, _, hq⟩ := Xg8 hh
 obtain ⟨s1, s2, _⟩ := Xbc q1
 have c1 := Xbi s1
 have c2 := Xbi s2
 have hpar := (Xr5 hd hp).2.2.1
 have hc : Xge ⟨k == 5, h.Qp, d.Par.Large, d.Par.Exact⟩ = true := by
  unfold Xge
  unfold Xky at hpar
  rw [Bool.and_eq_true] at hpar
  rw [Bool.and_eq_true]
  exact ⟨decide_eq_true hq, hpar.2⟩
 have hb : Xeo (Xp2 d.Seq d.Par h ++ Xke l ⟨k == 5, h.Qp, d.Par.Large, d.Par.Exact⟩) := Xa5 (Ynt _ _ _) (Yah _ _)
 have hlen : (Xp2 d.Seq d.Par h ++ Xke l ⟨k == 5, h.Qp, d.Par.Large, d.Par.Exact⟩).length ≤ 400000 := by
  have a := Ynu hh
  have b := Yai hs
  rw [List.length_append]
  omega
 obtain ⟨_, e1⟩ := Yki hh rfl hb hlen
 obtain ⟨_, e3⟩ := Ypi hs hc hl rfl hb hlen
 obtain ⟨r, x, o, b, e, ho, t1, t2, t3⟩ := Yvu hd hp (by omega) (by omega) hk hh ht hf hr e1 e2 e3 hl.2 hlv
 refine ⟨r, x, o, b, ?_, ho, t1, t2, t3⟩
 have hsq := (Yj9 d h o).1
 refine Yqn (D := (Xix d h o).1) (co := (Xix d h o).2.1) (P := (Xix d h o).2.2) ?_ (by rw [hsq]; omega) (by rw [hsq]; omega)
 have hkk : Xno k = true := by rcases hk with rfl | rfl <;> rfl
 unfold Xkc
 rw [Xnx, Xab, hd, Bool.not_true, Xam]
 unfold Xwc
 rw [(Xvd hkk _ hb hlen).2, Xab]
 simp only
 rw [Bool.not_true, Xam, Xaz (b := k == 7) (by rw [beq_eq_false_iff_ne]; omega), Xaz (b := k == 8) (by rw [beq_eq_false_iff_ne]; omega), e, Xab]
def Ype : List ByteArray → Xar → Xar → List Pic → Prop
 | [], d, D, ps => D = d ∧ ps = []
 | u :: us, d, D, ps => ∃ (d1 : Xar) (P : Pic) (qs : List Pic), Xdn d u = some (d1, 0, P) ∧ u.size ≤ 60000 ∧ Ype us d1 D qs ∧ ps = (if P.Wide > 0 then P :: qs else qs)
theorem Xvc : ∀ (us vs : List ByteArray) (d d1 D : Xar) (ps qs : List Pic), Ype us d d1 ps → Ype vs d1 D qs → Ype (us ++ vs) d D (ps ++ qs)
 | [], vs, d, d1, D, ps, qs, h1, h2 => by
  obtain ⟨rfl, rfl⟩ := h1
  exact h2
 | u :: us, vs, d, d1, D, ps, qs, h1, h2 => by
  obtain ⟨e, P, rs, a1, a2, a3, a4⟩ := h1
  refine ⟨e, P, rs ++ qs, a1, a2, Xvc us vs e d1 D rs qs a3 h2, ?_⟩
  rw [a4]
  split <;> rfl
theorem Yjo : ∀ (us : List ByteArray) (d D : Xar) (ps : List Pic), Ype us d D ps → ∀ u ∈ us, u.size ≤ 60000
 | [], _, _, _, _ => fun u hu => by simp at hu
 | u :: us, d, D, ps, h => by
  obtain ⟨e, P, rs, a1, a2, a3, a4⟩ := h
  intro v hv
  rcases List.mem_cons.1 hv with rfl | hv
  ·
   exact a2
  ·
   exact Yjo us e D rs a3 v hv
theorem Ynr (us : List ByteArray) (h400 : us.length ≤ 400) : ∀ (r : List ByteArray) (k : Nat), us.drop k = r → ∀ (d D : Xar) (ps qs : List Pic) (cs : List Int), Ype r d D qs → ps.length ≤ k → cs.length = k →
  loop (Xdd us) (Yms (k : Int) d ps cs) = some (Yms 0 D (ps ++ qs) (cs ++ List.replicate r.length 0)).2
 | [], k, hk, d, D, ps, qs, cs, hg, hp, hc => by
  obtain ⟨rfl, rfl⟩ := hg
  have : us.length ≤ k := List.drop_eq_nil_iff.1 hk
  refine Xbx ?_
  unfold Xdd Yms
  simp only
  rw [snA, List.append_nil, List.length_nil, List.replicate_zero, List.append_nil]
 | u :: r, k, hk, d, D, ps, qs, cs, hg, hp, hc => by
  have hm : maxLen = 9223372036854775807 := rfl
  obtain ⟨e, P, rs, a1, a2, a3, a4⟩ := hg
  have hlt : k < us.length := by
   have := congrArg List.length hk
   rw [List.length_drop, List.length_cons] at this
   omega
  have hu : us.getD k Xgr = u := by
   rw [Xb2 us k hlt]
   have := List.drop_eq_getElem_cons hlt
   rw [hk] at this
   exact (List.cons.inj this).1.symm
  have hr : us.drop (k + 1) = r := by
   have := List.drop_eq_getElem_cons hlt
   rw [hk] at this
   exact (List.cons.inj this).2.symm
  have es' : Xdn (⟨d.HasSeq, d.HasPar, d.HasRef, ⟨d.Seq.Level, d.Seq.Bits, d.Seq.Cols, d.Seq.Rows⟩, ⟨d.Par.Qp, d.Par.Large, d.Par.Exact, d.Par.Confined⟩, d.Frame, d.Got, ⟨d.Now.Wide, d.Now.High, d.Now.Dots⟩, ⟨d.Ref.Wide, d.Ref.High, d.Ref.Dots⟩⟩ : Xar) u = some (e, 0, P) := a1
  have gS : Xdd us (Yms (k : Int) d ps cs) = some (.go (Yms ((k + 1 : Nat) : Int) e (if P.Wide > 0 then ps ++ [P] else ps) (cs ++ [0]))) := by
   unfold Xdd Yms
   simp only [Int.toNat_natCast]
   rw [syA, rqA, hu, es', Xab]
   simp only
   rw [Xav (by simp only [List.length_singleton]; omega)]
   by_cases hw : P.Wide > 0
   ·
    rw [Xa9 hw, if_pos hw, Xav (by simp only [List.length_singleton]; omega), Xab, wkA]; rfl
   ·
    rw [Xas hw, if_neg hw, Xab, wkA]; rfl
  have hl : (if P.Wide > 0 then ps ++ [P] else ps).length ≤ k + 1 := by
   split
   ·
    rw [List.length_append, List.length_singleton]; omega
   ·
    omega
  have ih := Ynr us h400 r (k + 1) hr e D _ rs (cs ++ [0]) a3 hl (by rw [List.length_append, List.length_singleton]; omega)
  refine (lgo gS ih).trans ?_
  have e1 : (if P.Wide > 0 then ps ++ [P] else ps) ++ rs = ps ++ qs := by
   rw [a4]
   split
   ·
    rw [List.append_assoc]; rfl
   ·
    rfl
  have e2 : (cs ++ [0]) ++ List.replicate r.length (0 : Int) = cs ++ List.replicate (u :: r).length 0 := by
   rw [List.append_assoc, List.length_cons, List.replicate_succ]; rfl
  rw [e1, e2]
theorem Ywg {us : List ByteArray} {d D : Xar} {ps : List Pic} (h : Ype us d D ps) (h400 : us.length ≤ 400) (h1 : d.Seq.Cols.length ≤ 1048576) (h2 : d.Seq.Rows.length ≤ 1048576) : Xjl d us = some (D, ps, List.replicate us.length 0) ∧ Xoi d us = some (D, ps, List.replicate us.length 0) := by
 obtain ⟨D', ps', cs', ei, es, _⟩ := Ypg d us h1 h2 (fun u hu => by have := Yjo us d D ps h u hu; omega)
 have e : Xoi d us = some (D, ps, List.replicate us.length 0) := by
  unfold Xoi
  rw [(Xws d.Seq h1 h2).1, Xab, snA]
  exact (Xc3 (Ynr us h400 us 0 rfl d D [] ps [] h (by simp) rfl)).trans rfl
 rw [e] at es
 exact ⟨ei.trans es.symm, e⟩
theorem Ypm {l : List Int} (h : l.all Yij = true) (i : Nat) {x : Int} (hx : -5000 ≤ x ∧ x ≤ 5000) : (l.set i x).all Yij = true := List.all_eq_true.2 fun y hy => by
 rcases List.mem_or_eq_of_mem_set hy with hy | hy
 ·
  exact List.all_eq_true.1 h y hy
 ·
  rw [hy]; exact Ydc.2 hx
theorem Yzj {l : List Int} (h : l.length = 64) (h2 : l.all Yij = true) : Yhi l = true := by
 unfold Yhi
 rw [decide_eq_true h, h2]; rfl
theorem Xqs (c : Xa6) (hc : Xik c) : ∃ l c', Xgz c 64 = some (l, c') ∧ Yhi l = true ∧ Xik c' := by
 unfold Xgz
 rw [rqA]
 obtain ⟨o, h, h2, h3⟩ := Xth (f := Xic 64) (fun v => 0 ≤ v.1 ∧ v.1 ≤ 6 ∧ Xik ⟨v.2.1, v.2.2.1, v.2.2.2.1⟩ ∧ v.2.2.2.2.length = 64 ∧ v.2.2.2.2.all Yij = true) (fun v => (6 - v.1).toNat) (fun _ o => Yhi o.1 = true ∧ Xik ⟨o.2.1, o.2.2.1, o.2.2.2⟩) (by
  intro ⟨i, b, j, h, l⟩ ⟨h1, h2, h3, h4, h5⟩
  unfold Xic
  simp only at h1 h2 h3 h4 h5 ⊢
  obtain ⟨x, c', ex, x0, x1, _, hx⟩ := Xbg _ 7 h3
  rw [ex, Xab]
  simp only
  by_cases hi : i < x
  ·
   rw [Xa9 hi, Xab]
   simp only
   rw [decide_eq_true (by omega), Xaq]
   obtain ⟨y, c2, ey, y0, y1, _, hy⟩ := Xbg c' 64 hx
   have ey' : Xa1 ⟨c'.b_, c'.i_, c'.h_⟩ 64 = some (y, c2) := ey
   rw [ey', Xab]
   obtain ⟨w, c3, ew, hw⟩ := Xcw c2 2 hy
   simp only
   rw [ew, Xab]
   simp only
   have step : ∃ p, (sel w (req ((5 : Int) ≠ 0) <| some ((y.tmod 5), c3.b_, c3.i_, c3.h_)) (some (y, c3.b_, c3.i_, c3.h_))) = some (p, c3.b_, c3.i_, c3.h_) ∧ 0 ≤ p ∧ p < 64 := by
    cases w with
    | true => rw [Xaq, rqA]; exact ⟨_, rfl, by rw [Xbq y0]; omega, by rw [Xbq y0]; omega⟩
    | false => rw [Xam]; exact ⟨_, rfl, y0, by omega⟩
   obtain ⟨p, ep, p0, p1⟩ := step
   rw [ep, Xab]
   simp only
   obtain ⟨z, c4, ez, z0, z1, _, hz⟩ := Xbg c3 21 hw
   have ez' : Xa1 ⟨c3.b_, c3.i_, c3.h_⟩ 21 = some (z, c4) := ez
   rw [ez', Xab]
   simp only
   obtain ⟨u, c5, eu, hu⟩ := Xcw c4 6 hz
   rw [rqA, rqA, eu, Xab]
   simp only
   cases u with
   | true =>
    obtain ⟨t, c6, et, t0, t1, _, ht⟩ := Xbg c5 10001 hu
    rw [Xaq, et, Xab, Xav (by rw [List.length_set]; omega), Xav (by rw [List.length_set]; omega), Xab]
    refine .inr ⟨_, rfl, ⟨?_, ?_, ht, ?_, Ypm (Ypm h5 _ (by rw [wkA]; omega)) _ (by have := t1 (by omega); rw [wkA]; omega)⟩, ?_, fun _ h => h⟩
    ·
     simp only; rw [wkA]; omega
    ·
     simp only; rw [wkA]; omega
    ·
     simp only [List.length_set]; exact h4
    ·
     simp only; rw [wkA]; omega
   | false =>
    rw [Xam, Xab]
    refine .inr ⟨_, rfl, ⟨?_, ?_, hu, ?_, Ypm h5 _ (by rw [wkA]; omega)⟩, ?_, fun _ h => h⟩
    ·
     simp only; rw [wkA]; omega
    ·
     simp only; rw [wkA]; omega
    ·
     simp only [List.length_set]; exact h4
    ·
     simp only; rw [wkA]; omega
  ·
   rw [Xas hi, Xab]
   simp only
   rw [Xam]
   exact .inl ⟨_, rfl, Yzj h4 h5, hx⟩) (0, c.b_, c.i_, c.h_, List.replicate (64 : Int).toNat 0) ⟨by simp, by simp, hc, by simp, List.all_eq_true.2 fun x hx => by rw [List.eq_of_mem_replicate hx]; rfl⟩
 rw [h, Xab]
 exact ⟨_, _, rfl, h2, h3⟩
theorem Yab (u : Xa6) (hu : Xik u) (c : Xfg) : ∃ q u', Xi6 u c = some (q, u') ∧ (Xm9 q = true ∧ Xhu q c = true) ∧ Xik u' := by
 unfold Xi6
 have s1 : ∃ (b : Bool) (v : Xa6), (sel c.Key (some (false, u.b_, u.i_, u.h_)) (bnd (Xbn u 4) fun q2 => some (q2.1, q2.2.b_, q2.2.i_, q2.2.h_))) = some (b, v.b_, v.i_, v.h_) ∧ (b = true → c.Key = false) ∧ Xik v := by
  obtain ⟨w, v, ew, hv⟩ := Xcw u 4 hu
  cases hk : c.Key with
  | true => exact ⟨false, u, rfl, (fun h => by cases h), hu⟩
  | false => rw [Xam, ew, Xab]; exact ⟨w, v, rfl, (fun _ => rfl), hv⟩
 obtain ⟨b, v, e1, kb, hv⟩ := s1
 rw [e1, Xab]
 simp only
 cases b with
 | true => rw [Xaq]; exact ⟨_, _, rfl, ⟨Yvz, by unfold Xhu; rw [kb rfl]; rfl⟩, hv⟩
 | false =>
  rw [Xam]
  have s2 : ∃ (b : Bool) (w : Xa6), (sel c.Key (some (false, v.b_, v.i_, v.h_)) (bnd (Xbn (⟨v.b_, v.i_, v.h_⟩ : Xa6) 2) fun q4 => some (q4.1, q4.2.b_, q4.2.i_, q4.2.h_))) = some (b, w.b_, w.i_, w.h_) ∧ (b = true → c.Key = false) ∧ Xik w := by
   obtain ⟨w, v', ew, hv'⟩ := Xcw v 2 hv
   cases hk : c.Key with
   | true => exact ⟨false, v, rfl, (fun h => by cases h), hv⟩
   | false =>
    have ew' : Xbn ⟨v.b_, v.i_, v.h_⟩ 2 = some (w, v') := ew
    rw [Xam, ew', Xab]; exact ⟨w, v', rfl, (fun _ => rfl), hv'⟩
  obtain ⟨b2, w, e2, kb2, hw⟩ := s2
  rw [e2, Xab]
  simp only
  cases b2 with
  | true =>
   rw [Xaq]
   obtain ⟨x, c1, ex, x0, x1, _, h1⟩ := Xbg w 7 hw
   have ex' : Xa1 ⟨w.b_, w.i_, w.h_⟩ 7 = some (x, c1) := ex
   obtain ⟨y, c2, ey, y0, y1, _, h2⟩ := Xbg c1 7 h1
   obtain ⟨l, c3, el, hl, h3⟩ := Xqs c2 h2
   obtain ⟨z, c4, ez, h4⟩ := Xcw c3 6 h3
   rw [ex', Xab]
   simp only
   rw [ey, Xab]
   simp only
   rw [el, Xab]
   simp only
   rw [ez, Xab]
   simp only
   cases z with
   | true =>
    obtain ⟨t, c5, et, t0, t1, _, h5⟩ := Xbg c4 33 h4
    rw [Xaq, et, Xab, Xab]
    exact ⟨_, _, rfl, ⟨Yo3 (by have := t1 (by omega); rw [wkA]; omega) (by have := y1 (by omega); rw [wkA]; omega) hl, by unfold Xhu; rw [kb2 rfl]; rfl⟩, h5⟩
   | false =>
    rw [Xam, Xab]
    exact ⟨_, _, rfl, ⟨Yo3 (by have := x1 (by omega); rw [wkA]; omega) (by have := y1 (by omega); rw [wkA]; omega) hl, by unfold Xhu; rw [kb2 rfl]; rfl⟩, h4⟩
  | false =>
   rw [Xam]
   obtain ⟨x, c1, ex, x0, x1, _, h1⟩ := Xbg w 4 hw
   have ex' : Xa1 ⟨w.b_, w.i_, w.h_⟩ 4 = some (x, c1) := ex
   obtain ⟨l, c3, el, hl, h3⟩ := Xqs c1 h1
   rw [ex', Xab]
   simp only
   rw [el, Xab]
   exact ⟨_, _, rfl, ⟨Ytd ⟨x0, by have := x1 (by omega); omega⟩ hl, by unfold Xhu; cases c.Key <;> rfl⟩, h3⟩
theorem Xyq (u : Xa6) (hu : Xik u) (n : Int) (h0 : 0 ≤ n) (h1 : n ≤ 1000) (c : Xfg) : ∃ l u', Xhs u n c = some (l, u') ∧ (l.length : Int) = n ∧ (∀ q ∈ l, Xm9 q = true ∧ Xhu q c = true) ∧ Xik u' := by
 have hm : maxLen = 9223372036854775807 := rfl
 unfold Xhs
 obtain ⟨o, h, h2, h5, h6⟩ := Xth (f := Xg4 n c) (fun v => 0 ≤ v.1 ∧ v.1 ≤ n ∧ Xik ⟨v.2.1, v.2.2.1, v.2.2.2.1⟩ ∧ (v.2.2.2.2.length : Int) = v.1 ∧ ∀ q ∈ v.2.2.2.2, Xm9 q = true ∧ Xhu q c = true) (fun v => (n - v.1).toNat) (fun _ o => (o.1.length : Int) = n ∧ (∀ q ∈ o.1, Xm9 q = true ∧ Xhu q c = true) ∧ Xik ⟨o.2.1, o.2.2.1, o.2.2.2⟩) (by
  intro ⟨i, b, j, h, l⟩ ⟨h1, h2, h3, h4, h5⟩
  unfold Xg4
  simp only at h1 h2 h3 h4 h5 ⊢
  by_cases hi : i < n
  ·
   obtain ⟨q, c', eq, hok, hq⟩ := Yab _ h3 c
   rw [Xa9 hi, eq, Xab, Xav (by simp only [List.length_singleton]; omega)]
   refine .inr ⟨_, rfl, ⟨?_, ?_, hq, ?_, fun y hy => (List.mem_append.1 hy).elim (h5 y) fun hy => by rw [List.mem_singleton.1 hy]; exact hok⟩, ?_, fun _ h => h⟩
   ·
    simp only; rw [wkA]; omega
   ·
    simp only; rw [wkA]; omega
   ·
    simp only [List.length_append, List.length_singleton]; rw [wkA]; omega
   ·
    simp only; rw [wkA]; omega
  ·
   rw [Xas hi]
   exact .inl ⟨_, rfl, by simp only; omega, h5, h3⟩) (0, u.b_, u.i_, u.h_, []) ⟨by simp, h0, hu, by simp, fun q hq => by simp at hq⟩
 rw [h, Xab]
 exact ⟨_, _, rfl, h2, h5, h6⟩
def Yhq (u : ByteArray) : Prop := 1 ≤ u.size ∧ u.size ≤ 1400 ∧ Xcd u ((u.size : Int) - 1) ≠ 0
theorem Yva (L : List Int) (hb : Xeo L) : (Xpy L).getD (L.length / 8) 0 ≠ 0 := by
 obtain ⟨z, h1, h3⟩ := Ym8 L hb
 obtain ⟨z', p1, p2, p3⟩ := Yvb L
 have hs : (strOfNums (Xpy L)).size = L.length / 8 + 1 := by rw [strOfNums_size, Xjf]
 have hV : Xeo (L ++ 49 :: List.replicate z' 48) := Xa5 hb (fun x hx => by
  rcases List.mem_cons.1 hx with rfl | hx
  ·
   exact .inr rfl
  ·
   exact Xwn z' x hx)
 have hby : Ysi (Xpy L) := by unfold Xpy; rw [p1]; exact Xqw _ _ hV
 have k2 : (Xig (strOfNums (Xpy L))).getD L.length 0 = 49 := by
  rw [h1]
  have := Yjz L (49 :: List.replicate z 48) 0
  rw [Nat.add_zero] at this
  rw [this]; rfl
 rw [Xwo _ (by omega)] at k2
 unfold Xyw at k2
 rw [Xr2 _ hby _ (by rw [Xjf]; omega)] at k2
 intro h0
 rw [h0] at k2
 exact Yqt ⟨0, by omega⟩ ⟨L.length % 8, by omega⟩ k2 rfl
theorem Yaj {k : Int} (hk : Xno k = true) {L : List Int} (hb : Xeo L) (hl : L.length ≤ 11000) : Yhq (Xwc k L) := by
 have hs := Ytk k L
 refine ⟨by omega, by omega, ?_⟩
 rw [hs, show ((L.length / 8 + 2 : Nat) : Int) - 1 = ((L.length / 8 + 1 : Nat) : Int) by omega]
 unfold Xwc
 rw [Xr2 _ (Ypa hk L hb) _ (by rw [List.length_cons, Xjf]; omega), List.getD_cons_succ]
 exact Yva L hb
def Ymb (s : Seq) : Prop := s.Level = 3 ∧ s.Bits = 3 ∧ (s.Cols = [1] ∨ s.Cols = [1, 1] ∨ s.Cols = [1, 2]) ∧ (s.Rows = [1] ∨ s.Rows = [1, 1])
theorem Yrz {s : Seq} (h : Ymb s) : Xf2 s = true ∧ (1 ≤ Xbk s ∧ Xbk s ≤ 4) ∧ s.Bits = 3 ∧ (∀ x : Nat, s.Cols.getD x 0 ≤ 2) ∧ (∀ y : Nat, s.Rows.getD y 0 ≤ 1) := by
 obtain ⟨lv, bt, co, ro⟩ := s
 obtain ⟨h1, h2, h3, h4⟩ := h
 simp only at h1 h2 h3 h4
 subst h1 h2
 have at3 : ∀ (a b : Int) (n : Nat), ([a, b] : List Int).getD n 0 = if n = 0 then a else if n = 1 then b else 0 := fun a b n => by
  match n with
  | 0 => rfl
  | 1 => rfl
  | n + 2 => rfl
 have at1 : ∀ (a : Int) (n : Nat), ([a] : List Int).getD n 0 = if n = 0 then a else 0 := fun a n => by
  match n with
  | 0 => rfl
  | n + 1 => rfl
 refine ⟨?_, ?_, rfl, ?_, ?_⟩
 ·
  rcases h3 with rfl | rfl | rfl <;> rcases h4 with rfl | rfl <;> decide +kernel
 ·
  rcases h3 with rfl | rfl | rfl <;> rcases h4 with rfl | rfl <;> decide +kernel
 ·
  intro x
  rcases h3 with rfl | rfl | rfl
  ·
   simp only [at1]; split <;> omega
  ·
   simp only [at3]
   split
   ·
    omega
   ·
    split <;> omega
  ·
   simp only [at3]
   split
   ·
    omega
   ·
    split <;> omega
 ·
  intro y
  rcases h4 with rfl | rfl
  ·
   simp only [at1]; split <;> omega
  ·
   simp only [at3]
   split
   ·
    omega
   ·
    split <;> omega
theorem Ys8 (d : Xar) (h : Xrz) (o : Pic) : Xix d h o = ((Xix d h o).1, 0, (Xix d h o).2.2) := by
 unfold Xix
 split <;> rfl
theorem Yad (c : Xa6) (hc : Xik c) (s : Seq) (hs : Ymb s) (p : Par) (f : Int) (hf : 0 ≤ f ∧ f < 8) (key : Bool) (d : Xar) (hd : Xil d = true) (hp : d.HasPar = true) (eS : d.Seq = s) (eP : d.Par = p) (g : d.Got = 0) (hfr : d.Frame = -1 ∨ d.Frame = f) (hr : key = true ∨ d.HasRef = true) :
  ∃ us c', Xf0 c s p f 0 key = some (us, c', s) ∧ Xik c' ∧ (1 ≤ us.length ∧ us.length ≤ 4) ∧ (∀ u ∈ us, Yhq u) ∧ ∃ D ps, Ype us d D ps ∧ Xil D = true ∧ D.HasPar = true ∧ D.Seq = s ∧ D.Par = p ∧ D.Got = 0 ∧ D.Frame = (f + 1) % 8 ∧ D.HasRef = true ∧ ps.length = 1 := by
 have hm : maxLen = 9223372036854775807 := rfl
 obtain ⟨so, ⟨t1, t4⟩, sb, sx, sy⟩ := Yrz hs
 obtain ⟨o1, o2, _⟩ := Xbc so
 have l1 := Xbi o1
 have l2 := Xbi o2
 have po : Xky p = true := by rw [← eP]; exact (Xr5 hd hp).2.2.1
 have h8 : (2 : Int) ^ s.Bits.toNat = 8 := by rw [sb]; rfl
 unfold Xf0
 obtain ⟨o, h, r1, r2, r3, r4⟩ := Xth (f := Xfh s p f key)
  (fun (t, b, i, h, us) => (0 ≤ t ∧ t ≤ Xbk s) ∧ Xik ⟨b, i, h⟩ ∧ (us.length : Int) = t ∧ (∀ u ∈ us, Yhq u) ∧ ∃ D ps, Ype us d D ps ∧ Xil D = true ∧ D.HasPar = true ∧ D.Seq = s ∧ D.Par = p ∧ (t < Xbk s → D.Got = t ∧ (D.Frame = -1 ∨ D.Frame = f) ∧ (key = true ∨ D.HasRef = true) ∧ ps = []) ∧ (t = Xbk s → D.Got = 0 ∧ D.Frame = (f + 1) % 8 ∧ D.HasRef = true ∧ ps.length = 1))
  (fun v => (Xbk s - v.1).toNat)
  (fun _ (us, b, i, h) => Xik ⟨b, i, h⟩ ∧ (us.length : Int) = Xbk s ∧ (∀ u ∈ us, Yhq u) ∧ ∃ D ps, Ype us d D ps ∧ Xil D = true ∧ D.HasPar = true ∧ D.Seq = s ∧ D.Par = p ∧ D.Got = 0 ∧ D.Frame = (f + 1) % 8 ∧ D.HasRef = true ∧ ps.length = 1) (by
  intro ⟨t, b, i, h, us⟩ ⟨i1, i2, i3, i4, D, ps, k1, k2, k3, k4, k5, k6, k7⟩
  unfold Xfh
  simp only
  rw [Xei, Xab]
  by_cases hlt : t < Xbk s
  ·
   obtain ⟨n1, n2, n3, n4⟩ := k6 hlt
   rw [Xa9 hlt]
   have ev : ∃ (ky : Bool) (qp : Int) (w : Xa6), (sel key (bnd (Xa1 (⟨b, i, h⟩ : Xa6) 41) fun q29 => some (q29.2.b_, q29.2.i_, q29.2.h_, true, q29.1)) (bnd (Xbn (⟨b, i, h⟩ : Xa6) 4) fun q30 => bnd (Xa1 q30.2 41) fun q31 => some (q31.2.b_, q31.2.i_, q31.2.h_, q30.1, q31.1))) = some (w.b_, w.i_, w.h_, ky, qp) ∧ (ky = false → key = false) ∧ (0 ≤ qp ∧ qp ≤ 40) ∧ Xik w := by
    cases hk : key with
    | true =>
     obtain ⟨x, w, e, x0, x1, _, hw⟩ := Xbg _ 41 i2
     rw [Xaq, e, Xab]
     exact ⟨true, x, w, rfl, fun h => (by cases h), ⟨x0, by have := x1 (by omega); omega⟩, hw⟩
    | false =>
     obtain ⟨z, w', e', hw'⟩ := Xcw _ 4 i2
     obtain ⟨x, w, e, x0, x1, _, hw⟩ := Xbg w' 41 hw'
     rw [Xam, e', Xab]
     simp only
     rw [e, Xab]
     exact ⟨z, x, w, rfl, (by intro _; first | rfl | trivial), ⟨x0, by have := x1 (by omega); omega⟩, hw⟩
   obtain ⟨ky, qp, w, e1, e2, e3, hw⟩ := ev
   rw [e1, Xab]
   simp only
   have hh : Xlh s p ⟨t, f, qp⟩ = true := by
    unfold Xlh
    simp only [Bool.and_eq_true, decide_eq_true_eq]
    exact ⟨so, po, ⟨i1.1, hlt⟩, ⟨hf.1, by rw [h8]; exact hf.2⟩, e3⟩
   obtain ⟨x, y, hx, hy, lx, ly, eT, gx, gy⟩ := Ydp so (by omega) (by omega) t ⟨i1.1, hlt⟩
   have ax := sx x
   have ay := sy y
   have e1' : s.Rows.getD y 0 = 1 := by omega
   have hn : s.Cols.getD x 0 * s.Rows.getD y 0 = s.Cols.getD x 0 := by rw [e1', Int.mul_one]
   rw [hn] at eT
   generalize s.Cols.getD x 0 = n at eT gx ax
   obtain ⟨l, w2, e4, e5, e6, hw2⟩ := Xyq w hw n (by omega) (by omega) ⟨ky, qp, p.Large, p.Exact⟩
   have hsq : Yhb l ⟨ky, qp, p.Large, p.Exact⟩ = true := List.all_eq_true.2 fun q hq => by
    have hpo := po
    unfold Xky at hpo
    rw [Bool.and_eq_true] at hpo
    have hc : Xge ⟨ky, qp, p.Large, p.Exact⟩ = true := by
     unfold Xge
     rw [Bool.and_eq_true]
     exact ⟨decide_eq_true e3, hpo.2⟩
    obtain ⟨a, b⟩ := e6 q hq
    rw [a, b, hc]; rfl
   have hlv : ∀ q ∈ l, q.Levels.length ≤ 64 := fun q hq => by
    obtain ⟨a, _⟩ := e6 q hq
    have := Xqu a
    by_cases z0 : q.Kind = 0
    ·
     rw [Yql a z0]; simp
    ·
     by_cases z1 : q.Kind = 1
     ·
      have := (Xj1 (Xrj a z1).2.2).1; omega
     ·
      have := (Xj1 (Xtt a (by omega)).2).1; omega
   have hb : Xeo (Xp2 s p ⟨t, f, qp⟩ ++ Xke l ⟨ky, qp, p.Large, p.Exact⟩) := Xa5 (Ynt _ _ _) (Yah _ _)
   have a := Ynu hh
   have bb := Yai hsq
   have hlen : (Xp2 s p ⟨t, f, qp⟩ ++ Xke l ⟨ky, qp, p.Large, p.Exact⟩).length ≤ 11000 := by
    rw [List.length_append]
    omega
   have hlen' := hlen
   rw [List.length_append] at hlen'
   have kk : ∃ k : Int, (sel ky (some (5 : Int)) (some 1)) = some k ∧ (k = 1 ∨ k = 5) ∧ (k == 5) = ky := by
    cases ky with
    | true => exact ⟨5, rfl, .inr rfl, rfl⟩
    | false => exact ⟨1, rfl, .inl rfl, rfl⟩
   obtain ⟨k, f1, f2, f3⟩ := kk
   have hkk : Xno k = true := by rcases f2 with rfl | rfl <;> rfl
   have st := Ytg k2 k3 (k := k) f2 (h := ⟨t, f, qp⟩) (l := l) (by rw [k4, k5]; exact hh) (by simp only; omega) n2 (by
    rcases f2 with f2 | f2
    ·
     right
     rcases n3 with n3 | n3
     ·
      exfalso
      rw [f2] at f3
      have := e2 f3.symm
      rw [n3] at this
      cases this
     ·
      exact n3
    ·
     exact .inl f2) (by omega) (by rw [f3, k5]; exact hsq) hlv (by rw [k4, eT, e5])
   rw [k4, k5, f3] at st
   obtain ⟨r, xx, o, bo, st1, st2, _⟩ := st
   have hfin := Yaj hkk hb hlen
   rw [Ygo hh, Xab, f1, Xab, eT, Xab]
   simp only
   rw [show (⟨w.b_, w.i_, w.h_⟩ : Xa6) = w from rfl, e4, Xab]
   simp only
   rw [Yjm l _ (fun q hq => (e6 q hq).1) (by omega), Xab, Xav (by simp only [strOfNums_size]; omega), Xbs, Xpw k _ hkk hb (by omega), Xab]
   simp only
   rw [Xav (by simp only [List.length_singleton]; omega), wkA]
   refine .inr ⟨_, rfl, ⟨⟨by omega, by omega⟩, hw2, ?_, ?_, ?_⟩, ?_, fun _ h => h⟩
   ·
    rw [List.length_append, List.length_singleton]; omega
   ·
    intro u hu
    rcases List.mem_append.1 hu with hu | hu
    ·
     exact i4 u hu
    ·
     rw [List.mem_singleton.1 hu]; exact hfin
   ·
    have hone : Ype [Xwc k (Xp2 s p ⟨t, f, qp⟩ ++ Xke l ⟨ky, qp, p.Large, p.Exact⟩)] D (Xix D ⟨t, f, qp⟩ o).1 (if (Xix D ⟨t, f, qp⟩ o).2.2.Wide > 0 then [(Xix D ⟨t, f, qp⟩ o).2.2] else []) := ⟨_, _, [], st1.trans (congrArg some (Ys8 D ⟨t, f, qp⟩ o)), (by have := hfin.2.1; omega), ⟨rfl, rfl⟩, rfl⟩
    have hg := Xvc us _ d D _ ps _ k1 hone
    have hok := Yvt k2 k3 (h := ⟨t, f, qp⟩) (by rw [k4, k5]; exact hh) (by simp only; omega) (o := o) (by rw [k4]; exact st2)
    obtain ⟨g1, g2, g3⟩ := Yj9 D ⟨t, f, qp⟩ o
    have ow := (Xbu (Ynk st2).1).1
    refine ⟨_, _, hg, hok, by rw [g3]; exact k3, by rw [g1]; exact k4, by rw [g2]; exact k5, ?_, ?_⟩
    ·
     intro hl
     unfold Xix
     rw [if_pos (by rw [n1, k4]; exact hl)]
     refine ⟨by simp only; omega, .inr rfl, n3, ?_⟩
     rw [n4]
     rfl
    ·
     intro hl
     unfold Xix
     rw [if_neg (by rw [n1, k4]; omega)]
     refine ⟨rfl, ?_, rfl, ?_⟩
     ·
      simp only
      rw [k4, h8]
     ·
      simp only
      rw [if_pos (by omega), n4]
      rfl
   ·
    simp only; omega
  ·
   obtain ⟨n1, n2, n3, n4⟩ := k7 (by omega)
   rw [Xas hlt]
   exact .inl ⟨_, rfl, i2, by simp only; omega, i4, D, ps, k1, k2, k3, k4, k5, n1, n2, n3, n4⟩) (0, c.b_, c.i_, c.h_, []) ⟨⟨Int.le_refl _, by omega⟩, hc, rfl, fun u hu => by simp at hu, d, [], ⟨rfl, rfl⟩, hd, hp, eS, eP, fun _ => ⟨g, hfr, hr, rfl⟩, fun h => by omega⟩
 obtain ⟨us, b, i, hh⟩ := o
 rw [h, Xab]
 simp only at r1 r2 r3 r4
 exact ⟨us, _, rfl, r1, ⟨by omega, by omega⟩, r3, r4⟩
def Yas : Xar := ⟨false, false, false, ⟨0, 0, [], []⟩, ⟨0, false, false, false⟩, -1, 0, Xvv, Xvv⟩
theorem Yc6 (c : Xa6) (hc : Xik c) : ∃ us c', Xle c = some (us, c') ∧ Xik c' ∧ (2 ≤ us.length ∧ us.length ≤ 14) ∧ (∀ u ∈ us, Yhq u) ∧ ∃ D ps, Ype us Yas D ps ∧ 1 ≤ ps.length ∧ ps.length ≤ 3 := by
 have hm : maxLen = 9223372036854775807 := rfl
 unfold Xle
 have ec : ∃ (co : List Int) (w : Xa6), (bnd (Xbn c 2) fun q2 => sel q2.1 (bnd (Xa1 q2.2 2) fun q3 => some (q3.2.b_, q3.2.i_, q3.2.h_, [1, Xaa .i64 (1 + q3.1)])) (some (q2.2.b_, q2.2.i_, q2.2.h_, [1]))) = some (w.b_, w.i_, w.h_, co) ∧ (co = [1] ∨ co = [1, 1] ∨ co = [1, 2]) ∧ Xik w := by
  obtain ⟨z, w, e, hw⟩ := Xcw c 2 hc
  rw [e, Xab]
  simp only
  cases z with
  | true =>
   obtain ⟨x, w', e', x0, x1, _, hw'⟩ := Xbg w 2 hw
   have x1' := x1 (by omega)
   rw [Xaq, e', Xab, wkA]
   refine ⟨_, w', rfl, ?_, hw'⟩
   obtain rfl | rfl : x = 0 ∨ x = 1 := by omega
   ·
    exact .inr (.inl rfl)
   ·
    exact .inr (.inr rfl)
  | false => exact ⟨_, w, rfl, .inl rfl, hw⟩
 obtain ⟨co, w1, e1, hco, hw1⟩ := ec
 rw [e1, Xab]
 simp only
 have er : ∃ (ro : List Int) (w : Xa6), (bnd (Xbn (⟨w1.b_, w1.i_, w1.h_⟩ : Xa6) 3) fun q5 => sel q5.1 (some (q5.2.b_, q5.2.i_, q5.2.h_, ([1, 1] : List Int))) (some (q5.2.b_, q5.2.i_, q5.2.h_, [1]))) = some (w.b_, w.i_, w.h_, ro) ∧ (ro = [1] ∨ ro = [1, 1]) ∧ Xik w := by
  obtain ⟨z, w, e, hw⟩ := Xcw w1 3 hw1
  have e' : Xbn ⟨w1.b_, w1.i_, w1.h_⟩ 3 = some (z, w) := e
  rw [e', Xab]
  simp only
  cases z with
  | true => exact ⟨_, w, rfl, .inr rfl, hw⟩
  | false => exact ⟨_, w, rfl, .inl rfl, hw⟩
 obtain ⟨ro, w2, e2, hro, hw2⟩ := er
 rw [e2, Xab]
 simp only
 obtain ⟨p, w3, e3, po, hw3⟩ := Xv8 w2 hw2
 have sm : Ymb ⟨3, 3, co, ro⟩ := ⟨rfl, rfl, hco, hro⟩
 obtain ⟨so, _⟩ := Yrz sm
 have h7 := Yaj (k := 7) rfl (Xyb ⟨3, 3, co, ro⟩) (by have := Yry so; omega)
 have h8 := Yaj (k := 8) rfl (Xx2 p) (by rw [Xtk]; omega)
 obtain ⟨x, w4, e4, x0, x1, _, hw4⟩ := Xbg w3 8 hw3
 have x1' := x1 (by omega)
 rw [show (⟨w2.b_, w2.i_, w2.h_⟩ : Xa6) = w2 from rfl, e3, Xab]
 simp only
 rw [Yje _ so, Xab, Xpw 7 _ rfl (Xyb _) (Xtr so), Xab, Yjc p po, Xab, Xpw 8 _ rfl (Xx2 p) (by rw [Xtk]; omega), Xab, e4, Xab]
 simp only
 have l1 := Xbi (Xbc so).1
 have l2 := Xbi (Xbc so).2.1
 simp only at l1 l2
 have d0 := Yso
 have d1 := Ynf so
 have d2 := Yne d1 rfl (by simp) po
 have g1 : Ype [Xwc 7 (Xwe ⟨3, 3, co, ro⟩), Xwc 8 (Ycg p)] Yas ⟨true, true, false, ⟨3, 3, co, ro⟩, p, -1, 0, Xvv, Xvv⟩ [] := ⟨_, _, [], Yxv d0 so, (by have := h7.2.1; omega), ⟨_, _, [], Yxu d1 rfl (by simp) po (by simp only; omega) (by simp only; omega), (by have := h8.2.1; omega), ⟨rfl, rfl⟩, rfl⟩, rfl⟩
 obtain ⟨o, h, r1, r2, r3, r4⟩ := Xth (f := Xgp (p, w3))
  (fun (f, n, b, i, h, us, cc, rr) => (0 ≤ f ∧ f < 8) ∧ (0 ≤ n ∧ n ≤ 3) ∧ Xik ⟨b, i, h⟩ ∧ (2 ≤ us.length ∧ (us.length : Int) ≤ 2 + 4 * n) ∧ (∀ u ∈ us, Yhq u) ∧ cc = co ∧ rr = ro ∧ ∃ D ps, Ype us Yas D ps ∧ Xil D = true ∧ D.HasPar = true ∧ D.Seq = ⟨3, 3, co, ro⟩ ∧ D.Par = p ∧ D.Got = 0 ∧ (D.Frame = -1 ∨ D.Frame = f) ∧ (n = 0 ∨ D.HasRef = true) ∧ (ps.length : Int) = n)
  (fun v => (3 - v.2.1).toNat)
  (fun _ (us, b, i, h) => Xik ⟨b, i, h⟩ ∧ (2 ≤ us.length ∧ us.length ≤ 14) ∧ (∀ u ∈ us, Yhq u) ∧ ∃ D ps, Ype us Yas D ps ∧ 1 ≤ ps.length ∧ ps.length ≤ 3) (by
  intro ⟨f, n, b, i, h, us, cc, rr⟩ ⟨i1, i2, i3, i4, i5, i6, i7, D, ps, k1, k2, k3, k4, k5, k6, k7, k8, k9⟩
  subst i6 i7
  unfold Xgp
  simp only
  obtain ⟨y, v, ey, y0, y1, _, hv⟩ := Xbg _ 3 i3
  have y1' := y1 (by omega)
  rw [ey, Xab]
  simp only
  rw [wkA (e := 1 + y)]
  by_cases hlt : n < 1 + y
  ·
   obtain ⟨vs, v2, e5, hv2, q1, q2, E, qs, z1, z2, z3, z4, z5, z6, z7, z8, z9⟩ := Yad v hv ⟨3, 3, cc, rr⟩ sm p f i1 (n == 0) D k2 k3 k4 k5 k6 k7 (by
    rcases k8 with k8 | k8
    ·
     left; rw [k8]; rfl
    ·
     exact .inr k8)
   rw [Xa9 hlt, e5, Xab]
   simp only
   rw [rqA, rqA, wkA (e := f + 1), wkA (e := n + 1), Xbq (by omega)]
   refine .inr ⟨_, rfl, ⟨by simp only; omega, by simp only; omega, hv2, ?_, ?_, rfl, rfl, E, ps ++ qs, Xvc us vs _ D E ps qs k1 z1, z2, z3, z4, z5, z6, .inr z7, .inr z8, ?_⟩, by simp only; omega, fun _ h => h⟩
   ·
    simp only [List.length_append]; omega
   ·
    intro u hu
    exact (List.mem_append.1 hu).elim (i5 u) (q2 u)
   ·
    simp only [List.length_append]; omega
  ·
   rw [Xas hlt]
   exact .inl ⟨_, rfl, hv, by simp only; omega, i5, D, ps, k1, by omega, by omega⟩) (x, 0, w4.b_, w4.i_, w4.h_, [Xwc 7 (Xwe ⟨3, 3, co, ro⟩), Xwc 8 (Ycg p)], co, ro) ⟨⟨x0, x1'⟩, by omega, hw4, by simp, (fun u hu => by
   rcases List.mem_cons.1 hu with rfl | hu
   ·
    exact h7
   ·
    rw [List.mem_singleton.1 hu]; exact h8), rfl, rfl, _, [], g1, d2, rfl, rfl, rfl, rfl, .inl rfl, .inl rfl, rfl⟩
 obtain ⟨us, b, i, hh⟩ := o
 have h' : loop (Xgp (p, w3)) (x, 0, w4.b_, w4.i_, w4.h_, [strOfNums (7 :: Xpy (Xwe ⟨3, 3, co, ro⟩)), strOfNums (8 :: Xpy (Ycg p))], co, ro) = some (us, b, i, hh) := h
 rw [h', Xab]
 exact ⟨us, _, rfl, r1, r2, r3, r4⟩
theorem Xye (b : List Int) (hb : b.length ≤ 1048576) : ∃ us, Xhk b = some us ∧ (2 ≤ us.length ∧ us.length ≤ 14) ∧ (∀ u ∈ us, Yhq u) ∧ ∃ D ps, Ype us Yas D ps ∧ 1 ≤ ps.length ∧ ps.length ≤ 3 := by
 obtain ⟨u, e, hu⟩ := Yi4 b hb
 obtain ⟨us, c', e2, _, h1, h2, h3⟩ := Yc6 u hu
 refine ⟨us, ?_, h1, h2, h3⟩
 unfold Xhk
 rw [e, Xab, e2, Xab]
theorem Xxx (l : List Pic) (hl : l.length ≤ 1000000000) : Xkw l l = some true := by
 unfold Xkw
 rw [bne_self_eq_false, Xam, Xqm l.length (f := Xgj l l) (by
  intro i hi
  unfold Xgj
  rw [syA, rqA, rqA]
  simp only [beq_self_eq_true, Bool.and_self]
  rw [Xaz (by rfl), wkA]
  rfl) (by unfold Xgj; rw [snA]), Xab]
theorem Xui : Xlj = some Yas := rfl
theorem Ywy {u : ByteArray} (h : Yhq u) : (Xih u).2 = true ∧ (Xih u).1.size ≤ 2800 := by
 obtain ⟨h1, h2, h3⟩ := h
 have hl := Yq0 (Xal u) []
 rw [Xap, List.length_nil] at hl
 unfold Xih
 rw [if_pos ⟨h1, by omega, h3⟩]
 exact ⟨rfl, by rw [strOfNums_size]; omega⟩
theorem Ynp : ∀ (us : List ByteArray) (x : List Int), (∀ u ∈ us, Yhq u) → x.length + 2803 * us.length ≤ 60000 → ∃ y, Yq3 us x = (strOfNums y, true)
 | [], x, _, _ => ⟨x, rfl⟩
 | u :: us, x, h, hx => by
  obtain ⟨e1, e2⟩ := Ywy (h u List.mem_cons_self)
  rw [List.length_cons] at hx
  rw [Yq3, if_pos e1, if_neg (by omega)]
  exact Ynp us _ (fun v hv => h v (List.mem_cons_of_mem _ hv)) (by rw [List.length_append, List.length_append, Xap]; simp only [List.length_cons, List.length_nil]; omega)
theorem Yhm {us : List ByteArray} {s : ByteArray} (hf : Yw7 us = (s, true)) : Xjw s = some us := by
 obtain ⟨e1, e2, e3, hs⟩ := Yuh us s hf
 have h := Zab s hs us e3 us 0 [] [] (-1) (by omega) e2 (by rw [List.drop_zero, e1]) rfl (Xr4 s _ _ _ (by omega))
 have hS : Xpb s = some us := by
  unfold Xpb
  rw [snA]
  exact (Xc3 h).trans rfl
 obtain ⟨r, r1, r2, _⟩ := Ym4 s
 rw [hS] at r2
 rw [r1, ← r2]
theorem FnStreams {p0 : List Int} (h0 : p0.length ≤ maxLen ∧ ∀ y ∈ p0, (Lit.int .u8 y).wf = true) : Xmh p0 = some true := by
 have hm : maxLen = 9223372036854775807 := rfl
 unfold Xmh
 rw [Yp3, Xab]
 by_cases hbig : (p0.length : Int) > 1048576
 ·
  rw [Xa9 hbig]
 rw [Xas hbig]
 obtain ⟨us, eu, ul, uf, D, ps, hg, hps⟩ := Xye p0 (by omega)
 obtain ⟨y, ey⟩ := Ynp us [] uf (by rw [List.length_nil]; omega)
 have hf : Yw7 us = (strOfNums y, true) := by
  unfold Yw7
  rw [if_neg (by omega), ey]
 have eF : Xlk us = some (strOfNums y, true) := by
  rw [Yhw us (fun u hu => by have := (uf u hu).2.1; omega), hf]
 have eA := (Ywg hg (by omega) (by simp [Yas]) (by simp [Yas])).1
 have eD : Xin (strOfNums y) = some (ps, List.replicate us.length 0) := by
  unfold Xin
  rw [Xui, Xab, Yhm hf, Xab, eA, Xab]
 rw [eu, Xab, List.nil_append, Xav (by simp only [List.length_nil]; omega), eF, Xab]
 simp only
 rw [eD, Xab, Xui, Xab, eA, Xab]
 simp only
 rw [Xaq, Xxx ps (by omega), Xab, Xaq, Xxw _ (by rw [List.length_replicate]; omega), Xab, Xaq, List.length_replicate, bne_self_eq_false, Xab, Xam]
 have hl : loop (Xea (ps, List.replicate us.length 0)) 0 = some (.out ()) := by
  have key : ∀ i : Nat, i ≤ us.length → loop (Xea (ps, List.replicate us.length 0)) (i : Int) = some (.out ()) := by
   refine Xc1 _ (Xbx ?_) ?_
   ·
    unfold Xea
    simp only [List.length_replicate]
    rw [snA]
   ·
    intro i hi ih
    refine lgo ?_ ih
    unfold Xea
    simp only [List.length_replicate]
    rw [syA, rqA, rqA, Xb2 _ _ (by rw [List.length_replicate]; omega), List.getElem_replicate, Xaz (by rfl), wkA]
    rfl
  exact key 0 (by omega)
 rw [hl, Xab]
 simp only
 rw [decide_eq_true (by omega)]
 exact Xav (by simp only [List.length_nil]; omega)
end Go.Proofs.YtnhflbeahbcklabGreat.A.Pure
