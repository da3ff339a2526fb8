/- The pure statement of the law FnSplit, part 3: over numbers, texts and lists alone, what the law computes is true. Conditions: the sizes of what a machine holds. -/
import Derived.Test.YtnhflbeahbcklaaGreatPureFnSplitx1
namespace Go.Proofs.YtnhflbeahbcklaaGreat.A.Pure
open Go Go.Proofs Go.Proofs.YtnhflbeahbcklaaGreatAL Go.RowKit
set_option linter.unusedVariables false
set_option linter.unusedSimpArgs false
set_option maxHeartbeats 1000000
def Xij (s : ByteArray) : List Int := (List.range (8 * s.size)).map (Xyi s)
theorem Yu0 : ∀ b : Fin 256, Xyd 8 (b.val : Int) = (List.range 8).map fun k => 48 + ((b.val : Int) / 2 ^ (7 - k)) % 2 := by decide +kernel
theorem Yzo (b : Int) (h : 0 ≤ b ∧ b ≤ 255) : Xyd 8 b = (List.range 8).map fun k => 48 + (b / 2 ^ (7 - k)) % 2 := by
 have := Yu0 ⟨b.toNat, by omega⟩
 simp only at this
 rwa [show ((b.toNat : Nat) : Int) = b by omega] at this
theorem Ysi (s : ByteArray) (i : Nat) : Xyi s i = 48 ∨ Xyi s i = 49 := by unfold Xyi; omega
theorem Yq6 (s : ByteArray) : Xek (Xij s) := fun x hx => by
 obtain ⟨i, _, rfl⟩ := List.mem_map.1 hx
 exact Ysi s i
theorem Xpt (s : ByteArray) : (Xij s).length = 8 * s.size := by simp [Xij]
theorem Xwi (s : ByteArray) {i : Nat} (h : i < 8 * s.size) : (Xij s).getD i 0 = Xyi s i := Xi9 _ h
theorem Ypb (f : Nat → Int) (n : Nat) : (List.range (8 * n)).map f ++ (List.range 8).map (fun k => f (8 * n + k)) = (List.range (8 * (n + 1))).map f := by
 rw [show 8 * (n + 1) = 8 * n + 8 by omega, List.range_add, List.map_append, List.map_map]
 rfl
theorem Xwk (s : ByteArray) (hs : s.size ≤ 50001) : loop (Xgl s) (0, []) = some (Xij s) := by
 have hm : maxLen = 9223372036854775807 := rfl
 obtain ⟨o, e, ho⟩ := Xfb (f := Xgl s) s.size (fun i l => l = (List.range (8 * i)).map (Xyi s)) (by
  intro i l hi g
  subst g
  have hb := Xoy s i
  unfold Xgl
  simp only
  rw [syA, rqA, wkA (e := Xlf s i), show (8 : Int) = ((8 : Nat) : Int) from rfl, Xmk _ 8 hb.1 (by omega) (by omega), Xab, Yk1 _ (Xka (Xwn _ _)), Xay (by simp only [Xcp, List.length_map, List.length_range]; omega), wkA (e := (i : Int) + 1)]
  refine ⟨_, rfl, ?_⟩
  rw [← Ypb, Yzo _ hb]
  congr 1
  refine List.map_congr_left fun k hk => ?_
  have hk8 := List.mem_range.1 hk
  unfold Xyi
  rw [show (8 * i + k) / 8 = i by omega, show (8 * i + k) % 8 = k by omega]) (by intro l; unfold Xgl; rw [Xas (by simp)]) [] rfl
 rw [e, ho]; rfl
theorem Yq5 : ∀ b : Fin 256, ∀ k : Fin 8, Xaa .u8 (48 + (IntKind.wrap .u8 (BitVec.ofInt (IntKind.bits .u8) ((b.val : Int) / 2 ^ min (k.val) (IntKind.bits .u8)) &&& BitVec.ofInt (IntKind.bits .u8) 1).toNat)) = 48 + ((b.val : Int) / 2 ^ k.val) % 2 := by decide +kernel
theorem Yya (b : Int) (h : 0 ≤ b ∧ b ≤ 255) (k : Nat) (hk : k < 8) : Xaa .u8 (48 + (IntKind.wrap .u8 (BitVec.ofInt (IntKind.bits .u8) (b / 2 ^ min k (IntKind.bits .u8)) &&& BitVec.ofInt (IntKind.bits .u8) 1).toNat)) = 48 + (b / 2 ^ k) % 2 := by
 have := Yq5 ⟨b.toNat, by omega⟩ ⟨k, hk⟩
 simp only at this
 rwa [show ((b.toNat : Nat) : Int) = b by omega] at this
theorem Xoz (s : ByteArray) (hs : s.size ≤ 50001) : loop (Xel s) (0, []) = some (Xij s) := by
 have hm : maxLen = 9223372036854775807 := rfl
 have := Yur (f := Xel s) (8 * s.size) (Xyi s) [] (by
  intro i hi
  have hb := Xoy s ((i / 8 : Nat) : Int)
  unfold Xel
  simp only
  rw [wkA (e := 8 * (s.size : Int)), syA, rqA, Xbl (by omega), wkA (e := (i : Int) / 8), rqA, rqA, Xbm (by omega), wkA (e := 7 - (i : Int) % 8), rqA, show (7 - (i : Int) % 8).toNat = 7 - i % 8 by omega, show (i : Int) / 8 = ((i / 8 : Nat) : Int) by omega, Yya _ hb (7 - i % 8) (by omega), Xay (by simp only [List.length_append, List.length_nil, List.length_map, List.length_range, List.length_singleton]; omega), wkA (e := (i : Int) + 1)]
  rfl) (by unfold Xel; rw [wkA (e := 8 * (s.size : Int)), Xas (by simp)])
 rw [List.nil_append] at this
 exact this
theorem Yp2 {V : List Int} (hV : Xek V) : ∀ n : Nat, n ≤ V.length → (∃ j, j < n ∧ V.getD j 0 = 49) → ∃ k, k + 1 ≤ n ∧ V.getD k 0 = 49 ∧ ∀ j, k + 1 ≤ j → j < n → V.getD j 0 = 48
 | 0, _, ⟨j, h, _⟩ => by omega
 | n + 1, hn, ⟨j, hj, h⟩ => by
  rcases hV (V.getD n 0) (by rw [Xb3 V n (by omega)]; exact List.getElem_mem _) with e | e
  ·
   have hjn : j ≠ n := fun h2 => by rw [h2, e] at h; omega
   obtain ⟨k, h1, h2, h3⟩ := Yp2 hV n (by omega) ⟨j, by omega, h⟩
   refine ⟨k, by omega, h2, fun i h4 h5 => ?_⟩
   by_cases hi : i = n
   ·
    rw [hi]; exact e
   ·
    exact h3 i h4 (by omega)
  ·
   exact ⟨n, by omega, e, fun i h1 h2 => by omega⟩
theorem Yuv : ∀ b : Fin 256, b.val ≠ 0 → ∃ k : Fin 8, 48 + ((b.val : Int) / 2 ^ (7 - k.val)) % 2 = 49 := by decide +kernel
theorem Yjk (s : ByteArray) (hs : s.size ≤ 1048576) : (∃ L : List Int, Xek L ∧ L.length ≤ 400000 ∧ Xeq s = some (strOfNums L, true) ∧ Xns s = some (strOfNums L, true)) ∨ (Xeq s = some (⟨#[]⟩, false) ∧ Xns s = some (⟨#[]⟩, false)) := by
 unfold Xeq Xns
 rw [wkA (e := 8 * (s.size : Int))]
 by_cases h0 : s.size = 0
 ·
  rw [h0]
  exact .inr ⟨rfl, rfl⟩
 rw [Xa6 (b := (8 * (s.size : Int)) == 0) (by rw [beq_eq_false_iff_ne]; omega), Xa6 (b := (s.size : Int) == 0) (by rw [beq_eq_false_iff_ne]; omega), wkA (e := (s.size : Int) - 1), Xay (show 0 ≤ (s.size : Int) - 1 ∧ (s.size : Int) - 1 < s.size by omega)]
 by_cases hbig : s.size > 50001
 ·
  rw [syA, decide_eq_true (by omega), Xab, Xap]
  refine .inr ⟨?_, rfl⟩
  cases (Xlf s ((s.size : Int) - 1) == 0) <;> rfl
 rw [snA, Xay (show 0 ≤ (s.size : Int) - 1 ∧ (s.size : Int) - 1 < s.size by omega), decide_eq_false (by omega)]
 cases hz : (Xlf s ((s.size : Int) - 1) == 0) with
 | true => exact .inr ⟨rfl, rfl⟩
 | false =>
  rw [Xal, Xab, Xab, Xal, Xal, Xay (show 0 ≤ (0 : Int) ∧ (0 : Int) ≤ 8 * (s.size : Int) ∧ 8 * (s.size : Int) * 1 ≤ 281474976710656 by omega), show (List.replicate (0 : Int).toNat (0 : Int)) = [] from rfl, Xoz s (by omega), Xwk s (by omega), Xab, Xab]
  have hl := Xpt s
  have hV := Yq6 s
  obtain ⟨k, k1, k2, k3⟩ := Yp2 hV (8 * s.size) (by omega) (by
   have hb := Xoy s ((s.size : Int) - 1)
   rw [beq_eq_false_iff_ne] at hz
   obtain ⟨k, hk⟩ := Yuv ⟨(Xlf s ((s.size : Int) - 1)).toNat, by omega⟩ (by simp only; omega)
   have hk8 := k.isLt
   simp only at hk
   rw [show (((Xlf s ((s.size : Int) - 1)).toNat : Nat) : Int) = Xlf s ((s.size : Int) - 1) by omega] at hk
   refine ⟨8 * (s.size - 1) + k.val, by omega, ?_⟩
   rw [Xwi s (by omega)]
   unfold Xyi
   rw [show (8 * (s.size - 1) + k.val) / 8 = s.size - 1 by omega, show (8 * (s.size - 1) + k.val) % 8 = k.val by omega, show (((s.size - 1 : Nat)) : Int) = (s.size : Int) - 1 by omega]
   exact hk)
  have lI : loop (Xb7 (Xij s)) (8 * (s.size : Int)) = some ((k + 1 : Nat) : Int) := by
   have key : ∀ m : Nat, k + 1 + m ≤ 8 * s.size → loop (Xb7 (Xij s)) ((k + 1 + m : Nat) : Int) = some ((k + 1 : Nat) : Int) := by
    intro m
    induction m with
    | zero =>
     intro _
     refine Xce ?_
     unfold Xb7
     rw [wkA, rqA, rqA, show (((k + 1 + 0 : Nat) : Int) - 1).toNat = k by omega, k2]
     rfl
    | succ m ih =>
     intro hm
     refine lgo ?_ (ih (by omega))
     unfold Xb7
     rw [wkA, rqA, rqA, show (((k + 1 + (m + 1) : Nat) : Int) - 1).toNat = k + 1 + m by omega, k3 _ (by omega) (by omega), show ((k + 1 + (m + 1) : Nat) : Int) - 1 = ((k + 1 + m : Nat) : Int) by omega]
     rfl
   have := key (8 * s.size - (k + 1)) (by omega)
   rwa [show ((k + 1 + (8 * s.size - (k + 1)) : Nat) : Int) = 8 * (s.size : Int) by omega] at this
  have lS : loop (Xgm (Xij s)) ((Xij s).length : Int) = some ((k + 1 : Nat) : Int) := by
   have key : ∀ m : Nat, k + 1 + m ≤ 8 * s.size → loop (Xgm (Xij s)) ((k + 1 + m : Nat) : Int) = some ((k + 1 : Nat) : Int) := by
    intro m
    induction m with
    | zero =>
     intro _
     refine Xce ?_
     unfold Xgm
     rw [syA, wkA, rqA, rqA, show (((k + 1 + 0 : Nat) : Int) - 1).toNat = k by omega, k2]
     rfl
    | succ m ih =>
     intro hm
     refine lgo ?_ (ih (by omega))
     unfold Xgm
     rw [syA, wkA, rqA, rqA, show (((k + 1 + (m + 1) : Nat) : Int) - 1).toNat = k + 1 + m by omega, k3 _ (by omega) (by omega), show ((k + 1 + (m + 1) : Nat) : Int) - 1 = ((k + 1 + m : Nat) : Int) by omega]
     rfl
   have := key (8 * s.size - (k + 1)) (by omega)
   rwa [show ((k + 1 + (8 * s.size - (k + 1)) : Nat) : Int) = ((Xij s).length : Int) by omega] at this
  rw [lI, lS, Xab, wkA (e := ((k + 1 : Nat) : Int) - 1), show ((k + 1 : Nat) : Int) - 1 = (k : Int) by omega]
  by_cases hk : (k : Int) > 400000
  ·
   rw [Xbk hk]
   exact .inr ⟨rfl, rfl⟩
  ·
   rw [Xas hk, rqA, rqA]
   exact .inl ⟨(Xij s).take k, fun x hx => hV x (List.mem_of_mem_take hx), by rw [List.length_take]; omega, rfl, rfl⟩
theorem Xvb (s : ByteArray) (hs : s.size ≤ 1048576) : (∃ (kd : Int) (L : List Int), Xmw kd = true ∧ Xek L ∧ L.length ≤ 400000 ∧ Xf8 s = some (kd, strOfNums L, true) ∧ Xok s = some (kd, strOfNums L, true)) ∨ (Xf8 s = some (0, ⟨#[]⟩, false) ∧ Xok s = some (0, ⟨#[]⟩, false)) := by
 unfold Xf8 Xok
 by_cases h0 : s.size = 0
 ·
  have hd : s = ⟨#[]⟩ := by
   have := Xtr s
   have hn : Xbu s = [] := List.length_eq_zero_iff.1 (by rw [Xby]; exact h0)
   rw [hn] at this
   exact this.symm
  subst hd
  have e0 : ((⟨#[]⟩ : ByteArray).toList == (⟨#[]⟩ : ByteArray).toList) = true := beq_self_eq_true _
  have e1 : ((⟨#[]⟩ : ByteArray).size : Int) < 1 := by decide
  rw [e0, Xap, Xbk e1]
  exact .inr ⟨rfl, rfl⟩
 have hne : (s.toList == (⟨#[]⟩ : ByteArray).toList) = false := by
  rw [beq_eq_false_iff_ne]
  intro h
  exact h0 (by rw [Xz3.1 h]; rfl)
 have hb := Xoy s 0
 have r0 : ∀ {β : Type} (k : Option β), req (0 ≤ (0 : Int) ∧ (0 : Int) < (s.size : Int)) k = k := fun k => rqA
 have r1 : ∀ {β : Type} (k : Option β), req (0 ≤ (1 : Int) ∧ (1 : Int) ≤ (s.size : Int) ∧ (s.size : Int) ≤ (s.size : Int)) k = k := fun k => rqA
 rw [hne, Xal, snA]
 simp only [r0, r1, wkA (e := Xlf s 0), Xun, Xsz, Xab]
 cases hk : Xmw (Xlf s 0) with
 | false => exact .inr ⟨rfl, rfl⟩
 | true =>
  rw [Bool.not_true, Xal, Xal]
  rcases Yjk (s.extract (1 : Int).toNat (s.size : Int).toNat) (by rw [ByteArray.size_extract]; omega) with ⟨L, l1, l2, e1, e2⟩ | ⟨e1, e2⟩
  ·
   rw [e1, e2, Xab]
   exact .inl ⟨_, L, hk, l1, l2, rfl, rfl⟩
  ·
   rw [e1, e2, Xab]
   exact .inr ⟨rfl, rfl⟩
theorem Xqx {L : List Int} (hb : Xek L) (hl : L.length ≤ 400000) (i : Nat) (hi : i ≤ L.length) (w : Nat) (hw : w ≤ 41) :
  (∃ v : Int, i + w ≤ L.length ∧ v = Xg7 ((L.drop i).take w) ∧ (0 ≤ v ∧ v < 2 ^ w) ∧ Xcx (strOfNums L) (i : Int) (w : Int) = some (v, ((i + w : Nat) : Int), true) ∧ Xaz ⟨strOfNums L, (i : Int), false⟩ (w : Int) = some (v, ⟨strOfNums L, ((i + w : Nat) : Int), false⟩)) ∨
  (L.length < i + w ∧ Xcx (strOfNums L) (i : Int) (w : Int) = some (0, 0, false) ∧ Xaz ⟨strOfNums L, (i : Int), false⟩ (w : Int) = some (0, ⟨strOfNums L, (i : Int), true⟩)) := by
 have es := Xv5 hb hl hi hw
 by_cases h : i + w ≤ L.length
 ·
  rw [if_pos h] at es
  have hr := Xi5 (l := (L.drop i).take w) (fun x hx => hb x (List.mem_of_mem_drop (List.mem_of_mem_take hx)))
  have hlen : ((L.drop i).take w).length = w := by rw [List.length_take, List.length_drop]; omega
  rw [hlen] at hr
  exact .inl ⟨_, h, rfl, hr, es, Yen hb hl h hw⟩
 ·
  rw [if_neg h] at es
  refine .inr ⟨by omega, es, ?_⟩
  unfold Xaz
  simp only
  rw [Xal, strOfNums_size, wkA, Xab, syA]
theorem Ydl (s : ByteArray) (a w : Int) : Xaz ⟨s, a, true⟩ w = some (0, ⟨s, a, true⟩) := rfl
theorem Xxl (s : ByteArray) (a : Int) : Xcb ⟨s, a, true⟩ = some ([], ⟨s, a, true⟩) := by
 unfold Xcb
 rw [Yqx, Xab]
 have h : Xax (0, ⟨s, a, true⟩) (0, s, a, true, []) = some (.done ([], s, a, true)) := rfl
 simp only
 rw [snA, Xab, Xcf h, Xab]
theorem Yne {L : List Int} (hb : Xek L) (hl : L.length ≤ 400000) (q1 : Int × Int × Bool) (q2 : Int × Xj9) (N : Nat) (hN : N ≤ 4) (h1 : q1.1 = (N : Int)) (h2 : q2.1 = (N : Int)) : ∀ n k : Nat, k + n = N → ∀ (i : Nat) (l : List Int), i ≤ L.length → l.length = k →
  (∃ (l' : List Int) (j : Nat), loop (Xb0 (strOfNums L) q1) ((i : Int), (k : Int), l) = some (.out ((j : Int), l')) ∧ loop (Xax q2) ((k : Int), strOfNums L, (i : Int), false, l) = some (l', strOfNums L, (j : Int), false) ∧ l'.length ≤ 4 ∧ j ≤ L.length) ∨
  (loop (Xb0 (strOfNums L) q1) ((i : Int), (k : Int), l) = some (.ret ([], 0, false)) ∧ ∃ (l' : List Int) (a : Int), loop (Xax q2) ((k : Int), strOfNums L, (i : Int), false, l) = some (l', strOfNums L, a, true) ∧ l'.length ≤ 4)
 | 0, k, hk, i, l, hi, hll => .inl ⟨l, i, Xce (by unfold Xb0; simp only; rw [snA]), Xce (by unfold Xax; simp only; rw [snA, Xab, Xal]), by omega, hi⟩
 | n + 1, k, hk, i, l, hi, hll => by
  have hm : maxLen = 9223372036854775807 := rfl
  rcases Xrl hb hl i hi with ⟨v, j, e1, e2, v1, v2, v3⟩ | ⟨e1, a, e2⟩
  ·
   have gI : Xax q2 ((k : Int), strOfNums L, (i : Int), false, l) = some (.go (((k + 1 : Nat) : Int), strOfNums L, (j : Int), false, l ++ [(v : Int)])) := by
    unfold Xax
    simp only
    rw [syA, Bool.not_false, Xab, Xap, e2, Xab]
    simp only
    rw [Xay (by simp only [List.length_singleton]; omega), wkA]
    rfl
   have gS : Xb0 (strOfNums L) q1 ((i : Int), (k : Int), l) = some (.go ((j : Int), ((k + 1 : Nat) : Int), l ++ [(v : Int)])) := by
    unfold Xb0
    simp only
    rw [syA, e1, Xab]
    simp only
    rw [Bool.not_true, Xal, Xay (by simp only [List.length_singleton]; omega), wkA]
    rfl
   rcases Yne hb hl q1 q2 N hN h1 h2 n (k + 1) (by omega) j (l ++ [(v : Int)]) v3 (by rw [List.length_append, List.length_singleton]; omega) with ⟨l', j', r1, r2, r3, r4⟩ | ⟨r1, l', a, r2, r3⟩
   ·
    exact .inl ⟨l', j', lgo gS r1, lgo gI r2, r3, r4⟩
   ·
    exact .inr ⟨lgo gS r1, l', a, lgo gI r2, r3⟩
  ·
   have gI : Xax q2 ((k : Int), strOfNums L, (i : Int), false, l) = some (.go (((k + 1 : Nat) : Int), strOfNums L, a, true, l ++ [0])) := by
    unfold Xax
    simp only
    rw [syA, Bool.not_false, Xab, Xap, e2, Xab]
    simp only
    rw [Xay (by simp only [List.length_singleton]; omega), wkA]
    rfl
   have dI : Xax q2 (((k + 1 : Nat) : Int), strOfNums L, a, true, l ++ [0]) = some (.done (l ++ [0], strOfNums L, a, true)) := by
    unfold Xax
    simp only
    cases decide (((k + 1 : Nat) : Int) < q2.1) <;> rfl
   refine .inr ⟨Xce ?_, l ++ [0], a, lgo gI (Xce dI), by rw [List.length_append, List.length_singleton]; omega⟩
   unfold Xb0
   simp only
   rw [syA, e1, Xab]
   rfl
theorem Ynd {L : List Int} (hb : Xek L) (hl : L.length ≤ 400000) (i : Nat) (hi : i ≤ L.length) :
  (∃ (l : List Int) (j : Nat), Xgo (strOfNums L) (i : Int) = some (l, (j : Int), true) ∧ Xcb ⟨strOfNums L, (i : Int), false⟩ = some (l, ⟨strOfNums L, (j : Int), false⟩) ∧ l.length ≤ 4 ∧ j ≤ L.length) ∨
  (Xgo (strOfNums L) (i : Int) = some ([], 0, false) ∧ ∃ (l : List Int) (a : Int), Xcb ⟨strOfNums L, (i : Int), false⟩ = some (l, ⟨strOfNums L, a, true⟩) ∧ l.length ≤ 4) := by
 unfold Xgo Xcb
 rcases Xrl hb hl i hi with ⟨v, j, e1, e2, v1, v2, v3⟩ | ⟨e1, a, e2⟩
 ·
  rw [e1, Xab, e2, Xab]
  simp only
  rw [Xap, Xab]
  by_cases hv : (v : Int) > 4
  ·
   rw [Xbk hv, Xbk hv, Xab]
   have h : Xax ((v : Int), ⟨strOfNums L, (j : Int), false⟩) (0, strOfNums L, (j : Int), true, []) = some (.done ([], strOfNums L, (j : Int), true)) := by
    unfold Xax
    simp only
    rw [syA]
    rfl
   rw [Xcf h, Xab]
   exact .inr ⟨rfl, [], j, rfl, by simp⟩
  ·
   rw [Xas hv, Xas hv, Xab]
   rcases Yne hb hl ((v : Int), (j : Int), true) ((v : Int), ⟨strOfNums L, (j : Int), false⟩) v (by omega) rfl rfl v 0 (by omega) j [] v3 rfl with ⟨l', j', r1, r2, r3, r4⟩ | ⟨r1, l', a, r2, r3⟩
   ·
    have r1' : loop (Xb0 (strOfNums L) ((v : Int), (j : Int), true)) ((j : Int), 0, []) = _ := r1
    have r2' : loop (Xax ((v : Int), ⟨strOfNums L, (j : Int), false⟩)) (0, strOfNums L, (j : Int), false, []) = _ := r2
    rw [r1', r2', Xab, Xab]
    exact .inl ⟨l', j', rfl, rfl, r3, r4⟩
   ·
    have r1' : loop (Xb0 (strOfNums L) ((v : Int), (j : Int), true)) ((j : Int), 0, []) = _ := r1
    have r2' : loop (Xax ((v : Int), ⟨strOfNums L, (j : Int), false⟩)) (0, strOfNums L, (j : Int), false, []) = _ := r2
    rw [r1', r2', Xab, Xab]
    exact .inr ⟨rfl, l', a, rfl, r3⟩
 ·
  rw [e1, Xab, e2, Xab]
  simp only
  rw [Xal, Xab, Xap, snA, Xab]
  have h : Xax (0, ⟨strOfNums L, a, true⟩) (0, strOfNums L, a, true, []) = some (.done ([], strOfNums L, a, true)) := rfl
  rw [Xcf h, Xab]
  exact .inr ⟨rfl, [], a, rfl, by simp⟩
theorem Xoc {L : List Int} (hb : Xek L) (hl : L.length ≤ 400000) (i : Nat) (hi : i ≤ L.length) : Xe4 (strOfNums L) (i : Int) = some ⟨strOfNums L, (i : Int), false⟩ := by
 unfold Xe4
 rw [Ykh L hb hl, Xab, Xap, Xaj, Xab, strOfNums_size, decide_eq_true (by omega), Xab]
 rfl
theorem Xr4 {L : List Int} (hb : Xek L) (hl : L.length ≤ 400000) (i : Nat) (hi : i ≤ L.length) :
  (∃ (q : Seq) (j : Nat), Xft (strOfNums L) (i : Int) = some (q, (j : Int), true) ∧ Xdi (strOfNums L) (i : Int) = some (q, (j : Int), true) ∧ Xec q = true ∧ q.Cols.length ≤ 4 ∧ q.Rows.length ≤ 4 ∧ j ≤ L.length) ∨
  (Xft (strOfNums L) (i : Int) = some (⟨0, 0, [], []⟩, 0, false) ∧ Xdi (strOfNums L) (i : Int) = some (⟨0, 0, [], []⟩, 0, false)) := by
 have hm : maxLen = 9223372036854775807 := rfl
 unfold Xft Xdi
 rw [Xoc hb hl i hi, Xab]
 rcases Xrl hb hl i hi with ⟨v, j, e1, e2, v1, v2, v3⟩ | ⟨e1, a, e2⟩
 ·
  rw [e1, Xab, e2, Xab]
  simp only
  rw [Bool.not_true, Xal]
  rcases Xqx hb hl j v3 4 (by omega) with ⟨w, w1, _, w2, f1, f2⟩ | ⟨_, f1, f2⟩
  ·
   have f1' : Xcx (strOfNums L) (j : Int) 4 = some (w, ((j + 4 : Nat) : Int), true) := f1
   have f2' : Xaz ⟨strOfNums L, (j : Int), false⟩ 4 = some (w, ⟨strOfNums L, ((j + 4 : Nat) : Int), false⟩) := f2
   rw [f1', Xab, f2', Xab]
   simp only
   rw [Bool.not_true, Xal]
   rcases Ynd hb hl (j + 4) w1 with ⟨l, j2, g1, g2, g3, g4⟩ | ⟨g1, l, a, g2, g3⟩
   ·
    rw [g1, Xab, g2, Xab]
    simp only
    rw [Bool.not_true, Xal]
    rcases Ynd hb hl j2 g4 with ⟨m, j3, k1, k2, k3, k4⟩ | ⟨k1, m, a, k2, k3⟩
    ·
     rw [k1, Xab, k2, Xab]
     simp only
     rw [Xap, Xal, Xic, Xab, Xew _ (by simp only; omega) (by simp only; omega), Xab, Xab, Xab]
     cases hq : Xec ⟨(v : Int), w, l, m⟩ with
     | true => exact .inl ⟨_, j3, rfl, rfl, hq, g3, k3, k4⟩
     | false => exact .inr ⟨rfl, rfl⟩
    ·
     rw [k1, Xab, k2, Xab]
     exact .inr ⟨rfl, rfl⟩
   ·
    rw [g1, Xab, g2, Xab]
    simp only
    rw [Xxl, Xab]
    exact .inr ⟨rfl, rfl⟩
  ·
   have f1' : Xcx (strOfNums L) (j : Int) 4 = some (0, 0, false) := f1
   have f2' : Xaz ⟨strOfNums L, (j : Int), false⟩ 4 = some (0, ⟨strOfNums L, (j : Int), true⟩) := f2
   rw [f1', Xab, f2', Xab]
   simp only
   rw [Xxl, Xab]
   simp only
   rw [Xxl, Xab]
   exact .inr ⟨rfl, rfl⟩
 ·
  rw [e1, Xab, e2, Xab]
  simp only
  rw [Ydl, Xab]
  simp only
  rw [Xxl, Xab]
  simp only
  rw [Xxl, Xab]
  exact .inr ⟨rfl, rfl⟩
theorem Yxc {L : List Int} (hb : Xek L) {j : Nat} (h : j + 1 ≤ L.length) : Xg7 ((L.drop j).take 1) = L.getD j 0 - 48 := by
 have : Xg7 ((L.drop j).take 1) = 2 * Xg7 ((L.drop j).take 0) + L.getD j 0 - 48 := Xro (L := L) (i := j) (k := 0) (by omega)
 rw [this, show Xg7 ((L.drop j).take 0) = 0 from rfl]; omega
theorem Xr3 {L : List Int} (hb : Xek L) (hl : L.length ≤ 400000) (i : Nat) (hi : i ≤ L.length) :
  (∃ (p : Par) (j : Nat), Xfs (strOfNums L) (i : Int) = some (p, (j : Int), true) ∧ Xdh (strOfNums L) (i : Int) = some (p, (j : Int), true) ∧ Xj8 p = true ∧ j ≤ L.length) ∨
  (Xfs (strOfNums L) (i : Int) = some (⟨0, false, false, false⟩, 0, false) ∧ Xdh (strOfNums L) (i : Int) = some (⟨0, false, false, false⟩, 0, false)) := by
 unfold Xfs Xdh
 rw [Xoc hb hl i hi, Xab]
 rcases Xqx hb hl i hi 6 (by omega) with ⟨w, w1, _, w2, f1, f2⟩ | ⟨_, f1, f2⟩
 ·
  have f1' : Xcx (strOfNums L) (i : Int) 6 = some (w, ((i + 6 : Nat) : Int), true) := f1
  have f2' : Xaz ⟨strOfNums L, (i : Int), false⟩ 6 = some (w, ⟨strOfNums L, ((i + 6 : Nat) : Int), false⟩) := f2
  rw [f1', Xab, f2', Xab]
  simp only
  rw [Xap, strOfNums_size, wkA (e := (L.length : Int) - ((i + 6 : Nat) : Int))]
  by_cases h3 : i + 9 ≤ L.length
  ·
   have bit : ∀ j : Nat, j + 1 ≤ L.length → Xaz ⟨strOfNums L, (j : Int), false⟩ 1 = some (L.getD j 0 - 48, ⟨strOfNums L, ((j + 1 : Nat) : Int), false⟩) ∧ ((L.getD j 0 - 48 == 1) = (Xlf (strOfNums L) (j : Int) == 49)) := fun j hj => by
    rcases Xqx hb hl j (by omega) 1 (by omega) with ⟨u, _, u1, _, _, g2⟩ | ⟨u1, _⟩
    ·
     rw [Yxc hb hj] at u1
     rw [u1] at g2
     refine ⟨g2, ?_⟩
     obtain ⟨b1, b2⟩ := Xz9 hb (i := j) (by omega)
     rw [b1]
     rcases b2 with b2 | b2 <;> rw [b2] <;> rfl
    ·
     omega
   obtain ⟨a1, a2⟩ := bit (i + 6) (by omega)
   obtain ⟨b1, b2⟩ := bit (i + 6 + 1) (by omega)
   obtain ⟨c1, c2⟩ := bit (i + 6 + 1 + 1) (by omega)
   rw [decide_eq_false (by omega), Xab, Xal, rqA, wkA (e := ((i + 6 : Nat) : Int) + 1), rqA, wkA (e := ((i + 6 : Nat) : Int) + 2), rqA, wkA (e := ((i + 6 : Nat) : Int) + 3), a1, Xab]
   simp only
   rw [b1, Xab]
   simp only
   rw [c1, Xab]
   simp only
   rw [Xal, a2, b2, c2, show ((i + 6 : Nat) : Int) + 1 = ((i + 6 + 1 : Nat) : Int) by omega, show ((i + 6 : Nat) : Int) + 2 = ((i + 6 + 1 + 1 : Nat) : Int) by omega, Xnt, Xh1, Xab, Xab, Xab]
   cases hp : Xj8 ⟨w, Xlf (strOfNums L) ((i + 6 : Nat) : Int) == 49, Xlf (strOfNums L) ((i + 6 + 1 : Nat) : Int) == 49, Xlf (strOfNums L) ((i + 6 + 1 + 1 : Nat) : Int) == 49⟩ with
   | true => exact .inl ⟨_, i + 9, (by rw [Bool.not_true, Xal]; try rfl), (by rw [Bool.not_true, Xal]; try rfl), hp, h3⟩
   | false => exact .inr ⟨rfl, rfl⟩
  ·
   rw [decide_eq_true (by omega), Xab, Xap]
   refine .inr ⟨rfl, ?_⟩
   have three : ∀ j : Nat, j ≤ L.length → L.length < j + 3 → ∃ (a b c : Int) (e f g : Xj9), Xaz ⟨strOfNums L, (j : Int), false⟩ 1 = some (a, e) ∧ Xaz e 1 = some (b, f) ∧ Xaz f 1 = some (c, g) ∧ g.bad_ = true := fun j h1 h2 => by
    rcases Xqx hb hl j h1 1 (by omega) with ⟨u, k1, _, _, _, g2⟩ | ⟨_, _, g2⟩
    ·
     rcases Xqx hb hl (j + 1) k1 1 (by omega) with ⟨u', k2, _, _, _, g3⟩ | ⟨_, _, g3⟩
     ·
      rcases Xqx hb hl (j + 1 + 1) k2 1 (by omega) with ⟨u'', k3, _, _, _, g4⟩ | ⟨_, _, g4⟩
      ·
       omega
      ·
       exact ⟨_, _, _, _, _, _, g2, g3, g4, rfl⟩
     ·
      exact ⟨_, _, _, _, _, _, g2, g3, Ydl _ _ _, rfl⟩
    ·
     exact ⟨_, _, _, _, _, _, g2, Ydl _ _ _, Ydl _ _ _, rfl⟩
   obtain ⟨a, b, c, e, f, g, r1, r2, r3, r4⟩ := three (i + 6) w1 (by omega)
   rw [r1, Xab]
   simp only
   rw [r2, Xab]
   simp only
   rw [r3, Xab]
   simp only
   rw [r4, Xap, Xab, Xap]
 ·
  have f1' : Xcx (strOfNums L) (i : Int) 6 = some (0, 0, false) := f1
  have f2' : Xaz ⟨strOfNums L, (i : Int), false⟩ 6 = some (0, ⟨strOfNums L, (i : Int), true⟩) := f2
  rw [f1', Xab, f2', Xab]
  exact .inr ⟨rfl, rfl⟩
theorem Xgq (b : Int) (h : 3 ≤ b ∧ b ≤ 8) : 0 ≤ Xaa .u64 b ∧ Xaa .i64 (1 * 2 ^ min (Xaa .u64 b).toNat (IntKind.bits .i64)) = 2 ^ b.toNat ∧ Xaa .i64 (1 * 2 ^ min b.toNat (IntKind.bits .i64)) = 2 ^ b.toNat ∧ (2 : Int) ^ b.toNat ≤ 256 ∧ 8 ≤ (2 : Int) ^ b.toNat := by
 obtain h | h | h | h | h | h : b = 3 ∨ b = 4 ∨ b = 5 ∨ b = 6 ∨ b = 7 ∨ b = 8 := by omega
 all_goals (subst h; decide +kernel)
def Xlh (q : Seq) (p : Par) (h : Xow) : Bool := Xec q && (Xj8 p && (decide (0 ≤ h.Tile ∧ h.Tile < Xbh q) && (decide (0 ≤ h.Frame ∧ h.Frame < 2 ^ q.Bits.toNat) && decide (0 ≤ h.Qp ∧ h.Qp ≤ 40))))
theorem Xd0 {q : Seq} (h : Xec q = true) : 0 ≤ Xbh q ∧ Xbh q ≤ 1000000 := by
 obtain ⟨h1, h2, _⟩ := Xa5 h
 unfold Xbh
 rw [if_pos h]
 have a := Xbc h1
 have b := Xbc h2
 have : (q.Cols.length : Int) * q.Rows.length ≤ 4 * 4 := Int.mul_le_mul (by omega) (by omega) (by omega) (by omega)
 exact ⟨Int.mul_nonneg (by omega) (by omega), by omega⟩
theorem Xue (q : Seq) (p : Par) (h : Xow) (h1 : q.Cols.length ≤ maxLen) (h2 : q.Rows.length ≤ maxLen) : Xn5 q p h = some (Xlh q p h) := by
 unfold Xn5 Xlh
 rw [Xew q h1 h2, Xab]
 cases hs : Xec q with
 | false => rfl
 | true =>
  rw [Xap, Xh1, Xab, Bool.true_and]
  cases hp : Xj8 p with
  | false => rfl
  | true =>
   obtain ⟨_, _, b1, b2⟩ := Xa5 hs
   obtain ⟨s1, s2, s3, s4, s5⟩ := Xgq q.Bits ⟨b1, b2⟩
   have ht := Xd0 hs
   rw [Xap, Xhd q h1 h2, Xab, Xaj, Xab, wkA (e := Xbh q - 1), Bool.true_and, rqA, s3, wkA (e := (2 : Int) ^ q.Bits.toNat - 1), Xaj, Xab, Xaj, Xab]
   have e1 : decide (0 ≤ h.Tile ∧ h.Tile ≤ Xbh q - 1) = decide (0 ≤ h.Tile ∧ h.Tile < Xbh q) := by rw [decide_eq_decide]; omega
   have e2 : decide (0 ≤ h.Frame ∧ h.Frame ≤ 2 ^ q.Bits.toNat - 1) = decide (0 ≤ h.Frame ∧ h.Frame < 2 ^ q.Bits.toNat) := by rw [decide_eq_decide]; omega
   rw [e1, e2, Xdx, Xdx, Xab]
theorem Xuv (q : Seq) (p : Par) (h : Xow) : Xlv q p h = some (Xlh q p h) := by
 unfold Xlv Xlh
 rw [Xnt, Xab]
 cases hp : Xj8 p with
 | false => rw [Xal, Xab, Bool.false_and, Bool.and_false]
 | true =>
  rw [Xap, Xdk, Xab, Bool.true_and]
  cases hs : Xec q with
  | false =>
   have : Xbh q = 0 := by unfold Xbh; rw [hs]; rfl
   rw [this, Bool.false_and]
   by_cases h0 : h.Tile ≥ 0
   ·
    rw [Xbk h0, snA, Xab]
   ·
    rw [Xas h0, Xab]
  | true =>
   obtain ⟨_, _, b1, b2⟩ := Xa5 hs
   obtain ⟨s1, s2, s3, s4, s5⟩ := Xgq q.Bits ⟨b1, b2⟩
   rw [Bool.true_and, Xay s1, s2, Xai, Xab, Yld, Yld, Yld, Yld]
   by_cases t1 : h.Tile ≥ 0
   ·
    rw [if_pos t1]
    by_cases t2 : h.Tile < Xbh q
    ·
     rw [if_pos t2, decide_eq_true (show 0 ≤ h.Tile ∧ h.Tile < Xbh q from ⟨t1, t2⟩), Bool.true_and]
     by_cases f1 : h.Frame ≥ 0
     ·
      rw [if_pos f1]
      by_cases f2 : h.Frame < 2 ^ q.Bits.toNat
      ·
       rw [if_pos f2, decide_eq_true (show 0 ≤ h.Frame ∧ h.Frame < 2 ^ q.Bits.toNat from ⟨f1, f2⟩), Bool.true_and, Xab]
      ·
       rw [if_neg f2, decide_eq_false (show ¬ (0 ≤ h.Frame ∧ h.Frame < 2 ^ q.Bits.toNat) from fun h => f2 h.2), Bool.false_and, Xab]
     ·
      rw [if_neg f1, decide_eq_false (show ¬ (0 ≤ h.Frame ∧ h.Frame < 2 ^ q.Bits.toNat) from fun h => f1 h.1), Bool.false_and, Xab]
    ·
     rw [if_neg t2, decide_eq_false (show ¬ (0 ≤ h.Tile ∧ h.Tile < Xbh q) from fun h => t2 h.2), Bool.false_and, Xab]
   ·
    rw [if_neg t1, decide_eq_false (show ¬ (0 ≤ h.Tile ∧ h.Tile < Xbh q) from fun h => t1 h.1), Bool.false_and, Xab]
theorem Xqs {L : List Int} (hb : Xek L) (hl : L.length ≤ 400000) (q : Seq) (p : Par) (h1 : q.Cols.length ≤ maxLen) (h2 : q.Rows.length ≤ maxLen) :
  (∃ (h : Xow) (j : Nat), Xib q p (strOfNums L) = some (h, (j : Int), true) ∧ Xdv q p (strOfNums L) = some (h, (j : Int), true) ∧ Xlh q p h = true ∧ j ≤ L.length) ∨
  (Xib q p (strOfNums L) = some (⟨0, 0, 0⟩, 0, false) ∧ Xdv q p (strOfNums L) = some (⟨0, 0, 0⟩, 0, false)) := by
 unfold Xib Xdv
 have ho : Xe4 (strOfNums L) 0 = some ⟨strOfNums L, ((0 : Nat) : Int), false⟩ := Xoc hb hl 0 (by omega)
 rw [ho, Xab, Xxy L hb hl, Xab, Xap, Xic, Xab, Xnt, Xab, Xew q h1 h2, Xab, Xh1, Xab]
 cases hs : Xec q with
 | false => exact .inr ⟨rfl, rfl⟩
 | true =>
  cases hp : Xj8 p with
  | false => exact .inr ⟨rfl, rfl⟩
  | true =>
   rw [Xap, Bool.not_true, Xab, Xal, Xab, Xal]
   have hpq : 0 ≤ p.Qp ∧ p.Qp ≤ 40 := Xti hp
   obtain ⟨_, _, b1, b2⟩ := Xa5 hs
   rcases Xrl hb hl 0 (by omega) with ⟨v, j, e1, e2, v1, v2, v3⟩ | ⟨e1, a, e2⟩
   ·
    have e1' : Xbn (strOfNums L) 0 = some ((v : Int), (j : Int), true) := e1
    rw [e1', Xab, e2, Xab]
    simp only
    rw [Bool.not_true, Xal]
    rcases Xqx hb hl j v3 q.Bits.toNat (by omega) with ⟨w, w1, _, w2, f1, f2⟩ | ⟨_, f1, f2⟩
    ·
     rw [show ((q.Bits.toNat : Nat) : Int) = q.Bits by omega] at f1 f2
     rw [f1, Xab, f2, Xab]
     simp only
     rw [Bool.not_true, Xal]
     rcases Yfl hb hl (j + q.Bits.toNat) w1 with ⟨n, j2, g1, g2, g3, g4, g5⟩ | ⟨g1, a, g2⟩
     ·
      rw [g1, Xab, g2, Xab]
      simp only
      rw [Xap, Xal, wkA (e := p.Qp + n), wkA (e := n + p.Qp), Int.add_comm n p.Qp, Xuv, Xue _ _ _ h1 h2, Xab, Xab]
      cases hh : Xlh q p ⟨(v : Int), w, p.Qp + n⟩ with
      | true => exact .inl ⟨_, j2, rfl, rfl, hh, g5⟩
      | false => exact .inr ⟨rfl, rfl⟩
     ·
      rw [g1, Xab, g2, Xab]
      exact .inr ⟨rfl, rfl⟩
    ·
     rw [show ((q.Bits.toNat : Nat) : Int) = q.Bits by omega] at f1 f2
     rw [f1, Xab, f2, Xab]
     simp only
     rw [Yqp, Xab]
     exact .inr ⟨rfl, rfl⟩
   ·
    have e1' : Xbn (strOfNums L) 0 = some (0, 0, false) := e1
    rw [e1', Xab, e2, Xab]
    simp only
    rw [Ydl, Xab]
    simp only
    rw [Yqp, Xab]
    exact .inr ⟨rfl, rfl⟩
theorem Ym7 : ∀ (a : List Int) (x : Int), Xgu (a ++ [x]) = Xgu a + x
 | [], x => by simp [Xgu]
 | y :: a, x => by rw [List.cons_append, Xgu, Xgu, Ym7 a x, Int.add_assoc]
theorem Ym8 {l : List Int} : ∀ k : Nat, k < l.length → Xgu (l.take (k + 1)) = Xgu (l.take k) + l.getD k 0 := by
 intro k hk
 rw [List.take_add_one, List.getElem?_eq_getElem hk, Xb3 l k hk]
 exact Ym7 _ _
theorem Xnx {l : List Int} (h : l.all Xeb = true) {i : Nat} (hi : i < l.length) : 1 ≤ l.getD i 0 ∧ l.getD i 0 ≤ 8 := by
 have := List.all_eq_true.1 h (l.getD i 0) (by rw [Xb3 l i hi]; exact List.getElem_mem _)
 unfold Xeb at this
 rwa [decide_eq_true_eq] at this
theorem Xjt {l : List Int} (h : l.all Xeb = true) (hl : l.length ≤ 4) (i : Nat) : 0 ≤ Xgu (l.take i) ∧ Xgu (l.take i) ≤ 32 := by
 have := Xq8 (l := l.take i) (List.all_eq_true.2 fun x hx => List.all_eq_true.1 h x (List.mem_of_mem_take hx))
 rw [List.length_take] at this
 omega
theorem Xwg {l : List Int} (h : l.all Xeb = true) (hl : l.length ≤ 4) (k : Nat) (hk : k ≤ l.length) : Xi0 l (k : Int) = some (Xgu (l.take k)) := by
 have key : ∀ i : Nat, i ≤ k → loop (Xfu l (k : Int)) (Xgu (l.take i), (i : Int)) = some (Xgu (l.take k)) := by
  refine Xg2 _ (Xce (by unfold Xfu; rw [Xas (by simp)])) ?_
  intro i hi ih
  refine lgo ?_ ih
  have a := Xnx h (i := i) (by omega)
  have b := Xjt h hl i
  unfold Xfu
  simp only [Int.toNat_natCast]
  rw [syA, rqA, wkA (e := Xgu (l.take i) + l.getD i 0), wkA (e := (i : Int) + 1), Ym8 i (by omega)]
  rfl
 exact Xei (key 0 (by omega))
theorem Yc4 {l : List Int} (h : l.all Xeb = true) (hl : l.length ≤ 4) : Xcm l = some (Xgu l) := by
 have key : ∀ i : Nat, i ≤ l.length → loop (Xdw l) (Xgu (l.take i), (i : Int)) = some (Xgu l) := by
  refine Xg2 _ (Xce (by unfold Xdw; rw [Xas (by simp), List.take_length])) ?_
  intro i hi ih
  refine lgo ?_ ih
  have a := Xnx h (i := i) (by omega)
  have b := Xjt h hl i
  unfold Xdw
  simp only [Int.toNat_natCast]
  rw [syA, rqA, wkA (e := Xgu (l.take i) + l.getD i 0), wkA (e := (i : Int) + 1), Ym8 i (by omega)]
  rfl
 exact Xei (key 0 (by omega))
theorem Xu9 {q : Seq} (hs : Xec q = true) (h1 : q.Cols.length ≤ maxLen) (h2 : q.Rows.length ≤ maxLen) (t : Int) (ht : 0 ≤ t ∧ t < Xbh q) : ∃ r : Xpb, Xex q t = some (r, true) ∧ Xda q t = some (r, true) ∧ Xrh r.Wide = true ∧ Xrh r.High = true := by
 have hr := Xd0 hs
 have hto : Xbh q = (q.Cols.length : Int) * q.Rows.length := by unfold Xbh; rw [if_pos hs]
 obtain ⟨s1, s2, _⟩ := Xa5 hs
 have c1 := Xbc s1
 have c2 := Xbc s2
 unfold Xdq at s1 s2
 rw [Bool.and_eq_true] at s1 s2
 have m0 := Int.emod_nonneg t (show (q.Cols.length : Int) ≠ 0 by omega)
 have m1 := Int.emod_lt_of_pos t (show 0 < (q.Cols.length : Int) by omega)
 have d0 : 0 ≤ t / (q.Cols.length : Int) := Int.ediv_nonneg ht.1 (by omega)
 have d1 : t / (q.Cols.length : Int) < q.Rows.length := Int.ediv_lt_of_lt_mul (by omega) (by rw [Int.mul_comm, ← hto]; exact ht.2)
 have ex : ∃ x y : Nat, (x : Int) = t % (q.Cols.length : Int) ∧ (y : Int) = t / (q.Cols.length : Int) := ⟨(t % (q.Cols.length : Int)).toNat, (t / (q.Cols.length : Int)).toNat, by omega, by omega⟩
 obtain ⟨x, y, hx, hy⟩ := ex
 have tm : t.tmod (q.Cols.length : Int) = (x : Int) := by rw [Xbm ht.1]; exact hx.symm
 have td : Xaa .i64 (t.tdiv (q.Cols.length : Int)) = (y : Int) := by rw [Xbl ht.1, ← hy, wkA]
 have bx := Xjt s1.2 c1.2 x
 have by_ := Xjt s2.2 c2.2 y
 have gx := Xnx s1.2 (i := x) (by omega)
 have gy := Xnx s2.2 (i := y) (by omega)
 have side8 : ∀ v : Int, 1 ≤ v ∧ v ≤ 8 → Xrh (8 * v) = true := fun v hv => by
  unfold Xrh
  rw [Bool.and_eq_true, decide_eq_true_eq, decide_eq_true_eq, Xbm (by omega)]
  omega
 refine ⟨⟨8 * Xgu (q.Cols.take x), 8 * Xgu (q.Rows.take y), 8 * q.Cols.getD x 0, 8 * q.Rows.getD y 0⟩, ?_, ?_, side8 _ gx, side8 _ gy⟩
 ·
  unfold Xex
  rw [Xhd q h1 h2, Xab, wkA (e := Xbh q - 1), Xaj, Xab, decide_eq_true (by omega), Bool.not_true, Xal, rqA, tm, td, rqA, rqA]
  simp only [Int.toNat_natCast]
  rw [show (0 : Int).toNat = 0 from rfl, List.drop_zero, List.drop_zero, Nat.sub_zero, Nat.sub_zero, Yc4 (List.all_eq_true.2 fun z hz => List.all_eq_true.1 s1.2 z (List.mem_of_mem_take hz)) (by rw [List.length_take]; omega), Xab, rqA, Yc4 (List.all_eq_true.2 fun z hz => List.all_eq_true.1 s2.2 z (List.mem_of_mem_take hz)) (by rw [List.length_take]; omega), Xab, rqA, rqA, wkA (e := 8 * Xgu (q.Cols.take x)), wkA (e := 8 * Xgu (q.Rows.take y)), wkA (e := 8 * q.Cols.getD x 0), wkA (e := 8 * q.Rows.getD y 0)]
 ·
  unfold Xda
  rw [snA, Xdk, Xab, decide_eq_false (by omega), Xab, Xal, rqA, tm, td, rqA, Xwg s1.2 c1.2 x (by omega), Xab, Xwg s2.2 c2.2 y (by omega), Xab, rqA, rqA]
  simp only [Int.toNat_natCast]
  rw [wkA (e := 8 * Xgu (q.Cols.take x)), wkA (e := 8 * Xgu (q.Rows.take y)), wkA (e := 8 * q.Cols.getD x 0), wkA (e := 8 * q.Rows.getD y 0)]
theorem Yti {l m : List Int} {b x : Nat} (h : b + m.length ≤ l.length) (hx : x < m.length) : (over l b (m.take x)).set (b + x) (m.getD x 0) = over l b (m.take (x + 1)) := by
 have h1 : b + (m.take x).length ≤ l.length := by rw [List.length_take]; omega
 have h2 : b + (m.take (x + 1)).length ≤ l.length := by rw [List.length_take]; omega
 apply List.ext_getElem?
 intro j
 rw [List.getElem?_set, Xrd h1, Yc1 h1, Yc1 h2]
 simp only [List.length_take]
 by_cases hj : b + x = j
 ·
  subst hj
  rw [if_pos rfl, if_pos (by omega), if_pos (by omega), Xb3 m x hx, List.getElem?_take, if_pos (by omega), show b + x - b = x by omega, List.getElem?_eq_getElem hx]
 ·
  rw [if_neg hj]
  by_cases hin : b ≤ j ∧ j < b + x
  ·
   rw [if_pos (by omega), if_pos (by omega), List.getElem?_take, List.getElem?_take, if_pos (by omega), if_pos (by omega)]
  ·
   rw [if_neg (by omega), if_neg (by omega)]
theorem Yvg (l : List Int) (b : Nat) : over l b [] = l := by
 unfold over
 rw [List.append_nil, List.length_nil, Nat.add_zero, List.take_append_drop]
theorem Yc7 (p0 p1 : Pic) (x y : Int) : ∃ (o : Pic) (b : Bool), Xn6 p0 p1 x y = some (o, b) ∧ Xoh p0 p1 x y = some (o, b) ∧ o.Wide = p0.Wide ∧ o.High = p0.High ∧ o.Dots.size = p0.Dots.size ∧ (b = false → o = p0) := by
 unfold Xn6 Xoh
 have hw := Xl2 p0 ⟨x, y, p1.Wide, p1.High⟩
 simp only at hw
 rw [Xcq, Xab, Xga, Xab, hw]
 cases ok1 : Xcj p1 with
 | false =>
  rw [Xal, Xab, Xap]
  refine ⟨p0, false, ?_, rfl, rfl, rfl, rfl, fun _ => rfl⟩
  cases Xcj p0 with
  | false => rfl
  | true => rw [Xap, Xcq, Xab, ok1]; rfl
 | true =>
  rw [Xap, Xab, Xab, Xcq, Xab, ok1]
  cases ok0 : Xcj p0 with
  | false => exact ⟨p0, false, rfl, rfl, rfl, rfl, rfl, fun _ => rfl⟩
  | true =>
   rw [Xap, Xap, Xq3 ok0, Xab]
   cases ho : Xmn p0 ⟨x, y, p1.Wide, p1.High⟩ with
   | false => exact ⟨p0, false, rfl, rfl, rfl, rfl, rfl, fun _ => rfl⟩
   | true =>
    have hm : maxLen = 9223372036854775807 := rfl
    obtain ⟨k1, k2, k3⟩ := Xbr ok0
    obtain ⟨g1, g2, g3⟩ := Xbr ok1
    obtain ⟨a1, a2, a3, a4⟩ := Xjo ho
    simp only at a1 a2 a3 a4
    have ar := Xd6 k1 k2
    have ar1 := Xd6 g1 g2
    have hdl := Ypw ok0
    unfold Xp5
    simp only [Bool.and_self, Bool.not_true, Xab, Xal]
    rw [rqA, rqA, Xab]
    -- places of a row
    have row : ∀ r : Nat, (r : Int) < p1.High → ∃ B S : Nat, (B : Int) = (y + (r : Int)) * p0.Wide + x ∧ B + p1.Wide.toNat ≤ p0.Dots.size ∧ (S : Int) = (r : Int) * p1.Wide ∧ S + p1.Wide.toNat ≤ p1.Dots.size ∧ ((r : Int) + 1) * p1.Wide = (S : Int) + p1.Wide ∧ 0 ≤ (y + (r : Int)) * p0.Wide := fun r hr => by
     have e1 : 0 ≤ (y + (r : Int)) * p0.Wide := Int.mul_nonneg (by omega) (by omega)
     have e2 : (y + (r : Int)) * p0.Wide ≤ (p0.High - 1) * p0.Wide := Int.mul_le_mul_of_nonneg_right (by omega) (by omega)
     have e3 : (p0.High - 1) * p0.Wide = p0.Wide * p0.High - p0.Wide := by rw [Int.sub_mul, Int.one_mul, Int.mul_comm]
     have f1 : 0 ≤ (r : Int) * p1.Wide := Int.mul_nonneg (by omega) (by omega)
     have f2 : (r : Int) * p1.Wide ≤ (p1.High - 1) * p1.Wide := Int.mul_le_mul_of_nonneg_right (by omega) (by omega)
     have f3 : (p1.High - 1) * p1.Wide = p1.Wide * p1.High - p1.Wide := by rw [Int.sub_mul, Int.one_mul, Int.mul_comm]
     have f4 : ((r : Int) + 1) * p1.Wide = (r : Int) * p1.Wide + p1.Wide := by rw [Int.add_mul, Int.one_mul]
     refine ⟨((y + (r : Int)) * p0.Wide + x).toNat, ((r : Int) * p1.Wide).toNat, by omega, by omega, by omega, by omega, by omega, e1⟩
    have hl : loop (Xmb p0 p1 x y) (0, Xbu p0.Dots) = loop (Xee p0 p1 x y) (0, Xbu p0.Dots) := by
     refine Yqe p1.High.toNat (fun _ s => s.length = p0.Dots.size) ?_ ?_ (Xby _)
     ·
      intro r s hr hs
      unfold Xmb Xee
      simp only
      by_cases hlt : (r : Int) < p1.High
      ·
       obtain ⟨B, S, b1, b2, b3, b4, b5, b6⟩ := row r hlt
       have hml : (Xbu (p1.Dots.extract S (S + p1.Wide.toNat))).length = p1.Wide.toNat := by rw [Xby, ByteArray.size_extract]; omega
       have hin : loop (Xb6 p0 p1 x y ((r : Int), s)) (0, s) = some (over s B (Xbu (p1.Dots.extract S (S + p1.Wide.toNat)))) := by
        obtain ⟨o, e, ho⟩ := Xii (f := Xb6 p0 p1 x y ((r : Int), s)) p1.Wide.toNat (fun k t => t = over s B ((Xbu (p1.Dots.extract S (S + p1.Wide.toNat))).take k)) (by
         intro k t hk ht
         subst ht
         have hol : (over s B ((Xbu (p1.Dots.extract S (S + p1.Wide.toNat))).take k)).length = s.length := Xrd (by rw [List.length_take]; omega)
         have hbt : Xlf p1.Dots ((S : Int) + k) = (Xbu (p1.Dots.extract S (S + p1.Wide.toNat))).getD k 0 := by
          rw [Yfa _ k (by rw [ByteArray.size_extract]; omega)]
          unfold Xlf
          rw [dif_pos (show ((S : Int) + k).toNat < p1.Dots.size by omega), dif_pos (by rw [ByteArray.size_extract]; omega), ByteArray.getElem_extract]
          congr 2
         unfold Xb6
         simp only
         rw [syA, wkA (e := (r : Int) * p1.Wide), wkA (e := y + (r : Int)), wkA (e := (y + (r : Int)) * p0.Wide), wkA (e := (y + (r : Int)) * p0.Wide + x), ← b1, ← b3, wkA (e := (S : Int) + (k : Int)), wkA (e := (B : Int) + (k : Int)), rqA, rqA, rqA, wkA (e := (k : Int) + 1), hbt, show ((B : Int) + (k : Int)).toNat = B + k by omega]
         exact ⟨_, rfl, Yti (by omega) (by omega)⟩) (fun t _ => by unfold Xb6; rw [Xas (by simp only; omega)]) s (by rw [List.take_zero, Yvg])
        rw [e, ho, List.take_of_length_le (by omega)]
       rw [Xbk hlt, Xbk hlt, hin, Xab, wkA (e := y + (r : Int)), wkA (e := (y + (r : Int)) * p0.Wide), wkA (e := (y + (r : Int)) * p0.Wide + x), wkA (e := (r : Int) + 1), wkA (e := (r : Int) * p1.Wide), wkA (e := ((r : Int) + 1) * p1.Wide), b5, ← b1, ← b3, show (S : Int).toNat = S by omega, show (B : Int).toNat = B by omega, show ((S : Int) + p1.Wide).toNat = S + p1.Wide.toNat by omega, rqA, rqA, Xay (by rw [hml]; omega)]
      ·
       rw [Xas hlt, Xas hlt]
     ·
      intro r s v' hr hs he
      unfold Xee at he
      simp only at he
      by_cases hlt : (r : Int) < p1.High
      ·
       obtain ⟨B, S, b1, b2, b3, b4, b5, b6⟩ := row r hlt
       rw [Xbk hlt] at he
       obtain ⟨o, e, ho⟩ := Xii (f := Xb6 p0 p1 x y ((r : Int), s)) p1.Wide.toNat (fun k t => t.length = p0.Dots.size) (by
        intro k t hk ht
        unfold Xb6
        simp only
        rw [syA, wkA (e := (r : Int) * p1.Wide), wkA (e := y + (r : Int)), wkA (e := (y + (r : Int)) * p0.Wide), wkA (e := (y + (r : Int)) * p0.Wide + x), ← b1, ← b3, wkA (e := (S : Int) + (k : Int)), wkA (e := (B : Int) + (k : Int)), rqA, rqA, rqA, wkA (e := (k : Int) + 1)]
        exact ⟨_, rfl, by rw [List.length_set]; exact ht⟩) (fun t _ => by unfold Xb6; rw [Xas (by simp only; omega)]) s hs
       rw [e, Xab] at he
       injection he with he
       injection he with he
       subst he
       exact ⟨by simp only; rw [wkA]; rfl, by omega, ho⟩
      ·
       rw [Xas hlt] at he
       cases he
    obtain ⟨o, e, ho2⟩ := Xii (f := Xee p0 p1 x y) p1.High.toNat (fun _ s => s.length = p0.Dots.size) (by
     intro r s hr hs
     obtain ⟨B, S, b1, b2, b3, b4, b5, b6⟩ := row r (by omega)
     obtain ⟨o, e, ho⟩ := Xii (f := Xb6 p0 p1 x y ((r : Int), s)) p1.Wide.toNat (fun k t => t.length = p0.Dots.size) (by
      intro k t hk ht
      unfold Xb6
      simp only
      rw [syA, wkA (e := (r : Int) * p1.Wide), wkA (e := y + (r : Int)), wkA (e := (y + (r : Int)) * p0.Wide), wkA (e := (y + (r : Int)) * p0.Wide + x), ← b1, ← b3, wkA (e := (S : Int) + (k : Int)), wkA (e := (B : Int) + (k : Int)), rqA, rqA, rqA, wkA (e := (k : Int) + 1)]
      exact ⟨_, rfl, by rw [List.length_set]; exact ht⟩) (fun t _ => by unfold Xb6; rw [Xas (by simp only; omega)]) s hs
     unfold Xee
     simp only
     rw [syA, e, Xab, wkA]
     exact ⟨_, rfl, ho⟩) (fun t _ => by unfold Xee; rw [Xas (by simp only; omega)]) (Xbu p0.Dots) (Xby _)
    rw [hl, e, Xab]
    exact ⟨_, true, rfl, rfl, rfl, rfl, by rw [strOfNums_size]; exact ho2, fun h => by cases h⟩
def Xiu (p : Pic) : Bool := (p.Wide == 0) && ((p.High == 0) && ((p.Dots.size : Int) == 0))
theorem Yrd (s : ByteArray) : (s.toList == (⟨#[]⟩ : ByteArray).toList) = ((s.size : Int) == 0) := by
 rw [Bool.eq_iff_iff, beq_iff_eq, beq_iff_eq, Xz3]
 constructor
 ·
  intro h; rw [h]; rfl
 ·
  intro h
  have := Xtr s
  have hn : Xbu s = [] := List.length_eq_zero_iff.1 (by rw [Xby]; omega)
  rw [hn] at this
  exact this.symm
theorem Ygl (p : Pic) : Xhx p = some (Xiu p) := by
 unfold Xhx Xiu
 cases (p.Wide == 0) with
 | false => rfl
 | true => cases (p.High == 0) <;> rfl
theorem Ycs (p : Pic) (s : Seq) : Xnw p s = some (Xh0 p s) := by
 unfold Xnw Xh0
 rw [Xpn, Xab, Xga, Xab]
 cases Xcj p with
 | false => rfl
 | true => cases (p.Wide == (Xhj s).1) <;> rfl
def Ynk (s : Seq) : Bool := (s.Level == 0) && ((s.Bits == 0) && (((s.Cols.length : Int) == 0) && ((s.Rows.length : Int) == 0)))
theorem Yer (s : Seq) : Xmt s = some (Ynk s) := by
 unfold Xmt Ynk
 cases (s.Level == 0) with
 | false => rfl
 | true =>
  cases (s.Bits == 0) with
  | false => rfl
  | true => cases ((s.Cols.length : Int) == 0) <;> rfl
def Yam (p : Par) : Bool := (p.Qp == 0) && ((p.Large == false) && ((p.Exact == false) && (p.Confined == false)))
def Xfe (d : Xam) : Bool :=
 if d.HasSeq = true then
  Xec d.Seq && ((if d.HasPar = true then Xj8 d.Par else Yam d.Par && (decide (d.Got = 0) && !d.HasRef)) && (decide (-1 ≤ d.Frame ∧ d.Frame < 2 ^ d.Seq.Bits.toNat) && (decide (0 ≤ d.Got ∧ d.Got < Xbh d.Seq) && ((if d.Got > 0 then !(d.Frame == -1) && Xh0 d.Now d.Seq else Xiu d.Now) && (if d.HasRef = true then Xh0 d.Ref d.Seq else Xiu d.Ref)))))
 else
  !d.HasPar && (!d.HasRef && (Ynk d.Seq && (Yam d.Par && ((d.Frame == -1) && ((d.Got == 0) && (Xiu d.Now && Xiu d.Ref))))))
theorem Xkx (d : Xam) : Xzh d = some (Xfe d) := by
 unfold Xzh Xfe
 have hP : ((d.Par.Qp == 0) && ((d.Par.Large == false) && ((d.Par.Exact == false) && (d.Par.Confined == false)))) = Yam d.Par := rfl
 rw [hP]
 simp only [Ygl, Ycs, Xic, Xnt, Xdk, Xab]
 cases hS : d.HasSeq with
 | false =>
  rw [Bool.not_false, Xap, if_neg (by decide)]
  cases d.HasPar with
  | true => rfl
  | false =>
   cases d.HasRef with
   | true => rfl
   | false =>
    unfold Ynk
    cases (d.Seq.Level == 0) with
    | false => rfl
    | true =>
     cases (d.Seq.Bits == 0) with
     | false => rfl
     | true =>
      cases ((d.Seq.Cols.length : Int) == 0) with
      | false => rfl
      | true =>
       cases ((d.Seq.Rows.length : Int) == 0) with
       | false => rfl
       | true =>
        cases Yam d.Par with
        | false => rfl
        | true =>
         cases (d.Frame == -1) with
         | false => rfl
         | true =>
          cases (d.Got == 0) with
          | false => rfl
          | true => cases Xiu d.Now <;> rfl
 | true =>
  rw [Bool.not_true, Xal, if_pos rfl]
  cases hs : Xec d.Seq with
  | false => rfl
  | true =>
   obtain ⟨_, _, b1, b2⟩ := Xa5 hs
   obtain ⟨s1, s2, s3, s4, s5⟩ := Xgq d.Seq.Bits ⟨b1, b2⟩
   have ht := Xd0 hs
   rw [Xap, s2, Bool.true_and]
   generalize (2 : Int) ^ d.Seq.Bits.toNat = N at *
   generalize Xbh d.Seq = T at *
   have tailE : ∀ v : Bool, (bnd (sel (decide (d.Frame < (-1))) (some true) (req (0 ≤ (Xaa .u64 (d.Seq.Bits))) <| sel (decide (d.Frame ≥ N)) (some true) (sel (decide (d.Got < 0)) (some true) (sel (decide (d.Got ≥ T)) (some true) (some v))))) fun v7 => sel v7 (some false) (bnd (sel (decide (d.Got > 0)) (sel (d.Frame == (-1)) (some true) (sel (Xh0 d.Now d.Seq) (sel (d.Got == 0) (some (!Xiu d.Now)) (some false)) (some true))) (sel (d.Got == 0) (some (!Xiu d.Now)) (some false))) fun v9 => sel v9 (some false) (bnd (sel d.HasRef (sel (Xh0 d.Ref d.Seq) (some true) (some false)) (some (Xiu d.Ref))) fun v13 => some v13))) = some (!v && (decide (-1 ≤ d.Frame ∧ d.Frame < N) && (decide (0 ≤ d.Got ∧ d.Got < T) && ((if d.Got > 0 then !(d.Frame == -1) && Xh0 d.Now d.Seq else Xiu d.Now) && (if d.HasRef = true then Xh0 d.Ref d.Seq else Xiu d.Ref))))) := by
    intro v
    rw [Xay s1]
    by_cases f1 : d.Frame < -1
    ·
     rw [Xbk f1, Xab, Xap, decide_eq_false (show ¬ (-1 ≤ d.Frame ∧ d.Frame < N) from fun h => by omega), Bool.false_and, Bool.and_false]
    rw [Xas f1]
    by_cases f2 : d.Frame ≥ N
    ·
     rw [Xbk f2, Xab, Xap, decide_eq_false (show ¬ (-1 ≤ d.Frame ∧ d.Frame < N) from fun h => by omega), Bool.false_and, Bool.and_false]
    rw [Xas f2, decide_eq_true (show -1 ≤ d.Frame ∧ d.Frame < N by omega), Bool.true_and]
    by_cases g1 : d.Got < 0
    ·
     rw [Xbk g1, Xab, Xap, decide_eq_false (show ¬ (0 ≤ d.Got ∧ d.Got < T) from fun h => by omega), Bool.false_and, Bool.and_false]
    rw [Xas g1]
    by_cases g2 : d.Got ≥ T
    ·
     rw [Xbk g2, Xab, Xap, decide_eq_false (show ¬ (0 ≤ d.Got ∧ d.Got < T) from fun h => by omega), Bool.false_and, Bool.and_false]
    rw [Xas g2, decide_eq_true (show 0 ≤ d.Got ∧ d.Got < T by omega), Bool.true_and, Xab]
    cases v with
    | true => rfl
    | false =>
     rw [Xal, Bool.not_false, Bool.true_and]
     by_cases g3 : d.Got > 0
     ·
      rw [Xbk g3, if_pos g3, Xa6 (b := d.Got == 0) (by rw [beq_eq_false_iff_ne]; omega)]
      cases (d.Frame == -1) with
      | true => rfl
      | false =>
       cases Xh0 d.Now d.Seq with
       | false => rfl
       | true =>
        cases d.HasRef with
        | false => cases Xiu d.Ref <;> rfl
        | true => cases Xh0 d.Ref d.Seq <;> rfl
     ·
      rw [Xas g3, if_neg g3, Xbg (b := d.Got == 0) (by rw [beq_iff_eq]; omega)]
      cases Xiu d.Now with
      | false => rfl
      | true =>
       cases d.HasRef with
       | false => cases Xiu d.Ref <;> rfl
       | true => cases Xh0 d.Ref d.Seq <;> rfl
   cases hp : d.HasPar with
   | true =>
    rw [Xap, if_pos rfl]
    cases Xj8 d.Par with
    | false => rfl
    | true =>
     rw [Xap, Xab, Xal, Bool.true_and]
     exact (tailE false).trans (by rw [Bool.not_false, Bool.true_and])
   | false =>
    rw [Xal, if_neg (by decide)]
    cases Yam d.Par with
    | false => rfl
    | true =>
     rw [show ((true : Bool) == false) = false from rfl, Xab, Xal, Bool.true_and]
     have h2 : (sel (decide (d.Got > 0)) (some true) (some d.HasRef)) = some (decide (d.Got > 0) || d.HasRef) := by
      cases decide (d.Got > 0) <;> rfl
     simp only [Xal]
     rw [h2]
     refine (tailE _).trans ?_
     by_cases g0 : d.Got = 0
     ·
      rw [decide_eq_true g0, decide_eq_false (show ¬ d.Got > 0 by omega), Bool.false_or, Bool.true_and]
     ·
      rw [decide_eq_false g0, Bool.false_and, Bool.false_and]
      by_cases g1 : d.Got > 0
      ·
       rw [decide_eq_true g1, Bool.true_or, Bool.not_true, Bool.false_and]
      ·
       rw [decide_eq_false (show ¬ (0 ≤ d.Got ∧ d.Got < T) from fun h => by omega), Bool.false_and, Bool.and_false, Bool.and_false]
theorem Ykd (d : Xam) (h1 : d.Seq.Cols.length ≤ maxLen) (h2 : d.Seq.Rows.length ≤ maxLen) : Xpx d = some (Xfe d) := by
 unfold Xpx Xfe
 have hP : ((d.Par.Qp == 0) && ((d.Par.Large == false) && ((d.Par.Exact == false) && (d.Par.Confined == false)))) = Yam d.Par := rfl
 have hN : ((d.Now.Wide == 0) && ((d.Now.High == 0) && ((d.Now.Dots.size : Int) == 0))) = Xiu d.Now := rfl
 have hR : ((d.Ref.Wide == 0) && ((d.Ref.High == 0) && ((d.Ref.Dots.size : Int) == 0))) = Xiu d.Ref := rfl
 rw [hP]
 simp only [Yrd, hN, hR, Yer, Ym0 _ _ h1 h2, Xew _ h1 h2, Xh1, Xhd _ h1 h2, Xaj, Xab]
 cases hS : d.HasSeq with
 | false =>
  rw [Bool.not_false, Xap, if_neg (by decide)]
  cases d.HasPar with
  | true => rfl
  | false =>
   cases d.HasRef with
   | true => rfl
   | false =>
    cases Ynk d.Seq with
    | false => rfl
    | true =>
     cases Yam d.Par with
     | false => rfl
     | true =>
      cases (d.Frame == -1) with
      | false => rfl
      | true =>
       cases (d.Got == 0) with
       | false => rfl
       | true => cases Xiu d.Now <;> cases Xiu d.Ref <;> rfl
 | true =>
  rw [Bool.not_true, Xal, if_pos rfl]
  cases hs : Xec d.Seq with
  | false => rfl
  | true =>
   obtain ⟨_, _, b1, b2⟩ := Xa5 hs
   obtain ⟨s1, s2, s3, s4, s5⟩ := Xgq d.Seq.Bits ⟨b1, b2⟩
   have ht := Xd0 hs
   rw [Xap, s3, Bool.true_and]
   generalize (2 : Int) ^ d.Seq.Bits.toNat = N at *
   generalize Xbh d.Seq = T at *
   rw [wkA (e := N - 1), wkA (e := T - 1)]
   have e1 : decide (-1 ≤ d.Frame ∧ d.Frame ≤ N - 1) = decide (-1 ≤ d.Frame ∧ d.Frame < N) := by rw [decide_eq_decide]; omega
   have e2 : decide (0 ≤ d.Got ∧ d.Got ≤ T - 1) = decide (0 ≤ d.Got ∧ d.Got < T) := by rw [decide_eq_decide]; omega
   rw [e1, e2, rqA]
   have tailE : (bnd (sel (decide (-1 ≤ d.Frame ∧ d.Frame < N)) (some (!decide (0 ≤ d.Got ∧ d.Got < T))) (some true)) fun v6 => sel v6 (some false) (bnd (sel (decide (d.Got > 0)) (sel (d.Frame == (-1)) (some true) (sel (Xh0 d.Now d.Seq) (sel (d.Got == 0) (some (Xiu d.Now == false)) (some false)) (some true))) (sel (d.Got == 0) (some (Xiu d.Now == false)) (some false))) fun v10 => sel v10 (some false) (sel d.HasRef (some (Xh0 d.Ref d.Seq)) (some (Xiu d.Ref == true))))) = some (decide (-1 ≤ d.Frame ∧ d.Frame < N) && (decide (0 ≤ d.Got ∧ d.Got < T) && ((if d.Got > 0 then !(d.Frame == -1) && Xh0 d.Now d.Seq else Xiu d.Now) && (if d.HasRef = true then Xh0 d.Ref d.Seq else Xiu d.Ref)))) := by
    by_cases f1 : -1 ≤ d.Frame ∧ d.Frame < N
    ·
     rw [decide_eq_true f1, Bool.true_and, Xap, Xab]
     by_cases g1 : 0 ≤ d.Got ∧ d.Got < T
     ·
      rw [decide_eq_true g1, Bool.true_and, Bool.not_true, Xal]
      by_cases g3 : d.Got > 0
      ·
       rw [Xbk g3, if_pos g3, Xa6 (b := d.Got == 0) (by rw [beq_eq_false_iff_ne]; omega)]
       cases (d.Frame == -1) with
       | true => rfl
       | false =>
        cases Xh0 d.Now d.Seq with
        | false => rfl
        | true =>
         cases d.HasRef with
         | false => cases Xiu d.Ref <;> rfl
         | true => cases Xh0 d.Ref d.Seq <;> rfl
      ·
       rw [Xas g3, if_neg g3, Xbg (b := d.Got == 0) (by rw [beq_iff_eq]; omega)]
       cases Xiu d.Now with
       | false => rfl
       | true =>
        cases d.HasRef with
        | false => cases Xiu d.Ref <;> rfl
        | true => cases Xh0 d.Ref d.Seq <;> rfl
     ·
      rw [decide_eq_false g1, Bool.false_and]; rfl
    ·
     rw [decide_eq_false f1, Bool.false_and]; rfl
   cases hp : d.HasPar with
   | true =>
    rw [Xap, if_pos rfl]
    cases Xj8 d.Par with
    | false => rfl
    | true =>
     rw [Xap, Xab, Xal, Bool.true_and]
     exact tailE
   | false =>
    rw [Xal, if_neg (by decide)]
    cases Yam d.Par with
    | false => rfl
    | true =>
     rw [show ((true : Bool) == false) = false from rfl, Xal]
     by_cases g0 : d.Got = 0
     ·
      rw [Xa6 (b := d.Got != 0) (by rw [bne_eq_false_iff_eq]; exact g0), decide_eq_true g0]
      cases hr : d.HasRef with
      | true => rfl
      | false =>
       rw [hr] at tailE
       rw [Xab, Xal]
       exact tailE
     ·
      rw [Xbg (b := d.Got != 0) (by rw [bne_iff_ne]; exact g0), decide_eq_false g0]
      rfl
theorem Xs8 (s : Seq) (h1 : s.Cols.length ≤ 1048576) (h2 : s.Rows.length ≤ 1048576) : Xm4 s = some s ∧ Xms s = some s := by
 have hm : maxLen = 9223372036854775807 := rfl
 constructor
 ·
  unfold Xm4
  rw [Xay (by simp only [List.length_nil]; omega), Xay (by simp only [List.length_nil]; omega)]
  rfl
 ·
  unfold Xms Xey
  rw [Xay (by simp only [List.length_nil]; omega), Xay (by simp only [List.length_nil]; omega), Xab, Xab]
  rfl
theorem Ydj {d : Xam} (h : Xfe d = true) (hp : d.HasPar = true) : d.HasSeq = true := by
 unfold Xfe at h
 cases hs : d.HasSeq with
 | true => rfl
 | false =>
  rw [hs, if_neg (by decide), hp] at h
  simp at h
theorem Yso {d : Xam} (h : Xfe d = true) (hs : d.HasSeq = true) (g : d.Got ≠ 0) : Xcj d.Now = true := by
 unfold Xfe at h
 rw [if_pos hs] at h
 simp only [Bool.and_eq_true, decide_eq_true_eq] at h
 obtain ⟨_, _, _, ⟨g1, _⟩, hn, _⟩ := h
 rw [if_pos (by omega)] at hn
 unfold Xh0 at hn
 simp only [Bool.and_eq_true] at hn
 exact hn.2.1
theorem Yiv {L : List Int} (hb : Xek L) (hl : L.length ≤ 400000) (d : Xam) (hd : Xfe d = true) (h1 : d.Seq.Cols.length ≤ maxLen) (h2 : d.Seq.Rows.length ≤ maxLen) (k : Int) (hk : k = 1 ∨ k = 5) : ∃ (D : Xam) (co : Int) (P : Pic), Xcl d k (strOfNums L) = some (D, co, P) ∧ Xdg d (k == 5) (strOfNums L) = some (D, co, P, d) ∧ D.Seq = d.Seq ∧ (P = ⟨0, 0, ⟨#[]⟩⟩ ∨ Xcj P = true) := by
 have hm : maxLen = 9223372036854775807 := rfl
 have fin : ∀ {x : Option (Xam × Int × Pic)} {z : Option (Xam × Int × Pic × Xam)} {co : Int}, x = some (d, co, ⟨0, 0, ⟨#[]⟩⟩) → z = some (d, co, ⟨0, 0, ⟨#[]⟩⟩, d) → ∃ (D : Xam) (co : Int) (P : Pic), x = some (D, co, P) ∧ z = some (D, co, P, d) ∧ D.Seq = d.Seq ∧ (P = ⟨0, 0, ⟨#[]⟩⟩ ∨ Xcj P = true) := fun e1 e2 => ⟨d, _, _, e1, e2, rfl, .inl rfl⟩
 unfold Xcl Xdg
 cases hp : d.HasPar with
 | false =>
  refine fin (co := 4) rfl ?_
  cases d.HasSeq <;> rfl
 | true =>
  rw [Ydj hd hp, Xap, Bool.not_true, Xal, Xab, Xal]
  rcases Xqs hb hl d.Seq d.Par h1 h2 with ⟨h, j, e1, e2, hh, hj⟩ | ⟨e1, e2⟩
  ·
   rw [e1, Xab, e2, Xab]
   simp only
   rw [Bool.not_true, Xal, Xal]
   cases ht : (h.Tile != d.Got) with
   | true => exact fin (co := 6) rfl rfl
   | false =>
    rw [Xal, Xal]
    have ex : ∃ b : Bool, (sel (d.Frame != (-1)) (some (d.Frame != h.Frame)) (some false)) = some b := by cases (d.Frame != (-1)) <;> exact ⟨_, rfl⟩
    obtain ⟨b, eb⟩ := ex
    rw [eb, Xab, Xab]
    cases b with
    | true => exact fin (co := 7) rfl rfl
    | false =>
     rw [Xal, Xal]
     have e8 : (sel (k == 1) (some (!d.HasRef)) (some false)) = some (!(k == 5) && !d.HasRef) ∧ (sel (k == 5) (some false) (some (!d.HasRef))) = some (!(k == 5) && !d.HasRef) := by
      rcases hk with rfl | rfl <;> exact ⟨rfl, rfl⟩
     rw [e8.1, e8.2, Xab, Xab]
     cases (!(k == 5) && !d.HasRef) with
     | true => exact fin (co := 8) rfl rfl
     | false =>
      rw [Xal, Xal]
      unfold Xlh at hh
      simp only [Bool.and_eq_true, decide_eq_true_eq] at hh
      obtain ⟨hs, hpar, hti, hfr, hqp⟩ := hh
      obtain ⟨s1, s2, b1, b2⟩ := Xa5 hs
      have i1 := Xsj s1
      have i2 := Xsj s2
      obtain ⟨r, t1, t2, rw_, rh⟩ := Xu9 hs h1 h2 h.Tile hti
      have sw := Xhi rw_
      have sh := Xhi rh
      have mb : r.Wide / 8 * (r.High / 8) ≤ 8 * 8 := Int.mul_le_mul (by omega) (by omega) (by omega) (by omega)
      have m0 : 1 * 1 ≤ r.Wide / 8 * (r.High / 8) := Int.mul_le_mul (by omega) (by omega) (by omega) (by omega)
      have q1 : Xbv d.Seq h.Tile = some (r.Wide / 8 * (r.High / 8)) := by
       unfold Xbv
       rw [t2, Xab, rqA, rqA, Xbl (a := r.Wide) (by omega), Xbl (a := r.High) (by omega), wkA (e := r.Wide / 8), wkA (e := r.High / 8), wkA]
      have q2 : Xgh d.Seq h.Tile = some (r.Wide / 8 * (r.High / 8)) := by
       unfold Xgh
       rw [t1, Xab, rqA, rqA, Xbl (a := r.Wide) (by omega), Xbl (a := r.High) (by omega), wkA (e := r.Wide / 8), wkA (e := r.High / 8), wkA]
      rw [q1, Xab, q2, Xab]
      obtain ⟨l, ok, r1, r2, l1, l2, l3⟩ := Xqt (strOfNums L) (j : Int) (r.Wide / 8 * (r.High / 8)) ⟨k == 5, h.Qp, d.Par.Large, d.Par.Exact⟩
      rw [r1, Xab, r2, Xab]
      cases ok with
      | false => exact fin (co := 9) rfl rfl
      | true =>
       obtain ⟨x, x1, x2, _⟩ := Xwc d.Ref r ⟨k == 5, h.Qp, d.Par.Large, d.Par.Exact⟩ d.Par.Confined l (by omega) (fun q hq => by have := l2 q hq; omega)
       simp only
       rw [Bool.not_true, Xal, Xal, t1, Xab, t2, Xab]
       simp only
       rw [x1, Xab, x2, Xab]
       have ev : ∃ n : Pic, (sel (d.Got == 0) (bnd (Xly d.Seq) fun q9 => bnd (Xqi q9.1 q9.2) fun q10 => some (q10.Wide, q10.High, q10.Dots)) (some (d.Now.Wide, d.Now.High, d.Now.Dots))) = some (n.Wide, n.High, n.Dots) ∧ (sel (d.Got == 0) (bnd (Xjl d.Seq) fun q9 => bnd (Xn4 q9.1 q9.2) fun q10 => some (q10.Wide, q10.High, q10.Dots)) (some (d.Now.Wide, d.Now.High, d.Now.Dots))) = some (n.Wide, n.High, n.Dots) ∧ Xcj n = true := by
        cases hg : (d.Got == 0) with
        | false => exact ⟨d.Now, rfl, rfl, Yso hd (Ydj hd hp) (by rw [beq_eq_false_iff_ne] at hg; exact hg)⟩
        | true =>
         have hsz : Xhj d.Seq = (8 * Xgu d.Seq.Cols, 8 * Xgu d.Seq.Rows) := by unfold Xhj; rw [if_pos hs]
         refine ⟨Yu6 (8 * Xgu d.Seq.Cols) (8 * Xgu d.Seq.Rows), ?_, ?_, Ysw (by omega) (by omega)⟩
         ·
          rw [Xap, Xpn, Xab, hsz, Xso _ _ (by simp only; omega) (by simp only; omega), Xab]
          rfl
         ·
          rw [Xap, Xuk _ h1 h2, Xab, hsz, Yaf _ _ (by simp only; omega) (by simp only; omega), Xab]
          rfl
       obtain ⟨n, n1, n2, nok⟩ := ev
       rw [n1, Xab, n2, Xab]
       simp only
       obtain ⟨o, bo, p1, p2, ow, oh, p3, _⟩ := Yc7 n x.1 r.Left r.Top
       have ho : Xcj o = true := by
        obtain ⟨k1, k2, k3⟩ := Xbr nok
        exact Xtj (by rw [ow]; exact k1) (by rw [oh]; exact k2) (by rw [p3, ow, oh]; exact k3)
       rw [show (⟨n.Wide, n.High, n.Dots⟩ : Pic) = n from rfl, p1, Xab, p2, Xab, Xdk, Xab, Xhd _ h1 h2, Xab]
       simp only
       cases decide ((Xaa .i64 (d.Got + 1)) < Xbh d.Seq) with
       | true => exact ⟨_, _, _, rfl, rfl, rfl, .inl rfl⟩
       | false =>
        obtain ⟨z1, z2, z3, z4, z5⟩ := Xgq d.Seq.Bits ⟨b1, b2⟩
        have nz : (2 : Int) ^ d.Seq.Bits.toNat ≠ 0 := by
         generalize (2 : Int) ^ d.Seq.Bits.toNat = N at z4 z5 ⊢
         omega
        have nb : 0 ≤ d.Seq.Bits := by omega
        rw [Xal, Xal, z2, Xay z1, Xay nz]
        unfold Xtb
        rw [z3, Xay nb, Xay nz, Xab]
        exact ⟨_, _, _, rfl, rfl, rfl, .inr ho⟩
  ·
   rw [e1, Xab, e2, Xab]
   simp only
   rw [Bool.not_false, Xap, Xap]
   exact fin (co := 5) rfl rfl
theorem Xov (d : Xam) (u : ByteArray) (h1 : d.Seq.Cols.length ≤ 1048576) (h2 : d.Seq.Rows.length ≤ 1048576) (hu : u.size ≤ 1048576) : ∃ (D : Xam) (co : Int) (P : Pic), Xdf d u = some (D, co, P) ∧ Xcn d u = some (D, co, P) ∧ D.Seq.Cols.length ≤ 1048576 ∧ D.Seq.Rows.length ≤ 1048576 ∧ (P = ⟨0, 0, ⟨#[]⟩⟩ ∨ Xcj P = true) := by
 have hm : maxLen = 9223372036854775807 := rfl
 obtain ⟨_, cp⟩ := Xs8 d.Seq h1 h2
 have cd : Xcw d = some d := by unfold Xcw; rw [cp, Xab]
 have key : ∀ {z x : Option (Xam × Int × Pic)} {D : Xam} {co : Int} {P : Pic}, z = some (D, co, P) → x = some (D, co, P) → D.Seq.Cols.length ≤ 1048576 → D.Seq.Rows.length ≤ 1048576 → (P = ⟨0, 0, ⟨#[]⟩⟩ ∨ Xcj P = true) → ∃ (D : Xam) (co : Int) (P : Pic), z = some (D, co, P) ∧ (bnd x fun q1 => bnd (Xm4 q1.1.Seq) fun q2 => some ((⟨q1.1.HasSeq, q1.1.HasPar, q1.1.HasRef, q2, q1.1.Par, q1.1.Frame, q1.1.Got, q1.1.Now, q1.1.Ref⟩ : Xam), q1.2.1, q1.2.2)) = some (D, co, P) ∧ D.Seq.Cols.length ≤ 1048576 ∧ D.Seq.Rows.length ≤ 1048576 ∧ (P = ⟨0, 0, ⟨#[]⟩⟩ ∨ Xcj P = true) := fun {z x D co P} e1 e2 l1 l2 hP => by
  refine ⟨D, co, P, e1, ?_, l1, l2, hP⟩
  rw [e2, Xab]
  simp only
  rw [(Xs8 D.Seq l1 l2).1, Xab]
 unfold Xdf Xcn Xf2
 rw [cd, Xab, Ykd d (by omega) (by omega), Xab, Xkx, Xab]
 cases hd : Xfe d with
 | false => exact key (D := d) (co := 1) rfl rfl h1 h2 (.inl rfl)
 | true =>
  rw [Bool.not_true, Xal, Xal]
  rcases Xvb u hu with ⟨k, L, hk, hb, hl, e1, e2⟩ | ⟨e1, e2⟩
  ·
   rw [e1, Xab, e2, Xab]
   simp only
   rw [Bool.not_true, Xal, Xal]
   unfold Xmw at hk
   simp only [Bool.or_eq_true, beq_iff_eq] at hk
   have hz : ((0 : Nat) : Int) = 0 := rfl
   by_cases k7 : k = 7
   ·
    subst k7
    rw [Xbg (b := (7 : Int) == 7) (by rfl), Xbg (b := (7 : Int) == 7) (by rfl)]
    rcases Xr4 hb hl 0 (by omega) with ⟨q, j, r1, r2, hs, l1, l2, _⟩ | ⟨r1, r2⟩
    ·
     rw [hz] at r1 r2
     rw [r1, Xab, r2, Xab]
     simp only
     simp only [Xap, Xab]
     cases ((j : Int) != ((strOfNums L).size : Int)) with
     | true => exact key (D := d) (co := 3) rfl rfl h1 h2 (.inl rfl)
     | false => exact key (D := ⟨true, false, false, q, ⟨0, false, false, false⟩, -1, 0, ⟨0, 0, ⟨#[]⟩⟩, ⟨0, 0, ⟨#[]⟩⟩⟩) (co := 0) rfl rfl (by simp only; omega) (by simp only; omega) (.inl rfl)
    ·
     rw [hz] at r1 r2
     rw [r1, Xab, r2, Xab]
     simp only
     simp only [Xal, Xap, Xab]
     exact key (D := d) (co := 3) rfl rfl h1 h2 (.inl rfl)
   ·
    rw [Xa6 (b := k == 7) (by rw [beq_eq_false_iff_ne]; exact k7), Xa6 (b := k == 7) (by rw [beq_eq_false_iff_ne]; exact k7)]
    by_cases k8 : k = 8
    ·
     subst k8
     rw [Xbg (b := (8 : Int) == 8) (by rfl), Xbg (b := (8 : Int) == 8) (by rfl)]
     rcases Xr3 hb hl 0 (by omega) with ⟨q, j, r1, r2, hs, _⟩ | ⟨r1, r2⟩
     ·
      rw [hz] at r1 r2
      rw [r1, Xab, r2, Xab]
      simp only
      simp only [Xap, Xab]
      cases ((j : Int) != ((strOfNums L).size : Int)) with
      | true => exact key (D := d) (co := 3) rfl rfl h1 h2 (.inl rfl)
      | false =>
       simp only [Xal]
       cases hS : d.HasSeq with
       | false => exact key (D := d) (co := 4) rfl rfl h1 h2 (.inl rfl)
       | true =>
        simp only [Xap, Xab]
        cases decide (d.Got > 0) with
        | true => exact key (D := d) (co := 4) rfl rfl h1 h2 (.inl rfl)
        | false => exact key (D := ⟨true, true, d.HasRef, d.Seq, q, d.Frame, d.Got, d.Now, d.Ref⟩) (co := 0) rfl rfl h1 h2 (.inl rfl)
     ·
      rw [hz] at r1 r2
      rw [r1, Xab, r2, Xab]
      simp only
      simp only [Xal, Xap, Xab]
      exact key (D := d) (co := 3) rfl rfl h1 h2 (.inl rfl)
    ·
     rw [Xa6 (b := k == 8) (by rw [beq_eq_false_iff_ne]; exact k8), Xa6 (b := k == 8) (by rw [beq_eq_false_iff_ne]; exact k8)]
     obtain ⟨D, co, P, s1, s2, s3, s4⟩ := Yiv hb hl d hd (by omega) (by omega) k (by omega)
     rw [s1, Xab, s2, Xab]
     refine key (D := D) (co := co) (P := P) ?_ rfl (by rw [s3]; exact h1) (by rw [s3]; exact h2) s4
     simp only
     rw [← s3]
  ·
   rw [e1, Xab, e2, Xab]
   exact key (D := d) (co := 2) rfl rfl h1 h2 (.inl rfl)
abbrev Yz1 := Int × Bool × Bool × Bool × Int × Int × Int × Bool × Bool × Bool × Int × Int × Int × Int × ByteArray × Int × Int × ByteArray × (List Pic) × (List Int) × (List Int) × (List Int)
def Ylz (k : Int) (d : Xam) (ps : List Pic) (cs : List Int) : Yz1 := (k, d.HasSeq, d.HasPar, d.HasRef, d.Seq.Level, d.Seq.Bits, d.Par.Qp, d.Par.Large, d.Par.Exact, d.Par.Confined, d.Frame, d.Got, d.Now.Wide, d.Now.High, d.Now.Dots, d.Ref.Wide, d.Ref.High, d.Ref.Dots, ps, cs, d.Seq.Cols, d.Seq.Rows)
theorem Ysn (us : List ByteArray) (h400 : us.length ≤ 400) (hu : ∀ u ∈ us, u.size ≤ 1048576) : ∀ n k : Nat, k + n = us.length → ∀ (d : Xam) (ps : List Pic) (cs : List Int), d.Seq.Cols.length ≤ 1048576 → d.Seq.Rows.length ≤ 1048576 → ps.length ≤ k → cs.length = k →
  ∃ (D : Xam) (ps' : List Pic) (cs' : List Int), loop (Xgr us) (Ylz (k : Int) d ps cs) = some (Ylz 0 D ps' cs').2 ∧ loop (Xc9 us) (Ylz (k : Int) d ps cs) = some (Ylz 0 D ps' cs').2 ∧ D.Seq.Cols.length ≤ 1048576 ∧ D.Seq.Rows.length ≤ 1048576 ∧ ps'.length ≤ 400 ∧ cs'.length ≤ 400
 | 0, k, hk, d, ps, cs, h1, h2, hp, hc => by
  refine ⟨d, ps, cs, Xce ?_, Xce ?_, h1, h2, by omega, by omega⟩
  ·
   unfold Xgr Ylz
   simp only
   rw [snA]
  ·
   unfold Xc9 Ylz
   simp only
   rw [snA]
 | n + 1, k, hk, d, ps, cs, h1, h2, hp, hc => by
  have hm : maxLen = 9223372036854775807 := rfl
  have hz := hu (us.getD k Xjn) (by rw [Xb3 us k (by omega)]; exact List.getElem_mem _)
  obtain ⟨D, co, P, ei, es, d1, d2, hP⟩ := Xov d (us.getD k Xjn) h1 h2 hz
  have ei' : Xdf (⟨d.HasSeq, d.HasPar, d.HasRef, ⟨d.Seq.Level, d.Seq.Bits, d.Seq.Cols, d.Seq.Rows⟩, ⟨d.Par.Qp, d.Par.Large, d.Par.Exact, d.Par.Confined⟩, d.Frame, d.Got, ⟨d.Now.Wide, d.Now.High, d.Now.Dots⟩, ⟨d.Ref.Wide, d.Ref.High, d.Ref.Dots⟩⟩ : Xam) (us.getD k Xjn) = some (D, co, P) := ei
  have es' : Xcn (⟨d.HasSeq, d.HasPar, d.HasRef, ⟨d.Seq.Level, d.Seq.Bits, d.Seq.Cols, d.Seq.Rows⟩, ⟨d.Par.Qp, d.Par.Large, d.Par.Exact, d.Par.Confined⟩, d.Frame, d.Got, ⟨d.Now.Wide, d.Now.High, d.Now.Dots⟩, ⟨d.Ref.Wide, d.Ref.High, d.Ref.Dots⟩⟩ : Xam) (us.getD k Xjn) = some (D, co, P) := es
  have hw : decide (P.Wide > 0) = Xcj P := by
   rcases hP with h | h
   ·
    rw [h]; rfl
   ·
    obtain ⟨k1, _, _⟩ := Xbr h
    rw [h]; exact decide_eq_true (by omega)
  have gI : Xgr us (Ylz (k : Int) d ps cs) = some (.go (Ylz ((k + 1 : Nat) : Int) D (if Xcj P = true then ps ++ [P] else ps) (cs ++ [co]))) := by
   unfold Xgr Ylz
   simp only [Int.toNat_natCast]
   rw [syA, rqA, ei', Xab]
   simp only
   rw [Xay (by simp only [List.length_singleton]; omega), Xcq, Xab]
   cases Xcj P with
   | true => rw [Xap, Xay (by simp only [List.length_singleton]; omega), Xab, wkA]; rfl
   | false => rw [Xal, Xab, wkA]; rfl
  have gS : Xc9 us (Ylz (k : Int) d ps cs) = some (.go (Ylz ((k + 1 : Nat) : Int) D (if Xcj P = true then ps ++ [P] else ps) (cs ++ [co]))) := by
   unfold Xc9 Ylz
   simp only [Int.toNat_natCast]
   rw [syA, rqA, es', Xab]
   simp only
   rw [Xay (by simp only [List.length_singleton]; omega), hw]
   cases Xcj P with
   | true => rw [Xap, Xay (by simp only [List.length_singleton]; omega), Xab, wkA]; rfl
   | false => rw [Xal, Xab, wkA]; rfl
  have hl : (if Xcj P = true then ps ++ [P] else ps).length ≤ k + 1 := by
   split
   ·
    rw [List.length_append, List.length_singleton]; omega
   ·
    omega
  obtain ⟨D', ps', cs', r1, r2, r3⟩ := Ysn us h400 hu n (k + 1) (by omega) D _ (cs ++ [co]) d1 d2 hl (by rw [List.length_append, List.length_singleton]; omega)
  exact ⟨D', ps', cs', lgo gI r1, lgo gS r2, r3⟩
theorem Yog (d : Xam) (us : List ByteArray) (h1 : d.Seq.Cols.length ≤ 1048576) (h2 : d.Seq.Rows.length ≤ 1048576) (hu : ∀ u ∈ us, u.size ≤ 1048576) : ∃ (D : Xam) (ps : List Pic) (cs : List Int), Xha d us = some (D, ps, cs) ∧ Xof d us = some (D, ps, cs) ∧ D.Seq.Cols.length ≤ 1048576 ∧ D.Seq.Rows.length ≤ 1048576 ∧ ps.length ≤ 400 ∧ cs.length ≤ 400 := by
 obtain ⟨c1, c2⟩ := Xs8 d.Seq h1 h2
 have cd : Xcw d = some d := by unfold Xcw; rw [c2, Xab]
 unfold Xha Xof
 rw [cd, Xab, c1, Xab]
 by_cases h4 : (us.length : Int) > 400
 ·
  rw [Xbk h4, Xbk h4]
  exact ⟨d, [], [], rfl, rfl, h1, h2, by simp, by simp⟩
 ·
  rw [Xas h4, Xas h4]
  obtain ⟨D, ps, cs, r1, r2, r3⟩ := Ysn us (by omega) hu us.length 0 (by omega) d [] [] h1 h2 (by simp) rfl
  refine ⟨D, ps, cs, (Xei r1).trans rfl, (Xei r2).trans rfl, r3⟩
theorem Ysr : ∀ n : Nat, ∀ c : List Int, c.length = n → Xek c → Xyd n (Xg7 c) = c
 | 0, c, h, _ => by rw [List.length_eq_zero_iff.1 h]; rfl
 | n + 1, c, h, hb => by
  have hne : c ≠ [] := fun e => by rw [e] at h; simp at h
  have hc := (List.dropLast_concat_getLast hne).symm
  have hl : c.dropLast.length = n := by rw [List.length_dropLast]; omega
  have ih := Ysr n c.dropLast hl (fun x hx => hb x (List.dropLast_subset c hx))
  have hx := hb _ (List.getLast_mem hne)
  generalize c.getLast hne = x at hc hx
  have hv : Xg7 c = Xg7 c.dropLast * 2 + (x - 48) := by
   rw [hc, Xrn, ← hc]
   show Xg7 c.dropLast * 2 ^ 1 + Xg7 [x] = _
   rw [show Xg7 [x] = x - 48 by simp [Xg7], show (2 : Int) ^ 1 = 2 from rfl]
  rw [Xyd, hv, show (Xg7 c.dropLast * 2 + (x - 48)) / 2 = Xg7 c.dropLast by omega, show (48 : Int) + (Xg7 c.dropLast * 2 + (x - 48)) % 2 = x by omega, ih]
  exact hc.symm
theorem Ymg : ∀ (m : Nat) (V : List Int) (q : Nat), q < m → (Xpu m V).getD q 0 = Xg7 ((V.drop (8 * q)).take 8)
 | 0, _, _, h => by omega
 | m + 1, V, 0, _ => rfl
 | m + 1, V, q + 1, h => by
  rw [Xpu, List.getD_cons_succ, Ymg m (V.drop 8) q (by omega), List.drop_drop, show 8 + 8 * q = 8 * (q + 1) by omega]
theorem Xqv : ∀ (m : Nat) (V : List Int), Xek V → Yq8 (Xpu m V)
 | 0, _, _ => fun x hx => by simp [Xpu] at hx
 | m + 1, V, h => fun x hx => by
  rw [Xpu] at hx
  rcases List.mem_cons.1 hx with rfl | hx
  ·
   have r := Xi5 (l := V.take 8) (fun x hx => h x (List.mem_of_mem_take hx))
   have h8 : (V.take 8).length ≤ 8 := by rw [List.length_take]; omega
   have hp : (2 : Int) ^ (V.take 8).length ≤ 2 ^ 8 := by
    have : ∀ k : Fin 9, (2 : Int) ^ k.val ≤ 2 ^ 8 := by decide
    exact this ⟨(V.take 8).length, by omega⟩
   have e8 : (2 : Int) ^ 8 = 256 := rfl
   omega
  ·
   exact Xqv m (V.drop 8) (fun x hx => h x (List.mem_of_mem_drop hx)) x hx
theorem Yw2 (V : List Int) (a n k : Nat) (h : k < n) : ((V.drop a).take n).getD k 0 = V.getD (a + k) 0 := by
 rw [List.getD_eq_getElem?_getD, List.getD_eq_getElem?_getD, List.getElem?_take_of_lt h, List.getElem?_drop]
theorem Yut (V : List Int) (hb : Xek V) (m : Nat) (hV : V.length = 8 * m) (i : Nat) (hi : i < 8 * m) : Xyi (strOfNums (Xpu m V)) i = V.getD i 0 := by
 have hc := Xqv m V hb
 unfold Xyi
 rw [Xr7 _ hc (i / 8) (by rw [Xyj]; omega), Ymg m V (i / 8) (by omega)]
 have h8 : ((V.drop (8 * (i / 8))).take 8).length = 8 := by rw [List.length_take, List.length_drop]; omega
 have hcb : Xek ((V.drop (8 * (i / 8))).take 8) := fun x hx => hb x (List.mem_of_mem_drop (List.mem_of_mem_take hx))
 have hr := Xi5 hcb
 rw [h8] at hr
 have e8 : (2 : Int) ^ 8 = 256 := rfl
 have f1 := Ysr 8 _ h8 hcb
 rw [Yzo _ ⟨hr.1, by omega⟩] at f1
 have f2 : (_ : Int) = _ := congrArg (fun l => List.getD l (i % 8) 0) f1
 rw [Xi9 _ (by omega), Yw2 V _ _ _ (by omega), show 8 * (i / 8) + i % 8 = i by omega] at f2
 exact f2
theorem Ytk (L : List Int) : ∃ z, L ++ 49 :: List.replicate (8 * (L.length / 8 + 1) - L.length - 1) 48 = L ++ 49 :: List.replicate z 48 ∧ z ≤ 7 ∧ L.length + 1 + z = 8 * (L.length / 8 + 1) := ⟨_, rfl, by omega, by omega⟩
theorem Ymc (L : List Int) (hb : Xek L) : ∃ z, Xij (strOfNums (Xps L)) = L ++ 49 :: List.replicate z 48 ∧ L.length + 1 + z = 8 * (L.length / 8 + 1) := by
 obtain ⟨z, h1, h2, h3⟩ := Ytk L
 refine ⟨z, ?_, h3⟩
 have hV : Xek (L ++ 49 :: List.replicate z 48) := Xa4 hb (fun x hx => by
  rcases List.mem_cons.1 hx with rfl | hx
  ·
   exact .inr rfl
  ·
   exact Xwh z x hx)
 have hl : (L ++ 49 :: List.replicate z 48).length = 8 * (L.length / 8 + 1) := by
  rw [List.length_append, List.length_cons, List.length_replicate]; omega
 refine List.ext_getElem (by rw [Xpt, strOfNums_size, Xjb, hl]) fun i i1 i2 => ?_
 rw [Xpt, strOfNums_size, Xjb] at i1
 have e1 : (Xij (strOfNums (Xps L)))[i] = (Xij (strOfNums (Xps L))).getD i 0 := (Xb3 _ _ (by rw [Xpt, strOfNums_size, Xjb]; exact i1) 0).symm
 have e2 : (L ++ 49 :: List.replicate z 48)[i] = (L ++ 49 :: List.replicate z 48).getD i 0 := (Xb3 _ _ i2 0).symm
 rw [e1, e2, Xwi _ (by rw [strOfNums_size, Xjb]; exact i1)]
 unfold Xps
 rw [h1]
 exact Yut _ hV _ hl i i1
theorem Ypr : ∀ b : Fin 256, ∀ k : Fin 8, 48 + ((b.val : Int) / 2 ^ (7 - k.val)) % 2 = 49 → b.val ≠ 0 := by decide +kernel
theorem Yjj (L : List Int) (hb : Xek L) (hl : L.length ≤ 400000) : Xeq (strOfNums (Xps L)) = some (strOfNums L, true) := by
 obtain ⟨z, h1, h3⟩ := Ymc L hb
 have hs : (strOfNums (Xps L)).size = L.length / 8 + 1 := by rw [strOfNums_size, Xjb]
 generalize hS : strOfNums (Xps L) = s at h1 hs
 have k2 : (Xij s).getD L.length 0 = 49 := by
  rw [h1]
  have := Yi2 L (49 :: List.replicate z 48) 0
  rw [Nat.add_zero] at this
  rw [this]; rfl
 have k3 : ∀ j, L.length + 1 ≤ j → j < 8 * s.size → (Xij s).getD j 0 = 48 := fun j j1 j2 => by
  rw [h1]
  have := Yi2 L (49 :: List.replicate z 48) (j - L.length)
  rw [show L.length + (j - L.length) = j by omega] at this
  rw [this, show j - L.length = (j - L.length - 1) + 1 by omega, List.getD_cons_succ, Xb3 _ _ (by rw [List.length_replicate]; omega) 0, List.getElem_replicate]
 have hb0 := Xoy s ((s.size : Int) - 1)
 have hz : (Xlf s ((s.size : Int) - 1) == 0) = false := by
  rw [beq_eq_false_iff_ne]
  intro h0
  have hk := k2
  rw [Xwi s (by omega)] at hk
  unfold Xyi at hk
  rw [show L.length / 8 = s.size - 1 by omega, show (((s.size - 1 : Nat)) : Int) = (s.size : Int) - 1 by omega, h0] at hk
  exact Ypr ⟨0, by omega⟩ ⟨L.length % 8, by omega⟩ hk rfl
 unfold Xeq
 rw [wkA (e := 8 * (s.size : Int)), Xa6 (b := (8 * (s.size : Int)) == 0) (by rw [beq_eq_false_iff_ne]; omega), wkA (e := (s.size : Int) - 1), Xay (show 0 ≤ (s.size : Int) - 1 ∧ (s.size : Int) - 1 < s.size by omega), hz, Xal, decide_eq_false (by omega), Xab, Xal, Xay (show 0 ≤ (0 : Int) ∧ (0 : Int) ≤ 8 * (s.size : Int) ∧ 8 * (s.size : Int) * 1 ≤ 281474976710656 by omega), show (List.replicate (0 : Int).toNat (0 : Int)) = [] from rfl, Xoz s (by omega), Xab]
 have hbl := Xpt s
 have lI : loop (Xb7 (Xij s)) (8 * (s.size : Int)) = some ((L.length + 1 : Nat) : Int) := by
  have key : ∀ m : Nat, L.length + 1 + m ≤ 8 * s.size → loop (Xb7 (Xij s)) ((L.length + 1 + m : Nat) : Int) = some ((L.length + 1 : Nat) : Int) := by
   intro m
   induction m with
   | zero =>
    intro _
    refine Xce ?_
    unfold Xb7
    rw [wkA, rqA, rqA, show (((L.length + 1 + 0 : Nat) : Int) - 1).toNat = L.length by omega, k2]
    rfl
   | succ m ih =>
    intro hm
    refine lgo ?_ (ih (by omega))
    unfold Xb7
    rw [wkA, rqA, rqA, show (((L.length + 1 + (m + 1) : Nat) : Int) - 1).toNat = L.length + 1 + m by omega, k3 _ (by omega) (by omega), show ((L.length + 1 + (m + 1) : Nat) : Int) - 1 = ((L.length + 1 + m : Nat) : Int) by omega]
    rfl
  have := key (8 * s.size - (L.length + 1)) (by omega)
  rwa [show ((L.length + 1 + (8 * s.size - (L.length + 1)) : Nat) : Int) = 8 * (s.size : Int) by omega] at this
 rw [lI, Xab, wkA (e := ((L.length + 1 : Nat) : Int) - 1), show ((L.length + 1 : Nat) : Int) - 1 = (L.length : Int) by omega, snA, rqA, rqA]
 have ht : (Xij s).take L.length = L := by rw [h1, List.take_left]
 simp only [Int.toNat_natCast, Int.toNat_zero, Nat.sub_zero, List.drop_zero]
 rw [ht]
theorem Yob {k : Int} (hk : Xmw k = true) (L : List Int) (hb : Xek L) : Yq8 (k :: Xps L) := fun x hx => by
 have hi := Ye3 hk
 rcases List.mem_cons.1 hx with rfl | hx
 ·
  omega
 ·
  obtain ⟨z, h1, _, h3⟩ := Ytk L
  unfold Xps at hx
  rw [h1] at hx
  exact Xqv _ _ (Xa4 hb (fun y hy => by
   rcases List.mem_cons.1 hy with rfl | hy
   ·
    exact .inr rfl
   ·
    exact Xwh z y hy)) x hx
theorem Yl9 {k : Int} (hk : Xmw k = true) (L : List Int) (hb : Xek L) (hl : L.length ≤ 400000) : Xf8 (strOfNums (k :: Xps L)) = some (k, strOfNums L, true) := by
 have hby := Yob hk L hb
 have hsz : (strOfNums (k :: Xps L)).size = L.length / 8 + 2 := by rw [strOfNums_size, List.length_cons, Xjb]
 have hne : ((strOfNums (k :: Xps L)).toList == (⟨#[]⟩ : ByteArray).toList) = false := by
  rw [beq_eq_false_iff_ne]
  intro h
  rw [Xz3.1 h] at hsz
  have : (⟨#[]⟩ : ByteArray).size = 0 := rfl
  omega
 have b0 : Xlf (strOfNums (k :: Xps L)) 0 = k := Xr7 _ hby 0 (by simp)
 have hi := Ye3 hk
 have hx : (strOfNums (k :: Xps L)).extract (1 : Int).toNat (((strOfNums (k :: Xps L)).size : Int)).toNat = strOfNums (Xps L) := by
  rw [show k :: Xps L = [k] ++ Xps L from rfl, ← Xbp]
  have h1 : (strOfNums [k]).size = 1 := by rw [strOfNums_size]; rfl
  rw [ByteArray.size_append, h1]
  have : (1 : Int).toNat = (strOfNums [k]).size := by rw [h1]; rfl
  rw [this, show (((1 + (strOfNums (Xps L)).size : Nat)) : Int).toNat = (strOfNums [k]).size + (strOfNums (Xps L)).size by rw [h1]; omega]
  exact ByteArray.extract_append_eq_right rfl rfl
 have hiw : Xaa .i64 k = k := wkA
 have r0 : ∀ {β : Type} (x : Option β), req (0 ≤ (0 : Int) ∧ (0 : Int) < ((strOfNums (k :: Xps L)).size : Int)) x = x := fun x => rqA
 have r1 : ∀ {β : Type} (x : Option β), req (0 ≤ (1 : Int) ∧ (1 : Int) ≤ ((strOfNums (k :: Xps L)).size : Int) ∧ ((strOfNums (k :: Xps L)).size : Int) ≤ ((strOfNums (k :: Xps L)).size : Int)) x = x := fun x => rqA
 unfold Xf8
 rw [hne, Xal]
 simp only [r0, r1, b0, hiw, Xun, hk, Xab, Bool.not_true, Xal, hx, Yjj L hb hl]
theorem Xva {k : Int} (hk : Xmw k = true) (L : List Int) (hb : Xek L) (hl : L.length ≤ 400000) : Xf8 (strOfNums (k :: Xps L)) = some (k, strOfNums L, true) ∧ Xok (strOfNums (k :: Xps L)) = some (k, strOfNums L, true) := by
 have hsz : (strOfNums (k :: Xps L)).size = L.length / 8 + 2 := by rw [strOfNums_size, List.length_cons, Xjb]
 have hI := Yl9 hk L hb hl
 refine ⟨hI, ?_⟩
 rcases Xvb (strOfNums (k :: Xps L)) (by omega) with ⟨kd, M, _, _, _, e1, e2⟩ | ⟨e1, e2⟩
 ·
  rw [hI] at e1
  rw [e2, ← e1]
 ·
  rw [hI] at e1
  have := congrArg (fun o => o.map fun x => x.2.2) e1
  simp at this
theorem Ylt : ∀ (w : Nat) (n : Int), 0 ≤ n → n < 2 ^ w → Xg7 (Xyd w n) = n
 | 0, n, h0, h1 => by
  have : (2 : Int) ^ 0 = 1 := rfl
  rw [show n = 0 by omega]; rfl
 | w + 1, n, h0, h1 => by
  rw [Int.pow_succ] at h1
  rw [Xyd, Xrn, Ylt w (n / 2) (by omega) (by omega)]
  show n / 2 * 2 ^ 1 + Xg7 [48 + n % 2] = n
  rw [show Xg7 [48 + n % 2] = n % 2 from (by simp only [Xg7, List.foldl_cons, List.foldl_nil]; omega), show (2 : Int) ^ 1 = 2 from rfl]
  omega
theorem Yqa {L : List Int} (hb : Xek L) (hl : L.length ≤ 400000) (q1 : Int × Xj9) (l : List Int) (ha : l.all Xeb = true) (h4 : l.length ≤ 4) (hq : q1.1 = (l.length : Int)) (b : List Int) : ∀ (r pre a : List Int), l = pre ++ r → L = a ++ (Yqy r ++ b) → loop (Xax q1) ((pre.length : Int), strOfNums L, (a.length : Int), false, pre) = some (l, strOfNums L, ((a.length + (Yqy r).length : Nat) : Int), false)
 | [], pre, a, h1, h2 => by
  refine Xce ?_
  rw [List.append_nil] at h1
  unfold Xax
  simp only
  rw [hq, h1, snA, Xab, Xal]
  rfl
 | x :: r, pre, a, h1, h2 => by
  have hm : maxLen = 9223372036854775807 := rfl
  have hlen : l.length = pre.length + (r.length + 1) := by rw [h1]; simp
  have hx : Xeb x = true := List.all_eq_true.1 ha x (by rw [h1]; simp)
  have hx : 1 ≤ x ∧ x ≤ 8 := by simpa [Xeb] using hx
  rw [Yqy, List.append_assoc] at h2
  have e := Xh8 h2 hb hl (by omega)
  have ih := Yqa hb hl q1 l ha h4 hq b r (pre ++ [x]) (a ++ ueL x.toNat) (by rw [h1]; simp) (by rw [h2]; simp only [List.append_assoc])
  refine lgo ?_ (ih.trans ?_)
  ·
   unfold Xax
   simp only
   rw [hq, syA, Bool.not_false, Xab, Xap, e, Xab]
   simp only
   rw [Xay (by simp only [List.length_singleton]; omega), wkA, List.length_append, List.length_append, List.length_singleton, show ((x.toNat : Nat) : Int) = x by omega]
   rfl
  ·
   rw [Yqy, List.length_append, List.length_append, Nat.add_assoc]
theorem Yao {L a b l : List Int} (hL : L = a ++ (Xq9 l ++ b)) (hb : Xek L) (hl : L.length ≤ 400000) (ho : Xdq l = true) : Xcb ⟨strOfNums L, (a.length : Int), false⟩ = some (l, ⟨strOfNums L, ((a.length + (Xq9 l).length : Nat) : Int), false⟩) := by
 have h4 := Xbc ho
 unfold Xdq at ho
 rw [Bool.and_eq_true] at ho
 unfold Xq9 at hL ⊢
 rw [List.append_assoc] at hL
 have e := Xh8 hL hb hl (by omega)
 unfold Xcb
 rw [e, Xab]
 simp only
 rw [snA, Xab]
 have := Yqa hb hl ((l.length : Int), ⟨strOfNums L, ((a.length + (ueL l.length).length : Nat) : Int), false⟩) l ho.2 h4.2 rfl b l [] (a ++ ueL l.length) rfl (by rw [hL]; simp only [List.append_assoc])
 rw [List.length_append] at this
 refine (Xei this).trans ?_
 rw [List.length_append, Nat.add_assoc]
theorem Xqh {s : Seq} (h : Xec s = true) : (Xru s).length ≤ 400000 := by have := Ylh h; omega
theorem Yjq {s : Seq} (h : Xec s = true) : Xdi (strOfNums (Xru s)) 0 = some (s, ((Xru s).length : Int), true) := by
 have hm : maxLen = 9223372036854775807 := rfl
 have hb := Xto s
 have hl := Xqh h
 obtain ⟨s1, s2, b1, b2⟩ := Xa5 h
 have lv := Xvw h
 have c1 := Xbc s1
 have c2 := Xbc s2
 have p1 : Xru s = [] ++ (ueL s.Level.toNat ++ (Xyd 4 s.Bits ++ Xq9 s.Cols ++ Xq9 s.Rows)) := by unfold Xru; simp only [List.nil_append, List.append_assoc]
 have p2 : Xru s = ueL s.Level.toNat ++ (Xyd 4 s.Bits ++ (Xq9 s.Cols ++ Xq9 s.Rows)) := by unfold Xru; simp only [List.append_assoc]
 have p3 : Xru s = (ueL s.Level.toNat ++ Xyd 4 s.Bits) ++ (Xq9 s.Cols ++ Xq9 s.Rows) := by unfold Xru; simp only [List.append_assoc]
 have p4 : Xru s = (ueL s.Level.toNat ++ Xyd 4 s.Bits ++ Xq9 s.Cols) ++ (Xq9 s.Rows ++ []) := by unfold Xru; simp only [List.append_assoc, List.append_nil]
 have hlen : (Xru s).length = (ueL s.Level.toNat).length + 4 + (Xq9 s.Cols).length + (Xq9 s.Rows).length := by unfold Xru; simp only [List.length_append, Xcp]
 generalize Xru s = L at *
 have e1 := Xh8 p1 hb hl (by omega)
 have e2 := Xhh p2 hb hl (by rw [Xcp]; omega)
 have e3 := Yao p3 hb hl s1
 have e4 := Yao p4 hb hl s2
 rw [Xcp, Ylt 4 s.Bits (by omega) (by have : (2 : Int) ^ 4 = 16 := rfl; omega)] at e2
 rw [List.length_append, Xcp] at e3
 rw [List.length_append, List.length_append, Xcp] at e4
 rw [List.length_nil, Nat.zero_add] at e1
 have o := Xoc hb hl 0 (by omega)
 unfold Xdi
 rw [show (0 : Int) = ((0 : Nat) : Int) from rfl, o, Xab, e1, Xab]
 simp only
 rw [show (4 : Int) = ((4 : Nat) : Int) from rfl, e2, Xab]
 simp only
 rw [e3, Xab]
 simp only
 rw [e4, Xab]
 simp only
 rw [Xal, show ((s.Level.toNat : Nat) : Int) = s.Level by omega, show (⟨s.Level, s.Bits, s.Cols, s.Rows⟩ : Seq) = s from rfl, Xew _ (by omega) (by omega), Xab, h, Xab, hlen]
 rfl
theorem Yl4 {s : Seq} (h : Xec s = true) : Xdi (strOfNums (Xru s)) 0 = some (s, ((Xru s).length : Int), true) ∧ Xft (strOfNums (Xru s)) 0 = some (s, ((Xru s).length : Int), true) := by
 have hb := Xto s
 have hl := Xqh h
 have hI := Yjq h
 generalize Xru s = L at *
 refine ⟨hI, ?_⟩
 rcases Xr4 hb hl 0 (by omega) with ⟨q, j, r1, r2, _⟩ | ⟨_, r2⟩
 ·
  have r1' : Xft (strOfNums L) 0 = _ := r1
  have r2' : Xdi (strOfNums L) 0 = _ := r2
  rw [hI] at r2'
  rw [r1', ← r2']
 ·
  have r2' : Xdi (strOfNums L) 0 = _ := r2
  rw [hI] at r2'
  have := congrArg (fun o => o.map fun x => x.2.2) r2'
  simp at this
theorem Yvn (b : Bool) : Xg7 (Xpl b) = if b = true then 1 else 0 := by cases b <;> rfl
theorem Yjp {p : Par} (h : Xj8 p = true) : Xdh (strOfNums (Ybz p)) 0 = some (p, 9, true) := by
 have hb := Xxm p
 have hl9 := Xth p
 have hl : (Ybz p).length ≤ 400000 := by omega
 have hq := Xti h
 have p1 : Ybz p = [] ++ (Xyd 6 p.Qp ++ (Xpl p.Large ++ Xpl p.Exact ++ Xpl p.Confined)) := by unfold Ybz; simp only [List.nil_append, List.append_assoc]
 have p2 : Ybz p = Xyd 6 p.Qp ++ (Xpl p.Large ++ (Xpl p.Exact ++ Xpl p.Confined)) := by unfold Ybz; simp only [List.append_assoc]
 have p3 : Ybz p = (Xyd 6 p.Qp ++ Xpl p.Large) ++ (Xpl p.Exact ++ Xpl p.Confined) := by unfold Ybz; simp only [List.append_assoc]
 have p4 : Ybz p = (Xyd 6 p.Qp ++ Xpl p.Large ++ Xpl p.Exact) ++ (Xpl p.Confined ++ []) := by unfold Ybz; simp only [List.append_assoc, List.append_nil]
 generalize Ybz p = L at *
 have e1 := Xhh p1 hb hl (by rw [Xcp]; omega)
 have e2 := Xhh p2 hb hl (by rw [Xm0]; omega)
 have e3 := Xhh p3 hb hl (by rw [Xm0]; omega)
 have e4 := Xhh p4 hb hl (by rw [Xm0]; omega)
 simp only [List.length_append, Xcp, Xm0, Yvn, List.length_nil] at e1 e2 e3 e4
 rw [Ylt 6 p.Qp (by omega) (by have : (2 : Int) ^ 6 = 64 := rfl; omega)] at e1
 have o := Xoc hb hl 0 (by omega)
 unfold Xdh
 rw [show (0 : Int) = ((0 : Nat) : Int) from rfl, o, Xab, show (6 : Int) = ((6 : Nat) : Int) from rfl, e1, Xab]
 simp only
 rw [show (1 : Int) = ((1 : Nat) : Int) from rfl, e2, Xab]
 simp only
 rw [e3, Xab]
 simp only
 rw [e4, Xab]
 simp only
 have hbit : ∀ b : Bool, ((if b = true then (1 : Int) else 0) == ((1 : Nat) : Int)) = b := fun b => by cases b <;> rfl
 rw [hbit, hbit, hbit, Xal, show (⟨p.Qp, p.Large, p.Exact, p.Confined⟩ : Par) = p from rfl, Xh1, Xab, h, Xab]
 rfl
theorem Yl3 {p : Par} (h : Xj8 p = true) : Xdh (strOfNums (Ybz p)) 0 = some (p, 9, true) ∧ Xfs (strOfNums (Ybz p)) 0 = some (p, 9, true) := by
 have hb := Xxm p
 have hl9 := Xth p
 have hI := Yjp h
 generalize Ybz p = L at *
 have hl : L.length ≤ 400000 := by omega
 refine ⟨hI, ?_⟩
 rcases Xr3 hb hl 0 (by omega) with ⟨q, j, r1, r2, _⟩ | ⟨_, r2⟩
 ·
  have r1' : Xfs (strOfNums L) 0 = _ := r1
  have r2' : Xdh (strOfNums L) 0 = _ := r2
  rw [hI] at r2'
  rw [r1', ← r2']
 ·
  have r2' : Xdh (strOfNums L) 0 = _ := r2
  rw [hI] at r2'
  have := congrArg (fun o => o.map fun x => x.2.2) r2'
  simp at this
def Xpw (q : Seq) (p : Par) (h : Xow) : List Int := ueL h.Tile.toNat ++ Xyd q.Bits.toNat h.Frame ++ seL (h.Qp - p.Qp)
theorem Ymv (q : Seq) (p : Par) (h : Xow) : Xek (Xpw q p h) := Xa4 (Xa4 (Xnj _) (Xwn _ _)) (Xnj _)
theorem Xfy {q : Seq} {p : Par} {h : Xow} (hh : Xlh q p h = true) : Xec q = true ∧ Xj8 p = true ∧ (0 ≤ h.Tile ∧ h.Tile < Xbh q) ∧ (0 ≤ h.Frame ∧ h.Frame < 2 ^ q.Bits.toNat) ∧ (0 ≤ h.Qp ∧ h.Qp ≤ 40) := by
 unfold Xlh at hh
 simp only [Bool.and_eq_true, decide_eq_true_eq] at hh
 exact hh
theorem Ymw {q : Seq} {p : Par} {h : Xow} (hh : Xlh q p h = true) : (Xpw q p h).length ≤ 200 := by
 obtain ⟨hs, hp, ht, hf, hq⟩ := Xfy hh
 obtain ⟨_, _, b1, b2⟩ := Xa5 hs
 have hr := Xd0 hs
 have pq := Xti hp
 have u := Xge h.Tile.toNat (by omega)
 have z := Xrf (h.Qp - p.Qp) (by omega)
 unfold Xpw
 simp only [List.length_append, Xcp]
 omega
theorem Yfx {q : Seq} {p : Par} {h : Xow} (hh : Xlh q p h = true) : Xm2 q p h = some (strOfNums (Xpw q p h), true) := by
 obtain ⟨hs, hp, ht, hf, hq⟩ := Xfy hh
 obtain ⟨_, _, b1, b2⟩ := Xa5 hs
 obtain ⟨_, _, _, w4, _⟩ := Xgq q.Bits ⟨b1, b2⟩
 have hr := Xd0 hs
 have pq := Xti hp
 unfold Xm2
 have fl := Xcp q.Bits.toNat h.Frame
 have u := Xge h.Tile.toNat (by omega)
 have z := Xrf (h.Qp - p.Qp) (by omega)
 rw [Xuv, Xab, hh, Bool.not_true, Xal, show h.Tile = ((h.Tile.toNat : Nat) : Int) by omega, Xdz _ (by omega), Xab, show q.Bits = ((q.Bits.toNat : Nat) : Int) by omega, Xmk h.Frame _ hf.1 (by omega) (by omega), Xab, wkA (e := h.Qp - p.Qp), Xay (by simp only [strOfNums_size]; omega), Xnv _ (by omega), Xab, Xbp, Xay (by simp only [strOfNums_size, List.length_append]; omega), Xbp]
 rfl
theorem Ygx {q : Seq} {p : Par} {h : Xow} {L R : List Int} (hh : Xlh q p h = true) (hL : L = Xpw q p h ++ R) (hb : Xek L) (hl : L.length ≤ 400000) : Xdv q p (strOfNums L) = some (h, ((Xpw q p h).length : Int), true) := by
 have hm : maxLen = 9223372036854775807 := rfl
 obtain ⟨hs, hp, ht, hf, hq⟩ := Xfy hh
 obtain ⟨s1, s2, b1, b2⟩ := Xa5 hs
 obtain ⟨_, _, _, w4, _⟩ := Xgq q.Bits ⟨b1, b2⟩
 have hr := Xd0 hs
 have pq := Xti hp
 have c1 := Xbc s1
 have c2 := Xbc s2
 have p1 : L = [] ++ (ueL h.Tile.toNat ++ (Xyd q.Bits.toNat h.Frame ++ seL (h.Qp - p.Qp) ++ R)) := by rw [hL]; unfold Xpw; simp only [List.nil_append, List.append_assoc]
 have p2 : L = ueL h.Tile.toNat ++ (Xyd q.Bits.toNat h.Frame ++ (seL (h.Qp - p.Qp) ++ R)) := by rw [hL]; unfold Xpw; simp only [List.append_assoc]
 have p3 : L = (ueL h.Tile.toNat ++ Xyd q.Bits.toNat h.Frame) ++ (seL (h.Qp - p.Qp) ++ R) := by rw [hL]; unfold Xpw; simp only [List.append_assoc]
 have e1 := Xh8 p1 hb hl (by omega)
 have e2 := Xhh p2 hb hl (by rw [Xcp]; omega)
 have e3 := Xtn p3 hb hl (by omega)
 rw [Xcp, Ylt _ h.Frame hf.1 hf.2] at e2
 rw [List.length_append, Xcp] at e3
 rw [List.length_nil, Nat.zero_add] at e1
 have hlen : (Xpw q p h).length = (ueL h.Tile.toNat).length + q.Bits.toNat + (seL (h.Qp - p.Qp)).length := by unfold Xpw; simp only [List.length_append, Xcp]
 have o := Xoc hb hl 0 (by omega)
 unfold Xdv
 rw [show (0 : Int) = ((0 : Nat) : Int) from rfl, o, Xab, Xew _ (by omega) (by omega), Xab, hs, Xap, Xh1, Xab, hp, Xab, Bool.not_true, Xal, e1, Xab]
 simp only
 rw [show q.Bits = ((q.Bits.toNat : Nat) : Int) by omega, e2, Xab]
 simp only
 rw [e3, Xab]
 simp only
 rw [Xal, wkA, show h.Qp - p.Qp + p.Qp = h.Qp by omega, show ((h.Tile.toNat : Nat) : Int) = h.Tile by omega, show (⟨h.Tile, h.Frame, h.Qp⟩ : Xow) = h from rfl, Xue _ _ _ (by omega) (by omega), Xab, hh, Xab, hlen]
 rfl
theorem Yjo {q : Seq} {p : Par} {h : Xow} {L R : List Int} (hh : Xlh q p h = true) (hL : L = Xpw q p h ++ R) (hb : Xek L) (hl : L.length ≤ 400000) : Xdv q p (strOfNums L) = some (h, ((Xpw q p h).length : Int), true) ∧ Xib q p (strOfNums L) = some (h, ((Xpw q p h).length : Int), true) := by
 have hm : maxLen = 9223372036854775807 := rfl
 obtain ⟨hs, hp, ht, hf, hq⟩ := Xfy hh
 obtain ⟨s1, s2, b1, b2⟩ := Xa5 hs
 have c1 := Xbc s1
 have c2 := Xbc s2
 have hI := Ygx hh hL hb hl
 refine ⟨hI, ?_⟩
 rcases Xqs hb hl q p (by omega) (by omega) with ⟨g, j, r1, r2, _⟩ | ⟨_, r2⟩
 ·
  rw [hI] at r2
  rw [r1, ← r2]
 ·
  rw [hI] at r2
  have := congrArg (fun o => o.map fun x => x.2.2) r2
  simp at this
theorem Yl5 {l : List Xao} {c : Xfc} {A L : List Int} (hs : Ygm l c = true) (hc : Xgf c = true) (hl : 1 ≤ l.length ∧ l.length ≤ 64) (hL : L = A ++ Xj7 l c) (hb : Xek L) (hL4 : L.length ≤ 400000) : Xev (strOfNums L) (A.length : Int) (l.length : Int) c = some (l, true) := by
 have hm : maxLen = 9223372036854775807 := rfl
 have key : ∀ (r pre : List Xao) (a : List Int), l = pre ++ r → L = a ++ Xj7 r c → loop (Xba (l.length : Int) c) ((pre.length : Int), strOfNums L, (a.length : Int), false, pre) = some (.out (strOfNums L, (L.length : Int), false, l)) := by
  intro r
  induction r with
  | nil =>
   intro pre a h1 h2
   refine Xce ?_
   rw [List.append_nil] at h1
   rw [Xj7, List.append_nil] at h2
   unfold Xba
   simp only
   rw [Xas (by rw [h1]; omega), h1, h2]
  | cons s r ih =>
   intro pre a h1 h2
   have hlen : l.length = pre.length + (r.length + 1) := by rw [h1]; simp
   have hmem : s ∈ l := by rw [h1]; simp
   have hq := List.all_eq_true.1 hs s hmem
   simp only [Bool.and_eq_true] at hq
   obtain ⟨q1, q2, q3⟩ := hq
   rw [Xj7] at h2
   have hsc := Yht h2 hb hL4 q1 q3
   have := ih (pre ++ [s]) (a ++ sqL s c) (by rw [h1]; simp) (by rw [h2]; simp only [List.append_assoc])
   refine lgo ?_ this
   unfold Xba
   simp only
   rw [syA, hsc, Xab]
   simp only
   rw [Xay (by simp only [List.length_singleton]; omega), Xal, wkA, List.length_append, List.length_append, List.length_singleton]
   rfl
 have := key l [] A rfl hL
 have hA : A.length ≤ L.length := by rw [hL, List.length_append]; omega
 unfold Xev
 rw [Xoc hb hL4 A.length hA, Xab, Xaj, Xab, decide_eq_true (by omega), Xap, Xc8, Xab, hc, Xab, Bool.not_true, Xal]
 refine (Xei this).trans ?_
 simp only
 rw [strOfNums_size, bne_self_eq_false, Xal]
theorem Yoj {l : List Xao} {c : Xfc} {A L : List Int} (hs : Ygm l c = true) (hc : Xgf c = true) (hl : 1 ≤ l.length ∧ l.length ≤ 64) (hL : L = A ++ Xj7 l c) (hb : Xek L) (hL4 : L.length ≤ 400000) : Xev (strOfNums L) (A.length : Int) (l.length : Int) c = some (l, true) ∧ Xk1 (strOfNums L) (A.length : Int) (l.length : Int) c = some (l, true) := by
 have hI := Yl5 hs hc hl hL hb hL4
 refine ⟨hI, ?_⟩
 obtain ⟨l', b', r1, r2, _⟩ := Xqt (strOfNums L) (A.length : Int) (l.length : Int) c
 rw [hI] at r1
 rw [r2, ← r1]
abbrev Xks : Pic := ⟨0, 0, ⟨#[]⟩⟩
def Xhl (d : Xam) (h : Xow) (o : Pic) : Xam × Int × Pic :=
 if d.Got + 1 < Xbh d.Seq then (⟨d.HasSeq, d.HasPar, d.HasRef, d.Seq, d.Par, h.Frame, d.Got + 1, o, d.Ref⟩, 0, Xks)
 else (⟨d.HasSeq, d.HasPar, true, d.Seq, d.Par, (h.Frame + 1) % 2 ^ d.Seq.Bits.toNat, 0, Xks, o⟩, 0, o)
def Xzd (d : Xam) : Pic := if d.Got = 0 then Yu6 (Xhj d.Seq).1 (Xhj d.Seq).2 else d.Now
theorem Ypf (d : Xam) (h : Xow) (o : Pic) : (Xhl d h o).2.1 = 0 := by
 unfold Xhl
 split <;> rfl
theorem Xr8 {d : Xam} (hd : Xfe d = true) (hp : d.HasPar = true) : d.HasSeq = true ∧ Xec d.Seq = true ∧ Xj8 d.Par = true ∧ (-1 ≤ d.Frame ∧ d.Frame < 2 ^ d.Seq.Bits.toNat) ∧ (0 ≤ d.Got ∧ d.Got < Xbh d.Seq) ∧ (0 < d.Got → d.Frame ≠ -1 ∧ Xh0 d.Now d.Seq = true) ∧ (d.Got = 0 → Xiu d.Now = true) ∧ (d.HasRef = true → Xh0 d.Ref d.Seq = true) ∧ (d.HasRef = false → Xiu d.Ref = true) := by
 have hs := Ydj hd hp
 unfold Xfe at hd
 rw [if_pos hs, if_pos hp] at hd
 simp only [Bool.and_eq_true, decide_eq_true_eq] at hd
 obtain ⟨a, b, c, g, n, r⟩ := hd
 refine ⟨hs, a, b, c, g, ?_, ?_, ?_, ?_⟩
 ·
  intro h
  rw [if_pos h] at n
  simpa using n
 ·
  intro h
  rw [if_neg (by omega)] at n
  exact n
 ·
  intro h
  rw [if_pos h] at r
  exact r
 ·
  intro h
  rw [if_neg (by rw [h]; decide)] at r
  exact r
theorem Yj4 {d : Xam} (h1 : d.HasSeq = true) (h2 : d.HasPar = true) (h3 : Xec d.Seq = true) (h4 : Xj8 d.Par = true) (h5 : -1 ≤ d.Frame ∧ d.Frame < 2 ^ d.Seq.Bits.toNat) (h6 : 0 ≤ d.Got ∧ d.Got < Xbh d.Seq) (h7 : 0 < d.Got → d.Frame ≠ -1 ∧ Xh0 d.Now d.Seq = true) (h8 : d.Got = 0 → Xiu d.Now = true) (h9 : d.HasRef = true → Xh0 d.Ref d.Seq = true) (h10 : d.HasRef = false → Xiu d.Ref = true) : Xfe d = true := by
 unfold Xfe
 rw [if_pos h1, if_pos h2, h3, h4, decide_eq_true h5, decide_eq_true h6]
 simp only [Bool.true_and, Bool.and_eq_true]
 constructor
 ·
  by_cases g : d.Got > 0
  ·
   rw [if_pos g]
   obtain ⟨a, b⟩ := h7 g
   rw [b]; simpa using a
  ·
   rw [if_neg g]
   exact h8 (by omega)
 ·
  cases hr : d.HasRef with
  | true => rw [if_pos rfl]; exact h9 hr
  | false => rw [if_neg (by decide)]; exact h10 hr
theorem Ywi {b : Nat} (h : 8 ≤ (2 : Int) ^ b) : (2 : Int) ^ b ≠ 0 := by
 generalize (2 : Int) ^ b = N at h ⊢
 omega
theorem Ywj {b : Nat} (h : 8 ≤ (2 : Int) ^ b) : 0 < (2 : Int) ^ b := by
 generalize (2 : Int) ^ b = N at h ⊢
 omega
theorem Yow {b : Nat} {f : Int} (h : (2 : Int) ^ b ≤ 256) (h1 : f < 2 ^ b) : f ≤ 255 := by
 generalize (2 : Int) ^ b = N at h h1
 omega
theorem Yxa : Xiu Xks = true := rfl
theorem Yn1 {d : Xam} (hd : Xfe d = true) (hp : d.HasPar = true) {h : Xow} (hh : Xlh d.Seq d.Par h = true) (ht : h.Tile = d.Got) {o : Pic} (ho : Xh0 o d.Seq = true) : Xfe (Xhl d h o).1 = true := by
 obtain ⟨a1, a2, a3, a4, a5, a6, a7, a8, a9⟩ := Xr8 hd hp
 obtain ⟨_, _, _, hf, _⟩ := Xfy hh
 obtain ⟨_, _, b1, b2⟩ := Xa5 a2
 obtain ⟨_, _, _, z4, z5⟩ := Xgq d.Seq.Bits ⟨b1, b2⟩
 unfold Xhl
 by_cases hl : d.Got + 1 < Xbh d.Seq
 ·
  rw [if_pos hl]
  exact Yj4 a1 hp a2 a3 ⟨by simp only; omega, hf.2⟩ ⟨by simp only; omega, hl⟩ (fun _ => ⟨by simp only; omega, ho⟩) (fun g => by simp only at g; omega) a8 a9
 ·
  rw [if_neg hl]
  have m0 := Int.emod_nonneg (h.Frame + 1) (Ywi z5)
  have m1 := Int.emod_lt_of_pos (h.Frame + 1) (Ywj z5)
  generalize hN : (h.Frame + 1) % (2 : Int) ^ d.Seq.Bits.toNat = N at m0 m1 ⊢
  exact Yj4 a1 hp a2 a3 ⟨by simp only; omega, m1⟩ ⟨by simp only; omega, by simp only; omega⟩ (fun g => by simp only at g; omega) (fun _ => Yxa) (fun _ => ho) (fun g => by simp at g)
theorem Ymn {p : Pic} {s : Seq} (h : Xh0 p s = true) : Xcj p = true ∧ p.Wide = (Xhj s).1 ∧ p.High = (Xhj s).2 := by
 unfold Xh0 at h
 simp only [Bool.and_eq_true, beq_iff_eq] at h
 exact h
theorem Ysq {p : Pic} {s : Seq} (h1 : Xcj p = true) (h2 : p.Wide = (Xhj s).1) (h3 : p.High = (Xhj s).2) : Xh0 p s = true := by
 unfold Xh0
 simp only [Bool.and_eq_true, beq_iff_eq]
 exact ⟨h1, h2, h3⟩
theorem Ytz {s : Seq} (h : Xec s = true) : Xhj s = (8 * Xgu s.Cols, 8 * Xgu s.Rows) ∧ (1 ≤ Xgu s.Cols ∧ Xgu s.Cols ≤ 32) ∧ (1 ≤ Xgu s.Rows ∧ Xgu s.Rows ≤ 32) := by
 obtain ⟨s1, s2, _⟩ := Xa5 h
 exact ⟨by unfold Xhj; rw [if_pos h], Xsj s1, Xsj s2⟩
theorem Yrh (w h : Int) : (Yu6 w h).Wide = w := rfl
theorem Yrg (w h : Int) : (Yu6 w h).High = h := rfl
theorem Yrj {d : Xam} (hd : Xfe d = true) (hp : d.HasPar = true) : Xh0 (Xzd d) d.Seq = true := by
 obtain ⟨a1, a2, a3, a4, a5, a6, a7, a8, a9⟩ := Xr8 hd hp
 obtain ⟨e, i1, i2⟩ := Ytz a2
 unfold Xzd
 by_cases g : d.Got = 0
 ·
  rw [if_pos g, e]
  exact Ysq (Ysw (by simp only; omega) (by simp only; omega)) (by rw [e, Yrh]) (by rw [e, Yrg])
 ·
  rw [if_neg g]
  exact (a6 (by omega)).2
theorem Yn2 {d : Xam} (hd : Xfe d = true) (hp : d.HasPar = true) (h1 : d.Seq.Cols.length ≤ maxLen) (h2 : d.Seq.Rows.length ≤ maxLen) {k : Int} (hk : k = 1 ∨ k = 5) {p2 : ByteArray} {h : Xow} {at_ n4 : Int} {l : List Xao} (hh : Xlh d.Seq d.Par h = true) (ht : h.Tile = d.Got) (hf : d.Frame = -1 ∨ d.Frame = h.Frame) (hr : k = 5 ∨ d.HasRef = true) (e1 : Xib d.Seq d.Par p2 = some (h, at_, true)) (e2 : Xbv d.Seq h.Tile = some n4) (e3 : Xk1 p2 at_ n4 ⟨k == 5, h.Qp, d.Par.Large, d.Par.Exact⟩ = some (l, true)) (hl : l.length ≤ 64) (hlv : ∀ q ∈ l, q.Levels.length ≤ 64) :
  ∃ (r : Xpb) (x : Pic × Bool) (o : Pic) (b : Bool), Xcl d k p2 = some (Xhl d h o) ∧ Xh0 o d.Seq = true ∧ Xda d.Seq h.Tile = some (r, true) ∧ Xk2 d.Ref r ⟨k == 5, h.Qp, d.Par.Large, d.Par.Exact⟩ d.Par.Confined l = some x ∧ Xoh (Xzd d) x.1 r.Left r.Top = some (o, b) := by
 obtain ⟨a1, a2, a3, a4, a5, a6, a7, a8, a9⟩ := Xr8 hd hp
 obtain ⟨_, _, hti, hfr, _⟩ := Xfy hh
 obtain ⟨_, _, b1, b2⟩ := Xa5 a2
 obtain ⟨e, i1, i2⟩ := Ytz a2
 obtain ⟨r, t1, t2, rw_, rh⟩ := Xu9 a2 h1 h2 h.Tile hti
 obtain ⟨x, x1, x2, _⟩ := Xwc d.Ref r ⟨k == 5, h.Qp, d.Par.Large, d.Par.Exact⟩ d.Par.Confined l (by omega) (fun q hq => by have := hlv q hq; omega)
 obtain ⟨o, bo, p1, p2', ow, oh, p3, _⟩ := Yc7 (Xzd d) x.1 r.Left r.Top
 obtain ⟨nok, nw, nh⟩ := Ymn (Yrj hd hp)
 have ho : Xh0 o d.Seq = true := by
  obtain ⟨k1, k2, k3⟩ := Xbr nok
  exact Ysq (Xtj (by rw [ow]; exact k1) (by rw [oh]; exact k2) (by rw [p3, ow, oh]; exact k3)) (by rw [ow]; exact nw) (by rw [oh]; exact nh)
 refine ⟨r, x, o, bo, ?_, ho, t2, x2, p2'⟩
 have tr := Xd0 a2
 have c1 : (sel (d.Frame != (-1)) (some (d.Frame != h.Frame)) (some false)) = some false := by
  rcases hf with hf | hf
  ·
   rw [hf]; rfl
  ·
   rw [hf]
   cases (h.Frame != -1) with
   | true => rw [Xap, bne_self_eq_false]
   | false => rfl
 have c2 : (sel (k == 1) (some (!d.HasRef)) (some false)) = some false := by
  rcases hk with rfl | rfl
  ·
   rcases hr with hr | hr
   ·
    omega
   ·
    rw [hr]; rfl
  ·
   rfl
 have ev : (sel (d.Got == 0) (bnd (Xly d.Seq) fun q9 => bnd (Xqi q9.1 q9.2) fun q10 => some (q10.Wide, q10.High, q10.Dots)) (some (d.Now.Wide, d.Now.High, d.Now.Dots))) = some ((Xzd d).Wide, (Xzd d).High, (Xzd d).Dots) := by
  unfold Xzd
  by_cases g : d.Got = 0
  ·
   rw [Xbg (by rw [beq_iff_eq]; exact g), if_pos g, Xpn, Xab, e, Xso _ _ (by simp only; omega) (by simp only; omega), Xab]
   rfl
  ·
   rw [Xa6 (by rw [beq_eq_false_iff_ne]; exact g), if_neg g]
 unfold Xcl
 rw [hp, Bool.not_true, Xal, e1, Xab]
 simp only
 rw [Bool.not_true, Xal, Xa6 (by rw [bne_eq_false_iff_eq]; exact ht), c1, Xab, Xal, c2, Xab, Xal, e2, Xab, e3, Xab]
 simp only
 rw [Bool.not_true, Xal, t2, Xab]
 simp only
 rw [x2, Xab, ev, Xab]
 simp only
 rw [show (⟨(Xzd d).Wide, (Xzd d).High, (Xzd d).Dots⟩ : Pic) = Xzd d from rfl, p2', Xab, Xdk, Xab, wkA (e := d.Got + 1)]
 simp only
 unfold Xhl
 by_cases hlt : d.Got + 1 < Xbh d.Seq
 ·
  rw [Xbk hlt, if_pos hlt, hp]
 ·
  obtain ⟨z1, z2, z3, z4, z5⟩ := Xgq d.Seq.Bits ⟨b1, b2⟩
  rw [Xas hlt, if_neg hlt, z2, Xay z1, Xay (Ywi z5), wk (e := h.Frame + 1) (by have := hfr.1; omega) (by have := Yow z4 hfr.2; omega), Xbm (by have := hfr.1; omega), hp]
theorem Xv4 {q : Seq} (hs : Xec q = true) (h1 : q.Cols.length ≤ maxLen) (h2 : q.Rows.length ≤ maxLen) (t : Int) (ht : 0 ≤ t ∧ t < Xbh q) : ∃ n : Int, Xbv q t = some n ∧ 1 ≤ n ∧ n ≤ 64 := by
 obtain ⟨r, t1, t2, rw_, rh⟩ := Xu9 hs h1 h2 t ht
 have sw := Xhi rw_
 have sh := Xhi rh
 have mb : r.Wide / 8 * (r.High / 8) ≤ 8 * 8 := Int.mul_le_mul (by omega) (by omega) (by omega) (by omega)
 have m0 : 1 * 1 ≤ r.Wide / 8 * (r.High / 8) := Int.mul_le_mul (by omega) (by omega) (by omega) (by omega)
 refine ⟨r.Wide / 8 * (r.High / 8), ?_, by omega, by omega⟩
 unfold Xbv
 rw [t2, Xab, rqA, rqA, Xbl (a := r.Wide) (by omega), Xbl (a := r.High) (by omega), wkA (e := r.Wide / 8), wkA (e := r.High / 8), wkA]
theorem Yul {L : List Int} (hb : Xek L) (hl : L.length ≤ 400000) {d : Xam} (hd : Xfe d = true) (h1 : d.Seq.Cols.length ≤ maxLen) (h2 : d.Seq.Rows.length ≤ maxLen) {k : Int} (hk : k = 1 ∨ k = 5) : ∃ (D : Xam) (co : Int) (P : Pic), Xcl d k (strOfNums L) = some (D, co, P) ∧ Xfe D = true ∧ (co ≠ 0 → D = d ∧ P = Xks) := by
 have fin : ∀ {x : Option (Xam × Int × Pic)} {co : Int}, x = some (d, co, Xks) → ∃ (D : Xam) (co : Int) (P : Pic), x = some (D, co, P) ∧ Xfe D = true ∧ (co ≠ 0 → D = d ∧ P = Xks) := fun e1 => ⟨d, _, _, e1, hd, fun _ => ⟨rfl, rfl⟩⟩
 cases hp : d.HasPar with
 | false => exact fin (co := 4) (by unfold Xcl; rw [hp]; rfl)
 | true =>
  rcases Xqs hb hl d.Seq d.Par h1 h2 with ⟨h, j, e1, _, hh, hj⟩ | ⟨e1, _⟩
  ·
   by_cases ht : h.Tile = d.Got
   ·
    by_cases hf : d.Frame = -1 ∨ d.Frame = h.Frame
    ·
     by_cases hr : k = 5 ∨ d.HasRef = true
     ·
      obtain ⟨hs, _, hti, _⟩ := Xfy hh
      obtain ⟨n4, e2, _⟩ := Xv4 hs h1 h2 h.Tile hti
      obtain ⟨l, ok, _, e3, l1, l2, _⟩ := Xqt (strOfNums L) (j : Int) n4 ⟨k == 5, h.Qp, d.Par.Large, d.Par.Exact⟩
      cases ok with
      | true =>
       obtain ⟨_, _, o, _, e, ho, _⟩ := Yn2 hd hp h1 h2 hk hh ht hf hr e1 e2 e3 l1 l2
       refine ⟨_, _, _, e, Yn1 hd hp hh ht ho, ?_⟩
       intro hc
       exact absurd (Ypf d h o) hc
      | false =>
       refine fin (co := 9) ?_
       have c1 : (sel (d.Frame != (-1)) (some (d.Frame != h.Frame)) (some false)) = some false := by
        rcases hf with hf | hf
        ·
         rw [hf]; rfl
        ·
         rw [hf]
         cases (h.Frame != -1) with
         | true => rw [Xap, bne_self_eq_false]
         | false => rfl
       have c2 : (sel (k == 1) (some (!d.HasRef)) (some false)) = some false := by
        rcases hk with rfl | rfl
        ·
         rcases hr with hr | hr
         ·
          omega
         ·
          rw [hr]; rfl
        ·
         rfl
       unfold Xcl
       rw [hp, Bool.not_true, Xal, e1, Xab]
       simp only
       rw [Bool.not_true, Xal, Xa6 (by rw [bne_eq_false_iff_eq]; exact ht), c1, Xab, Xal, c2, Xab, Xal, e2, Xab, e3, Xab]
       rfl
     ·
      refine fin (co := 8) ?_
      have c1 : (sel (d.Frame != (-1)) (some (d.Frame != h.Frame)) (some false)) = some false := by
       rcases hf with hf | hf
       ·
        rw [hf]; rfl
       ·
        rw [hf]
        cases (h.Frame != -1) with
        | true => rw [Xap, bne_self_eq_false]
        | false => rfl
      have hk1 : k = 1 := hk.elim id fun hk => absurd (.inl hk) hr
      have hr0 : d.HasRef = false := by cases hx : d.HasRef with | true => exact absurd (.inr hx) hr | false => rfl
      unfold Xcl
      rw [hp, Bool.not_true, Xal, e1, Xab]
      simp only
      rw [Bool.not_true, Xal, Xa6 (by rw [bne_eq_false_iff_eq]; exact ht), c1, Xab, Xal, hk1, hr0]
      rfl
    ·
     refine fin (co := 7) ?_
     have c1 : (sel (d.Frame != (-1)) (some (d.Frame != h.Frame)) (some false)) = some true := by
      rw [Xbg (by rw [bne_iff_ne]; exact fun e => hf (.inl e))]
      exact congrArg some (by rw [bne_iff_ne]; exact fun e => hf (.inr e))
     unfold Xcl
     rw [hp, Bool.not_true, Xal, e1, Xab]
     simp only
     rw [Bool.not_true, Xal, Xa6 (by rw [bne_eq_false_iff_eq]; exact ht), c1, Xab, Xap]
   ·
    refine fin (co := 6) ?_
    unfold Xcl
    rw [hp, Bool.not_true, Xal, e1, Xab]
    simp only
    rw [Bool.not_true, Xal, Xbg (by rw [bne_iff_ne]; exact ht)]
  ·
   refine fin (co := 5) ?_
   unfold Xcl
   rw [hp, Bool.not_true, Xal, e1, Xab]
   rfl
theorem Yab {q : Seq} (h : Xec q = true) : Xfe ⟨true, false, false, q, ⟨0, false, false, false⟩, -1, 0, Xks, Xks⟩ = true := by
 obtain ⟨_, _, b1, b2⟩ := Xa5 h
 obtain ⟨_, _, _, _, z5⟩ := Xgq q.Bits ⟨b1, b2⟩
 have tr := Xwa h
 have ht : Xbh q = (q.Cols.length : Int) * q.Rows.length := by unfold Xbh; rw [if_pos h]
 have p := Ywj z5
 unfold Xfe
 simp only [if_pos, h]
 generalize (2 : Int) ^ q.Bits.toNat = N at p
 rw [decide_eq_true (show (-1 : Int) ≤ -1 ∧ (-1 : Int) < N by omega), decide_eq_true (show (0 : Int) ≤ 0 ∧ (0 : Int) < Xbh q by omega)]
 rfl
theorem Xs9 : Xfe ⟨false, false, false, ⟨0, 0, [], []⟩, ⟨0, false, false, false⟩, -1, 0, Xks, Xks⟩ = true := rfl
theorem Yaa {d : Xam} (hd : Xfe d = true) (hs : d.HasSeq = true) (g : ¬ d.Got > 0) {p : Par} (hp : Xj8 p = true) : Xfe ⟨true, true, d.HasRef, d.Seq, p, d.Frame, d.Got, d.Now, d.Ref⟩ = true := by
 unfold Xfe at hd
 rw [if_pos hs] at hd
 simp only [Bool.and_eq_true, decide_eq_true_eq] at hd
 obtain ⟨a, _, f, g0, n, r⟩ := hd
 rw [if_neg g] at n
 refine Yj4 rfl rfl a hp f g0 (fun h => absurd h g) (fun _ => n) ?_ ?_
 ·
  intro h
  rw [if_pos h] at r
  exact r
 ·
  intro h
  rw [if_neg (by rw [h]; decide)] at r
  exact r
theorem Yq2 {d : Xam} (hd : Xfe d = true) (u : ByteArray) (h1 : d.Seq.Cols.length ≤ 1048576) (h2 : d.Seq.Rows.length ≤ 1048576) (hu : u.size ≤ 1048576) : ∃ (D : Xam) (co : Int) (P : Pic), Xdf d u = some (D, co, P) ∧ Xcn d u = some (D, co, P) ∧ Xfe D = true ∧ (co ≠ 0 → D = d ∧ P = Xks) ∧ D.Seq.Cols.length ≤ 1048576 ∧ D.Seq.Rows.length ≤ 1048576 := by
 have hm : maxLen = 9223372036854775807 := rfl
 obtain ⟨D, co, P, ei, es, l1, l2, _⟩ := Xov d u h1 h2 hu
 have key : ∃ (D' : Xam) (co' : Int) (P' : Pic), Xf2 d u = some (D', co', P') ∧ Xfe D' = true ∧ (co' ≠ 0 → D' = d ∧ P' = Xks) ∧ D'.Seq.Cols.length ≤ 1048576 ∧ D'.Seq.Rows.length ≤ 1048576 := by
  have fin : ∀ {x : Option (Xam × Int × Pic)} {co : Int}, x = some (d, co, Xks) → ∃ (D' : Xam) (co' : Int) (P' : Pic), x = some (D', co', P') ∧ Xfe D' = true ∧ (co' ≠ 0 → D' = d ∧ P' = Xks) ∧ D'.Seq.Cols.length ≤ 1048576 ∧ D'.Seq.Rows.length ≤ 1048576 := fun e1 => ⟨d, _, _, e1, hd, fun _ => ⟨rfl, rfl⟩, h1, h2⟩
  unfold Xf2
  rw [Xkx, Xab, hd, Bool.not_true, Xal]
  rcases Xvb u hu with ⟨k, L, hk, hb, hl, _, e2⟩ | ⟨_, e2⟩
  ·
   rw [e2, Xab]
   simp only
   rw [Bool.not_true, Xal]
   unfold Xmw at hk
   simp only [Bool.or_eq_true, beq_iff_eq] at hk
   have hz : ((0 : Nat) : Int) = 0 := rfl
   by_cases k7 : k = 7
   ·
    subst k7
    rw [Xbg (b := (7 : Int) == 7) (by rfl)]
    rcases Xr4 hb hl 0 (by omega) with ⟨q, j, r1, _, hs, c1, c2, _⟩ | ⟨r1, _⟩
    ·
     rw [hz] at r1
     rw [r1, Xab]
     simp only
     rw [Xap, Xab]
     cases ((j : Int) != ((strOfNums L).size : Int)) with
     | true => exact fin (co := 3) rfl
     | false => exact ⟨_, _, _, rfl, Yab hs, fun h => absurd rfl h, by simp only; omega, by simp only; omega⟩
    ·
     rw [hz] at r1
     rw [r1, Xab]
     exact fin (co := 3) rfl
   ·
    rw [Xa6 (b := k == 7) (by rw [beq_eq_false_iff_ne]; exact k7)]
    by_cases k8 : k = 8
    ·
     subst k8
     rw [Xbg (b := (8 : Int) == 8) (by rfl)]
     rcases Xr3 hb hl 0 (by omega) with ⟨q, j, r1, _, hs, _⟩ | ⟨r1, _⟩
     ·
      rw [hz] at r1
      rw [r1, Xab]
      simp only
      rw [Xap, Xab]
      cases ((j : Int) != ((strOfNums L).size : Int)) with
      | true => exact fin (co := 3) rfl
      | false =>
       rw [Xal]
       cases hS : d.HasSeq with
       | false => exact fin (co := 4) rfl
       | true =>
        rw [Xap, Xab]
        by_cases g : d.Got > 0
        ·
         rw [Xbk g]
         exact fin (co := 4) rfl
        ·
         rw [Xas g]
         exact ⟨_, _, _, rfl, Yaa hd hS g hs, fun h => absurd rfl h, h1, h2⟩
     ·
      rw [hz] at r1
      rw [r1, Xab]
      exact fin (co := 3) rfl
    ·
     rw [Xa6 (b := k == 8) (by rw [beq_eq_false_iff_ne]; exact k8)]
     obtain ⟨D', co', P', s1, s2, s3⟩ := Yul hb hl hd (by omega) (by omega) (k := k) (by omega)
     obtain ⟨D2, co2, P2, t1, _, t2, _⟩ := Yiv hb hl d hd (by omega) (by omega) k (by omega)
     rw [s1] at t1
     have e : D2 = D' := (congrArg (fun o => (o.getD (d, 0, Xks)).1) t1).symm
     rw [e] at t2
     rw [s1, Xab]
     exact ⟨D', co', P', rfl, s2, s3, by rw [t2]; exact h1, by rw [t2]; exact h2⟩
  ·
   rw [e2, Xab]
   exact fin (co := 2) rfl
 obtain ⟨D', co', P', e', ok', r', c1, c2⟩ := key
 have es2 := es
 unfold Xcn at es2
 rw [e', Xab] at es2
 simp only at es2
 rw [(Xs8 D'.Seq c1 c2).1, Xab] at es2
 have h := Option.some.inj es2
 have a1 : D' = D := congrArg (·.1) h
 have a2 : co' = co := congrArg (·.2.1) h
 have a3 : P' = P := congrArg (·.2.2) h
 subst a1 a2 a3
 exact ⟨D', co', P', ei, es, ok', r', l1, l2⟩
def Ytn (q : Seq) (x y : Nat) : Xpb := ⟨8 * Xgu (q.Cols.take x), 8 * Xgu (q.Rows.take y), 8 * q.Cols.getD x 0, 8 * q.Rows.getD y 0⟩
theorem Yl8 {q : Seq} (hs : Xec q = true) (h1 : q.Cols.length ≤ maxLen) (h2 : q.Rows.length ≤ maxLen) (t : Int) (ht : 0 ≤ t ∧ t < Xbh q) : ∃ x y : Nat, (x : Int) = t % (q.Cols.length : Int) ∧ (y : Int) = t / (q.Cols.length : Int) ∧ x < q.Cols.length ∧ y < q.Rows.length ∧ Xex q t = some (Ytn q x y, true) ∧ Xda q t = some (Ytn q x y, true) ∧ (1 ≤ q.Cols.getD x 0 ∧ q.Cols.getD x 0 ≤ 8) ∧ (1 ≤ q.Rows.getD y 0 ∧ q.Rows.getD y 0 ≤ 8) := by
 have hr := Xd0 hs
 have hto : Xbh q = (q.Cols.length : Int) * q.Rows.length := by unfold Xbh; rw [if_pos hs]
 obtain ⟨s1, s2, _⟩ := Xa5 hs
 have c1 := Xbc s1
 have c2 := Xbc s2
 unfold Xdq at s1 s2
 rw [Bool.and_eq_true] at s1 s2
 have m0 := Int.emod_nonneg t (show (q.Cols.length : Int) ≠ 0 by omega)
 have m1 := Int.emod_lt_of_pos t (show 0 < (q.Cols.length : Int) by omega)
 have d0 : 0 ≤ t / (q.Cols.length : Int) := Int.ediv_nonneg ht.1 (by omega)
 have d1 : t / (q.Cols.length : Int) < q.Rows.length := Int.ediv_lt_of_lt_mul (by omega) (by rw [Int.mul_comm, ← hto]; exact ht.2)
 have ex : ∃ x y : Nat, (x : Int) = t % (q.Cols.length : Int) ∧ (y : Int) = t / (q.Cols.length : Int) := ⟨(t % (q.Cols.length : Int)).toNat, (t / (q.Cols.length : Int)).toNat, by omega, by omega⟩
 obtain ⟨x, y, hx, hy⟩ := ex
 have tm : t.tmod (q.Cols.length : Int) = (x : Int) := by rw [Xbm ht.1]; exact hx.symm
 have td : Xaa .i64 (t.tdiv (q.Cols.length : Int)) = (y : Int) := by rw [Xbl ht.1, ← hy, wkA]
 have bx := Xjt s1.2 c1.2 x
 have by_ := Xjt s2.2 c2.2 y
 have gx := Xnx s1.2 (i := x) (by omega)
 have gy := Xnx s2.2 (i := y) (by omega)
 refine ⟨x, y, hx, hy, by omega, by omega, ?_, ?_, gx, gy⟩
 ·
  unfold Xex
  rw [Xhd q h1 h2, Xab, wkA (e := Xbh q - 1), Xaj, Xab, decide_eq_true (by omega), Bool.not_true, Xal, rqA, tm, td, rqA, rqA]
  simp only [Int.toNat_natCast]
  rw [show (0 : Int).toNat = 0 from rfl, List.drop_zero, List.drop_zero, Nat.sub_zero, Nat.sub_zero, Yc4 (List.all_eq_true.2 fun z hz => List.all_eq_true.1 s1.2 z (List.mem_of_mem_take hz)) (by rw [List.length_take]; omega), Xab, rqA, Yc4 (List.all_eq_true.2 fun z hz => List.all_eq_true.1 s2.2 z (List.mem_of_mem_take hz)) (by rw [List.length_take]; omega), Xab, rqA, rqA, wkA (e := 8 * Xgu (q.Cols.take x)), wkA (e := 8 * Xgu (q.Rows.take y)), wkA (e := 8 * q.Cols.getD x 0), wkA (e := 8 * q.Rows.getD y 0)]
  rfl
 ·
  unfold Xda
  rw [snA, Xdk, Xab, decide_eq_false (by omega), Xab, Xal, rqA, tm, td, rqA, Xwg s1.2 c1.2 x (by omega), Xab, Xwg s2.2 c2.2 y (by omega), Xab, rqA, rqA]
  simp only [Int.toNat_natCast]
  rw [wkA (e := 8 * Xgu (q.Cols.take x)), wkA (e := 8 * Xgu (q.Rows.take y)), wkA (e := 8 * q.Cols.getD x 0), wkA (e := 8 * q.Rows.getD y 0)]
  rfl
theorem Yda {q : Seq} (hs : Xec q = true) (h1 : q.Cols.length ≤ maxLen) (h2 : q.Rows.length ≤ maxLen) (t : Int) (ht : 0 ≤ t ∧ t < Xbh q) : ∃ x y : Nat, (x : Int) = t % (q.Cols.length : Int) ∧ (y : Int) = t / (q.Cols.length : Int) ∧ x < q.Cols.length ∧ y < q.Rows.length ∧ Xbv q t = some (q.Cols.getD x 0 * q.Rows.getD y 0) ∧ (1 ≤ q.Cols.getD x 0 ∧ q.Cols.getD x 0 ≤ 8) ∧ (1 ≤ q.Rows.getD y 0 ∧ q.Rows.getD y 0 ≤ 8) := by
 obtain ⟨x, y, hx, hy, lx, ly, _, e, gx, gy⟩ := Yl8 hs h1 h2 t ht
 have mb : q.Cols.getD x 0 * q.Rows.getD y 0 ≤ 8 * 8 := Int.mul_le_mul (by omega) (by omega) (by omega) (by omega)
 have m0 : 1 * 1 ≤ q.Cols.getD x 0 * q.Rows.getD y 0 := Int.mul_le_mul (by omega) (by omega) (by omega) (by omega)
 refine ⟨x, y, hx, hy, lx, ly, ?_, gx, gy⟩
 unfold Xbv
 rw [e, Xab]
 unfold Ytn
 simp only
 rw [rqA, rqA, Xbl (by omega), Xbl (by omega), show 8 * q.Cols.getD x 0 / 8 = q.Cols.getD x 0 by omega, show 8 * q.Rows.getD y 0 / 8 = q.Rows.getD y 0 by omega, wkA (e := q.Cols.getD x 0), wkA (e := q.Rows.getD y 0), wkA]
def Xpr (k : Int) (L : List Int) : ByteArray := strOfNums (k :: Xps L)
theorem Yjh (k : Int) (L : List Int) : (Xpr k L).size = L.length / 8 + 2 := by unfold Xpr; rw [strOfNums_size, List.length_cons, Xjb]
theorem Ypn {d : Xam} {u : ByteArray} {D : Xam} {co : Int} {P : Pic} (e : Xf2 d u = some (D, co, P)) (h1 : D.Seq.Cols.length ≤ 1048576) (h2 : D.Seq.Rows.length ≤ 1048576) : Xcn d u = some (D, co, P) := by
 unfold Xcn
 rw [e, Xab]
 simp only
 rw [(Xs8 D.Seq h1 h2).1, Xab]
theorem Ylr {d : Xam} (hd : Xfe d = true) {s : Seq} (hs : Xec s = true) : Xcn d (Xpr 7 (Xru s)) = some (⟨true, false, false, s, ⟨0, false, false, false⟩, -1, 0, Xks, Xks⟩, 0, Xks) := by
 obtain ⟨s1, s2, _⟩ := Xa5 hs
 have c1 := Xbc s1
 have c2 := Xbc s2
 refine Ypn ?_ (by simp only; omega) (by simp only; omega)
 unfold Xf2
 rw [Xkx, Xab, hd, Bool.not_true, Xal, show Xpr 7 (Xru s) = strOfNums (7 :: Xps (Xru s)) from rfl, (Xva (k := 7) rfl (Xru s) (Xto s) (Xqh hs)).2, Xab]
 simp only
 rw [Bool.not_true, Xal, Xbg (b := (7 : Int) == 7) (by rfl), (Yl4 hs).2, Xab]
 simp only
 rw [Xap, strOfNums_size, bne_self_eq_false, Xab, Xal]
theorem Yvs {d : Xam} (hd : Xfe d = true) (hq : d.HasSeq = true) (g : ¬ d.Got > 0) {p : Par} (hp : Xj8 p = true) (h1 : d.Seq.Cols.length ≤ 1048576) (h2 : d.Seq.Rows.length ≤ 1048576) : Xcn d (Xpr 8 (Ybz p)) = some (⟨true, true, d.HasRef, d.Seq, p, d.Frame, d.Got, d.Now, d.Ref⟩, 0, Xks) := by
 refine Ypn ?_ h1 h2
 unfold Xf2
 rw [Xkx, Xab, hd, Bool.not_true, Xal, show Xpr 8 (Ybz p) = strOfNums (8 :: Xps (Ybz p)) from rfl, (Xva (k := 8) rfl (Ybz p) (Xxm p) (by rw [Xth]; omega)).2, Xab]
 simp only
 rw [Bool.not_true, Xal, Xa6 (b := (8 : Int) == 7) (by rfl), Xbg (b := (8 : Int) == 8) (by rfl), (Yl3 hp).2, Xab]
 simp only
 rw [Xap, strOfNums_size, Xth, show ((9 : Int) != ((9 : Nat) : Int)) = false from rfl, Xab, Xal, hq, Xap, Xab, Xas g]
theorem Yjc (d : Xam) (h : Xow) (o : Pic) : (Xhl d h o).1.Seq = d.Seq ∧ (Xhl d h o).1.Par = d.Par ∧ (Xhl d h o).1.HasPar = d.HasPar := by
 unfold Xhl
 split <;> exact ⟨rfl, rfl, rfl⟩
theorem Yr0 {d : Xam} (hd : Xfe d = true) (hp : d.HasPar = true) {k : Int} (hk : k = 1 ∨ k = 5) {h : Xow} {l : List Xao} (hh : Xlh d.Seq d.Par h = true) (ht : h.Tile = d.Got) (hf : d.Frame = -1 ∨ d.Frame = h.Frame) (hr : k = 5 ∨ d.HasRef = true) (hl : 1 ≤ l.length ∧ l.length ≤ 64) (hs : Ygm l ⟨k == 5, h.Qp, d.Par.Large, d.Par.Exact⟩ = true) (hlv : ∀ q ∈ l, q.Levels.length ≤ 64) (e2 : Xbv d.Seq h.Tile = some (l.length : Int)) :
  ∃ (r : Xpb) (x : Pic × Bool) (o : Pic) (b : Bool), Xcn d (Xpr k (Xpw d.Seq d.Par h ++ Xj7 l ⟨k == 5, h.Qp, d.Par.Large, d.Par.Exact⟩)) = some (Xhl d h o) ∧ Xh0 o d.Seq = true ∧ Xda d.Seq h.Tile = some (r, true) ∧ Xk2 d.Ref r ⟨k == 5, h.Qp, d.Par.Large, d.Par.Exact⟩ d.Par.Confined l = some x ∧ Xoh (Xzd d) x.1 r.Left r.Top = some (o, b) := by
 have hm : maxLen = 9223372036854775807 := rfl
 obtain ⟨q1, _, _, _, hq⟩ := Xfy hh
 obtain ⟨s1, s2, _⟩ := Xa5 q1
 have c1 := Xbc s1
 have c2 := Xbc s2
 have hpar := (Xr8 hd hp).2.2.1
 have hc : Xgf ⟨k == 5, h.Qp, d.Par.Large, d.Par.Exact⟩ = true := by
  unfold Xgf
  unfold Xj8 at hpar
  rw [Bool.and_eq_true] at hpar
  rw [Bool.and_eq_true]
  exact ⟨decide_eq_true hq, hpar.2⟩
 have hb : Xek (Xpw d.Seq d.Par h ++ Xj7 l ⟨k == 5, h.Qp, d.Par.Large, d.Par.Exact⟩) := Xa4 (Ymv _ _ _) (Xz1 _ _)
 have hlen : (Xpw d.Seq d.Par h ++ Xj7 l ⟨k == 5, h.Qp, d.Par.Large, d.Par.Exact⟩).length ≤ 400000 := by
  have a := Ymw hh
  have b := Xz2 hs
  rw [List.length_append]
  omega
 obtain ⟨_, e1⟩ := Yjo hh rfl hb hlen
 obtain ⟨_, e3⟩ := Yoj hs hc hl rfl hb hlen
 obtain ⟨r, x, o, b, e, ho, t1, t2, t3⟩ := Yn2 hd hp (by omega) (by omega) hk hh ht hf hr e1 e2 e3 hl.2 hlv
 refine ⟨r, x, o, b, ?_, ho, t1, t2, t3⟩
 have hsq := (Yjc d h o).1
 refine Ypn (D := (Xhl d h o).1) (co := (Xhl d h o).2.1) (P := (Xhl d h o).2.2) ?_ (by rw [hsq]; omega) (by rw [hsq]; omega)
 have hkk : Xmw k = true := by rcases hk with rfl | rfl <;> rfl
 unfold Xf2
 rw [Xkx, Xab, hd, Bool.not_true, Xal]
 unfold Xpr
 rw [(Xva hkk _ hb hlen).2, Xab]
 simp only
 rw [Bool.not_true, Xal, Xa6 (b := k == 7) (by rw [beq_eq_false_iff_ne]; omega), Xa6 (b := k == 8) (by rw [beq_eq_false_iff_ne]; omega), e, Xab]
def Yir : List ByteArray → Xam → Xam → List Pic → Prop
 | [], d, D, ps => D = d ∧ ps = []
 | u :: us, d, D, ps => ∃ (d1 : Xam) (P : Pic) (qs : List Pic), Xcn d u = some (d1, 0, P) ∧ u.size ≤ 60000 ∧ Yir us d1 D qs ∧ ps = (if P.Wide > 0 then P :: qs else qs)
theorem Xu8 : ∀ (us vs : List ByteArray) (d d1 D : Xam) (ps qs : List Pic), Yir us d d1 ps → Yir vs d1 D qs → Yir (us ++ vs) d D (ps ++ qs)
 | [], vs, d, d1, D, ps, qs, h1, h2 => by
  obtain ⟨rfl, rfl⟩ := h1
  exact h2
 | u :: us, vs, d, d1, D, ps, qs, h1, h2 => by
  obtain ⟨e, P, rs, a1, a2, a3, a4⟩ := h1
  refine ⟨e, P, rs ++ qs, a1, a2, Xu8 us vs e d1 D rs qs a3 h2, ?_⟩
  rw [a4]
  split <;> rfl
theorem Yoi : ∀ (us : List ByteArray) (d D : Xam) (ps : List Pic), Yir us d D ps → Xfe d = true → d.Seq.Cols.length ≤ 1048576 → d.Seq.Rows.length ≤ 1048576 → Xfe D = true ∧ D.Seq.Cols.length ≤ 1048576 ∧ D.Seq.Rows.length ≤ 1048576
 | [], d, D, ps, h, hd, h1, h2 => by
  obtain ⟨rfl, _⟩ := h
  exact ⟨hd, h1, h2⟩
 | u :: us, d, D, ps, h, hd, h1, h2 => by
  obtain ⟨e, P, rs, a1, a2, a3, a4⟩ := h
  obtain ⟨D', co, P', _, es, ok, _, c1, c2⟩ := Yq2 hd u h1 h2 (by omega)
  rw [a1] at es
  have he : e = D' := congrArg (·.1) (Option.some.inj es)
  subst he
  exact Yoi us e D rs a3 ok c1 c2
theorem Yis : ∀ (us : List ByteArray) (d D : Xam) (ps : List Pic), Yir us d D ps → ∀ u ∈ us, u.size ≤ 60000
 | [], _, _, _, _ => fun u hu => by simp at hu
 | u :: us, d, D, ps, h => by
  obtain ⟨e, P, rs, a1, a2, a3, a4⟩ := h
  intro v hv
  rcases List.mem_cons.1 hv with rfl | hv
  ·
   exact a2
  ·
   exact Yis us e D rs a3 v hv
theorem Ymt (us : List ByteArray) (h400 : us.length ≤ 400) : ∀ (r : List ByteArray) (k : Nat), us.drop k = r → ∀ (d D : Xam) (ps qs : List Pic) (cs : List Int), Yir r d D qs → ps.length ≤ k → cs.length = k →
  loop (Xc9 us) (Ylz (k : Int) d ps cs) = some (Ylz 0 D (ps ++ qs) (cs ++ List.replicate r.length 0)).2
 | [], k, hk, d, D, ps, qs, cs, hg, hp, hc => by
  obtain ⟨rfl, rfl⟩ := hg
  have : us.length ≤ k := List.drop_eq_nil_iff.1 hk
  refine Xce ?_
  unfold Xc9 Ylz
  simp only
  rw [snA, List.append_nil, List.length_nil, List.replicate_zero, List.append_nil]
 | u :: r, k, hk, d, D, ps, qs, cs, hg, hp, hc => by
  have hm : maxLen = 9223372036854775807 := rfl
  obtain ⟨e, P, rs, a1, a2, a3, a4⟩ := hg
  have hlt : k < us.length := by
   have := congrArg List.length hk
   rw [List.length_drop, List.length_cons] at this
   omega
  have hu : us.getD k Xjn = u := by
   rw [Xb3 us k hlt]
   have := List.drop_eq_getElem_cons hlt
   rw [hk] at this
   exact (List.cons.inj this).1.symm
  have hr : us.drop (k + 1) = r := by
   have := List.drop_eq_getElem_cons hlt
   rw [hk] at this
   exact (List.cons.inj this).2.symm
  have es' : Xcn (⟨d.HasSeq, d.HasPar, d.HasRef, ⟨d.Seq.Level, d.Seq.Bits, d.Seq.Cols, d.Seq.Rows⟩, ⟨d.Par.Qp, d.Par.Large, d.Par.Exact, d.Par.Confined⟩, d.Frame, d.Got, ⟨d.Now.Wide, d.Now.High, d.Now.Dots⟩, ⟨d.Ref.Wide, d.Ref.High, d.Ref.Dots⟩⟩ : Xam) u = some (e, 0, P) := a1
  have gS : Xc9 us (Ylz (k : Int) d ps cs) = some (.go (Ylz ((k + 1 : Nat) : Int) e (if P.Wide > 0 then ps ++ [P] else ps) (cs ++ [0]))) := by
   unfold Xc9 Ylz
   simp only [Int.toNat_natCast]
   rw [syA, rqA, hu, es', Xab]
   simp only
   rw [Xay (by simp only [List.length_singleton]; omega)]
   by_cases hw : P.Wide > 0
   ·
    rw [Xbk hw, if_pos hw, Xay (by simp only [List.length_singleton]; omega), Xab, wkA]; rfl
   ·
    rw [Xas hw, if_neg hw, Xab, wkA]; rfl
  have hl : (if P.Wide > 0 then ps ++ [P] else ps).length ≤ k + 1 := by
   split
   ·
    rw [List.length_append, List.length_singleton]; omega
   ·
    omega
  have ih := Ymt us h400 r (k + 1) hr e D _ rs (cs ++ [0]) a3 hl (by rw [List.length_append, List.length_singleton]; omega)
  refine (lgo gS ih).trans ?_
  have e1 : (if P.Wide > 0 then ps ++ [P] else ps) ++ rs = ps ++ qs := by
   rw [a4]
   split
   ·
    rw [List.append_assoc]; rfl
   ·
    rfl
  have e2 : (cs ++ [0]) ++ List.replicate r.length (0 : Int) = cs ++ List.replicate (u :: r).length 0 := by
   rw [List.append_assoc, List.length_cons, List.replicate_succ]; rfl
  rw [e1, e2]
theorem Yjm {us : List ByteArray} {d D : Xam} {ps : List Pic} (h : Yir us d D ps) (h400 : us.length ≤ 400) (h1 : d.Seq.Cols.length ≤ 1048576) (h2 : d.Seq.Rows.length ≤ 1048576) : Xha d us = some (D, ps, List.replicate us.length 0) ∧ Xof d us = some (D, ps, List.replicate us.length 0) := by
 obtain ⟨D', ps', cs', ei, es, _⟩ := Yog d us h1 h2 (fun u hu => by have := Yis us d D ps h u hu; omega)
 have e : Xof d us = some (D, ps, List.replicate us.length 0) := by
  unfold Xof
  rw [(Xs8 d.Seq h1 h2).1, Xab, snA]
  exact (Xei (Ymt us h400 us 0 rfl d D [] ps [] h (by simp) rfl)).trans rfl
 rw [e] at es
 exact ⟨ei.trans es.symm, e⟩
theorem Yon {l : List Int} (h : l.all Yhq = true) (i : Nat) {x : Int} (hx : -5000 ≤ x ∧ x ≤ 5000) : (l.set i x).all Yhq = true := List.all_eq_true.2 fun y hy => by
 rcases List.mem_or_eq_of_mem_set hy with hy | hy
 ·
  exact List.all_eq_true.1 h y hy
 ·
  rw [hy]; exact Ycz.2 hx
theorem Yw8 {l : List Int} (h : l.length = 64) (h2 : l.all Yhq = true) : Ygu l = true := by
 unfold Ygu
 rw [decide_eq_true h, h2]; rfl
theorem Xqp (c : Xav) (hc : Xf4 c) : ∃ l c', Xg0 c 64 = some (l, c') ∧ Ygu l = true ∧ Xf4 c' := by
 unfold Xg0
 rw [rqA]
 obtain ⟨o, h, h2, h3⟩ := Xra (f := Xig 64) (fun v => 0 ≤ v.1 ∧ v.1 ≤ 6 ∧ Xf4 ⟨v.2.1, v.2.2.1, v.2.2.2.1⟩ ∧ v.2.2.2.2.length = 64 ∧ v.2.2.2.2.all Yhq = true) (fun v => (6 - v.1).toNat) (fun _ o => Ygu o.1 = true ∧ Xf4 ⟨o.2.1, o.2.2.1, o.2.2.2⟩) (by
  intro ⟨i, b, j, h, l⟩ ⟨h1, h2, h3, h4, h5⟩
  unfold Xig
  simp only at h1 h2 h3 h4 h5 ⊢
  obtain ⟨x, c', ex, x0, x1, _, hx⟩ := Xau _ 7 h3
  rw [ex, Xab]
  simp only
  by_cases hi : i < x
  ·
   rw [Xbk hi, Xab]
   simp only
   rw [decide_eq_true (by omega), Xap]
   obtain ⟨y, c2, ey, y0, y1, _, hy⟩ := Xau c' 64 hx
   have ey' : Xar ⟨c'.b_, c'.i_, c'.h_⟩ 64 = some (y, c2) := ey
   rw [ey', Xab]
   obtain ⟨w, c3, ew, hw⟩ := Xci c2 2 hy
   simp only
   rw [ew, Xab]
   simp only
   have step : ∃ p, (sel w (req ((5 : Int) ≠ 0) <| some ((y.tmod 5), c3.b_, c3.i_, c3.h_)) (some (y, c3.b_, c3.i_, c3.h_))) = some (p, c3.b_, c3.i_, c3.h_) ∧ 0 ≤ p ∧ p < 64 := by
    cases w with
    | true => rw [Xap, rqA]; exact ⟨_, rfl, by rw [Xbm y0]; omega, by rw [Xbm y0]; omega⟩
    | false => rw [Xal]; exact ⟨_, rfl, y0, by omega⟩
   obtain ⟨p, ep, p0, p1⟩ := step
   rw [ep, Xab]
   simp only
   obtain ⟨z, c4, ez, z0, z1, _, hz⟩ := Xau c3 21 hw
   have ez' : Xar ⟨c3.b_, c3.i_, c3.h_⟩ 21 = some (z, c4) := ez
   rw [ez', Xab]
   simp only
   obtain ⟨u, c5, eu, hu⟩ := Xci c4 6 hz
   rw [rqA, rqA, eu, Xab]
   simp only
   cases u with
   | true =>
    obtain ⟨t, c6, et, t0, t1, _, ht⟩ := Xau c5 10001 hu
    rw [Xap, et, Xab, Xay (by rw [List.length_set]; omega), Xay (by rw [List.length_set]; omega), Xab]
    refine .inr ⟨_, rfl, ⟨?_, ?_, ht, ?_, Yon (Yon h5 _ (by rw [wkA]; omega)) _ (by have := t1 (by omega); rw [wkA]; omega)⟩, ?_, fun _ h => h⟩
    ·
     simp only; rw [wkA]; omega
    ·
     simp only; rw [wkA]; omega
    ·
     simp only [List.length_set]; exact h4
    ·
     simp only; rw [wkA]; omega
   | false =>
    rw [Xal, Xab]
    refine .inr ⟨_, rfl, ⟨?_, ?_, hu, ?_, Yon h5 _ (by rw [wkA]; omega)⟩, ?_, fun _ h => h⟩
    ·
     simp only; rw [wkA]; omega
    ·
     simp only; rw [wkA]; omega
    ·
     simp only [List.length_set]; exact h4
    ·
     simp only; rw [wkA]; omega
  ·
   rw [Xas hi, Xab]
   simp only
   rw [Xal]
   exact .inl ⟨_, rfl, Yw8 h4 h5, hx⟩) (0, c.b_, c.i_, c.h_, List.replicate (64 : Int).toNat 0) ⟨by simp, by simp, hc, by simp, List.all_eq_true.2 fun x hx => by rw [List.eq_of_mem_replicate hx]; rfl⟩
 rw [h, Xab]
 exact ⟨_, _, rfl, h2, h3⟩
theorem Xzw (u : Xav) (hu : Xf4 u) (c : Xfc) : ∃ q u', Xi3 u c = some (q, u') ∧ (Xm7 q = true ∧ Xhy q c = true) ∧ Xf4 u' := by
 unfold Xi3
 have s1 : ∃ (b : Bool) (v : Xav), (sel c.Key (some (false, u.b_, u.i_, u.h_)) (bnd (Xbi u 4) fun q2 => some (q2.1, q2.2.b_, q2.2.i_, q2.2.h_))) = some (b, v.b_, v.i_, v.h_) ∧ (b = true → c.Key = false) ∧ Xf4 v := by
  obtain ⟨w, v, ew, hv⟩ := Xci u 4 hu
  cases hk : c.Key with
  | true => exact ⟨false, u, rfl, (fun h => by cases h), hu⟩
  | false => rw [Xal, ew, Xab]; exact ⟨w, v, rfl, (fun _ => rfl), hv⟩
 obtain ⟨b, v, e1, kb, hv⟩ := s1
 rw [e1, Xab]
 simp only
 cases b with
 | true => rw [Xap]; exact ⟨_, _, rfl, ⟨Yt4, by unfold Xhy; rw [kb rfl]; rfl⟩, hv⟩
 | false =>
  rw [Xal]
  have s2 : ∃ (b : Bool) (w : Xav), (sel c.Key (some (false, v.b_, v.i_, v.h_)) (bnd (Xbi (⟨v.b_, v.i_, v.h_⟩ : Xav) 2) fun q4 => some (q4.1, q4.2.b_, q4.2.i_, q4.2.h_))) = some (b, w.b_, w.i_, w.h_) ∧ (b = true → c.Key = false) ∧ Xf4 w := by
   obtain ⟨w, v', ew, hv'⟩ := Xci v 2 hv
   cases hk : c.Key with
   | true => exact ⟨false, v, rfl, (fun h => by cases h), hv⟩
   | false =>
    have ew' : Xbi ⟨v.b_, v.i_, v.h_⟩ 2 = some (w, v') := ew
    rw [Xal, ew', Xab]; exact ⟨w, v', rfl, (fun _ => rfl), hv'⟩
  obtain ⟨b2, w, e2, kb2, hw⟩ := s2
  rw [e2, Xab]
  simp only
  cases b2 with
  | true =>
   rw [Xap]
   obtain ⟨x, c1, ex, x0, x1, _, h1⟩ := Xau w 7 hw
   have ex' : Xar ⟨w.b_, w.i_, w.h_⟩ 7 = some (x, c1) := ex
   obtain ⟨y, c2, ey, y0, y1, _, h2⟩ := Xau c1 7 h1
   obtain ⟨l, c3, el, hl, h3⟩ := Xqp c2 h2
   obtain ⟨z, c4, ez, h4⟩ := Xci c3 6 h3
   rw [ex', Xab]
   simp only
   rw [ey, Xab]
   simp only
   rw [el, Xab]
   simp only
   rw [ez, Xab]
   simp only
   cases z with
   | true =>
    obtain ⟨t, c5, et, t0, t1, _, h5⟩ := Xau c4 33 h4
    rw [Xap, et, Xab, Xab]
    exact ⟨_, _, rfl, ⟨Yn4 (by have := t1 (by omega); rw [wkA]; omega) (by have := y1 (by omega); rw [wkA]; omega) hl, by unfold Xhy; rw [kb2 rfl]; rfl⟩, h5⟩
   | false =>
    rw [Xal, Xab]
    exact ⟨_, _, rfl, ⟨Yn4 (by have := x1 (by omega); rw [wkA]; omega) (by have := y1 (by omega); rw [wkA]; omega) hl, by unfold Xhy; rw [kb2 rfl]; rfl⟩, h4⟩
  | false =>
   rw [Xal]
   obtain ⟨x, c1, ex, x0, x1, _, h1⟩ := Xau w 4 hw
   have ex' : Xar ⟨w.b_, w.i_, w.h_⟩ 4 = some (x, c1) := ex
   obtain ⟨l, c3, el, hl, h3⟩ := Xqp c1 h1
   rw [ex', Xab]
   simp only
   rw [el, Xab]
   exact ⟨_, _, rfl, ⟨Yrx ⟨x0, by have := x1 (by omega); omega⟩ hl, by unfold Xhy; cases c.Key <;> rfl⟩, h3⟩
theorem Xya (u : Xav) (hu : Xf4 u) (n : Int) (h0 : 0 ≤ n) (h1 : n ≤ 1000) (c : Xfc) : ∃ l u', Xhw u n c = some (l, u') ∧ (l.length : Int) = n ∧ (∀ q ∈ l, Xm7 q = true ∧ Xhy q c = true) ∧ Xf4 u' := by
 have hm : maxLen = 9223372036854775807 := rfl
 unfold Xhw
 obtain ⟨o, h, h2, h5, h6⟩ := Xra (f := Xg6 n c) (fun v => 0 ≤ v.1 ∧ v.1 ≤ n ∧ Xf4 ⟨v.2.1, v.2.2.1, v.2.2.2.1⟩ ∧ (v.2.2.2.2.length : Int) = v.1 ∧ ∀ q ∈ v.2.2.2.2, Xm7 q = true ∧ Xhy q c = true) (fun v => (n - v.1).toNat) (fun _ o => (o.1.length : Int) = n ∧ (∀ q ∈ o.1, Xm7 q = true ∧ Xhy q c = true) ∧ Xf4 ⟨o.2.1, o.2.2.1, o.2.2.2⟩) (by
  intro ⟨i, b, j, h, l⟩ ⟨h1, h2, h3, h4, h5⟩
  unfold Xg6
  simp only at h1 h2 h3 h4 h5 ⊢
  by_cases hi : i < n
  ·
   obtain ⟨q, c', eq, hok, hq⟩ := Xzw _ h3 c
   rw [Xbk hi, eq, Xab, Xay (by simp only [List.length_singleton]; omega)]
   refine .inr ⟨_, rfl, ⟨?_, ?_, hq, ?_, fun y hy => (List.mem_append.1 hy).elim (h5 y) fun hy => by rw [List.mem_singleton.1 hy]; exact hok⟩, ?_, fun _ h => h⟩
   ·
    simp only; rw [wkA]; omega
   ·
    simp only; rw [wkA]; omega
   ·
    simp only [List.length_append, List.length_singleton]; rw [wkA]; omega
   ·
    simp only; rw [wkA]; omega
  ·
   rw [Xas hi]
   exact .inl ⟨_, rfl, by simp only; omega, h5, h3⟩) (0, u.b_, u.i_, u.h_, []) ⟨by simp, h0, hu, by simp, fun q hq => by simp at hq⟩
 rw [h, Xab]
 exact ⟨_, _, rfl, h2, h5, h6⟩
def Ymm (u : ByteArray) : Prop := 1 ≤ u.size ∧ u.size ≤ 1400 ∧ Xlf u ((u.size : Int) - 1) ≠ 0
theorem Ytj (L : List Int) (hb : Xek L) : (Xps L).getD (L.length / 8) 0 ≠ 0 := by
 obtain ⟨z, h1, h3⟩ := Ymc L hb
 obtain ⟨z', p1, p2, p3⟩ := Ytk L
 have hs : (strOfNums (Xps L)).size = L.length / 8 + 1 := by rw [strOfNums_size, Xjb]
 have hV : Xek (L ++ 49 :: List.replicate z' 48) := Xa4 hb (fun x hx => by
  rcases List.mem_cons.1 hx with rfl | hx
  ·
   exact .inr rfl
  ·
   exact Xwh z' x hx)
 have hby : Yq8 (Xps L) := by unfold Xps; rw [p1]; exact Xqv _ _ hV
 have k2 : (Xij (strOfNums (Xps L))).getD L.length 0 = 49 := by
  rw [h1]
  have := Yi2 L (49 :: List.replicate z 48) 0
  rw [Nat.add_zero] at this
  rw [this]; rfl
 rw [Xwi _ (by omega)] at k2
 unfold Xyi at k2
 rw [Xr7 _ hby _ (by rw [Xjb]; omega)] at k2
 intro h0
 rw [h0] at k2
 exact Ypr ⟨0, by omega⟩ ⟨L.length % 8, by omega⟩ k2 rfl
theorem Xz4 {k : Int} (hk : Xmw k = true) {L : List Int} (hb : Xek L) (hl : L.length ≤ 11000) : Ymm (Xpr k L) := by
 have hs := Yjh k L
 refine ⟨by omega, by omega, ?_⟩
 rw [hs, show ((L.length / 8 + 2 : Nat) : Int) - 1 = ((L.length / 8 + 1 : Nat) : Int) by omega]
 unfold Xpr
 rw [Xr7 _ (Yob hk L hb) _ (by rw [List.length_cons, Xjb]; omega), List.getD_cons_succ]
 exact Ytj L hb
def Ylj (s : Seq) : Prop := s.Level = 3 ∧ s.Bits = 3 ∧ (s.Cols = [1] ∨ s.Cols = [1, 1] ∨ s.Cols = [1, 2]) ∧ (s.Rows = [1] ∨ s.Rows = [1, 1])
theorem Yqr {s : Seq} (h : Ylj s) : Xec s = true ∧ (1 ≤ Xbh s ∧ Xbh s ≤ 4) ∧ s.Bits = 3 ∧ (∀ x : Nat, s.Cols.getD x 0 ≤ 2) ∧ (∀ y : Nat, s.Rows.getD y 0 ≤ 1) := by
 obtain ⟨lv, bt, co, ro⟩ := s
 obtain ⟨h1, h2, h3, h4⟩ := h
 simp only at h1 h2 h3 h4
 subst h1 h2
 have at3 : ∀ (a b : Int) (n : Nat), ([a, b] : List Int).getD n 0 = if n = 0 then a else if n = 1 then b else 0 := fun a b n => by
  match n with
  | 0 => rfl
  | 1 => rfl
  | n + 2 => rfl
 have at1 : ∀ (a : Int) (n : Nat), ([a] : List Int).getD n 0 = if n = 0 then a else 0 := fun a n => by
  match n with
  | 0 => rfl
  | n + 1 => rfl
 refine ⟨?_, ?_, rfl, ?_, ?_⟩
 ·
  rcases h3 with rfl | rfl | rfl <;> rcases h4 with rfl | rfl <;> decide +kernel
 ·
  rcases h3 with rfl | rfl | rfl <;> rcases h4 with rfl | rfl <;> decide +kernel
 ·
  intro x
  rcases h3 with rfl | rfl | rfl
  ·
   simp only [at1]; split <;> omega
  ·
   simp only [at3]
   split
   ·
    omega
   ·
    split <;> omega
  ·
   simp only [at3]
   split
   ·
    omega
   ·
    split <;> omega
 ·
  intro y
  rcases h4 with rfl | rfl
  ·
   simp only [at1]; split <;> omega
  ·
   simp only [at3]
   split
   ·
    omega
   ·
    split <;> omega
theorem Yrs (d : Xam) (h : Xow) (o : Pic) : Xhl d h o = ((Xhl d h o).1, 0, (Xhl d h o).2.2) := by
 unfold Xhl
 split <;> rfl
theorem Xzy (c : Xav) (hc : Xf4 c) (s : Seq) (hs : Ylj s) (p : Par) (f : Int) (hf : 0 ≤ f ∧ f < 8) (key : Bool) (d : Xam) (hd : Xfe d = true) (hp : d.HasPar = true) (eS : d.Seq = s) (eP : d.Par = p) (g : d.Got = 0) (hfr : d.Frame = -1 ∨ d.Frame = f) (hr : key = true ∨ d.HasRef = true) :
  ∃ us c', Xfw c s p f 0 key = some (us, c', s) ∧ Xf4 c' ∧ (1 ≤ us.length ∧ us.length ≤ 4) ∧ (∀ u ∈ us, Ymm u) ∧ ∃ D ps, Yir us d D ps ∧ Xfe D = true ∧ D.HasPar = true ∧ D.Seq = s ∧ D.Par = p ∧ D.Got = 0 ∧ D.Frame = (f + 1) % 8 ∧ D.HasRef = true ∧ ps.length = 1 := by
 have hm : maxLen = 9223372036854775807 := rfl
 obtain ⟨so, ⟨t1, t4⟩, sb, sx, sy⟩ := Yqr hs
 obtain ⟨o1, o2, _⟩ := Xa5 so
 have l1 := Xbc o1
 have l2 := Xbc o2
 have po : Xj8 p = true := by rw [← eP]; exact (Xr8 hd hp).2.2.1
 have h8 : (2 : Int) ^ s.Bits.toNat = 8 := by rw [sb]; rfl
 unfold Xfw
 obtain ⟨o, h, r1, r2, r3, r4⟩ := Xra (f := Xfd s p f key)
  (fun (t, b, i, h, us) => (0 ≤ t ∧ t ≤ Xbh s) ∧ Xf4 ⟨b, i, h⟩ ∧ (us.length : Int) = t ∧ (∀ u ∈ us, Ymm u) ∧ ∃ D ps, Yir us d D ps ∧ Xfe D = true ∧ D.HasPar = true ∧ D.Seq = s ∧ D.Par = p ∧ (t < Xbh s → D.Got = t ∧ (D.Frame = -1 ∨ D.Frame = f) ∧ (key = true ∨ D.HasRef = true) ∧ ps = []) ∧ (t = Xbh s → D.Got = 0 ∧ D.Frame = (f + 1) % 8 ∧ D.HasRef = true ∧ ps.length = 1))
  (fun v => (Xbh s - v.1).toNat)
  (fun _ (us, b, i, h) => Xf4 ⟨b, i, h⟩ ∧ (us.length : Int) = Xbh s ∧ (∀ u ∈ us, Ymm u) ∧ ∃ D ps, Yir us d D ps ∧ Xfe D = true ∧ D.HasPar = true ∧ D.Seq = s ∧ D.Par = p ∧ D.Got = 0 ∧ D.Frame = (f + 1) % 8 ∧ D.HasRef = true ∧ ps.length = 1) (by
  intro ⟨t, b, i, h, us⟩ ⟨i1, i2, i3, i4, D, ps, k1, k2, k3, k4, k5, k6, k7⟩
  unfold Xfd
  simp only
  rw [Xdk, Xab]
  by_cases hlt : t < Xbh s
  ·
   obtain ⟨n1, n2, n3, n4⟩ := k6 hlt
   rw [Xbk hlt]
   have ev : ∃ (ky : Bool) (qp : Int) (w : Xav), (sel key (bnd (Xar (⟨b, i, h⟩ : Xav) 41) fun q29 => some (q29.2.b_, q29.2.i_, q29.2.h_, true, q29.1)) (bnd (Xbi (⟨b, i, h⟩ : Xav) 4) fun q30 => bnd (Xar q30.2 41) fun q31 => some (q31.2.b_, q31.2.i_, q31.2.h_, q30.1, q31.1))) = some (w.b_, w.i_, w.h_, ky, qp) ∧ (ky = false → key = false) ∧ (0 ≤ qp ∧ qp ≤ 40) ∧ Xf4 w := by
    cases hk : key with
    | true =>
     obtain ⟨x, w, e, x0, x1, _, hw⟩ := Xau _ 41 i2
     rw [Xap, e, Xab]
     exact ⟨true, x, w, rfl, fun h => (by cases h), ⟨x0, by have := x1 (by omega); omega⟩, hw⟩
    | false =>
     obtain ⟨z, w', e', hw'⟩ := Xci _ 4 i2
     obtain ⟨x, w, e, x0, x1, _, hw⟩ := Xau w' 41 hw'
     rw [Xal, e', Xab]
     simp only
     rw [e, Xab]
     exact ⟨z, x, w, rfl, (by intro _; first | rfl | trivial), ⟨x0, by have := x1 (by omega); omega⟩, hw⟩
   obtain ⟨ky, qp, w, e1, e2, e3, hw⟩ := ev
   rw [e1, Xab]
   simp only
   have hh : Xlh s p ⟨t, f, qp⟩ = true := by
    unfold Xlh
    simp only [Bool.and_eq_true, decide_eq_true_eq]
    exact ⟨so, po, ⟨i1.1, hlt⟩, ⟨hf.1, by rw [h8]; exact hf.2⟩, e3⟩
   obtain ⟨x, y, hx, hy, lx, ly, eT, gx, gy⟩ := Yda so (by omega) (by omega) t ⟨i1.1, hlt⟩
   have ax := sx x
   have ay := sy y
   have e1' : s.Rows.getD y 0 = 1 := by omega
   have hn : s.Cols.getD x 0 * s.Rows.getD y 0 = s.Cols.getD x 0 := by rw [e1', Int.mul_one]
   rw [hn] at eT
   generalize s.Cols.getD x 0 = n at eT gx ax
   obtain ⟨l, w2, e4, e5, e6, hw2⟩ := Xya w hw n (by omega) (by omega) ⟨ky, qp, p.Large, p.Exact⟩
   have hsq : Ygm l ⟨ky, qp, p.Large, p.Exact⟩ = true := List.all_eq_true.2 fun q hq => by
    have hpo := po
    unfold Xj8 at hpo
    rw [Bool.and_eq_true] at hpo
    have hc : Xgf ⟨ky, qp, p.Large, p.Exact⟩ = true := by
     unfold Xgf
     rw [Bool.and_eq_true]
     exact ⟨decide_eq_true e3, hpo.2⟩
    obtain ⟨a, b⟩ := e6 q hq
    rw [a, b, hc]; rfl
   have hlv : ∀ q ∈ l, q.Levels.length ≤ 64 := fun q hq => by
    obtain ⟨a, _⟩ := e6 q hq
    have := Xqr a
    by_cases z0 : q.Kind = 0
    ·
     rw [Ypl a z0]; simp
    ·
     by_cases z1 : q.Kind = 1
     ·
      have := (Xjv (Xrj a z1).2.2).1; omega
     ·
      have := (Xjv (Xtq a (by omega)).2).1; omega
   have hb : Xek (Xpw s p ⟨t, f, qp⟩ ++ Xj7 l ⟨ky, qp, p.Large, p.Exact⟩) := Xa4 (Ymv _ _ _) (Xz1 _ _)
   have a := Ymw hh
   have bb := Xz2 hsq
   have hlen : (Xpw s p ⟨t, f, qp⟩ ++ Xj7 l ⟨ky, qp, p.Large, p.Exact⟩).length ≤ 11000 := by
    rw [List.length_append]
    omega
   have hlen' := hlen
   rw [List.length_append] at hlen'
   have kk : ∃ k : Int, (sel ky (some (5 : Int)) (some 1)) = some k ∧ (k = 1 ∨ k = 5) ∧ (k == 5) = ky := by
    cases ky with
    | true => exact ⟨5, rfl, .inr rfl, rfl⟩
    | false => exact ⟨1, rfl, .inl rfl, rfl⟩
   obtain ⟨k, f1, f2, f3⟩ := kk
   have hkk : Xmw k = true := by rcases f2 with rfl | rfl <;> rfl
   have st := Yr0 k2 k3 (k := k) f2 (h := ⟨t, f, qp⟩) (l := l) (by rw [k4, k5]; exact hh) (by simp only; omega) n2 (by
    rcases f2 with f2 | f2
    ·
     right
     rcases n3 with n3 | n3
     ·
      exfalso
      rw [f2] at f3
      have := e2 f3.symm
      rw [n3] at this
      cases this
     ·
      exact n3
    ·
     exact .inl f2) (by omega) (by rw [f3, k5]; exact hsq) hlv (by rw [k4, eT, e5])
   rw [k4, k5, f3] at st
   obtain ⟨r, xx, o, bo, st1, st2, _⟩ := st
   have hfin := Xz4 hkk hb hlen
   rw [Yfx hh, Xab, f1, Xab, eT, Xab]
   simp only
   rw [show (⟨w.b_, w.i_, w.h_⟩ : Xav) = w from rfl, e4, Xab]
   simp only
   rw [Yip l _ (fun q hq => (e6 q hq).1) (by omega), Xab, Xay (by simp only [strOfNums_size]; omega), Xbp, Xmi k _ hkk hb (by omega), Xab]
   simp only
   rw [Xay (by simp only [List.length_singleton]; omega), wkA]
   refine .inr ⟨_, rfl, ⟨⟨by omega, by omega⟩, hw2, ?_, ?_, ?_⟩, ?_, fun _ h => h⟩
   ·
    rw [List.length_append, List.length_singleton]; omega
   ·
    intro u hu
    rcases List.mem_append.1 hu with hu | hu
    ·
     exact i4 u hu
    ·
     rw [List.mem_singleton.1 hu]; exact hfin
   ·
    have hone : Yir [Xpr k (Xpw s p ⟨t, f, qp⟩ ++ Xj7 l ⟨ky, qp, p.Large, p.Exact⟩)] D (Xhl D ⟨t, f, qp⟩ o).1 (if (Xhl D ⟨t, f, qp⟩ o).2.2.Wide > 0 then [(Xhl D ⟨t, f, qp⟩ o).2.2] else []) := ⟨_, _, [], st1.trans (congrArg some (Yrs D ⟨t, f, qp⟩ o)), (by have := hfin.2.1; omega), ⟨rfl, rfl⟩, rfl⟩
    have hg := Xu8 us _ d D _ ps _ k1 hone
    have hok := Yn1 k2 k3 (h := ⟨t, f, qp⟩) (by rw [k4, k5]; exact hh) (by simp only; omega) (o := o) (by rw [k4]; exact st2)
    obtain ⟨g1, g2, g3⟩ := Yjc D ⟨t, f, qp⟩ o
    have ow := (Xbr (Ymn st2).1).1
    refine ⟨_, _, hg, hok, by rw [g3]; exact k3, by rw [g1]; exact k4, by rw [g2]; exact k5, ?_, ?_⟩
    ·
     intro hl
     unfold Xhl
     rw [if_pos (by rw [n1, k4]; exact hl)]
     refine ⟨by simp only; omega, .inr rfl, n3, ?_⟩
     rw [n4]
     rfl
    ·
     intro hl
     unfold Xhl
     rw [if_neg (by rw [n1, k4]; omega)]
     refine ⟨rfl, ?_, rfl, ?_⟩
     ·
      simp only
      rw [k4, h8]
     ·
      simp only
      rw [if_pos (by omega), n4]
      rfl
   ·
    simp only; omega
  ·
   obtain ⟨n1, n2, n3, n4⟩ := k7 (by omega)
   rw [Xas hlt]
   exact .inl ⟨_, rfl, i2, by simp only; omega, i4, D, ps, k1, k2, k3, k4, k5, n1, n2, n3, n4⟩) (0, c.b_, c.i_, c.h_, []) ⟨⟨Int.le_refl _, by omega⟩, hc, rfl, fun u hu => by simp at hu, d, [], ⟨rfl, rfl⟩, hd, hp, eS, eP, fun _ => ⟨g, hfr, hr, rfl⟩, fun h => by omega⟩
 obtain ⟨us, b, i, hh⟩ := o
 rw [h, Xab]
 simp only at r1 r2 r3 r4
 exact ⟨us, _, rfl, r1, ⟨by omega, by omega⟩, r3, r4⟩
def Xkb : Xam := ⟨false, false, false, ⟨0, 0, [], []⟩, ⟨0, false, false, false⟩, -1, 0, Xks, Xks⟩
theorem Ycu (c : Xav) (hc : Xf4 c) : ∃ us c', Xlb c = some (us, c') ∧ Xf4 c' ∧ (2 ≤ us.length ∧ us.length ≤ 14) ∧ (∀ u ∈ us, Ymm u) ∧ ∃ D ps, Yir us Xkb D ps ∧ 1 ≤ ps.length ∧ ps.length ≤ 3 := by
 have hm : maxLen = 9223372036854775807 := rfl
 unfold Xlb
 have ec : ∃ (co : List Int) (w : Xav), (bnd (Xbi c 2) fun q2 => sel q2.1 (bnd (Xar q2.2 2) fun q3 => some (q3.2.b_, q3.2.i_, q3.2.h_, [1, Xaa .i64 (1 + q3.1)])) (some (q2.2.b_, q2.2.i_, q2.2.h_, [1]))) = some (w.b_, w.i_, w.h_, co) ∧ (co = [1] ∨ co = [1, 1] ∨ co = [1, 2]) ∧ Xf4 w := by
  obtain ⟨z, w, e, hw⟩ := Xci c 2 hc
  rw [e, Xab]
  simp only
  cases z with
  | true =>
   obtain ⟨x, w', e', x0, x1, _, hw'⟩ := Xau w 2 hw
   have x1' := x1 (by omega)
   rw [Xap, e', Xab, wkA]
   refine ⟨_, w', rfl, ?_, hw'⟩
   obtain rfl | rfl : x = 0 ∨ x = 1 := by omega
   ·
    exact .inr (.inl rfl)
   ·
    exact .inr (.inr rfl)
  | false => exact ⟨_, w, rfl, .inl rfl, hw⟩
 obtain ⟨co, w1, e1, hco, hw1⟩ := ec
 rw [e1, Xab]
 simp only
 have er : ∃ (ro : List Int) (w : Xav), (bnd (Xbi (⟨w1.b_, w1.i_, w1.h_⟩ : Xav) 3) fun q5 => sel q5.1 (some (q5.2.b_, q5.2.i_, q5.2.h_, ([1, 1] : List Int))) (some (q5.2.b_, q5.2.i_, q5.2.h_, [1]))) = some (w.b_, w.i_, w.h_, ro) ∧ (ro = [1] ∨ ro = [1, 1]) ∧ Xf4 w := by
  obtain ⟨z, w, e, hw⟩ := Xci w1 3 hw1
  have e' : Xbi ⟨w1.b_, w1.i_, w1.h_⟩ 3 = some (z, w) := e
  rw [e', Xab]
  simp only
  cases z with
  | true => exact ⟨_, w, rfl, .inr rfl, hw⟩
  | false => exact ⟨_, w, rfl, .inl rfl, hw⟩
 obtain ⟨ro, w2, e2, hro, hw2⟩ := er
 rw [e2, Xab]
 simp only
 obtain ⟨p, w3, e3, po, hw3⟩ := Xop w2 hw2
 have sm : Ylj ⟨3, 3, co, ro⟩ := ⟨rfl, rfl, hco, hro⟩
 obtain ⟨so, _⟩ := Yqr sm
 have h7 := Xz4 (k := 7) rfl (Xto ⟨3, 3, co, ro⟩) (by have := Ylh so; omega)
 have h8 := Xz4 (k := 8) rfl (Xxm p) (by rw [Xth]; omega)
 obtain ⟨x, w4, e4, x0, x1, _, hw4⟩ := Xau w3 8 hw3
 have x1' := x1 (by omega)
 rw [show (⟨w2.b_, w2.i_, w2.h_⟩ : Xav) = w2 from rfl, e3, Xab]
 simp only
 rw [Xu1 _ so, Xab, Xmi 7 _ rfl (Xto _) (Xqh so), Xab, Yih p po, Xab, Xmi 8 _ rfl (Xxm p) (by rw [Xth]; omega), Xab, e4, Xab]
 simp only
 have l1 := Xbc (Xa5 so).1
 have l2 := Xbc (Xa5 so).2.1
 simp only at l1 l2
 have d0 := Xs9
 have d1 := Yab so
 have d2 := Yaa d1 rfl (by simp) po
 have g1 : Yir [Xpr 7 (Xru ⟨3, 3, co, ro⟩), Xpr 8 (Ybz p)] Xkb ⟨true, true, false, ⟨3, 3, co, ro⟩, p, -1, 0, Xks, Xks⟩ [] := ⟨_, _, [], Ylr d0 so, (by have := h7.2.1; omega), ⟨_, _, [], Yvs d1 rfl (by simp) po (by simp only; omega) (by simp only; omega), (by have := h8.2.1; omega), ⟨rfl, rfl⟩, rfl⟩, rfl⟩
 obtain ⟨o, h, r1, r2, r3, r4⟩ := Xra (f := Xgp (p, w3))
  (fun (f, n, b, i, h, us, cc, rr) => (0 ≤ f ∧ f < 8) ∧ (0 ≤ n ∧ n ≤ 3) ∧ Xf4 ⟨b, i, h⟩ ∧ (2 ≤ us.length ∧ (us.length : Int) ≤ 2 + 4 * n) ∧ (∀ u ∈ us, Ymm u) ∧ cc = co ∧ rr = ro ∧ ∃ D ps, Yir us Xkb D ps ∧ Xfe D = true ∧ D.HasPar = true ∧ D.Seq = ⟨3, 3, co, ro⟩ ∧ D.Par = p ∧ D.Got = 0 ∧ (D.Frame = -1 ∨ D.Frame = f) ∧ (n = 0 ∨ D.HasRef = true) ∧ (ps.length : Int) = n)
  (fun v => (3 - v.2.1).toNat)
  (fun _ (us, b, i, h) => Xf4 ⟨b, i, h⟩ ∧ (2 ≤ us.length ∧ us.length ≤ 14) ∧ (∀ u ∈ us, Ymm u) ∧ ∃ D ps, Yir us Xkb D ps ∧ 1 ≤ ps.length ∧ ps.length ≤ 3) (by
  intro ⟨f, n, b, i, h, us, cc, rr⟩ ⟨i1, i2, i3, i4, i5, i6, i7, D, ps, k1, k2, k3, k4, k5, k6, k7, k8, k9⟩
  subst i6 i7
  unfold Xgp
  simp only
  obtain ⟨y, v, ey, y0, y1, _, hv⟩ := Xau _ 3 i3
  have y1' := y1 (by omega)
  rw [ey, Xab]
  simp only
  rw [wkA (e := 1 + y)]
  by_cases hlt : n < 1 + y
  ·
   obtain ⟨vs, v2, e5, hv2, q1, q2, E, qs, z1, z2, z3, z4, z5, z6, z7, z8, z9⟩ := Xzy v hv ⟨3, 3, cc, rr⟩ sm p f i1 (n == 0) D k2 k3 k4 k5 k6 k7 (by
    rcases k8 with k8 | k8
    ·
     left; rw [k8]; rfl
    ·
     exact .inr k8)
   rw [Xbk hlt, e5, Xab]
   simp only
   rw [rqA, rqA, wkA (e := f + 1), wkA (e := n + 1), Xbm (by omega)]
   refine .inr ⟨_, rfl, ⟨by simp only; omega, by simp only; omega, hv2, ?_, ?_, rfl, rfl, E, ps ++ qs, Xu8 us vs _ D E ps qs k1 z1, z2, z3, z4, z5, z6, .inr z7, .inr z8, ?_⟩, by simp only; omega, fun _ h => h⟩
   ·
    simp only [List.length_append]; omega
   ·
    intro u hu
    exact (List.mem_append.1 hu).elim (i5 u) (q2 u)
   ·
    simp only [List.length_append]; omega
  ·
   rw [Xas hlt]
   exact .inl ⟨_, rfl, hv, by simp only; omega, i5, D, ps, k1, by omega, by omega⟩) (x, 0, w4.b_, w4.i_, w4.h_, [Xpr 7 (Xru ⟨3, 3, co, ro⟩), Xpr 8 (Ybz p)], co, ro) ⟨⟨x0, x1'⟩, by omega, hw4, by simp, (fun u hu => by
   rcases List.mem_cons.1 hu with rfl | hu
   ·
    exact h7
   ·
    rw [List.mem_singleton.1 hu]; exact h8), rfl, rfl, _, [], g1, d2, rfl, rfl, rfl, rfl, .inl rfl, .inl rfl, rfl⟩
 obtain ⟨us, b, i, hh⟩ := o
 have h' : loop (Xgp (p, w3)) (x, 0, w4.b_, w4.i_, w4.h_, [strOfNums (7 :: Xps (Xru ⟨3, 3, co, ro⟩)), strOfNums (8 :: Xps (Ybz p))], co, ro) = some (us, b, i, hh) := h
 rw [h', Xab]
 exact ⟨us, _, rfl, r1, r2, r3, r4⟩
theorem Xxx (b : List Int) (hb : b.length ≤ 1048576) : ∃ us, Xho b = some us ∧ (2 ≤ us.length ∧ us.length ≤ 14) ∧ (∀ u ∈ us, Ymm u) ∧ ∃ D ps, Yir us Xkb D ps ∧ 1 ≤ ps.length ∧ ps.length ≤ 3 := by
 obtain ⟨u, e, hu⟩ := Xpp b hb
 obtain ⟨us, c', e2, _, h1, h2, h3⟩ := Ycu u hu
 refine ⟨us, ?_, h1, h2, h3⟩
 unfold Xho
 rw [e, Xab, e2, Xab]
theorem Xza (s : Seq) (h1 : s.Cols.length ≤ 1048576) (h2 : s.Rows.length ≤ 1048576) : Xmy s s = some true := by
 unfold Xmy
 rw [Xkq _ (by omega), Xkq _ (by omega)]
 simp only [beq_self_eq_true, Xap, Xab]
theorem Xmx (d : Xam) (h1 : d.Seq.Cols.length ≤ 1048576) (h2 : d.Seq.Rows.length ≤ 1048576) : Xen d d = some true := by
 unfold Xen
 simp only [beq_self_eq_true, Bool.and_self, Xap, Xza d.Seq h1 h2, Xab]
theorem Xry (c : Xav) (hc : Xf4 c) : ∃ l c', Xie c = some (l, c') ∧ (1 ≤ l.length ∧ l.length ≤ 3) ∧ (∀ x ∈ l, 1 ≤ x ∧ x ≤ 2) ∧ Xf4 c' := by
 have hm : maxLen = 9223372036854775807 := rfl
 unfold Xie
 obtain ⟨o, h, h2, h5, h3⟩ := Xra (f := Xje) (fun v => 0 ≤ v.1 ∧ v.1 ≤ 3 ∧ Xf4 ⟨v.2.1, v.2.2.1, v.2.2.2.1⟩ ∧ (v.2.2.2.2.length : Int) = v.1 ∧ ∀ x ∈ v.2.2.2.2, 1 ≤ x ∧ x ≤ 2) (fun v => (3 - v.1).toNat) (fun _ o => (1 ≤ o.1.length ∧ o.1.length ≤ 3) ∧ (∀ x ∈ o.1, 1 ≤ x ∧ x ≤ 2) ∧ Xf4 ⟨o.2.1, o.2.2.1, o.2.2.2⟩) (by
  intro ⟨i, b, j, h, l⟩ ⟨h1, h2, h3, h4, h5⟩
  unfold Xje
  simp only at h1 h2 h3 h4 h5 ⊢
  obtain ⟨x, c', ex, x0, x1, _, hx⟩ := Xau _ 3 h3
  have x1' := x1 (by omega)
  rw [ex, Xab]
  simp only
  by_cases hi : i ≤ x
  ·
   obtain ⟨y, c2, ey, y0, y1, _, hy⟩ := Xau c' 2 hx
   have y1' := y1 (by omega)
   rw [Xbk hi, ey, Xab, Xay (by simp only [List.length_singleton]; omega)]
   refine .inr ⟨_, rfl, ⟨?_, ?_, hy, ?_, ?_⟩, ?_, fun _ h => h⟩
   ·
    simp only; rw [wkA]; omega
   ·
    simp only; rw [wkA]; omega
   ·
    simp only [List.length_append, List.length_singleton]; rw [wkA (e := i + 1)]; omega
   ·
    intro z hz
    rcases List.mem_append.1 hz with hz | hz
    ·
     exact h5 z hz
    ·
     rw [List.mem_singleton.1 hz, wkA]; omega
   ·
    simp only; rw [wkA]; omega
  ·
   rw [Xas hi]
   exact .inl ⟨_, rfl, by simp only; omega, h5, hx⟩) (0, c.b_, c.i_, c.h_, []) ⟨by simp, by simp, hc, by simp, fun x hx => by simp at hx⟩
 rw [h, Xab]
 exact ⟨_, _, rfl, h2, h5, h3⟩
theorem Yqq {l : List Int} (h : 1 ≤ l.length ∧ l.length ≤ 3) (h2 : ∀ x ∈ l, 1 ≤ x ∧ x ≤ 2) : Xdq l = true ∧ 1 ≤ Xgu l ∧ Xgu l ≤ 6 := by
 have ha : l.all Xeb = true := List.all_eq_true.2 fun x hx => by
  have := h2 x hx
  unfold Xeb
  exact decide_eq_true (by omega)
 refine ⟨?_, ?_⟩
 ·
  unfold Xdq
  rw [ha, decide_eq_true (by omega)]; rfl
 ·
  have : ∀ m : List Int, (∀ x ∈ m, 1 ≤ x ∧ x ≤ 2) → (m.length : Int) ≤ Xgu m ∧ Xgu m ≤ 2 * m.length := by
   intro m
   induction m with
   | nil => intro _; simp [Xgu]
   | cons a r ih =>
    intro hh
    have := ih (fun x hx => hh x (List.mem_cons_of_mem _ hx))
    have := hh a List.mem_cons_self
    simp only [Xgu, List.length_cons]
    omega
  have := this l h2
  omega
theorem Ycm (c : Xav) (hc : Xf4 c) : ∃ s c', Xk6 c = some (s, c') ∧ Xec s = true ∧ Xf4 c' := by
 unfold Xk6
 obtain ⟨x, c1, ex, x0, x1, _, h1⟩ := Xau c 3 hc
 have x1' := x1 (by omega)
 obtain ⟨l, c2, el, hl, hl2, h2⟩ := Xry c1 h1
 obtain ⟨m, c3, em, hm, hm2, h3⟩ := Xry c2 h2
 obtain ⟨z, c4, ez, h4⟩ := Xci c3 2 h3
 obtain ⟨o1, i1, j1⟩ := Yqq hl hl2
 obtain ⟨o2, i2, j2⟩ := Yqq hm hm2
 have sq : ∀ lv : Int, Xlc ⟨lv, 3 + x, l, m⟩ = Xgu l * Xgu m := fun lv => by
  unfold Xlc Xyb
  simp only
  rw [if_pos o1, if_pos o2]
 have b1 : Xgu l * Xgu m ≤ 6 * 6 := Int.mul_le_mul j1 j2 (by omega) (by omega)
 have b0 : 1 * 1 ≤ Xgu l * Xgu m := Int.mul_le_mul i1 i2 (by omega) (by omega)
 have ok3 : Xec ⟨3, 3 + x, l, m⟩ = true := by
  unfold Xec
  rw [sq, decide_eq_true (show 3 ≤ 3 + x ∧ 3 + x ≤ 8 by omega), decide_eq_true (show 1 ≤ Xgu l * Xgu m ∧ Xgu l * Xgu m ≤ Xf1 3 from ⟨by omega, by show _ ≤ (256 : Int); omega⟩)]
  rfl
 rw [ex, Xab]
 simp only
 rw [el, Xab]
 simp only
 rw [em, Xab]
 simp only
 rw [ez, Xab]
 simp only
 rw [wkA (e := 3 + x)]
 cases z with
 | true =>
  rw [Xap, Xqm, Xab, Xab]
  simp only
  by_cases h16 : Xlc ⟨3, 3 + x, l, m⟩ ≤ 16
  ·
   have ok1 : Xec ⟨1, 3 + x, l, m⟩ = true := by
    rw [sq] at h16
    unfold Xec
    rw [sq, decide_eq_true (show 3 ≤ 3 + x ∧ 3 + x ≤ 8 by omega), decide_eq_true (show 1 ≤ Xgu l * Xgu m ∧ Xgu l * Xgu m ≤ Xf1 1 from ⟨by omega, by show _ ≤ (16 : Int); omega⟩)]
    rfl
   rw [decide_eq_true h16]
   simp only [Xap, Xab]
   exact ⟨_, _, rfl, ok1, h4⟩
  ·
   rw [decide_eq_false h16]
   simp only [Xal, Xab]
   exact ⟨_, _, rfl, ok3, h4⟩
 | false =>
  rw [Xal, Xab]
  simp only [Xal, Xab]
  exact ⟨_, _, rfl, ok3, h4⟩
theorem Yb3 (b : List Int) (hb : b.length ≤ 1048576) : ∃ s p h, Xkz b = some (s, p, h) ∧ Xec s = true ∧ Xj8 p = true := by
 unfold Xkz
 obtain ⟨u, e, hu⟩ := Xpp b hb
 obtain ⟨s, c1, es, s1, h1⟩ := Ycm u hu
 obtain ⟨p, c2, ep, hp, h2⟩ := Xop c1 h1
 obtain ⟨_, _, b3, b8⟩ := Xa5 s1
 rw [e, Xab, es, Xab]
 simp only
 rw [ep, Xab]
 simp only
 unfold Xk7
 obtain ⟨x, c3, ex, _, _, _, h3⟩ := Xau c2 (Xbh s) h2
 obtain ⟨y, c4, ey, _, _, _, h4⟩ := Xau c3 41 h3
 rw [Xdk, Xab, ex, Xab]
 simp only
 rw [ey, Xab]
 simp only
 have hw : 0 ≤ Xaa .u64 s.Bits := by unfold Xaa; simp only; exact Int.emod_nonneg _ (by decide)
 rw [Xai, Xab, decide_eq_true (by omega), Xap, Xay hw]
 obtain ⟨z, c5, ez, _, _, _, h5⟩ := Xau c4 (Xaa .i64 (1 * 2 ^ min (Xaa .u64 s.Bits).toNat (IntKind.bits .i64))) h4
 rw [ez, Xab, Xab, Xab]
 exact ⟨_, _, _, rfl, s1, hp⟩
theorem Yit : ∀ (us : List ByteArray) (k : Nat) (d D : Xam) (ps : List Pic), Yir us d D ps → ∃ (d1 : Xam) (qs rs : List Pic), Yir (us.take k) d d1 qs ∧ Yir (us.drop k) d1 D rs ∧ ps = qs ++ rs
 | us, 0, d, D, ps, h => ⟨d, [], ps, ⟨rfl, rfl⟩, h, rfl⟩
 | [], k + 1, d, D, ps, h => ⟨d, [], ps, ⟨rfl, rfl⟩, h, rfl⟩
 | u :: us, k + 1, d, D, ps, h => by
  obtain ⟨e, P, ts, a1, a2, a3, a4⟩ := h
  obtain ⟨d1, qs, rs, b1, b2, b3⟩ := Yit us k e D ts a3
  refine ⟨d1, if P.Wide > 0 then P :: qs else qs, rs, ⟨e, P, qs, a1, a2, b1, rfl⟩, b2, ?_⟩
  rw [a4, b3]
  split <;> rfl
theorem Xxi (l : List Pic) (hl : l.length ≤ 1000000000) : Xkr l l = some true := by
 unfold Xkr
 rw [bne_self_eq_false, Xal, Xqg l.length (f := Xgk l l) (by
  intro i hi
  unfold Xgk
  rw [syA, rqA, rqA]
  simp only [beq_self_eq_true, Bool.and_self]
  rw [Xa6 (by rfl), wkA]
  rfl) (by unfold Xgk; rw [snA]), Xab]
theorem Yg3 : Xji = some Xkb := rfl
theorem FnSplit {p0 : List Int} (h0 : p0.length ≤ maxLen ∧ ∀ y ∈ p0, (Lit.int .u8 y).wf = true) : Xo2 p0 = some true := by
 have hm : maxLen = 9223372036854775807 := rfl
 unfold Xo2
 rw [Yo3, Xab]
 by_cases hbig : (p0.length : Int) > 1048576
 ·
  rw [Xbk hbig]
 rw [Xas hbig]
 obtain ⟨us, eu, ul, uf, D, ps, hg, hps⟩ := Xxx p0 (by omega)
 obtain ⟨pl, ep, l12, hpl⟩ := Xxv p0 (by omega)
 have hp0 := (hpl (pl.getD 0 0) (by rw [Xb3 pl 0 (by omega)]; exact List.getElem_mem _)).1
 have m0 := Int.emod_nonneg (pl.getD 0 0) (show (us.length : Int) + 1 ≠ 0 by omega)
 have m1 := Int.emod_lt_of_pos (pl.getD 0 0) (show 0 < (us.length : Int) + 1 by omega)
 rw [eu, Xab, ep, Xab]
 simp only [show (0 : Int).toNat = 0 from rfl]
 rw [wkA (e := (us.length : Int) + 1), Xbm hp0]
 generalize pl.getD 0 0 % ((us.length : Int) + 1) = m at m0 m1 ⊢
 obtain ⟨k, rfl⟩ : ∃ k : Nat, m = k := ⟨m.toNat, by omega⟩
 obtain ⟨d1, qs, rs, g1, g2, g3⟩ := Yit us k Xkb D ps hg
 obtain ⟨ok1, c1, c2⟩ := Yoi _ _ _ _ g1 Xs9 (by simp [Xkb]) (by simp [Xkb])
 obtain ⟨okD, c3, c4⟩ := Yoi _ _ _ _ hg Xs9 (by simp [Xkb]) (by simp [Xkb])
 have eA := (Yjm hg (by omega) (by simp [Xkb]) (by simp [Xkb])).1
 have e1 := (Yjm g1 (by rw [List.length_take]; omega) (by simp [Xkb]) (by simp [Xkb])).1
 have e2 := (Yjm g2 (by rw [List.length_drop]; omega) c1 c2).1
 have hlen : qs.length + rs.length ≤ 3 := by
  have := congrArg List.length g3
  rw [List.length_append] at this
  omega
 obtain ⟨s, p, hd, es, so, _⟩ := Yb3 p0 (by omega)
 have so1 := Xbc (Xa5 so).1
 have so2 := Xbc (Xa5 so).2.1
 have er : Xoj s = some (strOfNums (Xru s), true) := by
  unfold Xoj
  rw [Xic, Xab, so, Bool.not_true, Xal, Xu1 s so, Xab]
 have s1 := Ylr okD so
 have s2 := Ylr Xs9 so
 have hu : (Xpr 7 (Xru s)).size ≤ 1048576 := by rw [Yjh]; have := Ylh so; omega
 have i1 : Xdf D (Xpr 7 (Xru s)) = some (⟨true, false, false, s, ⟨0, false, false, false⟩, -1, 0, Xks, Xks⟩, 0, Xks) := by
  obtain ⟨X, co, P, a, b, _⟩ := Xov D (Xpr 7 (Xru s)) c3 c4 hu
  rw [a, ← b, s1]
 have i2 : Xdf Xkb (Xpr 7 (Xru s)) = some (⟨true, false, false, s, ⟨0, false, false, false⟩, -1, 0, Xks, Xks⟩, 0, Xks) := by
  obtain ⟨X, co, P, a, b, _⟩ := Xov Xkb (Xpr 7 (Xru s)) (by simp [Xkb]) (by simp [Xkb]) hu
  rw [a, ← b]
  exact s2
 have t1 : us.drop k = (us.drop k).take (us.length - k) := by rw [List.take_of_length_le (by rw [List.length_drop]; omega)]
 simp only [Int.toNat_natCast, List.nil_append, List.drop_zero, Nat.sub_zero]
 rw [rqA, rqA, rqA, Yg3, Xab, Xay (by simp only [List.length_nil]; omega), eA, Xab, Xab, rqA, Xay (by simp only [List.length_nil, List.length_take]; omega), e1, Xab, rqA, Xay (by simp only [List.length_nil, List.length_take, List.length_drop]; omega)]
 simp only
 rw [← t1, e2, Xab, es, Xab]
 simp only
 rw [er, Xab]
 simp only
 have eU : Xgc 7 (strOfNums (Xru s)) = some (Xpr 7 (Xru s), true) := Xmi 7 _ rfl (Xto s) (Xqh so)
 rw [eU, Xab]
 simp only
 rw [i1, Xab, Xab, i2, Xab]
 simp only
 rw [Xmx D c3 c4, Xab, Xap, rqA, ← g3, Xxi ps (by omega), Xab, Xap, Xay (by simp only [List.length_replicate, List.length_take, List.length_drop]; omega), List.replicate_append_replicate]
 have hk : (us.take k).length + (us.drop k).length = us.length := by rw [List.length_take, List.length_drop]; omega
 rw [hk, Xkq _ (by rw [List.length_replicate]; omega), Xab, Xap, List.length_replicate, beq_self_eq_true, Xap, syA, show ((0 : Int) == 0) = true from rfl, Xap, Xap, Xmx _ (by simp only; omega) (by simp only; omega), Xab, Xap]
 rfl
end Go.Proofs.YtnhflbeahbcklaaGreat.A.Pure
