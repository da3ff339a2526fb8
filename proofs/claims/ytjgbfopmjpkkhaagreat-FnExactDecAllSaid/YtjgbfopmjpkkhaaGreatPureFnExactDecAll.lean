/- The pure statement of the law FnExactDecAll, part 2: over numbers, texts and lists alone, what the law computes is true. Conditions: the sizes of what a machine holds. -/
import Derived.Test.YtjgbfopmjpkkhaaGreatPureFnExactDecAllx0
namespace Go.Proofs.YtjgbfopmjpkkhaaGreat.A.Pure
open Go Go.Proofs Go.Proofs.YtjgbfopmjpkkhaaGreatAL Go.RowKit
set_option linter.unusedVariables false
set_option linter.unusedSimpArgs false
set_option maxHeartbeats 1000000
theorem Xlc (p : Pic) (r : Xpv) : Xb4 p r.Left r.Top r.Wide r.High = some (Xb8 p && Xlr p r) := by
 unfold Xb4 Xlr
 rw [Xfw, Xad]
 cases ok : Xb8 p with
 | false => rfl
 | true =>
  obtain ⟨k1, k2, k3⟩ := Xbk ok
  rw [Xaw, Xak, Xak, Xad, Xad]
  by_cases h1 : 1 ≤ r.Wide ∧ r.Wide ≤ p.Wide
  ·
   rw [decide_eq_true h1, Xaw, Bool.true_and, Bool.true_and]
   by_cases h2 : 1 ≤ r.High ∧ r.High ≤ p.High
   ·
    rw [decide_eq_true h2, Xaw, Bool.true_and, wk (e := p.Wide - r.Wide) (by omega) (by omega), wk (e := p.High - r.High) (by omega) (by omega), Xak, Xak, Xad, Xad, Xd7, Xad]
   ·
    rw [decide_eq_false h2, Xav, Bool.false_and]; rfl
  ·
   rw [decide_eq_false h1, Xav, Bool.false_and]; rfl
theorem Xi4 {p : Pic} {r : Xpv} (h : Xlr p r = true) : (1 ≤ r.Wide ∧ r.Wide ≤ p.Wide) ∧ (1 ≤ r.High ∧ r.High ≤ p.High) ∧ (0 ≤ r.Left ∧ r.Left ≤ p.Wide - r.Wide) ∧ (0 ≤ r.Top ∧ r.Top ≤ p.High - r.High) := by
 unfold Xlr at h
 simp only [Bool.and_eq_true, decide_eq_true_eq] at h
 exact h
def Xoh (p : Pic) (r : Xpv) : Nat → List Int
 | 0 => []
 | n + 1 => Xoh p r n ++ Xbr (p.Dots.extract ((r.Top + n) * p.Wide + r.Left).toNat ((r.Top + n) * p.Wide + r.Left + r.Wide).toNat)
theorem Ytd {p : Pic} {r : Xpv} (ok : Xb8 p = true) (h : Xlr p r = true) (n : Nat) (hn : (n : Int) < r.High) : 0 ≤ (r.Top + n) * p.Wide ∧ (r.Top + n) * p.Wide + r.Left + r.Wide ≤ p.Dots.size ∧ (r.Top + n) * p.Wide ≤ 65536 ∧ (Xbr (p.Dots.extract ((r.Top + n) * p.Wide + r.Left).toNat ((r.Top + n) * p.Wide + r.Left + r.Wide).toNat)).length = r.Wide.toNat := by
 obtain ⟨k1, k2, k3⟩ := Xbk ok
 obtain ⟨a1, a2, a3, a4⟩ := Xi4 h
 have ar := Xd0 k1 k2
 have b1 : 0 ≤ (r.Top + n) * p.Wide := Int.mul_nonneg (by omega) (by omega)
 have b2 : (r.Top + n) * p.Wide ≤ (p.High - 1) * p.Wide := Int.mul_le_mul_of_nonneg_right (by omega) (by omega)
 have b3 : (p.High - 1) * p.Wide = p.Wide * p.High - p.Wide := by rw [Int.sub_mul, Int.one_mul, Int.mul_comm]
 refine ⟨b1, by omega, by omega, ?_⟩
 rw [Xbj, ByteArray.size_extract]
 omega
theorem Xuc {p : Pic} {r : Xpv} (ok : Xb8 p = true) (h : Xlr p r = true) : ∀ n : Nat, (n : Int) ≤ r.High → ((Xoh p r n).length : Int) = n * r.Wide
 | 0, _ => by simp [Xoh]
 | n + 1, hn => by
  have a := Xi4 h
  have b := Ytd ok h n (by omega)
  rw [Xoh, List.length_append, Int.natCast_add, Xuc ok h n (by omega), b.2.2.2, Int.natCast_add, Int.add_mul]
  simp only [Int.natCast_one, Int.one_mul]
  omega
theorem Yqr {p : Pic} {r : Xpv} {f : Int × List Int → Option (Lp (Int × List Int) (List Int))} (ok : Xb8 p = true) (h : Xlr p r = true) (hf : f = Xhu p r) : loop f (r.Top, []) = some (Xoh p r r.High.toNat) := by
 have hm : maxLen = 9223372036854775807 := rfl
 obtain ⟨k1, k2, k3⟩ := Xbk ok
 obtain ⟨a1, a2, a3, a4⟩ := Xi4 h
 subst hf
 have key : ∀ n : Nat, n ≤ r.High.toNat → loop (Xhu p r) (r.Top + n, Xoh p r n) = some (Xoh p r r.High.toNat) := by
  refine Xgo _ ?_ ?_
  ·
   refine Xck ?_
   unfold Xhu
   rw [wk (e := r.Top + r.High) (by omega) (by omega), Xam (by simp only; omega)]
  ·
   intro n hn ih
   refine lgo (y := (r.Top + ((n + 1 : Nat) : Int), Xoh p r (n + 1))) ?_ ih
   obtain ⟨b1, b2, b3, b4⟩ := Ytd ok h n (by omega)
   have cl := Xuc ok h n (by omega)
   have cw : (n : Int) * r.Wide ≤ 256 * r.Wide := Int.mul_le_mul_of_nonneg_right (by omega) (by omega)
   unfold Xhu
   simp only
   rw [wk (e := r.Top + r.High) (by omega) (by omega), Xaj (by omega), wk (e := (r.Top + n) * p.Wide) (by omega) (by omega), wk (e := (r.Top + n) * p.Wide + r.Left) (by omega) (by omega), wk (e := (r.Top + n) * p.Wide + r.Left + r.Wide) (by omega) (by omega), Xai (by omega), Xai (by rw [b4]; omega), wk (e := r.Top + n + 1) (by omega) (by omega), show r.Top + ((n + 1 : Nat) : Int) = r.Top + n + 1 by omega]
   rfl
 have := key 0 (by omega)
 simpa [Xoh] using this
def Yyf (p : Pic) (r : Xpv) : Pic := ⟨r.Wide, r.High, strOfNums (Xoh p r r.High.toNat)⟩
theorem Yxe {p : Pic} {r : Xpv} (ok : Xb8 p = true) (h : Xlr p r = true) : Xb8 (Yyf p r) = true := by
 obtain ⟨k1, k2, k3⟩ := Xbk ok
 obtain ⟨a1, a2, a3, a4⟩ := Xi4 h
 refine Xws (by show 1 ≤ r.Wide ∧ r.Wide ≤ 256; omega) (by show 1 ≤ r.High ∧ r.High ≤ 256; omega) ?_
 show ((strOfNums _).size : Int) = r.Wide * r.High
 rw [strOfNums_size, Xuc ok h _ (by omega), Int.mul_comm]
 congr 1; omega
theorem Ymw {p : Pic} {r : Xpv} (ok : Xb8 p = true) (h : Xlr p r = true) : Xm8 p r = some (Yyf p r, true) := by
 unfold Xm8
 rw [Xlc, ok, h, Xad]
 simp only [Bool.true_and, Bool.not_true, Xav]
 rw [Yqr ok h rfl, Xad]
 rfl
theorem Ylj {p : Pic} {r : Xpv} (ok : Xb8 p = true) (h : Xlr p r = true) : Xm5 p r = some (Yyf p r, true) := by
 obtain ⟨k1, k2, k3⟩ := Xbk ok
 obtain ⟨a1, a2, a3, a4⟩ := Xi4 h
 have ar := Xd0 (w := r.Wide) (h := r.High) (by omega) (by omega)
 unfold Xm5
 rw [Xcg, Xad, ok, Xaw, Xp4 ok, Xad, h, Bool.not_true, Xad, Xav, wk (e := r.Wide * r.High) (by omega) (by omega), Xai (by omega)]
 have := Yqr (f := Xp2 p r) ok h rfl
 rw [show List.replicate (0 : Int).toNat (0 : Int) = [] from rfl, this, Xad]
 rfl
def Xog (l : List Xay) (c : Xkj) : Bool := l.all fun q => Xsc q && Xmo q c
theorem Xtp (n : Int) : Xkw n = some (Xqg n) := by
 unfold Xkw Xqg
 rw [Xai (by omega), Xao, Xad, Xd7, Xad, Yk9]
theorem Ym3 (l : List Xay) (c : Xkj) (hl : l.length ≤ 1048576) : Xpt l c = some (Xjk c && (decide (1 ≤ l.length ∧ l.length ≤ 64) && Xog l c)) := by
 unfold Xpt
 rw [Xew, Xad]
 cases hc : Xjk c with
 | false => rfl
 | true =>
  rw [Xaw, Xak, Xad, Xad]
  by_cases h64 : 1 ≤ l.length ∧ l.length ≤ 64
  ·
   rw [decide_eq_true (show 1 ≤ (l.length : Int) ∧ (l.length : Int) ≤ 64 by omega), decide_eq_true h64, Bool.not_true, Xav, Bool.true_and, Bool.true_and]
   have key : ∀ (r a : List Xay), l = a ++ r → loop (Xfx l c) (a.length : Int) = some (if Xog r c = true then .out () else .ret false) := by
    intro r
    induction r with
    | nil =>
     intro a ha
     rw [List.append_nil] at ha
     exact Xck (by unfold Xfx; rw [Xam (by rw [ha]; omega)]; rfl)
    | cons s r ih =>
     intro a ha
     have hlen : a.length < l.length := by rw [ha]; simp
     have hx : l.getD a.length Xbt = s := by rw [ha]; exact Xlg a s _ r
     have hn := ih (a ++ [s]) (by rw [ha]; simp)
     rw [List.length_append, List.length_singleton] at hn
     have hstep : Xfx l c (a.length : Int) = sel (!(Xsc s && Xmo s c)) (some (.done (.ret false))) (some (.go ((a.length + 1 : Nat) : Int))) := by
      unfold Xfx
      simp only [Int.toNat_natCast, hx]
      rw [Xaj (by omega), Xai (by omega), show (⟨s.Kind, s.Mode, s.Dx, s.Dy, s.Levels⟩ : Xay) = s from rfl, Xiu, Xad, Xai (by omega), wk (by omega) (by omega)]
      unfold Xmo
      cases Xsc s with
      | false => rfl
      | true =>
       cases c.Key with
       | false => rfl
       | true => rw [Xaw, Xaw, Xad, Bool.true_and, Bool.not_true, Bool.false_or]; rfl
     unfold Xog at hn ⊢
     rw [List.all_cons]
     cases hq : (Xsc s && Xmo s c) with
     | true =>
      rw [hq] at hstep
      rw [Xnm (hstep.trans (by rw [Bool.not_true, Xav])), hn, Bool.true_and]
     | false =>
      rw [hq] at hstep
      rw [Xb7 (hstep.trans (by rw [Bool.not_false, Xaw]))]
      simp
   have k0 : loop (Xfx l c) 0 = some (if Xog l c = true then .out () else .ret false) := key l [] rfl
   rw [k0, Xad]
   cases Xog l c <;> rfl
  ·
   rw [decide_eq_false (show ¬ (1 ≤ (l.length : Int) ∧ (l.length : Int) ≤ 64) by omega), decide_eq_false h64]; rfl
theorem Yks {w h : Int} (hw : Xqg w = true) (hh : Xqg h = true) (i : Nat) (hi : (i : Int) < w / 8 * (h / 8)) : (8 ≤ w ∧ w ≤ 64) ∧ (8 ≤ h ∧ h ≤ 64) ∧ 1 ≤ w / 8 ∧ w / 8 ≤ 8 ∧ 1 ≤ h / 8 ∧ h / 8 ≤ 8 ∧ 0 ≤ (i : Int) % (w / 8) * 8 ∧ (i : Int) % (w / 8) * 8 ≤ w - 8 ∧ 0 ≤ (i : Int) / (w / 8) * 8 ∧ (i : Int) / (w / 8) * 8 ≤ h - 8 := by
 unfold Xqg at hw hh
 rw [Bool.and_eq_true, decide_eq_true_eq, decide_eq_true_eq] at hw hh
 rw [Xcd (by omega)] at hw hh
 have h1 : 1 ≤ w / 8 ∧ w / 8 ≤ 8 := by omega
 have h2 : 1 ≤ h / 8 ∧ h / 8 ≤ 8 := by omega
 have m0 : 0 ≤ (i : Int) % (w / 8) := Int.emod_nonneg _ (by omega)
 have m1 : (i : Int) % (w / 8) < w / 8 := Int.emod_lt_of_pos _ (by omega)
 have d0 : 0 ≤ (i : Int) / (w / 8) := Int.ediv_nonneg (by omega) (by omega)
 have d1 : (i : Int) / (w / 8) < h / 8 := Int.ediv_lt_of_lt_mul (by omega) (by rw [Int.mul_comm]; exact hi)
 exact ⟨hw.2, hh.2, h1.1, h1.2, h2.1, h2.2, by omega, by omega, by omega, by omega⟩
theorem Xk7 {w : Int} (hw : Xqg w = true) : w % 8 = 0 ∧ 8 ≤ w ∧ w ≤ 64 := by
 unfold Xqg at hw
 rw [Bool.and_eq_true, decide_eq_true_eq, decide_eq_true_eq] at hw
 rw [Xcd (by omega)] at hw
 exact ⟨hw.1, hw.2⟩
structure Yu3 (ref : Pic) (le tp : Int) (r : Xpv) (c : Xkj) (l : List Xay) : Prop where
 hw : Xqg r.Wide = true
 hh : Xqg r.High = true
 hl : 0 ≤ le ∧ le ≤ 256
 ht : 0 ≤ tp ∧ tp ≤ 256
 hc : Xjk c = true
 hn : (l.length : Int) = r.Wide / 8 * (r.High / 8)
 hs : ∀ q ∈ l, q.Levels.length ≤ 1048576
 hr : c.Key = false → Xb8 ref = true
def tbI (r : Xpv) (v : Int × Int × ByteArray) : Prop := Xb8 ⟨v.1, v.2.1, v.2.2⟩ = true ∧ v.1 = r.Wide ∧ v.2.1 = r.High
theorem Yup {ref : Pic} {le tp : Int} {r : Xpv} {c : Xkj} {l : List Xay} (H : Yu3 ref le tp r c l) (i : Nat) (hi : i < l.length) (s : Int × Int × ByteArray) (hs : tbI r s) :
  ((Xsc (l.getD i Xbt) && Xmo (l.getD i Xbt) c) = false → Xbm r c l (le, tp, ref.Wide, ref.High, ref.Dots) ((i : Int), s) = some (.done (.ret (⟨0, 0, ⟨#[]⟩⟩, false)))) ∧
  ((Xsc (l.getD i Xbt) && Xmo (l.getD i Xbt) c) = true → ∃ s', Xbm r c l (le, tp, ref.Wide, ref.High, ref.Dots) ((i : Int), s) = some (.go (((i + 1 : Nat) : Int), s')) ∧ Xba r c l (le, tp, ref.Wide, ref.High, ref.Dots) ((i : Int), s) = some (.go (((i + 1 : Nat) : Int), s')) ∧ tbI r s') := by
 obtain ⟨hw, hh, hl, ht, hc, hn, hls, hr⟩ := H
 obtain ⟨w, h, dt⟩ := s
 obtain ⟨ok, e1, e2⟩ := hs
 simp only at ok e1 e2
 subst e1; subst e2
 obtain ⟨p1, p2, p3, p4, p5, p6, p7, p8, p9, p10⟩ := Yks hw hh i (by omega)
 have hmem : l.getD i Xbt ∈ l := by rw [Xce l i hi]; exact List.getElem_mem _
 have held : Xlq (⟨r.Wide, r.High, dt⟩ : Pic) ((i : Int) % (r.Wide / 8) * 8) ((i : Int) / (r.Wide / 8) * 8) = true := by
  unfold Xlq; rw [decide_eq_true_eq]; exact ⟨p7, p8, p9, p10⟩
 have SD : Yw2 (⟨r.Wide, r.High, dt⟩ : Pic) ref le tp ((i : Int) % (r.Wide / 8) * 8) ((i : Int) / (r.Wide / 8) * 8) c (l.getD i Xbt) :=
  ⟨ok, by rw [Xcd p7]; omega, by rw [Xcd p9]; omega, held, hl, ht, hc, hls _ hmem⟩
 have l64 : l.length ≤ 64 := by
  have : r.Wide / 8 * (r.High / 8) ≤ 8 * 8 := Int.mul_le_mul (by omega) (by omega) (by omega) (by omega)
  omega
 have eI : Xbm r c l (le, tp, ref.Wide, ref.High, ref.Dots) ((i : Int), r.Wide, r.High, dt) = bnd (Xc9 (⟨r.Wide, r.High, dt⟩ : Pic) ref le tp c ((i : Int) % (r.Wide / 8) * 8) ((i : Int) / (r.Wide / 8) * 8) (l.getD i Xbt)) fun q21 => sel (!q21.2) (some (.done (.ret (⟨0, 0, ⟨#[]⟩⟩, false)))) (bnd (Xsj (⟨r.Wide, r.High, dt⟩ : Pic) ((i : Int) % (r.Wide / 8) * 8) ((i : Int) / (r.Wide / 8) * 8) q21.1) fun q22 => some (.go (((i + 1 : Nat) : Int), q22.Wide, q22.High, q22.Dots))) := by
  unfold Xbm
  simp only [Int.toNat_natCast]
  rw [Xaj (by omega), Xai (by omega), Xai (by omega), Xbl (a := r.Wide) (by omega), wk (e := r.Wide / 8) (by omega) (by omega), Xai (by omega), Xai (by omega), Xai (by omega), Xcd (a := (i : Int)) (by omega), Xbl (a := (i : Int)) (by omega), wk (e := (i : Int) % (r.Wide / 8) * 8) (by omega) (by omega), wk (e := (i : Int) / (r.Wide / 8)) (by omega) (by omega), wk (e := (i : Int) / (r.Wide / 8) * 8) (by omega) (by omega), wk (e := (i : Int) + 1) (by omega) (by omega)]
  rfl
 have eS : Xba r c l (le, tp, ref.Wide, ref.High, ref.Dots) ((i : Int), r.Wide, r.High, dt) = bnd (Xcm (⟨r.Wide, r.High, dt⟩ : Pic) ref le tp c ((i : Int) % (r.Wide / 8) * 8) ((i : Int) / (r.Wide / 8) * 8) (l.getD i Xbt)) fun q21 => bnd (Xhc (⟨r.Wide, r.High, dt⟩ : Pic) ((i : Int) % (r.Wide / 8) * 8) ((i : Int) / (r.Wide / 8) * 8) q21.1) fun q22 => some (.go (((i + 1 : Nat) : Int), q22.Wide, q22.High, q22.Dots)) := by
  unfold Xba
  simp only [Int.toNat_natCast]
  rw [Xaj (by omega), Xai (by omega), Xbl (a := r.Wide) (by omega), wk (e := r.Wide / 8) (by omega) (by omega), Xai (by omega), Xai (by omega), Xai (by omega), Xai (by omega), Xcd (a := (i : Int)) (by omega), Xbl (a := (i : Int)) (by omega), Int.mul_comm 8 ((i : Int) % (r.Wide / 8)), wk (e := (i : Int) / (r.Wide / 8)) (by omega) (by omega), Int.mul_comm 8 ((i : Int) / (r.Wide / 8)), wk (e := (i : Int) % (r.Wide / 8) * 8) (by omega) (by omega), wk (e := (i : Int) / (r.Wide / 8) * 8) (by omega) (by omega), wk (e := (i : Int) + 1) (by omega) (by omega)]
  rfl
 refine ⟨fun hq => ?_, fun hq => ?_⟩
 ·
  rw [eI, Yk1 SD hq, Xad]; rfl
 ·
  rw [Bool.and_eq_true] at hq
  obtain ⟨d, d1, d2, d3⟩ := Ydb SD hq.1 hq.2 hr
  obtain ⟨p', ep, g1, g2, g3⟩ := Yj6 ok held d3
  refine ⟨(p'.Wide, p'.High, p'.Dots), ?_, ?_, g1, g2, g3⟩
  ·
   rw [eI, d1, Xad, Bool.not_true, Xav, Yt5 d3 (by have := Yqs ok; have hm : maxLen = 9223372036854775807 := rfl; simp only at this ⊢; omega), ep, Xad]
  ·
   rw [eS, d2, Xad, ep, Xad]
theorem Yxh {r : Xpv} (hw : Xqg r.Wide = true) (hh : Xqg r.High = true) : tbI r (r.Wide, r.High, strOfNums (List.replicate (r.Wide * r.High).toNat 128)) := by
 have a := Xk7 hw
 have b := Xk7 hh
 have ar := Xd0 (w := r.Wide) (h := r.High) (by omega) (by omega)
 refine ⟨Xws (by simp only; omega) (by simp only; omega) ?_, rfl, rfl⟩
 simp only
 rw [strOfNums_size, List.length_replicate]; omega
theorem Ywa {ref : Pic} {le tp : Int} {r : Xpv} {c : Xkj} {l : List Xay} (H : Yu3 ref le tp r c l) (s0 : Int × Int × ByteArray) (h0 : tbI r s0) :
  (Xog l c = false → loop (Xbm r c l (le, tp, ref.Wide, ref.High, ref.Dots)) (0, s0) = some (.ret (⟨0, 0, ⟨#[]⟩⟩, false))) ∧
  (Xog l c = true → ∃ s, loop (Xbm r c l (le, tp, ref.Wide, ref.High, ref.Dots)) (0, s0) = some (.out s) ∧ loop (Xba r c l (le, tp, ref.Wide, ref.High, ref.Dots)) (0, s0) = some s ∧ tbI r s) := by
 have key : ∀ i : Nat, i ≤ l.length → ∀ s, tbI r s →
  ((∃ j, i ≤ j ∧ j < l.length ∧ (Xsc (l.getD j Xbt) && Xmo (l.getD j Xbt) c) = false) → loop (Xbm r c l (le, tp, ref.Wide, ref.High, ref.Dots)) ((i : Int), s) = some (.ret (⟨0, 0, ⟨#[]⟩⟩, false))) ∧
  ((∀ j, i ≤ j → j < l.length → (Xsc (l.getD j Xbt) && Xmo (l.getD j Xbt) c) = true) → ∃ s', loop (Xbm r c l (le, tp, ref.Wide, ref.High, ref.Dots)) ((i : Int), s) = some (.out s') ∧ loop (Xba r c l (le, tp, ref.Wide, ref.High, ref.Dots)) ((i : Int), s) = some s' ∧ tbI r s') := by
  refine Xgo _ ?_ ?_
  ·
   intro s hs
   refine ⟨fun ⟨j, h1, h2, _⟩ => by omega, fun _ => ⟨s, Xck ?_, Xck ?_, hs⟩⟩
   ·
    unfold Xbm; rw [Xam (by simp)]
   ·
    unfold Xba; rw [Xam (by simp)]
  ·
   intro i hi ih s hs
   obtain ⟨hno, hyes⟩ := Yup H i hi s hs
   cases hq : (Xsc (l.getD i Xbt) && Xmo (l.getD i Xbt) c) with
   | false =>
    refine ⟨fun _ => Xck (hno hq), fun hall => ?_⟩
    have := hall i (Nat.le_refl _) hi
    rw [hq] at this; cases this
   | true =>
    obtain ⟨s', e1, e2, hs'⟩ := hyes hq
    obtain ⟨i1, i2⟩ := ih s' hs'
    refine ⟨fun ⟨j, h1, h2, h3⟩ => lgo e1 (i1 ⟨j, ?_, h2, h3⟩), fun hall => ?_⟩
    ·
     rcases Nat.lt_or_ge i j with h | h
     ·
      exact h
     ·
      have : j = i := by omega
      subst this
      rw [hq] at h3; cases h3
    ·
     obtain ⟨s2, k1, k2, k3⟩ := i2 fun j hj => hall j (by omega)
     exact ⟨s2, lgo e1 k1, lgo e2 k2, k3⟩
 obtain ⟨k1, k2⟩ := key 0 (by omega) s0 h0
 refine ⟨fun hf => k1 ?_, fun ht => k2 fun j _ hj => ?_⟩
 ·
  unfold Xog at hf
  rw [List.all_eq_false] at hf
  obtain ⟨x, hx, hxf⟩ := hf
  obtain ⟨j, hj, rfl⟩ := List.getElem_of_mem hx
  exact ⟨j, by omega, hj, by rw [Xce l j hj]; simpa using hxf⟩
 ·
  unfold Xog at ht
  rw [List.all_eq_true] at ht
  exact ht _ (by rw [Xce l j hj]; exact List.getElem_mem _)
theorem Yvo {now ref ref' : Pic} {l l' t t' x y : Int} {c : Xkj} {q : Xay} (h : Yw2 now ref l t x y c q) (h' : Yw2 now ref' l' t' x y c q) (hq : Xsc q = true) (hL : Xmo q c = true) (hK : c.Key = true) : Xcm now ref l t c x y q = Xcm now ref' l' t' c x y q := by
 have h2 : (q.Kind == 2) = true := by unfold Xmo at hL; rw [hK] at hL; simpa using hL
 unfold Xcm
 rw [Xak, Xak, Xak, Xak, decide_eq_true h.hl, decide_eq_true h.ht, decide_eq_true h'.hl, decide_eq_true h'.ht, h2]
 simp only [Xaw]
theorem Yvp {ref ref' : Pic} {le tp le' tp' : Int} {r : Xpv} {c : Xkj} {l : List Xay} (H : Yu3 ref le tp r c l) (H' : Yu3 ref' le' tp' r c l) (hK : c.Key = true) (ha : Xog l c = true) (s0 : Int × Int × ByteArray) (h0 : tbI r s0) :
  loop (Xba r c l (le, tp, ref.Wide, ref.High, ref.Dots)) (0, s0) = loop (Xba r c l (le', tp', ref'.Wide, ref'.High, ref'.Dots)) (0, s0) := by
 have hall : ∀ i, i < l.length → (Xsc (l.getD i Xbt) && Xmo (l.getD i Xbt) c) = true := fun i hi => by
  unfold Xog at ha
  rw [List.all_eq_true] at ha
  exact ha _ (by rw [Xce l i hi]; exact List.getElem_mem _)
 refine Yrb l.length (fun _ s => tbI r s) ?_ ?_ h0
 ·
  intro i s hi hs
  rcases Nat.lt_or_ge i l.length with hlt | hge
  ·
   have hq := hall i hlt
   rw [Bool.and_eq_true] at hq
   obtain ⟨w, h, dt⟩ := s
   obtain ⟨ok, e1, e2⟩ := hs
   simp only at ok e1 e2
   subst e1; subst e2
   have hn := H.hn
   obtain ⟨p1, p2, p3, p4, p5, p6, p7, p8, p9, p10⟩ := Yks H.hw H.hh i (by omega)
   have hmem : l.getD i Xbt ∈ l := by rw [Xce l i hlt]; exact List.getElem_mem _
   have held : Xlq (⟨r.Wide, r.High, dt⟩ : Pic) ((i : Int) % (r.Wide / 8) * 8) ((i : Int) / (r.Wide / 8) * 8) = true := by
    unfold Xlq; rw [decide_eq_true_eq]; exact ⟨p7, p8, p9, p10⟩
   have SD : Yw2 (⟨r.Wide, r.High, dt⟩ : Pic) ref le tp ((i : Int) % (r.Wide / 8) * 8) ((i : Int) / (r.Wide / 8) * 8) c (l.getD i Xbt) :=
    ⟨ok, by rw [Xcd p7]; omega, by rw [Xcd p9]; omega, held, H.hl, H.ht, H.hc, H.hs _ hmem⟩
   have SD' : Yw2 (⟨r.Wide, r.High, dt⟩ : Pic) ref' le' tp' ((i : Int) % (r.Wide / 8) * 8) ((i : Int) / (r.Wide / 8) * 8) c (l.getD i Xbt) :=
    ⟨ok, by rw [Xcd p7]; omega, by rw [Xcd p9]; omega, held, H'.hl, H'.ht, H'.hc, H'.hs _ hmem⟩
   have l64 : l.length ≤ 64 := by
    have : r.Wide / 8 * (r.High / 8) ≤ 8 * 8 := Int.mul_le_mul (by omega) (by omega) (by omega) (by omega)
    omega
   unfold Xba
   simp only [Int.toNat_natCast]
   refine Yqd (fun _ => Ymj fun _ => ?_) fun _ => rfl
   rw [Xbl (a := r.Wide) (by omega), wk (e := r.Wide / 8) (by omega) (by omega), Xcd (a := (i : Int)) (by omega), Xbl (a := (i : Int)) (by omega), Int.mul_comm 8 ((i : Int) % (r.Wide / 8)), wk (e := (i : Int) / (r.Wide / 8)) (by omega) (by omega), Int.mul_comm 8 ((i : Int) / (r.Wide / 8)), wk (e := (i : Int) % (r.Wide / 8) * 8) (by omega) (by omega), wk (e := (i : Int) / (r.Wide / 8) * 8) (by omega) (by omega)]
   refine Ymj fun _ => Ymj fun _ => Ymj fun _ => Ymj fun _ => Yxa ?_ fun _ _ => rfl
   exact Yvo SD SD' hq.1 hq.2 hK
  ·
   unfold Xba
   rw [Xam (by simp only; omega), Xam (by simp only; omega)]
 ·
  intro i s v' hi hs he
  rcases Nat.lt_or_ge i l.length with hlt | hge
  ·
   obtain ⟨s', _, e2, hs'⟩ := (Yup H' i hlt s hs).2 (hall i hlt)
   rw [e2] at he
   injection he with he
   injection he with he
   subst he
   exact ⟨rfl, by omega, hs'⟩
  ·
   unfold Xba at he
   rw [Xam (by simp only; omega)] at he
   cases he
theorem Yk2 (ref : Pic) (r : Xpv) (c : Xkj) (cf : Bool) (l : List Xay) (hll : l.length ≤ 1048576) (hs : ∀ q ∈ l, q.Levels.length ≤ 1048576) : ∃ x, Xju ref r c cf l = some x ∧ Xkc ref r c cf l = some x ∧ (x.2 = true → tbI r (x.1.Wide, x.1.High, x.1.Dots)) := by
 unfold Xju Xkc
 rw [Xtp, Xad, Xsb, Xad]
 cases hw : Xqg r.Wide with
 | false => exact ⟨_, rfl, rfl, fun h => by cases h⟩
 | true =>
  rw [Xaw, Xaw, Xtp, Xad, Xsb, Xad]
  cases hh : Xqg r.High with
  | false => exact ⟨_, rfl, rfl, fun h => by cases h⟩
  | true =>
   rw [Xaw, Xaw, Xao, Xad, Xak, Xad]
   by_cases hL : 0 ≤ r.Left ∧ r.Left ≤ 256
   ·
    rw [decide_eq_true hL, Xaw, Xaw, Xao, Xad, Xak, Xad]
    by_cases hT : 0 ≤ r.Top ∧ r.Top ≤ 256
    ·
     rw [decide_eq_true hT, Xaw, Xaw, Xdt, Xad, Ym3 l c hll, Xad]
     cases hc : Xjk c with
     | false => exact ⟨_, rfl, rfl, fun h => by cases h⟩
     | true =>
      have sw := Xk7 hw
      have sh := Xk7 hh
      have mb : r.Wide / 8 * (r.High / 8) ≤ 8 * 8 := Int.mul_le_mul (by omega) (by omega) (by omega) (by omega)
      have m0 : 1 * 1 ≤ r.Wide / 8 * (r.High / 8) := Int.mul_le_mul (by omega) (by omega) (by omega) (by omega)
      rw [Xaw, Xai (by omega), Xai (by omega), Bool.true_and, Xbl (a := r.Wide) (by omega), Xbl (a := r.High) (by omega), wk (e := r.Wide / 8) (by omega) (by omega), wk (e := r.High / 8) (by omega) (by omega), wk (e := r.Wide / 8 * (r.High / 8)) (by omega) (by omega)]
      by_cases hn : (l.length : Int) = r.Wide / 8 * (r.High / 8)
      ·
       have hne : ((l.length : Int) != r.Wide / 8 * (r.High / 8)) = false := by simpa using hn
       rw [decide_eq_true (show 1 ≤ l.length ∧ l.length ≤ 64 by omega), Bool.true_and, hne]
       -- the picture before
       have ha : (sel c.Key (some false) (bnd (Xdf ref) fun q8 => sel q8 (bnd (Xdu ref r) fun q9 => some (!q9)) (some true))) = some (!c.Key && !(Xb8 ref && Xlr ref r)) := by
        cases c.Key with
        | true => rfl
        | false =>
         rw [Xav, Xcg, Xad]
         cases hp : Xb8 ref with
         | false => rfl
         | true => rw [Xaw, Xp4 hp, Xad]; rfl
       have hb : (sel c.Key (some false) (bnd (Xb4 ref r.Left r.Top r.Wide r.High) fun q8 => some (!q8))) = some (!c.Key && !(Xb8 ref && Xlr ref r)) := by
        cases c.Key with
        | true => rfl
        | false => rw [Xav, Xlc, Xad]; rfl
       have G := Yxh hw hh
       have gI := Xz0 r.Wide r.High (by omega) (by omega)
       have gS := Yaa r.Wide r.High (by omega) (by omega)
       rw [ha, hb, gI, gS]
       simp only [Xad, Xav]
       cases hbad : (!c.Key && !(Xb8 ref && Xlr ref r)) with
       | true => cases Xog l c <;> exact ⟨_, rfl, rfl, fun h => by cases h⟩
       | false =>
        have hr : c.Key = false → Xb8 ref = true ∧ Xlr ref r = true := by
         intro hk
         rw [hk] at hbad
         simp only [Bool.not_false, Bool.true_and, Bool.not_eq_false'] at hbad
         rwa [Bool.and_eq_true] at hbad
        have vI : ∃ (rI : Pic) (lI tI : Int), (sel cf (sel (!c.Key) (bnd (Xm5 ref r) fun q11 => some ((0 : Int), (0 : Int), q11.1.Wide, q11.1.High, q11.1.Dots)) (some (0, 0, ref.Wide, ref.High, ref.Dots))) (some (r.Left, r.Top, ref.Wide, ref.High, ref.Dots))) = some (lI, tI, rI.Wide, rI.High, rI.Dots) ∧ Yu3 rI lI tI r c l ∧
          ∃ (rS : Pic) (lS tS : Int), (bnd (sel c.Key (some false) (some cf)) fun v10 => sel v10 (bnd (Xm8 ref r) fun q11 => some ((0 : Int), (0 : Int), q11.1.Wide, q11.1.High, q11.1.Dots)) (some (r.Left, r.Top, ref.Wide, ref.High, ref.Dots))) = some (lS, tS, rS.Wide, rS.High, rS.Dots) ∧ Yu3 rS lS tS r c l ∧ (c.Key = false → rI = rS ∧ lI = lS ∧ tI = tS) := by
         cases hK : c.Key with
         | true =>
          have TT : ∀ le tp : Int, (0 ≤ le ∧ le ≤ 256) → (0 ≤ tp ∧ tp ≤ 256) → Yu3 ref le tp r c l := fun le tp h1 h2 => ⟨hw, hh, h1, h2, hc, hn, hs, fun h => by rw [hK] at h; cases h⟩
          cases cf with
          | true => exact ⟨ref, 0, 0, rfl, TT 0 0 (by omega) (by omega), ref, r.Left, r.Top, rfl, TT _ _ hL hT, fun h => by cases h⟩
          | false => exact ⟨ref, r.Left, r.Top, rfl, TT _ _ hL hT, ref, r.Left, r.Top, rfl, TT _ _ hL hT, fun h => by cases h⟩
         | false =>
          obtain ⟨hp, ho⟩ := hr hK
          cases cf with
          | true =>
           rw [Xaw, Bool.not_false, Xaw, Ylj hp ho, Xad, Xav, Xad, Xaw, Ymw hp ho, Xad]
           have TT : Yu3 (Yyf ref r) 0 0 r c l := ⟨hw, hh, by omega, by omega, hc, hn, hs, fun _ => Yxe hp ho⟩
           exact ⟨Yyf ref r, 0, 0, rfl, TT, Yyf ref r, 0, 0, rfl, TT, fun _ => ⟨rfl, rfl, rfl⟩⟩
          | false =>
           have TT : Yu3 ref r.Left r.Top r c l := ⟨hw, hh, hL, hT, hc, hn, hs, fun _ => hp⟩
           exact ⟨ref, r.Left, r.Top, rfl, TT, ref, r.Left, r.Top, rfl, TT, fun _ => ⟨rfl, rfl, rfl⟩⟩
        obtain ⟨rI, lI, tI, eI, HI, rS, lS, tS, eS, HS, hk⟩ := vI
        rw [Xav, eI, eS]
        simp only [Xad, Xav]
        obtain ⟨n1, n2⟩ := Ywa HI _ G
        cases hall : Xog l c with
        | false =>
         rw [n1 hall, Xad]
         exact ⟨_, rfl, rfl, fun h => by cases h⟩
        | true =>
         obtain ⟨s, e1, e2, e3⟩ := n2 hall
         have e4 : loop (Xba r c l (lS, tS, rS.Wide, rS.High, rS.Dots)) (0, r.Wide, r.High, strOfNums (List.replicate (r.Wide * r.High).toNat 128)) = some s := by
          cases hK : c.Key with
          | true => rw [Yvp HS HI hK hall _ G]; exact e2
          | false =>
           obtain ⟨q1, q2, q3⟩ := hk hK
           subst q1; subst q2; subst q3
           exact e2
         rw [e1, Xad, Xaw, Xad, Xav, e4, Xad]
         exact ⟨_, rfl, rfl, fun _ => e3⟩
      ·
       have hne : ((l.length : Int) != r.Wide / 8 * (r.High / 8)) = true := by simpa using hn
       rw [hne, Xad, Xaw]
       refine ⟨_, rfl, ?_, fun h => by cases h⟩
       cases (decide (1 ≤ l.length ∧ l.length ≤ 64) && Xog l c) <;> rfl
    ·
     rw [decide_eq_false hT]; exact ⟨_, rfl, rfl, fun h => by cases h⟩
   ·
    rw [decide_eq_false hL]; exact ⟨_, rfl, rfl, fun h => by cases h⟩
theorem Yfk (s : ByteArray) (k : Nat) (hk : k < s.size) : (Xbr s).getD k 0 = Xkn s k := by
 have := Ynn (Xbr s) (by intro x hx; obtain ⟨b, _, rfl⟩ := List.mem_map.1 hx; have := b.toNat_lt; omega) k (by rw [Xbj]; exact hk)
 rw [Xss] at this
 exact this.symm
theorem Yxi {w h : Int} (hw : 1 ≤ w ∧ w ≤ 256) (hh : 1 ≤ h ∧ h ≤ 256) : Xb8 ⟨w, h, strOfNums (List.replicate (w * h).toNat 128)⟩ = true := by
 have ar := Xd0 hw hh
 refine Xws hw hh ?_
 simp only
 rw [strOfNums_size, List.length_replicate]; omega
theorem Yys (a b : List Int) (i : Nat) : (a ++ b).getD (a.length + i) 0 = b.getD i 0 := by
 rw [List.getD_eq_getElem?_getD, List.getD_eq_getElem?_getD, List.getElem?_append_right (by omega)]
 congr 2; omega
theorem Yyr (a b : List Int) (i : Nat) (hi : i < a.length) : (a ++ b).getD i 0 = a.getD i 0 := by
 rw [List.getD_eq_getElem?_getD, List.getD_eq_getElem?_getD, List.getElem?_append_left hi]
theorem Yyz (v x : Int) (h0 : 0 ≤ v) (h1 : v ≤ 1000000000000000000) (hx : x = 0 ∨ x = 1) : IntKind.wrap .i64 (BitVec.ofInt (IntKind.bits .i64) (v * 2) ||| BitVec.ofInt (IntKind.bits .i64) x).toNat = v * 2 + x := by
 obtain ⟨a, rfl⟩ : ∃ a : Nat, v = a := ⟨v.toNat, by omega⟩
 obtain ⟨b, rfl⟩ : ∃ b : Nat, x = b := ⟨x.toNat, by omega⟩
 have h : (BitVec.ofInt 64 ((a : Int) * 2) ||| BitVec.ofInt 64 (b : Int)).toNat = a * 2 + b := by
  rw [BitVec.toNat_or, BitVec.toNat_ofInt, BitVec.toNat_ofInt]
  have e1 : (((a : Int) * 2) % ((2 ^ 64 : Nat) : Int)).toNat = a * 2 := by omega
  have e2 : ((b : Int) % ((2 ^ 64 : Nat) : Int)).toNat = b := by omega
  rw [e1, e2]
  have := Nat.two_pow_add_eq_or_of_lt (i := 1) (b := b) (by omega) a
  rw [show 2 ^ 1 * a = a * 2 by omega] at this
  exact this.symm
 show IntKind.wrap .i64 ((BitVec.ofInt 64 ((a : Int) * 2) ||| BitVec.ofInt 64 (b : Int)).toNat : Int) = _
 rw [h, ← Xxo, wk (by omega) (by omega)]
 omega
theorem Xwt {i : Nat} (h : i ≤ 40) : (2 : Int) ^ i ≤ 1099511627776 := by
 have h2 : (2 : Nat) ^ i ≤ 1099511627776 := Nat.pow_le_pow_right (n := 2) (by omega) h
 have := Int.ofNat_le.2 h2
 rw [Int.natCast_pow] at this
 exact this
theorem Yqc {L a f b : List Int} (hL : L = a ++ (f ++ b)) (hb : Xos L) (hl : L.length ≤ 400000) (hf : f.length ≤ 41) : Xa1 ⟨strOfNums L, (a.length : Int), false⟩ (f.length : Int) = some (Xot f, ⟨strOfNums L, ((a.length + f.length : Nat) : Int), false⟩) := by
 have hLl : L.length = a.length + (f.length + b.length) := by rw [hL]; simp only [List.length_append]
 have hfb : Xos f := fun x hx => hb x (by rw [hL]; simp [hx])
 unfold Xa1
 simp only
 rw [Xav, strOfNums_size, wk (by omega) (by omega), Xad, Xam (by omega)]
 have key : ∀ i : Nat, i ≤ f.length → loop (Xf1 ⟨strOfNums L, (a.length : Int), false⟩ (f.length : Int)) (Xot (f.take i), (i : Int)) = some (Xot f) := by
  refine Xgo _ ?_ ?_
  ·
   refine Xck ?_
   unfold Xf1
   simp only
   rw [Xam (by omega), List.take_length]
  ·
   intro i hi ih
   refine lgo ?_ ih
   have hx : L.getD (a.length + i) 0 = f.getD i 0 := by rw [hL, Yys, Yyr _ _ _ hi]
   have hbt : Xkn (strOfNums L) ((a.length : Int) + i) = f.getD i 0 := by
    rw [show (a.length : Int) + i = ((a.length + i : Nat) : Int) by omega, Ynn L (Xrd hb) _ (by omega), hx]
   have h2 : f.getD i 0 = 48 ∨ f.getD i 0 = 49 := hfb _ (by rw [Xce f i hi]; exact List.getElem_mem hi)
   have ht : Xos (f.take i) := fun x hx => hfb x (List.mem_of_mem_take hx)
   have hr := Xpu ht
   have hp : (2 : Int) ^ (f.take i).length ≤ 1099511627776 := Xwt (by rw [List.length_take]; omega)
   have hv : Xot (f.take (i + 1)) = Xot (f.take i) * 2 + (f.getD i 0 - 48) := by
    rw [List.take_add_one, Yqk, Xce f i hi, List.getElem?_eq_getElem hi]
    simp [Xot]
   unfold Xf1
   simp only
   rw [Xaj (by omega), Xai (by omega), wk (e := (a.length : Int) + i) (by omega) (by omega), Xai (by rw [strOfNums_size]; omega), hbt, w8 (by omega) (by omega), wk (e := f.getD i 0 - 48) (by omega) (by omega), show (2 : Int) ^ min (1 : Int).toNat (IntKind.bits .i64) = 2 from rfl, wk (e := Xot (f.take i) * 2) (by omega) (by omega), Yyz _ _ (by omega) (by omega) (by omega), wk (by omega) (by omega), hv]
   rfl
 have := key 0 (by omega)
 rw [List.take_zero] at this
 refine (Xgk this).trans ?_
 rw [wk (by omega) (by omega)]
 rfl
def Yz5 (t : Nat → Int) : Nat → Int
 | 0 => 0
 | k + 1 => Yz5 t k + t k
def eT (f : Nat → Int) (u : Nat) : Int := Yz5 (fun k => Xil (u : Int) (k : Int) * f k) 8
def eS (X : Nat → Nat → Int) (u v : Nat) : Int := eT (fun i => eT (X i) v) u
theorem Yss {L : List Int} {i w : Nat} (h : i + w ≤ L.length) : L = L.take i ++ ((L.drop i).take w ++ L.drop (i + w)) ∧ (L.take i).length = i ∧ ((L.drop i).take w).length = w := by
 refine ⟨?_, by rw [List.length_take]; omega, by rw [List.length_take, List.length_drop]; omega⟩
 rw [← List.drop_drop, List.take_append_drop, List.take_append_drop]
theorem Yep {L : List Int} (hb : Xos L) (hl : L.length ≤ 400000) {i w : Nat} (h : i + w ≤ L.length) (hw : w ≤ 41) : Xa1 ⟨strOfNums L, (i : Int), false⟩ (w : Int) = some (Xot ((L.drop i).take w), ⟨strOfNums L, ((i + w : Nat) : Int), false⟩) := by
 obtain ⟨h1, h2, h3⟩ := Yss h
 have := Yqc h1 hb hl (by omega)
 rw [h2, h3] at this
 exact this
theorem Xzx {L : List Int} (hb : Xos L) {i : Nat} (h : i < L.length) : Xkn (strOfNums L) (i : Int) = L.getD i 0 ∧ (L.getD i 0 = 48 ∨ L.getD i 0 = 49) := ⟨Ynn L (Xrd hb) i h, hb _ (by rw [Xce L i h]; exact List.getElem_mem h)⟩
theorem Xqk {L : List Int} {i k : Nat} (h : i + k < L.length) : Xot ((L.drop i).take (k + 1)) = 2 * Xot ((L.drop i).take k) + L.getD (i + k) 0 - 48 := by
 rw [List.take_add_one, Yqk, List.getElem?_eq_getElem (by rw [List.length_drop]; omega), List.getElem_drop, Xce L _ h]
 simp [Xot]
 omega
theorem Xu6 {L : List Int} (hb : Xos L) (hl : L.length ≤ 400000) {i w : Nat} (hi : i ≤ L.length) (hw : w ≤ 41) : Xb0 (strOfNums L) (i : Int) (w : Int) = some (if i + w ≤ L.length then (Xot ((L.drop i).take w), ((i + w : Nat) : Int), true) else (0, 0, false)) := by
 unfold Xb0
 rw [strOfNums_size, wk (e := (L.length : Int) - i) (by omega) (by omega)]
 by_cases h : i + w ≤ L.length
 ·
  rw [Xam (by omega), if_pos h]
  have key : ∀ k : Nat, k ≤ w → loop (Xg5 (strOfNums L) (i : Int) (w : Int)) (Xot ((L.drop i).take k), ((i + k : Nat) : Int)) = some (Xot ((L.drop i).take w)) := by
   refine Xgo _ ?_ ?_
   ·
    refine Xck ?_
    unfold Xg5
    simp only
    rw [Xam (by rw [wk (by omega) (by omega)]; omega)]
   ·
    intro k hk ih
    refine lgo ?_ ih
    obtain ⟨b1, b2⟩ := Xzx hb (i := i + k) (by omega)
    have hr := Xpu (l := (L.drop i).take k) (fun x hx => hb x (List.mem_of_mem_drop (List.mem_of_mem_take hx)))
    have hp : (2 : Int) ^ ((L.drop i).take k).length ≤ 1099511627776 := Xwt (by rw [List.length_take]; omega)
    have hv := Xqk (L := L) (i := i) (k := k) (by omega)
    unfold Xg5
    simp only
    rw [Xaj (by rw [wk (by omega) (by omega)]; omega), Xai (by rw [strOfNums_size]; omega), b1, wk (e := 2 * Xot ((L.drop i).take k)) (by omega) (by omega), wk (e := L.getD (i + k) 0) (by omega) (by omega), wk (e := 2 * Xot ((L.drop i).take k) + L.getD (i + k) 0) (by omega) (by omega), wk (e := 2 * Xot ((L.drop i).take k) + L.getD (i + k) 0 - 48) (by omega) (by omega), wk (e := ((i + k : Nat) : Int) + 1) (by omega) (by omega), ← hv]
    rfl
  have := key 0 (by omega)
  refine (Xgk this).trans ?_
  rw [wk (by omega) (by omega)]
  rfl
 ·
  rw [Xaj (by omega), if_neg h]
theorem Yrw {L : List Int} (hb : Xos L) : ∀ n i : Nat, i + n = L.length → ∃ z : Nat, i + z ≤ L.length ∧ (∀ k, k < z → L.getD (i + k) 0 = 48) ∧ (i + z < L.length → L.getD (i + z) 0 = 49)
 | 0, i, h => ⟨0, by omega, fun k hk => by omega, fun h2 => by omega⟩
 | n + 1, i, h => by
  rcases (Xzx hb (i := i) (by omega)).2 with e | e
  ·
   obtain ⟨z, h1, h2, h3⟩ := Yrw hb n (i + 1) (by omega)
   refine ⟨z + 1, by omega, fun k hk => ?_, fun hz => ?_⟩
   ·
    cases k with
    | zero => exact e
    | succ k => have := h2 k (by omega); rwa [show i + 1 + k = i + (k + 1) by omega] at this
   ·
    have := h3 (by omega)
    rwa [show i + 1 + z = i + (z + 1) by omega] at this
  ·
   exact ⟨0, by omega, fun k hk => by omega, fun _ => e⟩
theorem Ypg {L : List Int} {i : Nat} : ∀ z : Nat, i + z ≤ L.length → (∀ k, k < z → L.getD (i + k) 0 = 48) → Xot ((L.drop i).take z) = 0
 | 0, _, _ => rfl
 | z + 1, h, hz => by rw [Xqk (by omega), Ypg z (by omega) (fun k hk => hz k (by omega)), hz z (by omega)]; rfl
theorem Ypf {L : List Int} {i z w : Nat} (h : i + z + w ≤ L.length) (hz : ∀ k, k < z → L.getD (i + k) 0 = 48) : Xot ((L.drop i).take (z + w)) = Xot ((L.drop (i + z)).take w) := by
 induction w with
 | zero => rw [Nat.add_zero, Ypg z (by omega) hz]; rfl
 | succ w ih =>
  rw [← Nat.add_assoc, Xqk (by omega), Xqk (by omega), ih (by omega)]
  rw [Nat.add_assoc]
theorem Yus {L : List Int} (hb : Xos L) {i w : Nat} (h : i + (w + 1) ≤ L.length) (h1 : L.getD i 0 = 49) : (2 : Int) ^ w ≤ Xot ((L.drop i).take (w + 1)) := by
 induction w with
 | zero => rw [Xqk (by omega)]; simp only [Nat.add_zero]; rw [h1, show Xot ((L.drop i).take 0) = 0 from rfl]; decide
 | succ w ih =>
  have := ih (by omega)
  have := (Xzx hb (i := i + (w + 1)) (by omega)).2
  rw [Xqk (by omega), Int.pow_succ]
  omega
theorem Yox (z : Nat) (h : z ≤ 21) : 0 ≤ Xaa .u64 (z : Int) ∧ Xaa .i64 (1 * 2 ^ min (Xaa .u64 (z : Int)).toNat (IntKind.bits .i64)) = (2 : Int) ^ z := by
 have all : ∀ q : Fin 22, (0 ≤ Xaa .u64 (q.val : Int) ∧ Xaa .i64 (1 * 2 ^ min (Xaa .u64 (q.val : Int)).toNat (IntKind.bits .i64)) = (2 : Int) ^ q.val) := by decide +kernel
 exact all ⟨z, by omega⟩
theorem Yrv (s : ByteArray) (a : Int) : Xbi ⟨s, a, true⟩ = some (0, ⟨s, a, true⟩) := by
 have h : Xd5 ⟨s, a, true⟩ 0 = some (.done 0) := rfl
 unfold Xbi
 rw [Xb7 h, Xad]
 rfl
theorem Xqj {L : List Int} (hb : Xos L) (hl : L.length ≤ 400000) (i : Nat) (hi : i ≤ L.length) :
  (∃ v j : Nat, Xa7 (strOfNums L) (i : Int) = some ((v : Int), (j : Int), true) ∧ Xbi ⟨strOfNums L, (i : Int), false⟩ = some ((v : Int), ⟨strOfNums L, (j : Int), false⟩) ∧ v ≤ 1000000 ∧ i < j ∧ j ≤ L.length) ∨ (Xa7 (strOfNums L) (i : Int) = some (0, 0, false) ∧ ∃ a : Int, Xbi ⟨strOfNums L, (i : Int), false⟩ = some (0, ⟨strOfNums L, a, true⟩)) := by
 obtain ⟨z, h1, h2, h3⟩ := Yrw hb (L.length - i) i (by omega)
 have lI : loop (Xd5 ⟨strOfNums L, (i : Int), false⟩) 0 = some (z : Int) := by
  have key : ∀ k : Nat, k ≤ z → loop (Xd5 ⟨strOfNums L, (i : Int), false⟩) (k : Int) = some (z : Int) := by
   refine Xgo _ ?_ ?_
   ·
    refine Xck ?_
    unfold Xd5
    simp only
    rw [Xav, wk (e := (i : Int) + (z : Int)) (by omega) (by omega), strOfNums_size]
    by_cases hlt : i + z < L.length
    ·
     rw [Xaj (by omega), Xai (by omega), show (i : Int) + (z : Int) = ((i + z : Nat) : Int) by omega, (Xzx hb hlt).1, h3 hlt, Xad]; rfl
    ·
     rw [Xam (by omega), Xad, Xav]
   ·
    intro k hk ih
    refine lgo ?_ ih
    unfold Xd5
    simp only
    rw [Xav, wk (e := (i : Int) + (k : Int)) (by omega) (by omega), strOfNums_size, Xaj (by omega), Xai (by omega), show (i : Int) + (k : Int) = ((i + k : Nat) : Int) by omega, (Xzx hb (by omega)).1, h2 k hk, Xad, wk (by omega) (by omega)]
    rfl
  exact key 0 (by omega)
 have lS : ∀ m : Nat, m = min z 21 → loop (Xd2 (strOfNums L) (i : Int)) 0 = some (m : Int) := by
  intro m hm
  have key : ∀ k : Nat, k ≤ m → loop (Xd2 (strOfNums L) (i : Int)) (k : Int) = some (m : Int) := by
   refine Xgo _ ?_ ?_
   ·
    refine Xck ?_
    unfold Xd2
    rw [wk (e := (i : Int) + (m : Int)) (by omega) (by omega), strOfNums_size]
    by_cases hlt : i + m < L.length
    ·
     rw [Xaj (by omega), Xai (by omega), show (i : Int) + (m : Int) = ((i + m : Nat) : Int) by omega, (Xzx hb hlt).1]
     by_cases hz : z ≤ 21
     ·
      have : m = z := by omega
      subst this
      rw [h3 hlt, Xa8 (by rfl), Xad, Xav]
     ·
      have : m = 21 := by omega
      subst this
      rw [h2 21 (by omega), Xb2 (by rfl), decide_eq_false (by omega), Xad, Xav]
    ·
     rw [Xam (by omega), Xad, Xav]
   ·
    intro k hk ih
    refine lgo ?_ ih
    unfold Xd2
    rw [wk (e := (i : Int) + (k : Int)) (by omega) (by omega), strOfNums_size, Xaj (by omega), Xai (by omega), show (i : Int) + (k : Int) = ((i + k : Nat) : Int) by omega, (Xzx hb (by omega)).1, h2 k (by omega), Xb2 (by rfl), decide_eq_true (by omega), Xad, Xaw, wk (by omega) (by omega)]
    rfl
  exact key 0 (by omega)
 unfold Xa7 Xbi
 rw [lI, Xad, lS _ rfl, Xad]
 simp only
 by_cases hz : z ≤ 20
 ·
  rw [show min z 21 = z by omega, Xam (by omega), Xad, wk (e := 2 * (z : Int)) (by omega) (by omega), wk (e := 2 * (z : Int) + 1) (by omega) (by omega), wk (e := (i : Int) + (z : Int)) (by omega) (by omega), wk (e := (z : Int) + 1) (by omega) (by omega), show (i : Int) + (z : Int) = ((i + z : Nat) : Int) by omega, show (z : Int) + 1 = ((z + 1 : Nat) : Int) by omega, show 2 * (z : Int) + 1 = ((z + (z + 1) : Nat) : Int) by omega, Xu6 hb hl h1 (by omega), Xad]
  obtain ⟨p1, p2⟩ := Yox z (by omega)
  by_cases hfit : i + z + (z + 1) ≤ L.length
  ·
   rw [if_pos hfit, Yep hb hl (by omega) (by omega), Xad, Ypf (by omega) h2]
   simp only
   have hge := Yus hb (i := i + z) (w := z) (by omega) (h3 (by omega))
   have hpp : (1 : Int) ≤ 2 ^ z := Int.pow_pos (by omega)
   have hr := Xpu (l := (L.drop (i + z)).take (z + 1)) (fun x hx => hb x (List.mem_of_mem_drop (List.mem_of_mem_take hx)))
   have hp : (2 : Int) ^ ((L.drop (i + z)).take (z + 1)).length ≤ 1099511627776 := Xwt (by rw [List.length_take]; omega)
   generalize hq : Xot ((L.drop (i + z)).take (z + 1)) = q at *
   rw [Xaw, Xai p1, p2, Xam (by omega), wk (e := q - 1) (by omega) (by omega), Xad, Xav, Xad]
   by_cases hbig : q - 1 > 1000000
   ·
    rw [Xaj hbig, Xaj hbig]
    exact .inr ⟨rfl, _, rfl⟩
   ·
    rw [Xam hbig, Xam hbig]
    exact .inl ⟨(q - 1).toNat, i + z + (z + 1), by rw [show (((q - 1).toNat : Nat) : Int) = q - 1 by omega], by rw [show (((q - 1).toNat : Nat) : Int) = q - 1 by omega, show i + (z + (z + 1)) = i + z + (z + 1) by omega], by omega, by omega, by omega⟩
  ·
   rw [if_neg hfit]
   simp only
   rw [Xav, Xad, Xaw]
   refine .inr ⟨rfl, (i : Int), ?_⟩
   have : Xa1 ⟨strOfNums L, (i : Int), false⟩ ((z + (z + 1) : Nat) : Int) = some (0, ⟨strOfNums L, (i : Int), true⟩) := by
    unfold Xa1
    simp only
    rw [Xav, strOfNums_size, wk (by omega) (by omega), Xad, Xaj (by omega)]
   rw [this, Xad]
   rfl
 ·
  have hm : min z 21 = 21 := by omega
  rw [hm, Xaj (by omega), Xad]
  refine .inr ⟨?_, (i : Int), ?_⟩
  ·
   rw [wk (e := (i : Int) + ((21 : Nat) : Int)) (by omega) (by omega), wk (e := ((21 : Nat) : Int) + 1) (by omega) (by omega), show (i : Int) + ((21 : Nat) : Int) = ((i + 21 : Nat) : Int) by omega, show ((21 : Nat) : Int) + 1 = ((22 : Nat) : Int) by omega, Xu6 hb hl (by omega) (by omega), Xad]
   obtain ⟨p1, p2⟩ := Yox 21 (by omega)
   by_cases hfit : i + 21 + 22 ≤ L.length
   ·
    rw [if_pos hfit]
    simp only
    rw [Xaw, Xai p1, p2]
    by_cases h21 : z = 21
    ·
     subst h21
     have hge : (2 : Int) ^ 21 ≤ Xot ((L.drop (i + 21)).take 22) := Yus hb (i := i + 21) (w := 21) (by omega) (h3 (by omega))
     have hr := Xpu (l := (L.drop (i + 21)).take 22) (fun x hx => hb x (List.mem_of_mem_drop (List.mem_of_mem_take hx)))
     have hp : (2 : Int) ^ ((L.drop (i + 21)).take 22).length ≤ 1099511627776 := Xwt (by rw [List.length_take]; omega)
     have e21 : (2 : Int) ^ 21 = 2097152 := by decide
     rw [e21] at hge ⊢
     rw [Xam (by omega), wk (by omega) (by omega), decide_eq_true (by omega), Xad, Xaw]
    ·
     have hlt : Xot ((L.drop (i + 21)).take 22) < 2 ^ 21 := by
      have a := Ypf (L := L) (i := i + 21) (z := 1) (w := 21) (by omega) (fun k hk => by
       have : k = 0 := by omega
       subst this
       exact h2 21 (by omega))
      rw [show (1 + 21 : Nat) = 22 from rfl] at a
      have hr := Xpu (l := (L.drop (i + 21 + 1)).take 21) (fun x hx => hb x (List.mem_of_mem_drop (List.mem_of_mem_take hx)))
      rw [a]
      have : ((L.drop (i + 21 + 1)).take 21).length = 21 := by rw [List.length_take, List.length_drop]; omega
      rw [this] at hr
      exact hr.2
     rw [Xaj hlt, Xad, Xaw]
   ·
    rw [if_neg hfit]
    simp only
    rw [Xav, Xad, Xaw]
  ·
   have : ∀ w : Int, Xa1 ⟨strOfNums L, (i : Int), true⟩ w = some (0, ⟨strOfNums L, (i : Int), true⟩) := fun w => rfl
   rw [this, Xad]
   rfl
theorem Yt3 (v : Nat) (hv : v ≤ 1000000) : ∃ n : Int, Xnc (v : Int) = some (n, true) ∧ Xns (v : Int) = some (n, true) ∧ -500000 ≤ n ∧ n ≤ 500000 := by
 unfold Xnc Xns
 rw [Xao, Xad, Xak, Xad, decide_eq_true (by omega), Bool.not_true, Xav, Xav, Xai (by omega), Xai (by omega), Xcd (by omega)]
 by_cases h : (v : Int) % 2 = 1
 ·
  rw [Xb2 (by rw [beq_iff_eq]; exact h), Xb2 (by rw [beq_iff_eq]; exact h), Xai (by omega), wk (e := (v : Int) + 1) (by omega) (by omega), Xbl (by omega), wk (by omega) (by omega)]
  exact ⟨_, rfl, rfl, by omega, by omega⟩
 ·
  rw [Xa8 (by rw [beq_eq_false_iff_ne]; exact h), Xa8 (by rw [beq_eq_false_iff_ne]; exact h), Xai (by omega), Xai (by omega), wk (e := 0 - (v : Int)) (by omega) (by omega)]
  have e1 : (0 - (v : Int)).tdiv 2 = -((v : Int) / 2) := by
   rw [show (0 - (v : Int)) = (-((v : Int) / 2)) * 2 by omega]
   exact Int.mul_tdiv_cancel _ (by omega)
  rw [e1, Xbl (a := (v : Int)) (by omega), wk (e := (v : Int) / 2) (by omega) (by omega), wk (e := 0 - (v : Int) / 2) (by omega) (by omega), wk (e := -((v : Int) / 2)) (by omega) (by omega), show 0 - (v : Int) / 2 = -((v : Int) / 2) by omega]
  exact ⟨_, rfl, rfl, by omega, by omega⟩
theorem Yrn (s : ByteArray) (a : Int) : Xbz ⟨s, a, true⟩ = some (0, ⟨s, a, true⟩) := by
 unfold Xbz
 rw [Yrv, Xad]
 rfl
theorem Yfx {L : List Int} (hb : Xos L) (hl : L.length ≤ 400000) (i : Nat) (hi : i ≤ L.length) :
  (∃ (n : Int) (j : Nat), Xbx (strOfNums L) (i : Int) = some (n, (j : Int), true) ∧ Xbz ⟨strOfNums L, (i : Int), false⟩ = some (n, ⟨strOfNums L, (j : Int), false⟩) ∧ (-500000 ≤ n ∧ n ≤ 500000) ∧ i < j ∧ j ≤ L.length) ∨ (Xbx (strOfNums L) (i : Int) = some (0, 0, false) ∧ ∃ a : Int, Xbz ⟨strOfNums L, (i : Int), false⟩ = some (0, ⟨strOfNums L, a, true⟩)) := by
 unfold Xbx Xbz
 rcases Xqj hb hl i hi with ⟨v, j, e1, e2, h1, h2, h3⟩ | ⟨e1, a, e2⟩
 ·
  obtain ⟨n, o1, o2, o3, o4⟩ := Yt3 v h1
  refine .inl ⟨n, j, ?_, ?_, ⟨o3, o4⟩, h2, h3⟩
  ·
   rw [e1, Xad]
   simp only
   rw [Bool.not_true, Xav, o2, Xad]
  ·
   rw [e2, Xad]
   simp only
   rw [o1, Xad]
   rfl
 ·
  refine .inr ⟨?_, a, ?_⟩
  ·
   rw [e1, Xad]; rfl
  ·
   rw [e2, Xad]; rfl
def Ysx (L : List Int) (N n pos : Nat) : Prop := pos ≤ N → N ≤ pos + n → ∀ (i : Nat) (l : List Int) (rem : Nat), i ≤ L.length → l.length = N → rem ≤ 1000000 →
  (∃ (j : Nat) (l' : List Int), (∀ (k : Nat) (q1 : Int × Int × Bool), q1.1 = ((k + rem : Nat) : Int) → k + rem ≤ 1000000 → loop (Xb3 (strOfNums L) (N : Int) q1) ((i : Int), (pos : Int), (k : Int), l) = some (.out ((j : Int), l'))) ∧ loop (Xbd (N : Int)) ((pos : Int), (rem : Int), strOfNums L, (i : Int), false, l) = some (l', strOfNums L, (j : Int), false) ∧ l'.length = N ∧ j ≤ L.length ∧ rem ≤ N - pos) ∨
  ((∀ (k : Nat) (q1 : Int × Int × Bool), q1.1 = ((k + rem : Nat) : Int) → k + rem ≤ 1000000 → loop (Xb3 (strOfNums L) (N : Int) q1) ((i : Int), (pos : Int), (k : Int), l) = some (.ret ([], 0, false))) ∧ ∃ (l' : List Int) (a : Int), loop (Xbd (N : Int)) ((pos : Int), (rem : Int), strOfNums L, (i : Int), false, l) = some (l', strOfNums L, a, true) ∧ l'.length = N)
theorem Yo3 {L : List Int} (hb : Xos L) (hl : L.length ≤ 400000) (N : Nat) (hN : N ≤ 64) (n : Nat) (ih : ∀ n', n' + 1 = n → ∀ pos, Ysx L N n' pos) (pos : Nat) : Ysx L N n pos := by
 intro hp hn i l rem hi hll hrem
 cases rem with
 | zero =>
  refine .inl ⟨i, l, fun k q1 hq hk => Xck ?_, Xck ?_, hll, hi, by omega⟩
  ·
   unfold Xb3
   simp only
   rw [Xam (by omega)]
  ·
   unfold Xbd
   simp only
   rw [Xam (by omega), Xad, Xav]
 | succ r =>
  have sI : Xbd (N : Int) ((pos : Int), ((r + 1 : Nat) : Int), strOfNums L, (i : Int), false, l) = bnd (Xbi ⟨strOfNums L, (i : Int), false⟩) fun q17 => bnd (Xbz q17.2) fun q18 => bnd (sel (decide ((Xaa .i64 ((pos : Int) + q17.1)) ≥ (N : Int))) (some true) (sel (q18.1 == 0) (some true) (bnd (Xat q18.1 (-5000) 5000) fun q20 => some (!q20)))) fun v19 => sel v19 (some (.done (l, q18.2.row_, q18.2.at_, true))) (req (0 ≤ (Xaa .i64 ((pos : Int) + q17.1)) ∧ (Xaa .i64 ((pos : Int) + q17.1)) < l.length) <| req ((Xaa .i64 ((pos : Int) + q17.1)).toNat < l.length) <| some (.go (Xaa .i64 ((Xaa .i64 ((pos : Int) + q17.1)) + 1), Xaa .i64 (((r + 1 : Nat) : Int) - 1), q18.2.row_, q18.2.at_, q18.2.bad_, (l.set ((Xaa .i64 ((pos : Int) + q17.1)).toNat) q18.1)))) := by
   unfold Xbd
   simp only
   rw [Xaj (by omega), Bool.not_false, Xad, Xaw]
  have sS : ∀ (k : Nat) (q1 : Int × Int × Bool), q1.1 = ((k + (r + 1) : Nat) : Int) → Xb3 (strOfNums L) (N : Int) q1 ((i : Int), (pos : Int), (k : Int), l) = bnd (Xa7 (strOfNums L) (i : Int)) fun q17 => bnd (sel q17.2.2 (some (decide (q17.1 > (Xaa .i64 ((Xaa .i64 ((N : Int) - 1)) - (pos : Int)))))) (some true)) fun v18 => sel v18 (some (.done (.ret (([] : List Int), 0, false)))) (bnd (Xbx (strOfNums L) q17.2.1) fun q19 => bnd (sel q19.2.2 (sel (q19.1 == 0) (some true) (bnd (Xax q19.1 (-5000) 5000) fun q21 => some (!q21))) (some true)) fun v20 => sel v20 (some (.done (.ret (([] : List Int), 0, false)))) (req (0 ≤ (Xaa .i64 ((pos : Int) + q17.1)) ∧ (Xaa .i64 ((pos : Int) + q17.1)) < l.length) <| req ((Xaa .i64 ((pos : Int) + q17.1)).toNat < l.length) <| some (.go (q19.2.1, Xaa .i64 ((Xaa .i64 ((pos : Int) + q17.1)) + 1), Xaa .i64 ((k : Int) + 1), (l.set ((Xaa .i64 ((pos : Int) + q17.1)).toNat) q19.1))))) := fun k q1 hq => by
   unfold Xb3
   simp only
   rw [Xaj (by omega)]
  rcases Xqj hb hl i hi with ⟨v, j, e1, e2, h1, h2, h3⟩ | ⟨e1, a, e2⟩
  ·
   rw [e2, Xad] at sI
   simp only at sI
   have sS' := fun k q1 hq => (sS k q1 hq).trans (by rw [e1, Xad])
   simp only at sS'
   by_cases hge : pos + v ≥ N
   ·
    refine .inr ⟨fun k q1 hq hk => Xck ((sS' k q1 hq).trans ?_), ?_⟩
    ·
     rw [Xaw, wk (e := (N : Int) - 1) (by omega) (by omega), wk (e := (N : Int) - 1 - pos) (by omega) (by omega), decide_eq_true (by omega), Xad, Xaw]
    ·
     rcases Yfx hb hl j h3 with ⟨m, j2, _, f2, _⟩ | ⟨_, a, f2⟩
     ·
      refine ⟨l, (j2 : Int), Xck (sI.trans ?_), hll⟩
      rw [f2, Xad, wk (e := (pos : Int) + v) (by omega) (by omega), Xaj (by omega), Xad, Xaw]
     ·
      refine ⟨l, a, Xck (sI.trans ?_), hll⟩
      rw [f2, Xad, wk (e := (pos : Int) + v) (by omega) (by omega), Xaj (by omega), Xad, Xaw]
   ·
    have sS2 := fun k q1 hq => (sS' k q1 hq).trans (by rw [Xaw, wk (e := (N : Int) - 1) (by omega) (by omega), wk (e := (N : Int) - 1 - pos) (by omega) (by omega), decide_eq_false (by omega), Xad, Xav])
    rw [wk (e := (pos : Int) + v) (by omega) (by omega)] at sI
    rcases Yfx hb hl j h3 with ⟨m, j2, f1, f2, f3, f4, f5⟩ | ⟨f1, a, f2⟩
    ·
     rw [f2, Xad, Xam (by omega)] at sI
     have sS3 := fun k q1 hq => (sS2 k q1 hq).trans (by rw [f1, Xad])
     simp only at sS3 sI
     by_cases hm : m = 0 ∨ ¬ (-5000 ≤ m ∧ m ≤ 5000)
     ·
      have hv : (sel (m == 0) (some true) (bnd (Xat m (-5000) 5000) fun q20 => some (!q20))) = some true ∧ (sel true (sel (m == 0) (some true) (bnd (Xax m (-5000) 5000) fun q20 => some (!q20))) (some true)) = some true := by
       rw [Xaw, Xao, Xak, Xad]
       rcases hm with h0 | h0
       ·
        rw [Xb2 (by rw [beq_iff_eq]; exact h0)]; exact ⟨rfl, rfl⟩
       ·
        rw [decide_eq_false h0]
        cases (m == 0) <;> exact ⟨rfl, rfl⟩
      refine .inr ⟨fun k q1 hq hk => Xck ((sS3 k q1 hq).trans ?_), l, (j2 : Int), Xck (sI.trans ?_), hll⟩
      ·
       rw [hv.2, Xad, Xaw]
      ·
       rw [hv.1, Xad, Xaw]
     ·
      have hm0 : m ≠ 0 := fun h => hm (.inl h)
      have hm1 : -5000 ≤ m ∧ m ≤ 5000 := Classical.byContradiction fun h => hm (.inr h)
      have hv : (sel (m == 0) (some true) (bnd (Xat m (-5000) 5000) fun q20 => some (!q20))) = some false ∧ (sel true (sel (m == 0) (some true) (bnd (Xax m (-5000) 5000) fun q20 => some (!q20))) (some true)) = some false := by
       rw [Xaw, Xao, Xak, Xad, Xa8 (by rw [beq_eq_false_iff_ne]; exact hm0), decide_eq_true hm1]
       exact ⟨rfl, rfl⟩
      have gI : Xbd (N : Int) ((pos : Int), ((r + 1 : Nat) : Int), strOfNums L, (i : Int), false, l) = some (.go (((pos + v + 1 : Nat) : Int), (r : Int), strOfNums L, (j2 : Int), false, l.set (pos + v) m)) := by
       rw [sI, hv.1, Xad, Xav, Xai (by omega), Xai (by omega), wk (by omega) (by omega), wk (by omega) (by omega), show ((r + 1 : Nat) : Int) - 1 = (r : Int) by omega, show ((pos : Int) + (v : Int)).toNat = pos + v by omega]
       rfl
      have gS : ∀ (k : Nat) (q1 : Int × Int × Bool), q1.1 = ((k + (r + 1) : Nat) : Int) → k + (r + 1) ≤ 1000000 → Xb3 (strOfNums L) (N : Int) q1 ((i : Int), (pos : Int), (k : Int), l) = some (.go ((j2 : Int), ((pos + v + 1 : Nat) : Int), ((k + 1 : Nat) : Int), l.set (pos + v) m)) := fun k q1 hq hk => by
       refine (sS3 k q1 hq).trans ?_
       rw [hv.2, Xad, Xav, wk (e := (pos : Int) + v) (by omega) (by omega), Xai (by omega), Xai (by omega), wk (by omega) (by omega), wk (by omega) (by omega), show ((pos : Int) + (v : Int)).toNat = pos + v by omega]
       rfl
      have hR := ih (n - 1) (by omega) (pos + v + 1) (by omega) (by omega) j2 (l.set (pos + v) m) r f5 (by rw [List.length_set]; exact hll) (by omega)
      rcases hR with ⟨j3, l', r1, r2, r3, r4, r5⟩ | ⟨r1, l', a, r2, r3⟩
      ·
       exact .inl ⟨j3, l', fun k q1 hq hk => lgo (gS k q1 hq hk) (r1 (k + 1) q1 (by rw [hq]; omega) (by omega)), lgo gI r2, r3, r4, by omega⟩
      ·
       exact .inr ⟨fun k q1 hq hk => lgo (gS k q1 hq hk) (r1 (k + 1) q1 (by rw [hq]; omega) (by omega)), l', a, lgo gI r2, r3⟩
    ·
     refine .inr ⟨fun k q1 hq hk => Xck ((sS2 k q1 hq).trans ?_), l, a, Xck (sI.trans ?_), hll⟩
     ·
      rw [f1, Xad]; rfl
     ·
      rw [f2, Xad, Xam (by omega)]; rfl
  ·
   refine .inr ⟨fun k q1 hq hk => Xck ((sS k q1 hq).trans ?_), l, a, Xck (sI.trans ?_), hll⟩
   ·
    rw [e1, Xad]; rfl
   ·
    rw [e2, Xad]
    simp only
    rw [Yrn, Xad]
    simp only
    cases decide ((Xaa .i64 ((pos : Int) + 0)) ≥ (N : Int)) <;> rfl
theorem Yxw {L : List Int} (hb : Xos L) (hl : L.length ≤ 400000) (N : Nat) (hN : N ≤ 64) : ∀ n pos : Nat, Ysx L N n pos := by
 intro n
 induction n with
 | zero => exact fun pos => Yo3 hb hl N hN 0 (fun n' h => by omega) pos
 | succ n ih => exact fun pos => Yo3 hb hl N hN (n + 1) (fun n' h pos => by
   have : n' = n := by omega
   subst this
   exact ih pos) pos
theorem Yrm (s : ByteArray) (a : Int) (N : Nat) (hN : N ≤ 64) : Xc2 ⟨s, a, true⟩ (N : Int) = some (List.replicate N 0, ⟨s, a, true⟩) := by
 unfold Xc2
 rw [Xai (by omega), Yrv, Xad]
 have h : ∀ l, Xbd (N : Int) (0, 0, s, a, true, l) = some (.done (l, s, a, true)) := fun l => rfl
 simp only
 rw [Xb7 (h _), Xad, Int.toNat_natCast]
theorem Yo0 {L : List Int} (hb : Xos L) (hl : L.length ≤ 400000) (N : Nat) (hN : N ≤ 64) (i : Nat) (hi : i ≤ L.length) :
  (∃ (l : List Int) (j : Nat), Xg9 (strOfNums L) (i : Int) (N : Int) = some (l, (j : Int), true) ∧ Xc2 ⟨strOfNums L, (i : Int), false⟩ (N : Int) = some (l, ⟨strOfNums L, (j : Int), false⟩) ∧ l.length = N ∧ j ≤ L.length) ∨ (Xg9 (strOfNums L) (i : Int) (N : Int) = some ([], 0, false) ∧ ∃ (l : List Int) (a : Int), Xc2 ⟨strOfNums L, (i : Int), false⟩ (N : Int) = some (l, ⟨strOfNums L, a, true⟩) ∧ l.length = N) := by
 unfold Xg9 Xc2
 rw [Xai (by omega), Xai (by omega)]
 rcases Xqj hb hl i hi with ⟨v, j, e1, e2, h1, h2, h3⟩ | ⟨e1, a, e2⟩
 ·
  rw [e1, Xad, e2, Xad]
  simp only
  rw [Xaw, Xad, Int.toNat_natCast]
  rcases Yxw hb hl N hN N 0 (by omega) (by omega) j (List.replicate N 0) v h3 (by simp) h1 with ⟨j3, l', r1, r2, r3, r4, r5⟩ | ⟨r1, l', a, r2, r3⟩
  ·
   have r1' := r1 0 ((v : Int), (j : Int), true) (by simp) (by omega)
   have r2' : loop (Xbd (N : Int)) (0, (v : Int), strOfNums L, (j : Int), false, List.replicate N 0) = some (l', strOfNums L, (j3 : Int), false) := r2
   have r3' : loop (Xb3 (strOfNums L) (N : Int) ((v : Int), (j : Int), true)) ((j : Int), 0, 0, List.replicate N 0) = some (.out ((j3 : Int), l')) := r1'
   rw [Xam (by omega), r2', r3', Xad, Xad]
   exact .inl ⟨l', j3, rfl, rfl, r3, r4⟩
  ·
   have r2' : loop (Xbd (N : Int)) (0, (v : Int), strOfNums L, (j : Int), false, List.replicate N 0) = some (l', strOfNums L, a, true) := r2
   refine .inr ⟨?_, l', a, ?_, r3⟩
   ·
    by_cases hbig : (v : Int) > N
    ·
     rw [Xaj hbig]
    ·
     have r3' : loop (Xb3 (strOfNums L) (N : Int) ((v : Int), (j : Int), true)) ((j : Int), 0, 0, List.replicate N 0) = some (.ret ([], 0, false)) := r1 0 ((v : Int), (j : Int), true) (by simp) (by omega)
     rw [Xam hbig, r3', Xad]
   ·
    rw [r2', Xad]
 ·
  refine .inr ⟨?_, List.replicate N 0, a, ?_, by simp⟩
  ·
   rw [e1, Xad]; rfl
  ·
   rw [e2, Xad]
   have h : ∀ l, Xbd (N : Int) (0, 0, strOfNums L, a, true, l) = some (.done (l, strOfNums L, a, true)) := fun l => rfl
   simp only
   rw [Xb7 (h _), Xad, Int.toNat_natCast]
theorem Yp2 (s : ByteArray) (a : Int) : ∀ n k : Nat, k + n = 4 → ∀ l : List Int, l.length = 16 * k → ∃ l' : List Int, loop Xbb ((k : Int), s, a, true, l) = some (l', s, a, true) ∧ l'.length = 64
 | 0, k, hk, l, hl => ⟨l, Xck (by unfold Xbb; simp only; rw [Xam (by omega)]), by omega⟩
 | n + 1, k, hk, l, hl => by
  have hm : maxLen = 9223372036854775807 := rfl
  obtain ⟨l', e, h⟩ := Yp2 s a n (k + 1) (by omega) (l ++ List.replicate 16 0) (by rw [List.length_append, List.length_replicate]; omega)
  refine ⟨l', lgo ?_ e, h⟩
  have := Yrm s a 16 (by omega)
  unfold Xbb
  simp only
  rw [Xaj (by omega)]
  refine (Xgk this).trans ?_
  simp only
  rw [Xai (by simp only [List.length_replicate]; omega), wk (by omega) (by omega)]
  rfl
theorem Xyx (s : ByteArray) (a : Int) (c : Xkj) : ∃ l : List Int, Xbn ⟨s, a, true⟩ c = some (l, ⟨s, a, true⟩) ∧ l.length = 64 := by
 unfold Xbn
 rw [Yko, Xad]
 by_cases h : (c.Large || c.Exact) = true
 ·
  rw [Xb2 h]
  have := Yrm s a 64 (by omega)
  exact ⟨_, (Xgk this).trans rfl, by simp⟩
 ·
  rw [Xa8 (by simpa using h)]
  obtain ⟨l', e, hl⟩ := Yp2 s a 4 0 rfl [] rfl
  exact ⟨l', (Xgk e).trans rfl, hl⟩
theorem Yq7 {L : List Int} (hb : Xos L) (hl : L.length ≤ 400000) : ∀ n k : Nat, k + n = 4 → ∀ (i : Nat) (l : List Int), i ≤ L.length → l.length = 16 * k →
  (∃ (l' : List Int) (j : Nat), loop (Xde (strOfNums L)) ((i : Int), (k : Int), l) = some (.out ((j : Int), l')) ∧ loop Xbb ((k : Int), strOfNums L, (i : Int), false, l) = some (l', strOfNums L, (j : Int), false) ∧ l'.length = 64 ∧ j ≤ L.length) ∨
  (loop (Xde (strOfNums L)) ((i : Int), (k : Int), l) = some (.ret ([], 0, false)) ∧ ∃ (l' : List Int) (a : Int), loop Xbb ((k : Int), strOfNums L, (i : Int), false, l) = some (l', strOfNums L, a, true) ∧ l'.length = 64)
 | 0, k, hk, i, l, hi, hll => .inl ⟨l, i, Xck (by unfold Xde; simp only; rw [Xam (by omega)]), Xck (by unfold Xbb; simp only; rw [Xam (by omega)]), by omega, hi⟩
 | n + 1, k, hk, i, l, hi, hll => by
  have hm : maxLen = 9223372036854775807 := rfl
  rcases Yo0 hb hl 16 (by omega) i hi with ⟨q, j, e1, e2, h1, h2⟩ | ⟨e1, q, a, e2, h1⟩
  ·
   have gI : Xbb ((k : Int), strOfNums L, (i : Int), false, l) = some (.go (((k + 1 : Nat) : Int), strOfNums L, (j : Int), false, l ++ q)) := by
    unfold Xbb
    simp only
    rw [Xaj (by omega)]
    refine (Xgk e2).trans ?_
    simp only
    rw [Xai (by omega), wk (by omega) (by omega)]
    rfl
   have gS : Xde (strOfNums L) ((i : Int), (k : Int), l) = some (.go ((j : Int), ((k + 1 : Nat) : Int), l ++ q)) := by
    unfold Xde
    simp only
    rw [Xaj (by omega)]
    refine (Xgk e1).trans ?_
    simp only
    rw [Bool.not_true, Xav, Xai (by omega), wk (by omega) (by omega)]
    rfl
   rcases Yq7 hb hl n (k + 1) (by omega) j (l ++ q) h2 (by rw [List.length_append]; omega) with ⟨l', j', r1, r2, r3, r4⟩ | ⟨r1, l', a, r2, r3⟩
   ·
    exact .inl ⟨l', j', lgo gS r1, lgo gI r2, r3, r4⟩
   ·
    exact .inr ⟨lgo gS r1, l', a, lgo gI r2, r3⟩
  ·
   obtain ⟨l', r1, r2⟩ := Yp2 (strOfNums L) a n (k + 1) (by omega) (l ++ q) (by rw [List.length_append]; omega)
   refine .inr ⟨Xck ?_, l', a, lgo ?_ r1, r2⟩
   ·
    unfold Xde
    simp only
    rw [Xaj (by omega)]
    refine (Xgk e1).trans ?_
    rfl
   ·
    unfold Xbb
    simp only
    rw [Xaj (by omega)]
    refine (Xgk e2).trans ?_
    simp only
    rw [Xai (by omega), wk (by omega) (by omega)]
    rfl
theorem Yfg {L : List Int} (hb : Xos L) (hl : L.length ≤ 400000) (i : Nat) (hi : i ≤ L.length) (c : Xkj) :
  (∃ (l : List Int) (j : Nat), Xfp (strOfNums L) (i : Int) c = some (l, (j : Int), true) ∧ Xbn ⟨strOfNums L, (i : Int), false⟩ c = some (l, ⟨strOfNums L, (j : Int), false⟩) ∧ l.length = 64 ∧ j ≤ L.length) ∨
  (Xfp (strOfNums L) (i : Int) c = some ([], 0, false) ∧ ∃ (l : List Int) (a : Int), Xbn ⟨strOfNums L, (i : Int), false⟩ c = some (l, ⟨strOfNums L, a, true⟩) ∧ l.length = 64) := by
 unfold Xfp Xbn
 rw [Yko, Xad, Xad]
 by_cases h : (c.Large || c.Exact) = true
 ·
  rw [Xb2 h, Xb2 h]
  rcases Yo0 hb hl 64 (by omega) i hi with ⟨q, j, e1, e2, h1, h2⟩ | ⟨e1, q, a, e2, h1⟩
  ·
   exact .inl ⟨q, j, (Xgk e1).trans rfl, (Xgk e2).trans rfl, h1, h2⟩
  ·
   exact .inr ⟨(Xgk e1).trans rfl, q, a, (Xgk e2).trans rfl, h1⟩
 ·
  rw [Xa8 (by simpa using h), Xa8 (by simpa using h)]
  rcases Yq7 hb hl 4 0 rfl i [] hi rfl with ⟨l', j', r1, r2, r3, r4⟩ | ⟨r1, l', a, r2, r3⟩
  ·
   exact .inl ⟨l', j', (Xgk r1).trans rfl, (Xgk r2).trans rfl, r3, r4⟩
  ·
   exact .inr ⟨(Xgk r1).trans rfl, l', a, (Xgk r2).trans rfl, r3⟩
theorem Ykq (s : ByteArray) (a : Int) (c : Xkj) : ∃ (q : Xay) (a' : Int), Xcp ⟨s, a, true⟩ c = some (q, ⟨s, a', true⟩) := by
 unfold Xcp
 cases hK : c.Key with
 | true => exact ⟨_, _, rfl⟩
 | false =>
  simp only
  rw [Bool.not_false, Xaw, Yrv, Xad, Xad]
  exact ⟨_, _, rfl⟩
theorem Yqj {L : List Int} (hb : Xos L) (hl : L.length ≤ 400000) (i : Nat) (hi : i ≤ L.length) (c : Xkj) :
  (∃ (q : Xay) (j : Nat), Xji (strOfNums L) (i : Int) c = some (q, (j : Int), true) ∧ Xcp ⟨strOfNums L, (i : Int), false⟩ c = some (q, ⟨strOfNums L, (j : Int), false⟩) ∧ q.Levels.length ≤ 64 ∧ j ≤ L.length ∧ Xsc q = true ∧ Xmo q c = true) ∨
  (Xji (strOfNums L) (i : Int) c = some (⟨0, 0, 0, 0, []⟩, 0, false) ∧ ∃ (q : Xay) (a : Int), Xcp ⟨strOfNums L, (i : Int), false⟩ c = some (q, ⟨strOfNums L, a, true⟩)) := by
 -- the kind
 have tail : ∀ (kd : Int) (i1 : Nat), i1 ≤ L.length → (0 ≤ kd ∧ kd ≤ 2) → (c.Key = true → kd = 2) → ∀ (x y : Option (Xay × Int × Bool)) (z : Option (Xay × Xkk)),
   x = (sel (kd == 0) (some ((⟨kd, 0, 0, 0, []⟩ : Xay), (i1 : Int), true)) (sel (kd == 1) (bnd (Xbx (strOfNums L) i1) fun q5 => sel (!q5.2.2) (some ((⟨0, 0, 0, 0, []⟩ : Xay), 0, false)) (bnd (Xbx (strOfNums L) q5.2.1) fun q6 => (sel (!q6.2.2) (some ((⟨0, 0, 0, 0, []⟩ : Xay), 0, false)) (bnd (Xfp (strOfNums L) q6.2.1 c) fun q8 => bnd (sel q8.2.2 (bnd (Xds (⟨kd, 0, q5.1, q6.1, q8.1⟩ : Xay)) fun q10 => some (!q10)) (some true)) fun v9 => sel v9 (some ((⟨0, 0, 0, 0, []⟩ : Xay), 0, false)) (some ((⟨kd, 0, q5.1, q6.1, q8.1⟩ : Xay), q8.2.1, true)))))) (bnd (Xa7 (strOfNums L) i1) fun q7 => (sel (!q7.2.2) (some ((⟨0, 0, 0, 0, []⟩ : Xay), 0, false)) (bnd (Xfp (strOfNums L) q7.2.1 c) fun q8 => bnd (sel q8.2.2 (bnd (Xds (⟨kd, q7.1, 0, 0, q8.1⟩ : Xay)) fun q10 => some (!q10)) (some true)) fun v9 => sel v9 (some ((⟨0, 0, 0, 0, []⟩ : Xay), 0, false)) (some ((⟨kd, q7.1, 0, 0, q8.1⟩ : Xay), q8.2.1, true))))))) →
   z = (bnd (sel (kd == 1) (bnd (Xbz (⟨strOfNums L, (i1 : Int), false⟩ : Xkk)) fun q4 => bnd (Xbz q4.2) fun q5 => bnd (Xbn q5.2 c) fun q6 => some (q6.2.row_, q6.2.at_, q6.2.bad_, (0 : Int), q4.1, q5.1, q6.1)) (sel (kd == 2) (bnd (Xbi (⟨strOfNums L, (i1 : Int), false⟩ : Xkk)) fun q7 => bnd (Xbn q7.2 c) fun q8 => some (q8.2.row_, q8.2.at_, q8.2.bad_, q7.1, 0, 0, q8.1)) (some (strOfNums L, (i1 : Int), false, 0, 0, 0, [])))) fun v3 => bnd (sel v3.2.2.1 (some true) (bnd (Xfs (⟨kd, v3.2.2.2.1, v3.2.2.2.2.1, v3.2.2.2.2.2.1, v3.2.2.2.2.2.2⟩ : Xay)) fun q10 => some (!q10))) fun v9 => some ((⟨kd, v3.2.2.2.1, v3.2.2.2.2.1, v3.2.2.2.2.2.1, v3.2.2.2.2.2.2⟩ : Xay), (⟨v3.1, v3.2.1, v9⟩ : Xkk))) →
   (∃ (q : Xay) (j : Nat), x = some (q, (j : Int), true) ∧ z = some (q, ⟨strOfNums L, (j : Int), false⟩) ∧ q.Levels.length ≤ 64 ∧ j ≤ L.length ∧ Xsc q = true ∧ Xmo q c = true) ∨ (x = some (⟨0, 0, 0, 0, []⟩, 0, false) ∧ ∃ (q : Xay) (a : Int), z = some (q, ⟨strOfNums L, a, true⟩)) := by
  intro kd i1 hi1 hkd hkey x _ z hx hz
  subst hx; subst hz
  obtain h0 | h1 | h2 : kd = 0 ∨ kd = 1 ∨ kd = 2 := by omega
  ·
   subst h0
   exact .inl ⟨⟨0, 0, 0, 0, []⟩, i1, rfl, rfl, by simp, hi1, rfl, by
    unfold Xmo
    cases hK : c.Key with
    | false => rfl
    | true => exact absurd (hkey hK) (by decide)⟩
  ·
   subst h1
   have hlet : ∀ q : Xay, q.Kind = 1 → Xmo q c = true := fun q hq => by
    unfold Xmo
    cases hK : c.Key with
    | false => rfl
    | true => exact absurd (hkey hK) (by decide)
   rw [Xa8 (b := ((1 : Int) == 0)) (by rfl), Xb2 (b := ((1 : Int) == 1)) (by rfl), Xb2 (b := ((1 : Int) == 1)) (by rfl)]
   rcases Yfx hb hl i1 hi1 with ⟨dx, j, e1, e2, h1, h2, h3⟩ | ⟨e1, a, e2⟩
   ·
    rw [e1, Xad, e2, Xad]
    simp only
    rw [Bool.not_true, Xav]
    rcases Yfx hb hl j h3 with ⟨dy, j2, f1, f2, g1, g2, g3⟩ | ⟨f1, a, f2⟩
    ·
     rw [f1, Xad, f2, Xad]
     simp only
     rw [Bool.not_true, Xav]
     rcases Yfg hb hl j2 g3 c with ⟨lv, j3, k1, k2, k3, k4⟩ | ⟨k1, lv, a, k2, k3⟩
     ·
      rw [k1, Xad, k2, Xad, Xad]
      simp only
      rw [Xaw, Xav, Xiu, Xad, Xfz _ (by simp only; omega), Xad, Xad, Xad]
      cases hq : Xsc ⟨1, 0, dx, dy, lv⟩ with
      | true => exact .inl ⟨_, j3, rfl, rfl, by simp only; omega, k4, hq, hlet _ rfl⟩
      | false => exact .inr ⟨rfl, _, _, rfl⟩
     ·
      rw [k1, Xad, k2, Xad, Xad]
      exact .inr ⟨rfl, _, _, rfl⟩
    ·
     rw [f1, Xad, f2, Xad]
     obtain ⟨lv, k2, _⟩ := Xyx (strOfNums L) a c
     simp only
     rw [k2, Xad, Xad]
     exact .inr ⟨rfl, _, _, rfl⟩
   ·
    rw [e1, Xad, e2, Xad]
    obtain ⟨lv, k2, _⟩ := Xyx (strOfNums L) a c
    simp only
    rw [Yrn, Xad]
    simp only
    rw [k2, Xad, Xad]
    exact .inr ⟨rfl, _, _, rfl⟩
  ·
   subst h2
   have hlet : ∀ q : Xay, q.Kind = 2 → Xmo q c = true := fun q hq => by
    unfold Xmo
    rw [hq]
    cases c.Key <;> rfl
   rw [Xa8 (b := ((2 : Int) == 0)) (by rfl), Xa8 (b := ((2 : Int) == 1)) (by rfl), Xa8 (b := ((2 : Int) == 1)) (by rfl), Xb2 (b := ((2 : Int) == 2)) (by rfl)]
   rcases Xqj hb hl i1 hi1 with ⟨m, j2, f1, f2, g1, g2, g3⟩ | ⟨f1, a, f2⟩
   ·
    rw [f1, Xad, f2, Xad]
    simp only
    rw [Bool.not_true, Xav]
    rcases Yfg hb hl j2 g3 c with ⟨lv, j3, k1, k2, k3, k4⟩ | ⟨k1, lv, a, k2, k3⟩
    ·
     rw [k1, Xad, k2, Xad, Xad]
     simp only
     rw [Xaw, Xav, Xiu, Xad, Xfz _ (by simp only; omega), Xad, Xad, Xad]
     cases hq : Xsc ⟨2, (m : Int), 0, 0, lv⟩ with
     | true => exact .inl ⟨_, j3, rfl, rfl, by simp only; omega, k4, hq, hlet _ rfl⟩
     | false => exact .inr ⟨rfl, _, _, rfl⟩
    ·
     rw [k1, Xad, k2, Xad, Xad]
     exact .inr ⟨rfl, _, _, rfl⟩
   ·
    rw [f1, Xad, f2, Xad]
    obtain ⟨lv, k2, _⟩ := Xyx (strOfNums L) a c
    simp only
    rw [k2, Xad, Xad]
    exact .inr ⟨rfl, _, _, rfl⟩
 unfold Xji Xcp
 simp only [Ytn]
 cases hK : c.Key with
 | true =>
  rw [Bool.not_true, Xav, Xav, Xad]
  simp only
  rw [Xav]
  exact tail 2 i hi (by omega) (fun _ => rfl) _ none _ rfl rfl
 | false =>
  rw [Bool.not_false, Xaw, Xaw]
  rcases Xqj hb hl i hi with ⟨v, j, e1, e2, h1, h2, h3⟩ | ⟨e1, a, e2⟩
  ·
   rw [e1, Xad, e2, Xad, Xad]
   simp only
   rw [Xaw, Xad]
   by_cases hv : (v : Int) > 2
   ·
    rw [Xaj hv]
    rw [Xav, Xa8 (b := (v : Int) == 1) (by rw [beq_eq_false_iff_ne]; omega), Xa8 (b := (v : Int) == 2) (by rw [beq_eq_false_iff_ne]; omega), Xad]
    simp only
    have hq : Xsc ⟨(v : Int), 0, 0, 0, []⟩ = false := by
     unfold Xsc
     rw [if_neg (by simp only; omega), if_neg (by simp only; omega), if_neg (by simp only; omega)]
    rw [Xav, Xfz _ (by simp), Xad, hq]
    exact .inr ⟨trivial, _, _, rfl⟩
   ·
    rw [Xam hv, Xav]
    exact tail v j h3 (by omega) (fun h => by rw [hK] at h; cases h) _ none _ rfl rfl
  ·
   rw [e1, Xad, e2, Xad, Xad]
   exact .inr ⟨rfl, _, _, rfl⟩
theorem Xpj (s : ByteArray) : (∃ L : List Int, s = strOfNums L ∧ Xos L ∧ L.length ≤ 400000 ∧ Xja s = some true ∧ Xhx s = some true) ∨ (Xja s = some false ∧ Xhx s = some false) := by
 have hf : Xhh s = Xc4 s := rfl
 unfold Xja Xhx
 by_cases hs : s.size ≤ 400000
 ·
  rw [Xam (by omega), Xaj (by omega), hf]
  unfold Xlb
  have hl := Yk5 (fun x => x == 48 || x == 49) (Xbr s) (Xc4 s) (by
   intro i hi
   rw [Xbj] at hi
   unfold Xc4
   rw [Xaj (by omega), Xai (by omega), Xai (by omega), Yfk s i hi, wk (by omega) (by omega)]
   generalize Xkn s i = x
   cases h1 : (x == 48) <;> cases h2 : (x == 49) <;> simp only [bne, h1, h2, sel, bnd, Bool.not_true, Bool.not_false, Bool.or_false, Bool.or_true, Bool.true_or] <;> rfl) (by
   rw [Xbj]
   unfold Xc4
   rw [Xam (by omega)])
  rw [hl]
  by_cases hall : (Xbr s).all (fun x => x == 48 || x == 49) = true
  ·
   rw [if_pos hall]
   refine .inl ⟨Xbr s, (Xss s).symm, fun x hx => ?_, by rw [Xbj]; exact hs, rfl, rfl⟩
   have := List.all_eq_true.1 hall x hx
   simpa using this
  ·
   rw [if_neg hall]
   exact .inr ⟨rfl, rfl⟩
 ·
  rw [Xaj (by omega), Xam (by omega)]
  exact .inr ⟨rfl, rfl⟩
theorem Ype {L : List Int} (hb : Xos L) (hl : L.length ≤ 400000) (N : Nat) (hN : N ≤ 64) (c : Xkj) (hc : Xjk c = true) : ∀ n k : Nat, k + n = N → ∀ (i : Nat) (l : List Xay), i ≤ L.length → l.length = k → (∀ q ∈ l, q.Levels.length ≤ 64) → Yuk l c = true →
  (∃ (l' : List Xay) (j : Nat), loop (Xbw (strOfNums L) (N : Int) c) ((i : Int), (k : Int), l) = some (.out ((j : Int), l')) ∧ loop (Xa9 (N : Int) c) ((k : Int), strOfNums L, (i : Int), false, l) = some (.out (strOfNums L, (j : Int), false, l')) ∧ l'.length = N ∧ (∀ q ∈ l', q.Levels.length ≤ 64) ∧ Yuk l' c = true) ∨
  (loop (Xbw (strOfNums L) (N : Int) c) ((i : Int), (k : Int), l) = some (.ret ([], false)) ∧ loop (Xa9 (N : Int) c) ((k : Int), strOfNums L, (i : Int), false, l) = some (.ret ([], false)))
 | 0, k, hk, i, l, hi, hll, hq, hs => .inl ⟨l, i, Xck (by unfold Xbw; simp only; rw [Xam (by omega)]), Xck (by unfold Xa9; simp only; rw [Xam (by omega)]), by omega, hq, hs⟩
 | n + 1, k, hk, i, l, hi, hll, hq, hs => by
  have hm : maxLen = 9223372036854775807 := rfl
  rcases Yqj hb hl i hi c with ⟨q, j, e1, e2, h1, h2, h3, h4⟩ | ⟨e1, q, a, e2⟩
  ·
   have gI : Xa9 (N : Int) c ((k : Int), strOfNums L, (i : Int), false, l) = some (.go (((k + 1 : Nat) : Int), strOfNums L, (j : Int), false, l ++ [q])) := by
    unfold Xa9
    simp only
    rw [Xaj (by omega), e2, Xad]
    simp only
    rw [Xai (by simp only [List.length_singleton]; omega), Xav, wk (by omega) (by omega)]
    rfl
   have gS : Xbw (strOfNums L) (N : Int) c ((i : Int), (k : Int), l) = some (.go ((j : Int), ((k + 1 : Nat) : Int), l ++ [q])) := by
    unfold Xbw
    simp only
    rw [Xaj (by omega), e1, Xad]
    simp only
    rw [Bool.not_true, Xav, Xai (by simp only [List.length_singleton]; omega), wk (by omega) (by omega)]
    rfl
   have hq' : ∀ x ∈ l ++ [q], x.Levels.length ≤ 64 := fun x hx => by
    rcases List.mem_append.1 hx with h | h
    ·
     exact hq x h
    ·
     rw [List.mem_singleton.1 h]; exact h1
   have hs' : Yuk (l ++ [q]) c = true := by
    unfold Yuk at hs ⊢
    rw [List.all_append, hs, Bool.true_and, List.all_cons, h3, hc, h4]; rfl
   rcases Ype hb hl N hN c hc n (k + 1) (by omega) j (l ++ [q]) h2 (by rw [List.length_append, hll]; rfl) hq' hs' with ⟨l', j', r1, r2, r3⟩ | ⟨r1, r2⟩
   ·
    exact .inl ⟨l', j', lgo gS r1, lgo gI r2, r3⟩
   ·
    exact .inr ⟨lgo gS r1, lgo gI r2⟩
  ·
   refine .inr ⟨Xck ?_, Xck ?_⟩
   ·
    unfold Xbw
    simp only
    rw [Xaj (by omega), e1, Xad]
    rfl
   ·
    unfold Xa9
    simp only
    rw [Xaj (by omega), e2, Xad]
    simp only
    rw [Xai (by simp only [List.length_singleton]; omega), Xaw]
def Yyi (n : Int) (c : Xkj) (l : List Xay) : Prop := Xjk c = true ∧ (1 ≤ n ∧ n ≤ 64) ∧ (l.length : Int) = n ∧ Yuk l c = true
theorem Ykz (s : ByteArray) (a n : Int) (c : Xkj) : ∃ (l : List Xay) (b : Bool), Xjr s a n c = some (l, b) ∧ Xj8 s a n c = some (l, b) ∧ l.length ≤ 64 ∧ (∀ q ∈ l, q.Levels.length ≤ 64) ∧ (b = true → Yyi n c l) := by
 have hm : maxLen = 9223372036854775807 := rfl
 have fin : ∀ {x y : Option (List Xay × Bool)}, x = some ([], false) → y = some ([], false) → ∃ (l : List Xay) (b : Bool), x = some (l, b) ∧ y = some (l, b) ∧ l.length ≤ 64 ∧ (∀ q ∈ l, q.Levels.length ≤ 64) ∧ (b = true → Yyi n c l) := fun h1 h2 => ⟨[], false, h1, h2, by simp, fun q hq => by simp at hq, fun h => by cases h⟩
 unfold Xjr Xj8 Xev
 by_cases hn : 1 ≤ n ∧ n ≤ 64
 ·
  by_cases hc : Xjk c = true
  case neg =>
   have hc : Xjk c = false := by simpa using hc
   refine fin ?_ ?_
   ·
    rcases Xpj s with ⟨L, _, _, _, r1, _⟩ | ⟨r1, _⟩
    ·
     rw [r1, Xad, Xaw, Xao, Xad, Xad, Xad, Xao, Xad, decide_eq_true hn, Xaw, Xdt, Xad, hc, Xad]; rfl
    ·
     rw [r1, Xad, Xav, Xad, Xad, Xao, Xad, decide_eq_true hn, Xaw, Xdt, Xad, hc, Xad]; rfl
   ·
    rcases Xpj s with ⟨L, _, _, _, _, r1⟩ | ⟨_, r1⟩
    ·
     rw [r1, Xad, Xaw, Xak, Xad, Xew, Xad, hc, Xav]
     cases decide (0 ≤ a ∧ a ≤ (s.size : Int)) <;> rfl
    ·
     rw [r1, Xad, Xav, Xad, Xaw]
  case pos =>
   rcases Xpj s with ⟨L, hL, hb, hl, r1, r2⟩ | ⟨r1, r2⟩
   ·
    rw [r1, r2, Xad, Xad, Xaw, Xaw, Xao, Xad, Xak, Xad, Xad, Xad, Xao, Xad, decide_eq_true hn, Xaw, Xdt, Xad, hc, Xad, Xew, Xad, hc, Xaw, Xak, Xad, decide_eq_true hn]
    by_cases ha : 0 ≤ a ∧ a ≤ (s.size : Int)
    ·
     rw [decide_eq_true ha]
     simp only [Bool.not_true, Xav, Xaw, Xad]
     subst hL
     rw [strOfNums_size] at ha ⊢
     obtain ⟨i, rfl⟩ : ∃ i : Nat, a = i := ⟨a.toNat, by omega⟩
     obtain ⟨N, rfl⟩ : ∃ N : Nat, n = N := ⟨n.toNat, by omega⟩
     rcases Ype hb hl N (by omega) c hc N 0 (by omega) i [] (by omega) rfl (fun q hq => by simp at hq) rfl with ⟨l', j, k1, k2, k3, k4, k5⟩ | ⟨k1, k2⟩
     ·
      have k1' : loop (Xbw (strOfNums L) (N : Int) c) ((i : Int), 0, []) = some (.out ((j : Int), l')) := k1
      have k2' : loop (Xa9 (N : Int) c) (0, strOfNums L, (i : Int), false, []) = some (.out (strOfNums L, (j : Int), false, l')) := k2
      rw [k1', k2', Xad, Xad]
      simp only
      by_cases hj : (j : Int) = (L.length : Int)
      ·
       rw [Xa8 (by rw [bne_eq_false_iff_eq]; exact hj)]
       exact ⟨l', true, rfl, rfl, by omega, k4, fun _ => ⟨hc, hn, by omega, k5⟩⟩
      ·
       rw [Xb2 (by rw [bne_iff_ne]; exact hj)]
       exact fin rfl rfl
     ·
      have k1' : loop (Xbw (strOfNums L) (N : Int) c) ((i : Int), 0, []) = some (.ret ([], false)) := k1
      have k2' : loop (Xa9 (N : Int) c) (0, strOfNums L, (i : Int), false, []) = some (.ret ([], false)) := k2
      rw [k1', k2', Xad, Xad]
      exact fin rfl rfl
    ·
     rw [decide_eq_false ha]
     simp only [Bool.not_true, Bool.not_false, Xav, Xaw, Xad]
     obtain ⟨q, a', eq⟩ := Ykq s a c
     have hd : Xa9 n c (0, s, a, true, []) = some (.done (.ret ([], false))) := by
      unfold Xa9
      simp only
      rw [Xaj (by omega), eq, Xad]
      simp only
      rw [Xai (by simp only [List.length_singleton, List.length_nil]; omega), Xaw]
     rw [Xb7 hd, Xad]
     exact fin rfl rfl
   ·
    refine fin ?_ ?_
    ·
     rw [r1, Xad, Xav, Xad, Xad, Xao, Xad, decide_eq_true hn, Xaw, Xdt, Xad, hc, Xad, Bool.not_true, Xav]
     simp only
     obtain ⟨q, a', eq⟩ := Ykq s a c
     have hd : Xa9 n c (0, s, a, true, []) = some (.done (.ret ([], false))) := by
      unfold Xa9
      simp only
      rw [Xaj (by omega), eq, Xad]
      simp only
      rw [Xai (by simp only [List.length_singleton, List.length_nil]; omega), Xaw]
     rw [Xb7 hd, Xad]
    ·
     rw [r2, Xad, Xav, Xad, Xaw]
 ·
  refine fin ?_ ?_
  ·
   rcases Xpj s with ⟨L, _, _, _, r1, _⟩ | ⟨r1, _⟩
   ·
    rw [r1, Xad, Xaw, Xao, Xad, Xad, Xad, Xao, Xad, decide_eq_false hn, Xav, Xad, Xaw]
   ·
    rw [r1, Xad, Xav, Xad, Xad, Xao, Xad, decide_eq_false hn, Xav, Xad, Xaw]
  ·
   rcases Xpj s with ⟨L, _, _, _, _, r1⟩ | ⟨_, r1⟩
   ·
    rw [r1, Xad, Xaw, Xak, Xad, Xew, Xad, Xak, Xad, decide_eq_false hn]
    cases decide (0 ≤ a ∧ a ≤ (s.size : Int)) <;> cases Xjk c <;> rfl
   ·
    rw [r1, Xad, Xav, Xad, Xaw]
def Yzv (w h : Int) : Pic := ⟨w, h, strOfNums (List.replicate (w * h).toNat 128)⟩
def Yla (s : ByteArray) (i : Nat) : Int := 48 + (Xkn s ((i / 8 : Nat) : Int) / 2 ^ (7 - i % 8)) % 2
def Xou (s : ByteArray) : List Int := (List.range (8 * s.size)).map (Yla s)
theorem Yvf : ∀ b : Fin 256, Yuv 8 (b.val : Int) = (List.range 8).map fun k => 48 + ((b.val : Int) / 2 ^ (7 - k)) % 2 := by decide +kernel
theorem Zak (b : Int) (h : 0 ≤ b ∧ b ≤ 255) : Yuv 8 b = (List.range 8).map fun k => 48 + (b / 2 ^ (7 - k)) % 2 := by
 have := Yvf ⟨b.toNat, by omega⟩
 simp only at this
 rwa [show ((b.toNat : Nat) : Int) = b by omega] at this
theorem Ys7 (s : ByteArray) (i : Nat) : Yla s i = 48 ∨ Yla s i = 49 := by unfold Yla; omega
theorem Yr1 (s : ByteArray) : Xos (Xou s) := fun x hx => by
 obtain ⟨i, _, rfl⟩ := List.mem_map.1 hx
 exact Ys7 s i
theorem Yr2 (s : ByteArray) : (Xou s).length = 8 * s.size := by simp [Xou]
theorem Ys8 (s : ByteArray) {i : Nat} (h : i < 8 * s.size) : (Xou s).getD i 0 = Yla s i := Xjl _ h
theorem Yqa (f : Nat → Int) (n : Nat) : (List.range (8 * n)).map f ++ (List.range 8).map (fun k => f (8 * n + k)) = (List.range (8 * (n + 1))).map f := by
 rw [show 8 * (n + 1) = 8 * n + 8 by omega, List.range_add, List.map_append, List.map_map]
 rfl
theorem Xvh (s : ByteArray) (hs : s.size ≤ 50001) : loop (Xeg s) (0, []) = some (Xou s) := by
 have hm : maxLen = 9223372036854775807 := rfl
 obtain ⟨o, e, ho⟩ := Xe2 (f := Xeg s) s.size (fun i l => l = (List.range (8 * i)).map (Yla s)) (by
  intro i l hi g
  subst g
  have hb := Xpw s i
  unfold Xeg
  simp only
  rw [Xaj (by omega), Xai (by omega), wk (e := Xkn s i) (by omega) (by omega), show (8 : Int) = ((8 : Nat) : Int) from rfl, Yjx _ 8 hb.1 (by omega) (by omega), Xad, Yvv _ (Xrd (Yqv _ _)), Xai (by simp only [Yqw, List.length_map, List.length_range]; omega), wk (e := (i : Int) + 1) (by omega) (by omega)]
  refine ⟨_, rfl, ?_⟩
  rw [← Yqa, Zak _ hb]
  congr 1
  refine List.map_congr_left fun k hk => ?_
  have hk8 := List.mem_range.1 hk
  unfold Yla
  rw [show (8 * i + k) / 8 = i by omega, show (8 * i + k) % 8 = k by omega]) (by intro l; unfold Xeg; rw [Xam (by simp)]) [] rfl
 rw [e, ho]; rfl
theorem Yr0 : ∀ b : Fin 256, ∀ k : Fin 8, Xaa .u8 (48 + (IntKind.wrap .u8 (BitVec.ofInt (IntKind.bits .u8) ((b.val : Int) / 2 ^ min (k.val) (IntKind.bits .u8)) &&& BitVec.ofInt (IntKind.bits .u8) 1).toNat)) = 48 + ((b.val : Int) / 2 ^ k.val) % 2 := by decide +kernel
theorem Yyn (b : Int) (h : 0 ≤ b ∧ b ≤ 255) (k : Nat) (hk : k < 8) : Xaa .u8 (48 + (IntKind.wrap .u8 (BitVec.ofInt (IntKind.bits .u8) (b / 2 ^ min k (IntKind.bits .u8)) &&& BitVec.ofInt (IntKind.bits .u8) 1).toNat)) = 48 + (b / 2 ^ k) % 2 := by
 have := Yr0 ⟨b.toNat, by omega⟩ ⟨k, hk⟩
 simp only at this
 rwa [show ((b.toNat : Nat) : Int) = b by omega] at this
theorem Xvg (s : ByteArray) (hs : s.size ≤ 50001) : loop (Xec s) (0, []) = some (Xou s) := by
 have hm : maxLen = 9223372036854775807 := rfl
 have := Yu7 (f := Xec s) (8 * s.size) (Yla s) [] (by
  intro i hi
  have hb := Xpw s ((i / 8 : Nat) : Int)
  unfold Xec
  simp only
  rw [wk (e := 8 * (s.size : Int)) (by omega) (by omega), Xaj (by omega), Xai (by omega), Xbl (by omega), wk (e := (i : Int) / 8) (by omega) (by omega), Xai (by omega), Xai (by omega), Xcd (by omega), wk (e := 7 - (i : Int) % 8) (by omega) (by omega), Xai (by omega), show (7 - (i : Int) % 8).toNat = 7 - i % 8 by omega, show (i : Int) / 8 = ((i / 8 : Nat) : Int) by omega, Yyn _ hb (7 - i % 8) (by omega), Xai (by simp only [List.length_append, List.length_nil, List.length_map, List.length_range, List.length_singleton]; omega), wk (e := (i : Int) + 1) (by omega) (by omega)]
  rfl) (by unfold Xec; rw [wk (e := 8 * (s.size : Int)) (by omega) (by omega), Xam (by simp)])
 rw [List.nil_append] at this
 exact this
theorem Yq1 {V : List Int} (hV : Xos V) : ∀ n : Nat, n ≤ V.length → (∃ j, j < n ∧ V.getD j 0 = 49) → ∃ k, k + 1 ≤ n ∧ V.getD k 0 = 49 ∧ ∀ j, k + 1 ≤ j → j < n → V.getD j 0 = 48
 | 0, _, ⟨j, h, _⟩ => by omega
 | n + 1, hn, ⟨j, hj, h⟩ => by
  rcases hV (V.getD n 0) (by rw [Xce V n (by omega)]; exact List.getElem_mem _) with e | e
  ·
   have hjn : j ≠ n := fun h2 => by rw [h2, e] at h; omega
   obtain ⟨k, h1, h2, h3⟩ := Yq1 hV n (by omega) ⟨j, by omega, h⟩
   refine ⟨k, by omega, h2, fun i h4 h5 => ?_⟩
   by_cases hi : i = n
   ·
    rw [hi]; exact e
   ·
    exact h3 i h4 (by omega)
  ·
   exact ⟨n, by omega, e, fun i h1 h2 => by omega⟩
theorem Yva : ∀ b : Fin 256, b.val ≠ 0 → ∃ k : Fin 8, 48 + ((b.val : Int) / 2 ^ (7 - k.val)) % 2 = 49 := by decide +kernel
theorem Ykv (s : ByteArray) (hs : s.size ≤ 1048576) : (∃ L : List Int, Xos L ∧ L.length ≤ 400000 ∧ Xhf s = some (strOfNums L, true) ∧ Xht s = some (strOfNums L, true)) ∨ (Xhf s = some (⟨#[]⟩, false) ∧ Xht s = some (⟨#[]⟩, false)) := by
 unfold Xhf Xht
 rw [wk (e := 8 * (s.size : Int)) (by omega) (by omega)]
 by_cases h0 : s.size = 0
 ·
  rw [h0]
  exact .inr ⟨rfl, rfl⟩
 rw [Xa8 (b := (8 * (s.size : Int)) == 0) (by rw [beq_eq_false_iff_ne]; omega), Xa8 (b := (s.size : Int) == 0) (by rw [beq_eq_false_iff_ne]; omega), wk (e := (s.size : Int) - 1) (by omega) (by omega), Xai (show 0 ≤ (s.size : Int) - 1 ∧ (s.size : Int) - 1 < s.size by omega)]
 by_cases hbig : s.size > 50001
 ·
  rw [Xaj (by omega), decide_eq_true (by omega), Xad, Xaw]
  refine .inr ⟨?_, rfl⟩
  cases (Xkn s ((s.size : Int) - 1) == 0) <;> rfl
 rw [Xam (by omega), Xai (show 0 ≤ (s.size : Int) - 1 ∧ (s.size : Int) - 1 < s.size by omega), decide_eq_false (by omega)]
 cases hz : (Xkn s ((s.size : Int) - 1) == 0) with
 | true => exact .inr ⟨rfl, rfl⟩
 | false =>
  rw [Xav, Xad, Xad, Xav, Xav, Xai (show 0 ≤ (0 : Int) ∧ (0 : Int) ≤ 8 * (s.size : Int) ∧ 8 * (s.size : Int) * 1 ≤ 281474976710656 by omega), show (List.replicate (0 : Int).toNat (0 : Int)) = [] from rfl, Xvg s (by omega), Xvh s (by omega), Xad, Xad]
  have hl := Yr2 s
  have hV := Yr1 s
  obtain ⟨k, k1, k2, k3⟩ := Yq1 hV (8 * s.size) (by omega) (by
   have hb := Xpw s ((s.size : Int) - 1)
   rw [beq_eq_false_iff_ne] at hz
   obtain ⟨k, hk⟩ := Yva ⟨(Xkn s ((s.size : Int) - 1)).toNat, by omega⟩ (by simp only; omega)
   have hk8 := k.isLt
   simp only at hk
   rw [show (((Xkn s ((s.size : Int) - 1)).toNat : Nat) : Int) = Xkn s ((s.size : Int) - 1) by omega] at hk
   refine ⟨8 * (s.size - 1) + k.val, by omega, ?_⟩
   rw [Ys8 s (by omega)]
   unfold Yla
   rw [show (8 * (s.size - 1) + k.val) / 8 = s.size - 1 by omega, show (8 * (s.size - 1) + k.val) % 8 = k.val by omega, show (((s.size - 1 : Nat)) : Int) = (s.size : Int) - 1 by omega]
   exact hk)
  have lI : loop (Xed (Xou s)) (8 * (s.size : Int)) = some ((k + 1 : Nat) : Int) := by
   have key : ∀ m : Nat, k + 1 + m ≤ 8 * s.size → loop (Xed (Xou s)) ((k + 1 + m : Nat) : Int) = some ((k + 1 : Nat) : Int) := by
    intro m
    induction m with
    | zero =>
     intro _
     refine Xck ?_
     unfold Xed
     rw [wk (by omega) (by omega), Xai (by omega), Xai (by omega), show (((k + 1 + 0 : Nat) : Int) - 1).toNat = k by omega, k2]
     rfl
    | succ m ih =>
     intro hm
     refine lgo ?_ (ih (by omega))
     unfold Xed
     rw [wk (by omega) (by omega), Xai (by omega), Xai (by omega), show (((k + 1 + (m + 1) : Nat) : Int) - 1).toNat = k + 1 + m by omega, k3 _ (by omega) (by omega), show ((k + 1 + (m + 1) : Nat) : Int) - 1 = ((k + 1 + m : Nat) : Int) by omega]
     rfl
   have := key (8 * s.size - (k + 1)) (by omega)
   rwa [show ((k + 1 + (8 * s.size - (k + 1)) : Nat) : Int) = 8 * (s.size : Int) by omega] at this
  have lS : loop (Xeh (Xou s)) ((Xou s).length : Int) = some ((k + 1 : Nat) : Int) := by
   have key : ∀ m : Nat, k + 1 + m ≤ 8 * s.size → loop (Xeh (Xou s)) ((k + 1 + m : Nat) : Int) = some ((k + 1 : Nat) : Int) := by
    intro m
    induction m with
    | zero =>
     intro _
     refine Xck ?_
     unfold Xeh
     rw [Xaj (by omega), wk (by omega) (by omega), Xai (by omega), Xai (by omega), show (((k + 1 + 0 : Nat) : Int) - 1).toNat = k by omega, k2]
     rfl
    | succ m ih =>
     intro hm
     refine lgo ?_ (ih (by omega))
     unfold Xeh
     rw [Xaj (by omega), wk (by omega) (by omega), Xai (by omega), Xai (by omega), show (((k + 1 + (m + 1) : Nat) : Int) - 1).toNat = k + 1 + m by omega, k3 _ (by omega) (by omega), show ((k + 1 + (m + 1) : Nat) : Int) - 1 = ((k + 1 + m : Nat) : Int) by omega]
     rfl
   have := key (8 * s.size - (k + 1)) (by omega)
   rwa [show ((k + 1 + (8 * s.size - (k + 1)) : Nat) : Int) = ((Xou s).length : Int) by omega] at this
  rw [lI, lS, Xad, wk (e := ((k + 1 : Nat) : Int) - 1) (by omega) (by omega), show ((k + 1 : Nat) : Int) - 1 = (k : Int) by omega]
  by_cases hk : (k : Int) > 400000
  ·
   rw [Xaj hk]
   exact .inr ⟨rfl, rfl⟩
  ·
   rw [Xam hk, Xai (by omega), Xai (by omega)]
   exact .inl ⟨(Xou s).take k, fun x hx => hV x (List.mem_of_mem_take hx), by rw [List.length_take]; omega, rfl, rfl⟩
theorem Ypo (s : ByteArray) (hs : s.size ≤ 1048576) : (∃ (kd : Int) (L : List Int), Ye5 kd = true ∧ Xos L ∧ L.length ≤ 400000 ∧ Xkt s = some (kd, strOfNums L, true) ∧ Xk9 s = some (kd, strOfNums L, true)) ∨ (Xkt s = some (0, ⟨#[]⟩, false) ∧ Xk9 s = some (0, ⟨#[]⟩, false)) := by
 unfold Xkt Xk9
 by_cases h0 : s.size = 0
 ·
  have hd : s = ⟨#[]⟩ := by
   have := Xss s
   have hn : Xbr s = [] := List.length_eq_zero_iff.1 (by rw [Xbj]; exact h0)
   rw [hn] at this
   exact this.symm
  subst hd
  have e0 : ((⟨#[]⟩ : ByteArray).toList == (⟨#[]⟩ : ByteArray).toList) = true := beq_self_eq_true _
  have e1 : ((⟨#[]⟩ : ByteArray).size : Int) < 1 := by decide
  rw [e0, Xaw, Xaj e1]
  exact .inr ⟨rfl, rfl⟩
 have hne : (s.toList == (⟨#[]⟩ : ByteArray).toList) = false := by
  rw [beq_eq_false_iff_ne]
  intro h
  exact h0 (by rw [Ykt.1 h]; rfl)
 have hb := Xpw s 0
 have r0 : ∀ {β : Type} (k : Option β), req (0 ≤ (0 : Int) ∧ (0 : Int) < (s.size : Int)) k = k := fun k => Xai (by omega)
 have r1 : ∀ {β : Type} (k : Option β), req (0 ≤ (1 : Int) ∧ (1 : Int) ≤ (s.size : Int) ∧ (s.size : Int) ≤ (s.size : Int)) k = k := fun k => Xai (by omega)
 rw [hne, Xav, Xam (by omega)]
 simp only [r0, r1, wk (e := Xkn s 0) (by omega) (by omega), Yih, Yg1, Xad]
 cases hk : Ye5 (Xkn s 0) with
 | false => exact .inr ⟨rfl, rfl⟩
 | true =>
  rw [Bool.not_true, Xav, Xav]
  rcases Ykv (s.extract (1 : Int).toNat (s.size : Int).toNat) (by rw [ByteArray.size_extract]; omega) with ⟨L, l1, l2, e1, e2⟩ | ⟨e1, e2⟩
  ·
   rw [e1, e2, Xad]
   exact .inl ⟨_, L, hk, l1, l2, rfl, rfl⟩
  ·
   rw [e1, e2, Xad]
   exact .inr ⟨rfl, rfl⟩
theorem Xpy {L : List Int} (hb : Xos L) (hl : L.length ≤ 400000) (i : Nat) (hi : i ≤ L.length) (w : Nat) (hw : w ≤ 41) :
  (∃ v : Int, i + w ≤ L.length ∧ v = Xot ((L.drop i).take w) ∧ (0 ≤ v ∧ v < 2 ^ w) ∧ Xb0 (strOfNums L) (i : Int) (w : Int) = some (v, ((i + w : Nat) : Int), true) ∧ Xa1 ⟨strOfNums L, (i : Int), false⟩ (w : Int) = some (v, ⟨strOfNums L, ((i + w : Nat) : Int), false⟩)) ∨
  (L.length < i + w ∧ Xb0 (strOfNums L) (i : Int) (w : Int) = some (0, 0, false) ∧ Xa1 ⟨strOfNums L, (i : Int), false⟩ (w : Int) = some (0, ⟨strOfNums L, (i : Int), true⟩)) := by
 have es := Xu6 hb hl hi hw
 by_cases h : i + w ≤ L.length
 ·
  rw [if_pos h] at es
  have hr := Xpu (l := (L.drop i).take w) (fun x hx => hb x (List.mem_of_mem_drop (List.mem_of_mem_take hx)))
  have hlen : ((L.drop i).take w).length = w := by rw [List.length_take, List.length_drop]; omega
  rw [hlen] at hr
  exact .inl ⟨_, h, rfl, hr, es, Yep hb hl h hw⟩
 ·
  rw [if_neg h] at es
  refine .inr ⟨by omega, es, ?_⟩
  unfold Xa1
  simp only
  rw [Xav, strOfNums_size, wk (by omega) (by omega), Xad, Xaj (by omega)]
theorem Ydl (s : ByteArray) (a w : Int) : Xa1 ⟨s, a, true⟩ w = some (0, ⟨s, a, true⟩) := rfl
theorem Xwr (s : ByteArray) (a : Int) : Xc1 ⟨s, a, true⟩ = some ([], ⟨s, a, true⟩) := by
 unfold Xc1
 rw [Yrv, Xad]
 have h : Xa3 (0, ⟨s, a, true⟩) (0, s, a, true, []) = some (.done ([], s, a, true)) := rfl
 simp only
 rw [Xam (by omega), Xad, Xb7 h, Xad]
theorem Yoi {L : List Int} (hb : Xos L) (hl : L.length ≤ 400000) (q1 : Int × Int × Bool) (q2 : Int × Xkk) (N : Nat) (hN : N ≤ 4) (h1 : q1.1 = (N : Int)) (h2 : q2.1 = (N : Int)) : ∀ n k : Nat, k + n = N → ∀ (i : Nat) (l : List Int), i ≤ L.length → l.length = k →
  (∃ (l' : List Int) (j : Nat), loop (Xbg (strOfNums L) q1) ((i : Int), (k : Int), l) = some (.out ((j : Int), l')) ∧ loop (Xa3 q2) ((k : Int), strOfNums L, (i : Int), false, l) = some (l', strOfNums L, (j : Int), false) ∧ l'.length ≤ 4 ∧ j ≤ L.length) ∨
  (loop (Xbg (strOfNums L) q1) ((i : Int), (k : Int), l) = some (.ret ([], 0, false)) ∧ ∃ (l' : List Int) (a : Int), loop (Xa3 q2) ((k : Int), strOfNums L, (i : Int), false, l) = some (l', strOfNums L, a, true) ∧ l'.length ≤ 4)
 | 0, k, hk, i, l, hi, hll => .inl ⟨l, i, Xck (by unfold Xbg; simp only; rw [Xam (by omega)]), Xck (by unfold Xa3; simp only; rw [Xam (by omega), Xad, Xav]), by omega, hi⟩
 | n + 1, k, hk, i, l, hi, hll => by
  have hm : maxLen = 9223372036854775807 := rfl
  rcases Xqj hb hl i hi with ⟨v, j, e1, e2, v1, v2, v3⟩ | ⟨e1, a, e2⟩
  ·
   have gI : Xa3 q2 ((k : Int), strOfNums L, (i : Int), false, l) = some (.go (((k + 1 : Nat) : Int), strOfNums L, (j : Int), false, l ++ [(v : Int)])) := by
    unfold Xa3
    simp only
    rw [Xaj (by omega), Bool.not_false, Xad, Xaw, e2, Xad]
    simp only
    rw [Xai (by simp only [List.length_singleton]; omega), wk (by omega) (by omega)]
    rfl
   have gS : Xbg (strOfNums L) q1 ((i : Int), (k : Int), l) = some (.go ((j : Int), ((k + 1 : Nat) : Int), l ++ [(v : Int)])) := by
    unfold Xbg
    simp only
    rw [Xaj (by omega), e1, Xad]
    simp only
    rw [Bool.not_true, Xav, Xai (by simp only [List.length_singleton]; omega), wk (by omega) (by omega)]
    rfl
   rcases Yoi hb hl q1 q2 N hN h1 h2 n (k + 1) (by omega) j (l ++ [(v : Int)]) v3 (by rw [List.length_append, List.length_singleton]; omega) with ⟨l', j', r1, r2, r3, r4⟩ | ⟨r1, l', a, r2, r3⟩
   ·
    exact .inl ⟨l', j', lgo gS r1, lgo gI r2, r3, r4⟩
   ·
    exact .inr ⟨lgo gS r1, l', a, lgo gI r2, r3⟩
  ·
   have gI : Xa3 q2 ((k : Int), strOfNums L, (i : Int), false, l) = some (.go (((k + 1 : Nat) : Int), strOfNums L, a, true, l ++ [0])) := by
    unfold Xa3
    simp only
    rw [Xaj (by omega), Bool.not_false, Xad, Xaw, e2, Xad]
    simp only
    rw [Xai (by simp only [List.length_singleton]; omega), wk (by omega) (by omega)]
    rfl
   have dI : Xa3 q2 (((k + 1 : Nat) : Int), strOfNums L, a, true, l ++ [0]) = some (.done (l ++ [0], strOfNums L, a, true)) := by
    unfold Xa3
    simp only
    cases decide (((k + 1 : Nat) : Int) < q2.1) <;> rfl
   refine .inr ⟨Xck ?_, l ++ [0], a, lgo gI (Xck dI), by rw [List.length_append, List.length_singleton]; omega⟩
   unfold Xbg
   simp only
   rw [Xaj (by omega), e1, Xad]
   rfl
theorem Yoh {L : List Int} (hb : Xos L) (hl : L.length ≤ 400000) (i : Nat) (hi : i ≤ L.length) :
  (∃ (l : List Int) (j : Nat), Xdk (strOfNums L) (i : Int) = some (l, (j : Int), true) ∧ Xc1 ⟨strOfNums L, (i : Int), false⟩ = some (l, ⟨strOfNums L, (j : Int), false⟩) ∧ l.length ≤ 4 ∧ j ≤ L.length) ∨
  (Xdk (strOfNums L) (i : Int) = some ([], 0, false) ∧ ∃ (l : List Int) (a : Int), Xc1 ⟨strOfNums L, (i : Int), false⟩ = some (l, ⟨strOfNums L, a, true⟩) ∧ l.length ≤ 4) := by
 unfold Xdk Xc1
 rcases Xqj hb hl i hi with ⟨v, j, e1, e2, v1, v2, v3⟩ | ⟨e1, a, e2⟩
 ·
  rw [e1, Xad, e2, Xad]
  simp only
  rw [Xaw, Xad]
  by_cases hv : (v : Int) > 4
  ·
   rw [Xaj hv, Xaj hv, Xad]
   have h : Xa3 ((v : Int), ⟨strOfNums L, (j : Int), false⟩) (0, strOfNums L, (j : Int), true, []) = some (.done ([], strOfNums L, (j : Int), true)) := by
    unfold Xa3
    simp only
    rw [Xaj (by omega)]
    rfl
   rw [Xb7 h, Xad]
   exact .inr ⟨rfl, [], j, rfl, by simp⟩
  ·
   rw [Xam hv, Xam hv, Xad]
   rcases Yoi hb hl ((v : Int), (j : Int), true) ((v : Int), ⟨strOfNums L, (j : Int), false⟩) v (by omega) rfl rfl v 0 (by omega) j [] v3 rfl with ⟨l', j', r1, r2, r3, r4⟩ | ⟨r1, l', a, r2, r3⟩
   ·
    have r1' : loop (Xbg (strOfNums L) ((v : Int), (j : Int), true)) ((j : Int), 0, []) = _ := r1
    have r2' : loop (Xa3 ((v : Int), ⟨strOfNums L, (j : Int), false⟩)) (0, strOfNums L, (j : Int), false, []) = _ := r2
    rw [r1', r2', Xad, Xad]
    exact .inl ⟨l', j', rfl, rfl, r3, r4⟩
   ·
    have r1' : loop (Xbg (strOfNums L) ((v : Int), (j : Int), true)) ((j : Int), 0, []) = _ := r1
    have r2' : loop (Xa3 ((v : Int), ⟨strOfNums L, (j : Int), false⟩)) (0, strOfNums L, (j : Int), false, []) = _ := r2
    rw [r1', r2', Xad, Xad]
    exact .inr ⟨rfl, l', a, rfl, r3⟩
 ·
  rw [e1, Xad, e2, Xad]
  simp only
  rw [Xav, Xad, Xaw, Xam (by omega), Xad]
  have h : Xa3 (0, ⟨strOfNums L, a, true⟩) (0, strOfNums L, a, true, []) = some (.done ([], strOfNums L, a, true)) := rfl
  rw [Xb7 h, Xad]
  exact .inr ⟨rfl, [], a, rfl, by simp⟩
theorem Yfn {L : List Int} (hb : Xos L) (hl : L.length ≤ 400000) (i : Nat) (hi : i ≤ L.length) : Xev (strOfNums L) (i : Int) = some ⟨strOfNums L, (i : Int), false⟩ := by
 unfold Xev
 rw [Ylp L hb hl, Xad, Xaw, Xao, Xad, strOfNums_size, decide_eq_true (by omega), Xad]
 rfl
theorem Ynf {L : List Int} (hb : Xos L) (hl : L.length ≤ 400000) (i : Nat) (hi : i ≤ L.length) :
  (∃ (q : Seq) (j : Nat), Xff (strOfNums L) (i : Int) = some (q, (j : Int), true) ∧ Xi9 (strOfNums L) (i : Int) = some (q, (j : Int), true) ∧ Xmy q = true ∧ q.Cols.length ≤ 4 ∧ q.Rows.length ≤ 4 ∧ j ≤ L.length) ∨
  (Xff (strOfNums L) (i : Int) = some (⟨0, 0, [], []⟩, 0, false) ∧ Xi9 (strOfNums L) (i : Int) = some (⟨0, 0, [], []⟩, 0, false)) := by
 have hm : maxLen = 9223372036854775807 := rfl
 unfold Xff Xi9
 rw [Yfn hb hl i hi, Xad]
 rcases Xqj hb hl i hi with ⟨v, j, e1, e2, v1, v2, v3⟩ | ⟨e1, a, e2⟩
 ·
  rw [e1, Xad, e2, Xad]
  simp only
  rw [Bool.not_true, Xav]
  rcases Xpy hb hl j v3 4 (by omega) with ⟨w, w1, _, w2, f1, f2⟩ | ⟨_, f1, f2⟩
  ·
   have f1' : Xb0 (strOfNums L) (j : Int) 4 = some (w, ((j + 4 : Nat) : Int), true) := f1
   have f2' : Xa1 ⟨strOfNums L, (j : Int), false⟩ 4 = some (w, ⟨strOfNums L, ((j + 4 : Nat) : Int), false⟩) := f2
   rw [f1', Xad, f2', Xad]
   simp only
   rw [Bool.not_true, Xav]
   rcases Yoh hb hl (j + 4) w1 with ⟨l, j2, g1, g2, g3, g4⟩ | ⟨g1, l, a, g2, g3⟩
   ·
    rw [g1, Xad, g2, Xad]
    simp only
    rw [Bool.not_true, Xav]
    rcases Yoh hb hl j2 g4 with ⟨m, j3, k1, k2, k3, k4⟩ | ⟨k1, m, a, k2, k3⟩
    ·
     rw [k1, Xad, k2, Xad]
     simp only
     rw [Xaw, Xav, Xkb, Xad, Xhj _ (by simp only; omega) (by simp only; omega), Xad, Xad, Xad]
     cases hq : Xmy ⟨(v : Int), w, l, m⟩ with
     | true => exact .inl ⟨_, j3, rfl, rfl, hq, g3, k3, k4⟩
     | false => exact .inr ⟨rfl, rfl⟩
    ·
     rw [k1, Xad, k2, Xad]
     exact .inr ⟨rfl, rfl⟩
   ·
    rw [g1, Xad, g2, Xad]
    simp only
    rw [Xwr, Xad]
    exact .inr ⟨rfl, rfl⟩
  ·
   have f1' : Xb0 (strOfNums L) (j : Int) 4 = some (0, 0, false) := f1
   have f2' : Xa1 ⟨strOfNums L, (j : Int), false⟩ 4 = some (0, ⟨strOfNums L, (j : Int), true⟩) := f2
   rw [f1', Xad, f2', Xad]
   simp only
   rw [Xwr, Xad]
   simp only
   rw [Xwr, Xad]
   exact .inr ⟨rfl, rfl⟩
 ·
  rw [e1, Xad, e2, Xad]
  simp only
  rw [Ydl, Xad]
  simp only
  rw [Xwr, Xad]
  simp only
  rw [Xwr, Xad]
  exact .inr ⟨rfl, rfl⟩
theorem Yxp {L : List Int} (hb : Xos L) {j : Nat} (h : j + 1 ≤ L.length) : Xot ((L.drop j).take 1) = L.getD j 0 - 48 := by
 have : Xot ((L.drop j).take 1) = 2 * Xot ((L.drop j).take 0) + L.getD j 0 - 48 := Xqk (L := L) (i := j) (k := 0) (by omega)
 rw [this, show Xot ((L.drop j).take 0) = 0 from rfl]; omega
theorem Yne {L : List Int} (hb : Xos L) (hl : L.length ≤ 400000) (i : Nat) (hi : i ≤ L.length) :
  (∃ (p : Par) (j : Nat), Xfe (strOfNums L) (i : Int) = some (p, (j : Int), true) ∧ Xi8 (strOfNums L) (i : Int) = some (p, (j : Int), true) ∧ Xuy p = true ∧ j ≤ L.length) ∨
  (Xfe (strOfNums L) (i : Int) = some (⟨0, false, false, false⟩, 0, false) ∧ Xi8 (strOfNums L) (i : Int) = some (⟨0, false, false, false⟩, 0, false)) := by
 unfold Xfe Xi8
 rw [Yfn hb hl i hi, Xad]
 rcases Xpy hb hl i hi 6 (by omega) with ⟨w, w1, _, w2, f1, f2⟩ | ⟨_, f1, f2⟩
 ·
  have f1' : Xb0 (strOfNums L) (i : Int) 6 = some (w, ((i + 6 : Nat) : Int), true) := f1
  have f2' : Xa1 ⟨strOfNums L, (i : Int), false⟩ 6 = some (w, ⟨strOfNums L, ((i + 6 : Nat) : Int), false⟩) := f2
  rw [f1', Xad, f2', Xad]
  simp only
  rw [Xaw, strOfNums_size, wk (e := (L.length : Int) - ((i + 6 : Nat) : Int)) (by omega) (by omega)]
  by_cases h3 : i + 9 ≤ L.length
  ·
   have bit : ∀ j : Nat, j + 1 ≤ L.length → Xa1 ⟨strOfNums L, (j : Int), false⟩ 1 = some (L.getD j 0 - 48, ⟨strOfNums L, ((j + 1 : Nat) : Int), false⟩) ∧ ((L.getD j 0 - 48 == 1) = (Xkn (strOfNums L) (j : Int) == 49)) := fun j hj => by
    rcases Xpy hb hl j (by omega) 1 (by omega) with ⟨u, _, u1, _, _, g2⟩ | ⟨u1, _⟩
    ·
     rw [Yxp hb hj] at u1
     rw [u1] at g2
     refine ⟨g2, ?_⟩
     obtain ⟨b1, b2⟩ := Xzx hb (i := j) (by omega)
     rw [b1]
     rcases b2 with b2 | b2 <;> rw [b2] <;> rfl
    ·
     omega
   obtain ⟨a1, a2⟩ := bit (i + 6) (by omega)
   obtain ⟨b1, b2⟩ := bit (i + 6 + 1) (by omega)
   obtain ⟨c1, c2⟩ := bit (i + 6 + 1 + 1) (by omega)
   rw [decide_eq_false (by omega), Xad, Xav, Xai (by omega), wk (e := ((i + 6 : Nat) : Int) + 1) (by omega) (by omega), Xai (by omega), wk (e := ((i + 6 : Nat) : Int) + 2) (by omega) (by omega), Xai (by omega), wk (e := ((i + 6 : Nat) : Int) + 3) (by omega) (by omega), a1, Xad]
   simp only
   rw [b1, Xad]
   simp only
   rw [c1, Xad]
   simp only
   rw [Xav, a2, b2, c2, show ((i + 6 : Nat) : Int) + 1 = ((i + 6 + 1 : Nat) : Int) by omega, show ((i + 6 : Nat) : Int) + 2 = ((i + 6 + 1 + 1 : Nat) : Int) by omega, Xm1, Xmv, Xad, Xad, Xad]
   cases hp : Xuy ⟨w, Xkn (strOfNums L) ((i + 6 : Nat) : Int) == 49, Xkn (strOfNums L) ((i + 6 + 1 : Nat) : Int) == 49, Xkn (strOfNums L) ((i + 6 + 1 + 1 : Nat) : Int) == 49⟩ with
   | true => exact .inl ⟨_, i + 9, (by rw [Bool.not_true, Xav]; try rfl), (by rw [Bool.not_true, Xav]; try rfl), hp, h3⟩
   | false => exact .inr ⟨rfl, rfl⟩
  ·
   rw [decide_eq_true (by omega), Xad, Xaw]
   refine .inr ⟨rfl, ?_⟩
   have three : ∀ j : Nat, j ≤ L.length → L.length < j + 3 → ∃ (a b c : Int) (e f g : Xkk), Xa1 ⟨strOfNums L, (j : Int), false⟩ 1 = some (a, e) ∧ Xa1 e 1 = some (b, f) ∧ Xa1 f 1 = some (c, g) ∧ g.bad_ = true := fun j h1 h2 => by
    rcases Xpy hb hl j h1 1 (by omega) with ⟨u, k1, _, _, _, g2⟩ | ⟨_, _, g2⟩
    ·
     rcases Xpy hb hl (j + 1) k1 1 (by omega) with ⟨u', k2, _, _, _, g3⟩ | ⟨_, _, g3⟩
     ·
      rcases Xpy hb hl (j + 1 + 1) k2 1 (by omega) with ⟨u'', k3, _, _, _, g4⟩ | ⟨_, _, g4⟩
      ·
       omega
      ·
       exact ⟨_, _, _, _, _, _, g2, g3, g4, rfl⟩
     ·
      exact ⟨_, _, _, _, _, _, g2, g3, Ydl _ _ _, rfl⟩
    ·
     exact ⟨_, _, _, _, _, _, g2, Ydl _ _ _, Ydl _ _ _, rfl⟩
   obtain ⟨a, b, c, e, f, g, r1, r2, r3, r4⟩ := three (i + 6) w1 (by omega)
   rw [r1, Xad]
   simp only
   rw [r2, Xad]
   simp only
   rw [r3, Xad]
   simp only
   rw [r4, Xaw, Xad, Xaw]
 ·
  have f1' : Xb0 (strOfNums L) (i : Int) 6 = some (0, 0, false) := f1
  have f2' : Xa1 ⟨strOfNums L, (i : Int), false⟩ 6 = some (0, ⟨strOfNums L, (i : Int), true⟩) := f2
  rw [f1', Xad, f2', Xad]
  exact .inr ⟨rfl, rfl⟩
theorem Xov (b : Int) (h : 3 ≤ b ∧ b ≤ 8) : 0 ≤ Xaa .u64 b ∧ Xaa .i64 (1 * 2 ^ min (Xaa .u64 b).toNat (IntKind.bits .i64)) = 2 ^ b.toNat ∧ Xaa .i64 (1 * 2 ^ min b.toNat (IntKind.bits .i64)) = 2 ^ b.toNat ∧ (2 : Int) ^ b.toNat ≤ 256 ∧ 8 ≤ (2 : Int) ^ b.toNat := by
 obtain h | h | h | h | h | h : b = 3 ∨ b = 4 ∨ b = 5 ∨ b = 6 ∨ b = 7 ∨ b = 8 := by omega
 all_goals (subst h; decide +kernel)
def Ydp (q : Seq) (p : Par) (h : Yhk) : Bool := Xmy q && (Xuy p && (decide (0 ≤ h.Tile ∧ h.Tile < Xdm q) && (decide (0 ≤ h.Frame ∧ h.Frame < 2 ^ q.Bits.toNat) && decide (0 ≤ h.Qp ∧ h.Qp ≤ 40))))
theorem Xm2 {q : Seq} (h : Xmy q = true) : 0 ≤ Xdm q ∧ Xdm q ≤ 1000000 := by
 obtain ⟨h1, h2, _⟩ := Xd8 h
 unfold Xdm
 rw [if_pos h]
 have a := Xk5 h1
 have b := Xk5 h2
 have : (q.Cols.length : Int) * q.Rows.length ≤ 4 * 4 := Int.mul_le_mul (by omega) (by omega) (by omega) (by omega)
 exact ⟨Int.mul_nonneg (by omega) (by omega), by omega⟩
theorem Yhz (q : Seq) (p : Par) (h : Yhk) (h1 : q.Cols.length ≤ maxLen) (h2 : q.Rows.length ≤ maxLen) : Xnb q p h = some (Ydp q p h) := by
 unfold Xnb Ydp
 rw [Xhj q h1 h2, Xad]
 cases hs : Xmy q with
 | false => rfl
 | true =>
  rw [Xaw, Xmv, Xad, Bool.true_and]
  cases hp : Xuy p with
  | false => rfl
  | true =>
   obtain ⟨_, _, b1, b2⟩ := Xd8 hs
   obtain ⟨s1, s2, s3, s4, s5⟩ := Xov q.Bits ⟨b1, b2⟩
   have ht := Xm2 hs
   rw [Xaw, Xjw q h1 h2, Xad, Xao, Xad, wk (e := Xdm q - 1) (by omega) (by omega), Bool.true_and, Xai (by omega), s3, wk (e := (2 : Int) ^ q.Bits.toNat - 1) (by omega) (by omega), Xao, Xad, Xao, Xad]
   have e1 : decide (0 ≤ h.Tile ∧ h.Tile ≤ Xdm q - 1) = decide (0 ≤ h.Tile ∧ h.Tile < Xdm q) := by rw [decide_eq_decide]; omega
   have e2 : decide (0 ≤ h.Frame ∧ h.Frame ≤ 2 ^ q.Bits.toNat - 1) = decide (0 ≤ h.Frame ∧ h.Frame < 2 ^ q.Bits.toNat) := by rw [decide_eq_decide]; omega
   rw [e1, e2, Xd7, Xd7, Xad]
theorem Yjd (q : Seq) (p : Par) (h : Yhk) : Xnr q p h = some (Ydp q p h) := by
 unfold Xnr Ydp
 rw [Xm1, Xad]
 cases hp : Xuy p with
 | false => rw [Xav, Xad, Bool.false_and, Bool.and_false]
 | true =>
  rw [Xaw, Xke, Xad, Bool.true_and]
  cases hs : Xmy q with
  | false =>
   have : Xdm q = 0 := by unfold Xdm; rw [hs]; rfl
   rw [this, Bool.false_and]
   by_cases h0 : h.Tile ≥ 0
   ·
    rw [Xaj h0, Xam (by omega), Xad]
   ·
    rw [Xam h0, Xad]
  | true =>
   obtain ⟨_, _, b1, b2⟩ := Xd8 hs
   obtain ⟨s1, s2, s3, s4, s5⟩ := Xov q.Bits ⟨b1, b2⟩
   rw [Bool.true_and, Xai s1, s2, Xak, Xad, Yi2, Yi2, Yi2, Yi2]
   by_cases t1 : h.Tile ≥ 0
   ·
    rw [if_pos t1]
    by_cases t2 : h.Tile < Xdm q
    ·
     rw [if_pos t2, decide_eq_true (show 0 ≤ h.Tile ∧ h.Tile < Xdm q from ⟨t1, t2⟩), Bool.true_and]
     by_cases f1 : h.Frame ≥ 0
     ·
      rw [if_pos f1]
      by_cases f2 : h.Frame < 2 ^ q.Bits.toNat
      ·
       rw [if_pos f2, decide_eq_true (show 0 ≤ h.Frame ∧ h.Frame < 2 ^ q.Bits.toNat from ⟨f1, f2⟩), Bool.true_and, Xad]
      ·
       rw [if_neg f2, decide_eq_false (show ¬ (0 ≤ h.Frame ∧ h.Frame < 2 ^ q.Bits.toNat) from fun h => f2 h.2), Bool.false_and, Xad]
     ·
      rw [if_neg f1, decide_eq_false (show ¬ (0 ≤ h.Frame ∧ h.Frame < 2 ^ q.Bits.toNat) from fun h => f1 h.1), Bool.false_and, Xad]
    ·
     rw [if_neg t2, decide_eq_false (show ¬ (0 ≤ h.Tile ∧ h.Tile < Xdm q) from fun h => t2 h.2), Bool.false_and, Xad]
   ·
    rw [if_neg t1, decide_eq_false (show ¬ (0 ≤ h.Tile ∧ h.Tile < Xdm q) from fun h => t1 h.1), Bool.false_and, Xad]
theorem Yky {L : List Int} (hb : Xos L) (hl : L.length ≤ 400000) (q : Seq) (p : Par) (h1 : q.Cols.length ≤ maxLen) (h2 : q.Rows.length ≤ maxLen) :
  (∃ (h : Yhk) (j : Nat), Xhw q p (strOfNums L) = some (h, (j : Int), true) ∧ Xhg q p (strOfNums L) = some (h, (j : Int), true) ∧ Ydp q p h = true ∧ j ≤ L.length) ∨
  (Xhw q p (strOfNums L) = some (⟨0, 0, 0⟩, 0, false) ∧ Xhg q p (strOfNums L) = some (⟨0, 0, 0⟩, 0, false)) := by
 unfold Xhw Xhg
 have ho : Xev (strOfNums L) 0 = some ⟨strOfNums L, ((0 : Nat) : Int), false⟩ := Yfn hb hl 0 (by omega)
 rw [ho, Xad, Ym1 L hb hl, Xad, Xaw, Xkb, Xad, Xm1, Xad, Xhj q h1 h2, Xad, Xmv, Xad]
 cases hs : Xmy q with
 | false => exact .inr ⟨rfl, rfl⟩
 | true =>
  cases hp : Xuy p with
  | false => exact .inr ⟨rfl, rfl⟩
  | true =>
   rw [Xaw, Bool.not_true, Xad, Xav, Xad, Xav]
   have hpq : 0 ≤ p.Qp ∧ p.Qp ≤ 40 := Yvx hp
   obtain ⟨_, _, b1, b2⟩ := Xd8 hs
   rcases Xqj hb hl 0 (by omega) with ⟨v, j, e1, e2, v1, v2, v3⟩ | ⟨e1, a, e2⟩
   ·
    have e1' : Xa7 (strOfNums L) 0 = some ((v : Int), (j : Int), true) := e1
    rw [e1', Xad, e2, Xad]
    simp only
    rw [Bool.not_true, Xav]
    rcases Xpy hb hl j v3 q.Bits.toNat (by omega) with ⟨w, w1, _, w2, f1, f2⟩ | ⟨_, f1, f2⟩
    ·
     rw [show ((q.Bits.toNat : Nat) : Int) = q.Bits by omega] at f1 f2
     rw [f1, Xad, f2, Xad]
     simp only
     rw [Bool.not_true, Xav]
     rcases Yfx hb hl (j + q.Bits.toNat) w1 with ⟨n, j2, g1, g2, g3, g4, g5⟩ | ⟨g1, a, g2⟩
     ·
      rw [g1, Xad, g2, Xad]
      simp only
      rw [Xaw, Xav, wk (e := p.Qp + n) (by omega) (by omega), wk (e := n + p.Qp) (by omega) (by omega), Int.add_comm n p.Qp, Yjd, Yhz _ _ _ h1 h2, Xad, Xad]
      cases hh : Ydp q p ⟨(v : Int), w, p.Qp + n⟩ with
      | true => exact .inl ⟨_, j2, rfl, rfl, hh, g5⟩
      | false => exact .inr ⟨rfl, rfl⟩
     ·
      rw [g1, Xad, g2, Xad]
      exact .inr ⟨rfl, rfl⟩
    ·
     rw [show ((q.Bits.toNat : Nat) : Int) = q.Bits by omega] at f1 f2
     rw [f1, Xad, f2, Xad]
     simp only
     rw [Yrn, Xad]
     exact .inr ⟨rfl, rfl⟩
   ·
    have e1' : Xa7 (strOfNums L) 0 = some (0, 0, false) := e1
    rw [e1', Xad, e2, Xad]
    simp only
    rw [Ydl, Xad]
    simp only
    rw [Yrn, Xad]
    exact .inr ⟨rfl, rfl⟩
theorem Yoe : ∀ (a : List Int) (x : Int), Xn5 (a ++ [x]) = Xn5 a + x
 | [], x => by simp [Xn5]
 | y :: a, x => by rw [List.cons_append, Xn5, Xn5, Yoe a x, Int.add_assoc]
theorem Yof {l : List Int} : ∀ k : Nat, k < l.length → Xn5 (l.take (k + 1)) = Xn5 (l.take k) + l.getD k 0 := by
 intro k hk
 rw [List.take_add_one, List.getElem?_eq_getElem hk, Xce l k hk]
 exact Yoe _ _
theorem Xsf {l : List Int} (h : l.all Xjd = true) {i : Nat} (hi : i < l.length) : 1 ≤ l.getD i 0 ∧ l.getD i 0 ≤ 8 := by
 have := List.all_eq_true.1 h (l.getD i 0) (by rw [Xce l i hi]; exact List.getElem_mem _)
 unfold Xjd at this
 rwa [decide_eq_true_eq] at this
theorem Xn6 {l : List Int} (h : l.all Xjd = true) (hl : l.length ≤ 4) (i : Nat) : 0 ≤ Xn5 (l.take i) ∧ Xn5 (l.take i) ≤ 32 := by
 have := Xp9 (l := l.take i) (List.all_eq_true.2 fun x hx => List.all_eq_true.1 h x (List.mem_of_mem_take hx))
 rw [List.length_take] at this
 omega
theorem Ynl {l : List Int} (h : l.all Xjd = true) (hl : l.length ≤ 4) (k : Nat) (hk : k ≤ l.length) : Xiq l (k : Int) = some (Xn5 (l.take k)) := by
 have key : ∀ i : Nat, i ≤ k → loop (Xfg l (k : Int)) (Xn5 (l.take i), (i : Int)) = some (Xn5 (l.take k)) := by
  refine Xgo _ (Xck (by unfold Xfg; rw [Xam (by simp)])) ?_
  intro i hi ih
  refine lgo ?_ ih
  have a := Xsf h (i := i) (by omega)
  have b := Xn6 h hl i
  unfold Xfg
  simp only [Int.toNat_natCast]
  rw [Xaj (by omega), Xai (by omega), wk (e := Xn5 (l.take i) + l.getD i 0) (by omega) (by omega), wk (e := (i : Int) + 1) (by omega) (by omega), Yof i (by omega)]
  rfl
 exact Xgk (key 0 (by omega))
theorem Yrt {l : List Int} (h : l.all Xjd = true) (hl : l.length ≤ 4) : Xb6 l = some (Xn5 l) := by
 have key : ∀ i : Nat, i ≤ l.length → loop (Xdq l) (Xn5 (l.take i), (i : Int)) = some (Xn5 l) := by
  refine Xgo _ (Xck (by unfold Xdq; rw [Xam (by simp), List.take_length])) ?_
  intro i hi ih
  refine lgo ?_ ih
  have a := Xsf h (i := i) (by omega)
  have b := Xn6 h hl i
  unfold Xdq
  simp only [Int.toNat_natCast]
  rw [Xaj (by omega), Xai (by omega), wk (e := Xn5 (l.take i) + l.getD i 0) (by omega) (by omega), wk (e := (i : Int) + 1) (by omega) (by omega), Yof i (by omega)]
  rfl
 exact Xgk (key 0 (by omega))
theorem Ypn {q : Seq} (hs : Xmy q = true) (h1 : q.Cols.length ≤ maxLen) (h2 : q.Rows.length ≤ maxLen) (t : Int) (ht : 0 ≤ t ∧ t < Xdm q) : ∃ r : Xpv, Xhk q t = some (r, true) ∧ Xhz q t = some (r, true) ∧ Xqg r.Wide = true ∧ Xqg r.High = true := by
 have hr := Xm2 hs
 have hto : Xdm q = (q.Cols.length : Int) * q.Rows.length := by unfold Xdm; rw [if_pos hs]
 obtain ⟨s1, s2, _⟩ := Xd8 hs
 have c1 := Xk5 s1
 have c2 := Xk5 s2
 unfold Xh5 at s1 s2
 rw [Bool.and_eq_true] at s1 s2
 have m0 := Int.emod_nonneg t (show (q.Cols.length : Int) ≠ 0 by omega)
 have m1 := Int.emod_lt_of_pos t (show 0 < (q.Cols.length : Int) by omega)
 have d0 : 0 ≤ t / (q.Cols.length : Int) := Int.ediv_nonneg ht.1 (by omega)
 have d1 : t / (q.Cols.length : Int) < q.Rows.length := Int.ediv_lt_of_lt_mul (by omega) (by rw [Int.mul_comm, ← hto]; exact ht.2)
 have ex : ∃ x y : Nat, (x : Int) = t % (q.Cols.length : Int) ∧ (y : Int) = t / (q.Cols.length : Int) := ⟨(t % (q.Cols.length : Int)).toNat, (t / (q.Cols.length : Int)).toNat, by omega, by omega⟩
 obtain ⟨x, y, hx, hy⟩ := ex
 have tm : t.tmod (q.Cols.length : Int) = (x : Int) := by rw [Xcd ht.1]; exact hx.symm
 have td : Xaa .i64 (t.tdiv (q.Cols.length : Int)) = (y : Int) := by rw [Xbl ht.1, ← hy, wk (by omega) (by omega)]
 have bx := Xn6 s1.2 c1.2 x
 have by_ := Xn6 s2.2 c2.2 y
 have gx := Xsf s1.2 (i := x) (by omega)
 have gy := Xsf s2.2 (i := y) (by omega)
 have side8 : ∀ v : Int, 1 ≤ v ∧ v ≤ 8 → Xqg (8 * v) = true := fun v hv => by
  unfold Xqg
  rw [Bool.and_eq_true, decide_eq_true_eq, decide_eq_true_eq, Xcd (by omega)]
  omega
 refine ⟨⟨8 * Xn5 (q.Cols.take x), 8 * Xn5 (q.Rows.take y), 8 * q.Cols.getD x 0, 8 * q.Rows.getD y 0⟩, ?_, ?_, side8 _ gx, side8 _ gy⟩
 ·
  unfold Xhk
  rw [Xjw q h1 h2, Xad, wk (e := Xdm q - 1) (by omega) (by omega), Xao, Xad, decide_eq_true (by omega), Bool.not_true, Xav, Xai (by omega), tm, td, Xai (by omega), Xai (by omega)]
  simp only [Int.toNat_natCast]
  rw [show (0 : Int).toNat = 0 from rfl, List.drop_zero, List.drop_zero, Nat.sub_zero, Nat.sub_zero, Yrt (List.all_eq_true.2 fun z hz => List.all_eq_true.1 s1.2 z (List.mem_of_mem_take hz)) (by rw [List.length_take]; omega), Xad, Xai (by omega), Yrt (List.all_eq_true.2 fun z hz => List.all_eq_true.1 s2.2 z (List.mem_of_mem_take hz)) (by rw [List.length_take]; omega), Xad, Xai (by omega), Xai (by omega), wk (e := 8 * Xn5 (q.Cols.take x)) (by omega) (by omega), wk (e := 8 * Xn5 (q.Rows.take y)) (by omega) (by omega), wk (e := 8 * q.Cols.getD x 0) (by omega) (by omega), wk (e := 8 * q.Rows.getD y 0) (by omega) (by omega)]
 ·
  unfold Xhz
  rw [Xam (by omega), Xke, Xad, decide_eq_false (by omega), Xad, Xav, Xai (by omega), tm, td, Xai (by omega), Ynl s1.2 c1.2 x (by omega), Xad, Ynl s2.2 c2.2 y (by omega), Xad, Xai (by omega), Xai (by omega)]
  simp only [Int.toNat_natCast]
  rw [wk (e := 8 * Xn5 (q.Cols.take x)) (by omega) (by omega), wk (e := 8 * Xn5 (q.Rows.take y)) (by omega) (by omega), wk (e := 8 * q.Cols.getD x 0) (by omega) (by omega), wk (e := 8 * q.Rows.getD y 0) (by omega) (by omega)]
theorem Yt4 {l m : List Int} {b x : Nat} (h : b + m.length ≤ l.length) (hx : x < m.length) : (over l b (m.take x)).set (b + x) (m.getD x 0) = over l b (m.take (x + 1)) := by
 have h1 : b + (m.take x).length ≤ l.length := by rw [List.length_take]; omega
 have h2 : b + (m.take (x + 1)).length ≤ l.length := by rw [List.length_take]; omega
 apply List.ext_getElem?
 intro j
 rw [List.getElem?_set, Xqd h1, Yc5 h1, Yc5 h2]
 simp only [List.length_take]
 by_cases hj : b + x = j
 ·
  subst hj
  rw [if_pos rfl, if_pos (by omega), if_pos (by omega), Xce m x hx, List.getElem?_take, if_pos (by omega), show b + x - b = x by omega, List.getElem?_eq_getElem hx]
 ·
  rw [if_neg hj]
  by_cases hin : b ≤ j ∧ j < b + x
  ·
   rw [if_pos (by omega), if_pos (by omega), List.getElem?_take, List.getElem?_take, if_pos (by omega), if_pos (by omega)]
  ·
   rw [if_neg (by omega), if_neg (by omega)]
theorem Yvw (l : List Int) (b : Nat) : over l b [] = l := by
 unfold over
 rw [List.append_nil, List.length_nil, Nat.add_zero, List.take_append_drop]
theorem Ypk (p0 p1 : Pic) (x y : Int) : ∃ (o : Pic) (b : Bool), Xnd p0 p1 x y = some (o, b) ∧ Xnt p0 p1 x y = some (o, b) ∧ o.Wide = p0.Wide ∧ o.High = p0.High ∧ o.Dots.size = p0.Dots.size ∧ (b = false → o = p0) := by
 unfold Xnd Xnt
 have hw := Xlc p0 ⟨x, y, p1.Wide, p1.High⟩
 simp only at hw
 rw [Xcg, Xad, Xfw, Xad, hw]
 cases ok1 : Xb8 p1 with
 | false =>
  rw [Xav, Xad, Xaw]
  refine ⟨p0, false, ?_, rfl, rfl, rfl, rfl, fun _ => rfl⟩
  cases Xb8 p0 with
  | false => rfl
  | true => rw [Xaw, Xcg, Xad, ok1]; rfl
 | true =>
  rw [Xaw, Xad, Xad, Xcg, Xad, ok1]
  cases ok0 : Xb8 p0 with
  | false => exact ⟨p0, false, rfl, rfl, rfl, rfl, rfl, fun _ => rfl⟩
  | true =>
   rw [Xaw, Xaw, Xp4 ok0, Xad]
   cases ho : Xlr p0 ⟨x, y, p1.Wide, p1.High⟩ with
   | false => exact ⟨p0, false, rfl, rfl, rfl, rfl, rfl, fun _ => rfl⟩
   | true =>
    have hm : maxLen = 9223372036854775807 := rfl
    obtain ⟨k1, k2, k3⟩ := Xbk ok0
    obtain ⟨g1, g2, g3⟩ := Xbk ok1
    obtain ⟨a1, a2, a3, a4⟩ := Xi4 ho
    simp only at a1 a2 a3 a4
    have ar := Xd0 k1 k2
    have ar1 := Xd0 g1 g2
    have hdl := Yqs ok0
    unfold Xo5
    simp only [Bool.and_self, Bool.not_true, Xad, Xav]
    rw [Xai (by omega), Xai (by omega), Xad]
    -- places of a row
    have row : ∀ r : Nat, (r : Int) < p1.High → ∃ B S : Nat, (B : Int) = (y + (r : Int)) * p0.Wide + x ∧ B + p1.Wide.toNat ≤ p0.Dots.size ∧ (S : Int) = (r : Int) * p1.Wide ∧ S + p1.Wide.toNat ≤ p1.Dots.size ∧ ((r : Int) + 1) * p1.Wide = (S : Int) + p1.Wide ∧ 0 ≤ (y + (r : Int)) * p0.Wide := fun r hr => by
     have e1 : 0 ≤ (y + (r : Int)) * p0.Wide := Int.mul_nonneg (by omega) (by omega)
     have e2 : (y + (r : Int)) * p0.Wide ≤ (p0.High - 1) * p0.Wide := Int.mul_le_mul_of_nonneg_right (by omega) (by omega)
     have e3 : (p0.High - 1) * p0.Wide = p0.Wide * p0.High - p0.Wide := by rw [Int.sub_mul, Int.one_mul, Int.mul_comm]
     have f1 : 0 ≤ (r : Int) * p1.Wide := Int.mul_nonneg (by omega) (by omega)
     have f2 : (r : Int) * p1.Wide ≤ (p1.High - 1) * p1.Wide := Int.mul_le_mul_of_nonneg_right (by omega) (by omega)
     have f3 : (p1.High - 1) * p1.Wide = p1.Wide * p1.High - p1.Wide := by rw [Int.sub_mul, Int.one_mul, Int.mul_comm]
     have f4 : ((r : Int) + 1) * p1.Wide = (r : Int) * p1.Wide + p1.Wide := by rw [Int.add_mul, Int.one_mul]
     refine ⟨((y + (r : Int)) * p0.Wide + x).toNat, ((r : Int) * p1.Wide).toNat, by omega, by omega, by omega, by omega, by omega, e1⟩
    have hl : loop (Xlj p0 p1 x y) (0, Xbr p0.Dots) = loop (Xdc p0 p1 x y) (0, Xbr p0.Dots) := by
     refine Yrb p1.High.toNat (fun _ s => s.length = p0.Dots.size) ?_ ?_ (Xbj _)
     ·
      intro r s hr hs
      unfold Xlj Xdc
      simp only
      by_cases hlt : (r : Int) < p1.High
      ·
       obtain ⟨B, S, b1, b2, b3, b4, b5, b6⟩ := row r hlt
       have hml : (Xbr (p1.Dots.extract S (S + p1.Wide.toNat))).length = p1.Wide.toNat := by rw [Xbj, ByteArray.size_extract]; omega
       have hin : loop (Xbo p0 p1 x y ((r : Int), s)) (0, s) = some (over s B (Xbr (p1.Dots.extract S (S + p1.Wide.toNat)))) := by
        obtain ⟨o, e, ho⟩ := Xh3 (f := Xbo p0 p1 x y ((r : Int), s)) p1.Wide.toNat (fun k t => t = over s B ((Xbr (p1.Dots.extract S (S + p1.Wide.toNat))).take k)) (by
         intro k t hk ht
         subst ht
         have hol : (over s B ((Xbr (p1.Dots.extract S (S + p1.Wide.toNat))).take k)).length = s.length := Xqd (by rw [List.length_take]; omega)
         have hbt : Xkn p1.Dots ((S : Int) + k) = (Xbr (p1.Dots.extract S (S + p1.Wide.toNat))).getD k 0 := by
          rw [Yfk _ k (by rw [ByteArray.size_extract]; omega)]
          unfold Xkn
          rw [dif_pos (show ((S : Int) + k).toNat < p1.Dots.size by omega), dif_pos (by rw [ByteArray.size_extract]; omega), ByteArray.getElem_extract]
          congr 2
         unfold Xbo
         simp only
         rw [Xaj (by omega), wk (e := (r : Int) * p1.Wide) (by omega) (by omega), wk (e := y + (r : Int)) (by omega) (by omega), wk (e := (y + (r : Int)) * p0.Wide) (by omega) (by omega), wk (e := (y + (r : Int)) * p0.Wide + x) (by omega) (by omega), ← b1, ← b3, wk (e := (S : Int) + (k : Int)) (by omega) (by omega), wk (e := (B : Int) + (k : Int)) (by omega) (by omega), Xai (by omega), Xai (by omega), Xai (by omega), wk (e := (k : Int) + 1) (by omega) (by omega), hbt, show ((B : Int) + (k : Int)).toNat = B + k by omega]
         exact ⟨_, rfl, Yt4 (by omega) (by omega)⟩) (fun t _ => by unfold Xbo; rw [Xam (by simp only; omega)]) s (by rw [List.take_zero, Yvw])
        rw [e, ho, List.take_of_length_le (by omega)]
       rw [Xaj hlt, Xaj hlt, hin, Xad, wk (e := y + (r : Int)) (by omega) (by omega), wk (e := (y + (r : Int)) * p0.Wide) (by omega) (by omega), wk (e := (y + (r : Int)) * p0.Wide + x) (by omega) (by omega), wk (e := (r : Int) + 1) (by omega) (by omega), wk (e := (r : Int) * p1.Wide) (by omega) (by omega), wk (e := ((r : Int) + 1) * p1.Wide) (by omega) (by omega), b5, ← b1, ← b3, show (S : Int).toNat = S by omega, show (B : Int).toNat = B by omega, show ((S : Int) + p1.Wide).toNat = S + p1.Wide.toNat by omega, Xai (by omega), Xai (by omega), Xai (by rw [hml]; omega)]
      ·
       rw [Xam hlt, Xam hlt]
     ·
      intro r s v' hr hs he
      unfold Xdc at he
      simp only at he
      by_cases hlt : (r : Int) < p1.High
      ·
       obtain ⟨B, S, b1, b2, b3, b4, b5, b6⟩ := row r hlt
       rw [Xaj hlt] at he
       obtain ⟨o, e, ho⟩ := Xh3 (f := Xbo p0 p1 x y ((r : Int), s)) p1.Wide.toNat (fun k t => t.length = p0.Dots.size) (by
        intro k t hk ht
        unfold Xbo
        simp only
        rw [Xaj (by omega), wk (e := (r : Int) * p1.Wide) (by omega) (by omega), wk (e := y + (r : Int)) (by omega) (by omega), wk (e := (y + (r : Int)) * p0.Wide) (by omega) (by omega), wk (e := (y + (r : Int)) * p0.Wide + x) (by omega) (by omega), ← b1, ← b3, wk (e := (S : Int) + (k : Int)) (by omega) (by omega), wk (e := (B : Int) + (k : Int)) (by omega) (by omega), Xai (by omega), Xai (by omega), Xai (by omega), wk (e := (k : Int) + 1) (by omega) (by omega)]
        exact ⟨_, rfl, by rw [List.length_set]; exact ht⟩) (fun t _ => by unfold Xbo; rw [Xam (by simp only; omega)]) s hs
       rw [e, Xad] at he
       injection he with he
       injection he with he
       subst he
       exact ⟨by simp only; rw [wk (by omega) (by omega)]; rfl, by omega, ho⟩
      ·
       rw [Xam hlt] at he
       cases he
    obtain ⟨o, e, ho2⟩ := Xh3 (f := Xdc p0 p1 x y) p1.High.toNat (fun _ s => s.length = p0.Dots.size) (by
     intro r s hr hs
     obtain ⟨B, S, b1, b2, b3, b4, b5, b6⟩ := row r (by omega)
     obtain ⟨o, e, ho⟩ := Xh3 (f := Xbo p0 p1 x y ((r : Int), s)) p1.Wide.toNat (fun k t => t.length = p0.Dots.size) (by
      intro k t hk ht
      unfold Xbo
      simp only
      rw [Xaj (by omega), wk (e := (r : Int) * p1.Wide) (by omega) (by omega), wk (e := y + (r : Int)) (by omega) (by omega), wk (e := (y + (r : Int)) * p0.Wide) (by omega) (by omega), wk (e := (y + (r : Int)) * p0.Wide + x) (by omega) (by omega), ← b1, ← b3, wk (e := (S : Int) + (k : Int)) (by omega) (by omega), wk (e := (B : Int) + (k : Int)) (by omega) (by omega), Xai (by omega), Xai (by omega), Xai (by omega), wk (e := (k : Int) + 1) (by omega) (by omega)]
      exact ⟨_, rfl, by rw [List.length_set]; exact ht⟩) (fun t _ => by unfold Xbo; rw [Xam (by simp only; omega)]) s hs
     unfold Xdc
     simp only
     rw [Xaj (by omega), e, Xad, wk (by omega) (by omega)]
     exact ⟨_, rfl, ho⟩) (fun t _ => by unfold Xdc; rw [Xam (by simp only; omega)]) (Xbr p0.Dots) (Xbj _)
    rw [hl, e, Xad]
    exact ⟨_, true, rfl, rfl, rfl, rfl, by rw [strOfNums_size]; exact ho2, fun h => by cases h⟩
def Xk3 (p : Pic) : Bool := (p.Wide == 0) && ((p.High == 0) && ((p.Dots.size : Int) == 0))
theorem Yr7 (s : ByteArray) : (s.toList == (⟨#[]⟩ : ByteArray).toList) = ((s.size : Int) == 0) := by
 rw [Bool.eq_iff_iff, beq_iff_eq, beq_iff_eq, Ykt]
 constructor
 ·
  intro h; rw [h]; rfl
 ·
  intro h
  have := Xss s
  have hn : Xbr s = [] := List.length_eq_zero_iff.1 (by rw [Xbj]; omega)
  rw [hn] at this
  exact this.symm
theorem Yhe (p : Pic) : Xes p = some (Xk3 p) := by
 unfold Xes Xk3
 cases (p.Wide == 0) with
 | false => rfl
 | true => cases (p.High == 0) <;> rfl
theorem Ycy (p : Pic) (s : Seq) : Xh2 p s = some (Xoi p s) := by
 unfold Xh2 Xoi
 rw [Xt5, Xad, Xfw, Xad]
 cases Xb8 p with
 | false => rfl
 | true => cases (p.Wide == (Xqh s).1) <;> rfl
def Yoq (s : Seq) : Bool := (s.Level == 0) && ((s.Bits == 0) && (((s.Cols.length : Int) == 0) && ((s.Rows.length : Int) == 0)))
theorem Yet (s : Seq) : Xlx s = some (Yoq s) := by
 unfold Xlx Yoq
 cases (s.Level == 0) with
 | false => rfl
 | true =>
  cases (s.Bits == 0) with
  | false => rfl
  | true => cases ((s.Cols.length : Int) == 0) <;> rfl
def Xz7 (p : Par) : Bool := (p.Qp == 0) && ((p.Large == false) && ((p.Exact == false) && (p.Confined == false)))
def Yhs (d : Decoder) : Bool :=
 if d.HasSeq = true then
  Xmy d.Seq && ((if d.HasPar = true then Xuy d.Par else Xz7 d.Par && (decide (d.Got = 0) && !d.HasRef)) && (decide (-1 ≤ d.Frame ∧ d.Frame < 2 ^ d.Seq.Bits.toNat) && (decide (0 ≤ d.Got ∧ d.Got < Xdm d.Seq) && ((if d.Got > 0 then !(d.Frame == -1) && Xoi d.Now d.Seq else Xk3 d.Now) && (if d.HasRef = true then Xoi d.Ref d.Seq else Xk3 d.Ref)))))
 else
  !d.HasPar && (!d.HasRef && (Yoq d.Seq && (Xz7 d.Par && ((d.Frame == -1) && ((d.Got == 0) && (Xk3 d.Now && Xk3 d.Ref))))))
theorem Ymy (d : Decoder) : Xpl d = some (Yhs d) := by
 unfold Xpl Yhs
 have hP : ((d.Par.Qp == 0) && ((d.Par.Large == false) && ((d.Par.Exact == false) && (d.Par.Confined == false)))) = Xz7 d.Par := rfl
 rw [hP]
 simp only [Yhe, Ycy, Xkb, Xm1, Xke, Xad]
 cases hS : d.HasSeq with
 | false =>
  rw [Bool.not_false, Xaw, if_neg (by decide)]
  cases d.HasPar with
  | true => rfl
  | false =>
   cases d.HasRef with
   | true => rfl
   | false =>
    unfold Yoq
    cases (d.Seq.Level == 0) with
    | false => rfl
    | true =>
     cases (d.Seq.Bits == 0) with
     | false => rfl
     | true =>
      cases ((d.Seq.Cols.length : Int) == 0) with
      | false => rfl
      | true =>
       cases ((d.Seq.Rows.length : Int) == 0) with
       | false => rfl
       | true =>
        cases Xz7 d.Par with
        | false => rfl
        | true =>
         cases (d.Frame == -1) with
         | false => rfl
         | true =>
          cases (d.Got == 0) with
          | false => rfl
          | true => cases Xk3 d.Now <;> rfl
 | true =>
  rw [Bool.not_true, Xav, if_pos rfl]
  cases hs : Xmy d.Seq with
  | false => rfl
  | true =>
   obtain ⟨_, _, b1, b2⟩ := Xd8 hs
   obtain ⟨s1, s2, s3, s4, s5⟩ := Xov d.Seq.Bits ⟨b1, b2⟩
   have ht := Xm2 hs
   rw [Xaw, s2, Bool.true_and]
   generalize (2 : Int) ^ d.Seq.Bits.toNat = N at *
   generalize Xdm d.Seq = T at *
   have tailE : ∀ v : Bool, (bnd (sel (decide (d.Frame < (-1))) (some true) (req (0 ≤ (Xaa .u64 (d.Seq.Bits))) <| sel (decide (d.Frame ≥ N)) (some true) (sel (decide (d.Got < 0)) (some true) (sel (decide (d.Got ≥ T)) (some true) (some v))))) fun v7 => sel v7 (some false) (bnd (sel (decide (d.Got > 0)) (sel (d.Frame == (-1)) (some true) (sel (Xoi d.Now d.Seq) (sel (d.Got == 0) (some (!Xk3 d.Now)) (some false)) (some true))) (sel (d.Got == 0) (some (!Xk3 d.Now)) (some false))) fun v9 => sel v9 (some false) (bnd (sel d.HasRef (sel (Xoi d.Ref d.Seq) (some true) (some false)) (some (Xk3 d.Ref))) fun v13 => some v13))) = some (!v && (decide (-1 ≤ d.Frame ∧ d.Frame < N) && (decide (0 ≤ d.Got ∧ d.Got < T) && ((if d.Got > 0 then !(d.Frame == -1) && Xoi d.Now d.Seq else Xk3 d.Now) && (if d.HasRef = true then Xoi d.Ref d.Seq else Xk3 d.Ref))))) := by
    intro v
    rw [Xai s1]
    by_cases f1 : d.Frame < -1
    ·
     rw [Xaj f1, Xad, Xaw, decide_eq_false (show ¬ (-1 ≤ d.Frame ∧ d.Frame < N) from fun h => by omega), Bool.false_and, Bool.and_false]
    rw [Xam f1]
    by_cases f2 : d.Frame ≥ N
    ·
     rw [Xaj f2, Xad, Xaw, decide_eq_false (show ¬ (-1 ≤ d.Frame ∧ d.Frame < N) from fun h => by omega), Bool.false_and, Bool.and_false]
    rw [Xam f2, decide_eq_true (show -1 ≤ d.Frame ∧ d.Frame < N by omega), Bool.true_and]
    by_cases g1 : d.Got < 0
    ·
     rw [Xaj g1, Xad, Xaw, decide_eq_false (show ¬ (0 ≤ d.Got ∧ d.Got < T) from fun h => by omega), Bool.false_and, Bool.and_false]
    rw [Xam g1]
    by_cases g2 : d.Got ≥ T
    ·
     rw [Xaj g2, Xad, Xaw, decide_eq_false (show ¬ (0 ≤ d.Got ∧ d.Got < T) from fun h => by omega), Bool.false_and, Bool.and_false]
    rw [Xam g2, decide_eq_true (show 0 ≤ d.Got ∧ d.Got < T by omega), Bool.true_and, Xad]
    cases v with
    | true => rfl
    | false =>
     rw [Xav, Bool.not_false, Bool.true_and]
     by_cases g3 : d.Got > 0
     ·
      rw [Xaj g3, if_pos g3, Xa8 (b := d.Got == 0) (by rw [beq_eq_false_iff_ne]; omega)]
      cases (d.Frame == -1) with
      | true => rfl
      | false =>
       cases Xoi d.Now d.Seq with
       | false => rfl
       | true =>
        cases d.HasRef with
        | false => cases Xk3 d.Ref <;> rfl
        | true => cases Xoi d.Ref d.Seq <;> rfl
     ·
      rw [Xam g3, if_neg g3, Xb2 (b := d.Got == 0) (by rw [beq_iff_eq]; omega)]
      cases Xk3 d.Now with
      | false => rfl
      | true =>
       cases d.HasRef with
       | false => cases Xk3 d.Ref <;> rfl
       | true => cases Xoi d.Ref d.Seq <;> rfl
   cases hp : d.HasPar with
   | true =>
    rw [Xaw, if_pos rfl]
    cases Xuy d.Par with
    | false => rfl
    | true =>
     rw [Xaw, Xad, Xav, Bool.true_and]
     exact (tailE false).trans (by rw [Bool.not_false, Bool.true_and])
   | false =>
    rw [Xav, if_neg (by decide)]
    cases Xz7 d.Par with
    | false => rfl
    | true =>
     rw [show ((true : Bool) == false) = false from rfl, Xad, Xav, Bool.true_and]
     have h2 : (sel (decide (d.Got > 0)) (some true) (some d.HasRef)) = some (decide (d.Got > 0) || d.HasRef) := by
      cases decide (d.Got > 0) <;> rfl
     simp only [Xav]
     rw [h2]
     refine (tailE _).trans ?_
     by_cases g0 : d.Got = 0
     ·
      rw [decide_eq_true g0, decide_eq_false (show ¬ d.Got > 0 by omega), Bool.false_or, Bool.true_and]
     ·
      rw [decide_eq_false g0, Bool.false_and, Bool.false_and]
      by_cases g1 : d.Got > 0
      ·
       rw [decide_eq_true g1, Bool.true_or, Bool.not_true, Bool.false_and]
      ·
       rw [decide_eq_false (show ¬ (0 ≤ d.Got ∧ d.Got < T) from fun h => by omega), Bool.false_and, Bool.and_false, Bool.and_false]
theorem Yll (d : Decoder) (h1 : d.Seq.Cols.length ≤ maxLen) (h2 : d.Seq.Rows.length ≤ maxLen) : Xox d = some (Yhs d) := by
 unfold Xox Yhs
 have hP : ((d.Par.Qp == 0) && ((d.Par.Large == false) && ((d.Par.Exact == false) && (d.Par.Confined == false)))) = Xz7 d.Par := rfl
 have hN : ((d.Now.Wide == 0) && ((d.Now.High == 0) && ((d.Now.Dots.size : Int) == 0))) = Xk3 d.Now := rfl
 have hR : ((d.Ref.Wide == 0) && ((d.Ref.High == 0) && ((d.Ref.Dots.size : Int) == 0))) = Xk3 d.Ref := rfl
 rw [hP]
 simp only [Yr7, hN, hR, Yet, Yn7 _ _ h1 h2, Xhj _ h1 h2, Xmv, Xjw _ h1 h2, Xao, Xad]
 cases hS : d.HasSeq with
 | false =>
  rw [Bool.not_false, Xaw, if_neg (by decide)]
  cases d.HasPar with
  | true => rfl
  | false =>
   cases d.HasRef with
   | true => rfl
   | false =>
    cases Yoq d.Seq with
    | false => rfl
    | true =>
     cases Xz7 d.Par with
     | false => rfl
     | true =>
      cases (d.Frame == -1) with
      | false => rfl
      | true =>
       cases (d.Got == 0) with
       | false => rfl
       | true => cases Xk3 d.Now <;> cases Xk3 d.Ref <;> rfl
 | true =>
  rw [Bool.not_true, Xav, if_pos rfl]
  cases hs : Xmy d.Seq with
  | false => rfl
  | true =>
   obtain ⟨_, _, b1, b2⟩ := Xd8 hs
   obtain ⟨s1, s2, s3, s4, s5⟩ := Xov d.Seq.Bits ⟨b1, b2⟩
   have ht := Xm2 hs
   rw [Xaw, s3, Bool.true_and]
   generalize (2 : Int) ^ d.Seq.Bits.toNat = N at *
   generalize Xdm d.Seq = T at *
   rw [wk (e := N - 1) (by omega) (by omega), wk (e := T - 1) (by omega) (by omega)]
   have e1 : decide (-1 ≤ d.Frame ∧ d.Frame ≤ N - 1) = decide (-1 ≤ d.Frame ∧ d.Frame < N) := by rw [decide_eq_decide]; omega
   have e2 : decide (0 ≤ d.Got ∧ d.Got ≤ T - 1) = decide (0 ≤ d.Got ∧ d.Got < T) := by rw [decide_eq_decide]; omega
   rw [e1, e2, Xai (by omega)]
   have tailE : (bnd (sel (decide (-1 ≤ d.Frame ∧ d.Frame < N)) (some (!decide (0 ≤ d.Got ∧ d.Got < T))) (some true)) fun v6 => sel v6 (some false) (bnd (sel (decide (d.Got > 0)) (sel (d.Frame == (-1)) (some true) (sel (Xoi d.Now d.Seq) (sel (d.Got == 0) (some (Xk3 d.Now == false)) (some false)) (some true))) (sel (d.Got == 0) (some (Xk3 d.Now == false)) (some false))) fun v10 => sel v10 (some false) (sel d.HasRef (some (Xoi d.Ref d.Seq)) (some (Xk3 d.Ref == true))))) = some (decide (-1 ≤ d.Frame ∧ d.Frame < N) && (decide (0 ≤ d.Got ∧ d.Got < T) && ((if d.Got > 0 then !(d.Frame == -1) && Xoi d.Now d.Seq else Xk3 d.Now) && (if d.HasRef = true then Xoi d.Ref d.Seq else Xk3 d.Ref)))) := by
    by_cases f1 : -1 ≤ d.Frame ∧ d.Frame < N
    ·
     rw [decide_eq_true f1, Bool.true_and, Xaw, Xad]
     by_cases g1 : 0 ≤ d.Got ∧ d.Got < T
     ·
      rw [decide_eq_true g1, Bool.true_and, Bool.not_true, Xav]
      by_cases g3 : d.Got > 0
      ·
       rw [Xaj g3, if_pos g3, Xa8 (b := d.Got == 0) (by rw [beq_eq_false_iff_ne]; omega)]
       cases (d.Frame == -1) with
       | true => rfl
       | false =>
        cases Xoi d.Now d.Seq with
        | false => rfl
        | true =>
         cases d.HasRef with
         | false => cases Xk3 d.Ref <;> rfl
         | true => cases Xoi d.Ref d.Seq <;> rfl
      ·
       rw [Xam g3, if_neg g3, Xb2 (b := d.Got == 0) (by rw [beq_iff_eq]; omega)]
       cases Xk3 d.Now with
       | false => rfl
       | true =>
        cases d.HasRef with
        | false => cases Xk3 d.Ref <;> rfl
        | true => cases Xoi d.Ref d.Seq <;> rfl
     ·
      rw [decide_eq_false g1, Bool.false_and]; rfl
    ·
     rw [decide_eq_false f1, Bool.false_and]; rfl
   cases hp : d.HasPar with
   | true =>
    rw [Xaw, if_pos rfl]
    cases Xuy d.Par with
    | false => rfl
    | true =>
     rw [Xaw, Xad, Xav, Bool.true_and]
     exact tailE
   | false =>
    rw [Xav, if_neg (by decide)]
    cases Xz7 d.Par with
    | false => rfl
    | true =>
     rw [show ((true : Bool) == false) = false from rfl, Xav]
     by_cases g0 : d.Got = 0
     ·
      rw [Xa8 (b := d.Got != 0) (by rw [bne_eq_false_iff_eq]; exact g0), decide_eq_true g0]
      cases hr : d.HasRef with
      | true => rfl
      | false =>
       rw [hr] at tailE
       rw [Xad, Xav]
       exact tailE
     ·
      rw [Xb2 (b := d.Got != 0) (by rw [bne_iff_ne]; exact g0), decide_eq_false g0]
      rfl
theorem Yle (s : Seq) (h1 : s.Cols.length ≤ 1048576) (h2 : s.Rows.length ≤ 1048576) : Xg6 s = some s ∧ Xlw s = some s := by
 have hm : maxLen = 9223372036854775807 := rfl
 constructor
 ·
  unfold Xg6
  rw [Xai (by simp only [List.length_nil]; omega), Xai (by simp only [List.length_nil]; omega)]
  rfl
 ·
  unfold Xlw Xen
  rw [Xai (by simp only [List.length_nil]; omega), Xai (by simp only [List.length_nil]; omega), Xad, Xad]
  rfl
theorem Ynr {d : Decoder} (h : Yhs d = true) (hp : d.HasPar = true) : d.HasSeq = true := by
 unfold Yhs at h
 cases hs : d.HasSeq with
 | true => rfl
 | false =>
  rw [hs, if_neg (by decide), hp] at h
  simp at h
theorem Ytf {d : Decoder} (h : Yhs d = true) (hs : d.HasSeq = true) (g : d.Got ≠ 0) : Xb8 d.Now = true := by
 unfold Yhs at h
 rw [if_pos hs] at h
 simp only [Bool.and_eq_true, decide_eq_true_eq] at h
 obtain ⟨_, _, _, ⟨g1, _⟩, hn, _⟩ := h
 rw [if_pos (by omega)] at hn
 unfold Xoi at hn
 simp only [Bool.and_eq_true] at hn
 exact hn.2.1
theorem Yrx {L : List Int} (hb : Xos L) (hl : L.length ≤ 400000) (d : Decoder) (hd : Yhs d = true) (h1 : d.Seq.Cols.length ≤ maxLen) (h2 : d.Seq.Rows.length ≤ maxLen) (k : Int) (hk : k = 1 ∨ k = 5) : ∃ (D : Decoder) (co : Int) (P : Pic), Xki d k (strOfNums L) = some (D, co, P) ∧ Xc8 d (k == 5) (strOfNums L) = some (D, co, P, d) ∧ D.Seq = d.Seq ∧ (P = ⟨0, 0, ⟨#[]⟩⟩ ∨ Xb8 P = true) := by
 have hm : maxLen = 9223372036854775807 := rfl
 have fin : ∀ {x : Option (Decoder × Int × Pic)} {z : Option (Decoder × Int × Pic × Decoder)} {co : Int}, x = some (d, co, ⟨0, 0, ⟨#[]⟩⟩) → z = some (d, co, ⟨0, 0, ⟨#[]⟩⟩, d) → ∃ (D : Decoder) (co : Int) (P : Pic), x = some (D, co, P) ∧ z = some (D, co, P, d) ∧ D.Seq = d.Seq ∧ (P = ⟨0, 0, ⟨#[]⟩⟩ ∨ Xb8 P = true) := fun e1 e2 => ⟨d, _, _, e1, e2, rfl, .inl rfl⟩
 unfold Xki Xc8
 cases hp : d.HasPar with
 | false =>
  refine fin (co := 4) rfl ?_
  cases d.HasSeq <;> rfl
 | true =>
  rw [Ynr hd hp, Xaw, Bool.not_true, Xav, Xad, Xav]
  rcases Yky hb hl d.Seq d.Par h1 h2 with ⟨h, j, e1, e2, hh, hj⟩ | ⟨e1, e2⟩
  ·
   rw [e1, Xad, e2, Xad]
   simp only
   rw [Bool.not_true, Xav, Xav]
   cases ht : (h.Tile != d.Got) with
   | true => exact fin (co := 6) rfl rfl
   | false =>
    rw [Xav, Xav]
    have ex : ∃ b : Bool, (sel (d.Frame != (-1)) (some (d.Frame != h.Frame)) (some false)) = some b := by cases (d.Frame != (-1)) <;> exact ⟨_, rfl⟩
    obtain ⟨b, eb⟩ := ex
    rw [eb, Xad, Xad]
    cases b with
    | true => exact fin (co := 7) rfl rfl
    | false =>
     rw [Xav, Xav]
     have e8 : (sel (k == 1) (some (!d.HasRef)) (some false)) = some (!(k == 5) && !d.HasRef) ∧ (sel (k == 5) (some false) (some (!d.HasRef))) = some (!(k == 5) && !d.HasRef) := by
      rcases hk with rfl | rfl <;> exact ⟨rfl, rfl⟩
     rw [e8.1, e8.2, Xad, Xad]
     cases (!(k == 5) && !d.HasRef) with
     | true => exact fin (co := 8) rfl rfl
     | false =>
      rw [Xav, Xav]
      unfold Ydp at hh
      simp only [Bool.and_eq_true, decide_eq_true_eq] at hh
      obtain ⟨hs, hpar, hti, hfr, hqp⟩ := hh
      obtain ⟨s1, s2, b1, b2⟩ := Xd8 hs
      have i1 := Xyj s1
      have i2 := Xyj s2
      obtain ⟨r, t1, t2, rw_, rh⟩ := Ypn hs h1 h2 h.Tile hti
      have sw := Xk7 rw_
      have sh := Xk7 rh
      have mb : r.Wide / 8 * (r.High / 8) ≤ 8 * 8 := Int.mul_le_mul (by omega) (by omega) (by omega) (by omega)
      have m0 : 1 * 1 ≤ r.Wide / 8 * (r.High / 8) := Int.mul_le_mul (by omega) (by omega) (by omega) (by omega)
      have q1 : Xf8 d.Seq h.Tile = some (r.Wide / 8 * (r.High / 8)) := by
       unfold Xf8
       rw [t2, Xad, Xai (by omega), Xai (by omega), Xbl (a := r.Wide) (by omega), Xbl (a := r.High) (by omega), wk (e := r.Wide / 8) (by omega) (by omega), wk (e := r.High / 8) (by omega) (by omega), wk (by omega) (by omega)]
      have q2 : Xf0 d.Seq h.Tile = some (r.Wide / 8 * (r.High / 8)) := by
       unfold Xf0
       rw [t1, Xad, Xai (by omega), Xai (by omega), Xbl (a := r.Wide) (by omega), Xbl (a := r.High) (by omega), wk (e := r.Wide / 8) (by omega) (by omega), wk (e := r.High / 8) (by omega) (by omega), wk (by omega) (by omega)]
      rw [q1, Xad, q2, Xad]
      obtain ⟨l, ok, r1, r2, l1, l2, l3⟩ := Ykz (strOfNums L) (j : Int) (r.Wide / 8 * (r.High / 8)) ⟨k == 5, h.Qp, d.Par.Large, d.Par.Exact⟩
      rw [r1, Xad, r2, Xad]
      cases ok with
      | false => exact fin (co := 9) rfl rfl
      | true =>
       obtain ⟨x, x1, x2, _⟩ := Yk2 d.Ref r ⟨k == 5, h.Qp, d.Par.Large, d.Par.Exact⟩ d.Par.Confined l (by omega) (fun q hq => by have := l2 q hq; omega)
       simp only
       rw [Bool.not_true, Xav, Xav, t1, Xad, t2, Xad]
       simp only
       rw [x1, Xad, x2, Xad]
       have ev : ∃ n : Pic, (sel (d.Got == 0) (bnd (Xi1 d.Seq) fun q9 => bnd (Xnq q9.1 q9.2) fun q10 => some (q10.Wide, q10.High, q10.Dots)) (some (d.Now.Wide, d.Now.High, d.Now.Dots))) = some (n.Wide, n.High, n.Dots) ∧ (sel (d.Got == 0) (bnd (Xiz d.Seq) fun q9 => bnd (Xna q9.1 q9.2) fun q10 => some (q10.Wide, q10.High, q10.Dots)) (some (d.Now.Wide, d.Now.High, d.Now.Dots))) = some (n.Wide, n.High, n.Dots) ∧ Xb8 n = true := by
        cases hg : (d.Got == 0) with
        | false => exact ⟨d.Now, rfl, rfl, Ytf hd (Ynr hd hp) (by rw [beq_eq_false_iff_ne] at hg; exact hg)⟩
        | true =>
         have hsz : Xqh d.Seq = (8 * Xn5 d.Seq.Cols, 8 * Xn5 d.Seq.Rows) := by unfold Xqh; rw [if_pos hs]
         refine ⟨Yzv (8 * Xn5 d.Seq.Cols) (8 * Xn5 d.Seq.Rows), ?_, ?_, Yxi (by omega) (by omega)⟩
         ·
          rw [Xaw, Xt5, Xad, hsz, Yaa _ _ (by simp only; omega) (by simp only; omega), Xad]
          rfl
         ·
          rw [Xaw, Xtl _ h1 h2, Xad, hsz, Xz0 _ _ (by simp only; omega) (by simp only; omega), Xad]
          rfl
       obtain ⟨n, n1, n2, nok⟩ := ev
       rw [n1, Xad, n2, Xad]
       simp only
       obtain ⟨o, bo, p1, p2, ow, oh, p3, _⟩ := Ypk n x.1 r.Left r.Top
       have ho : Xb8 o = true := by
        obtain ⟨k1, k2, k3⟩ := Xbk nok
        exact Xws (by rw [ow]; exact k1) (by rw [oh]; exact k2) (by rw [p3, ow, oh]; exact k3)
       rw [show (⟨n.Wide, n.High, n.Dots⟩ : Pic) = n from rfl, p1, Xad, p2, Xad, Xke, Xad, Xjw _ h1 h2, Xad]
       simp only
       cases decide ((Xaa .i64 (d.Got + 1)) < Xdm d.Seq) with
       | true => exact ⟨_, _, _, rfl, rfl, rfl, .inl rfl⟩
       | false =>
        obtain ⟨z1, z2, z3, z4, z5⟩ := Xov d.Seq.Bits ⟨b1, b2⟩
        have nz : (2 : Int) ^ d.Seq.Bits.toNat ≠ 0 := by
         generalize (2 : Int) ^ d.Seq.Bits.toNat = N at z4 z5 ⊢
         omega
        have nb : 0 ≤ d.Seq.Bits := by omega
        rw [Xav, Xav, z2, Xai z1, Xai nz]
        unfold Xsi
        rw [z3, Xai nb, Xai nz, Xad]
        exact ⟨_, _, _, rfl, rfl, rfl, .inr ho⟩
  ·
   rw [e1, Xad, e2, Xad]
   simp only
   rw [Bool.not_false, Xaw, Xaw]
   exact fin (co := 5) rfl rfl
theorem Ync (d : Decoder) (u : ByteArray) (h1 : d.Seq.Cols.length ≤ 1048576) (h2 : d.Seq.Rows.length ≤ 1048576) (hu : u.size ≤ 1048576) : ∃ (D : Decoder) (co : Int) (P : Pic), Xi5 d u = some (D, co, P) ∧ Xje d u = some (D, co, P) ∧ D.Seq.Cols.length ≤ 1048576 ∧ D.Seq.Rows.length ≤ 1048576 ∧ (P = ⟨0, 0, ⟨#[]⟩⟩ ∨ Xb8 P = true) := by
 have hm : maxLen = 9223372036854775807 := rfl
 obtain ⟨_, cp⟩ := Yle d.Seq h1 h2
 have cd : Xco d = some d := by unfold Xco; rw [cp, Xad]
 have key : ∀ {z x : Option (Decoder × Int × Pic)} {D : Decoder} {co : Int} {P : Pic}, z = some (D, co, P) → x = some (D, co, P) → D.Seq.Cols.length ≤ 1048576 → D.Seq.Rows.length ≤ 1048576 → (P = ⟨0, 0, ⟨#[]⟩⟩ ∨ Xb8 P = true) → ∃ (D : Decoder) (co : Int) (P : Pic), z = some (D, co, P) ∧ (bnd x fun q1 => bnd (Xg6 q1.1.Seq) fun q2 => some ((⟨q1.1.HasSeq, q1.1.HasPar, q1.1.HasRef, q2, q1.1.Par, q1.1.Frame, q1.1.Got, q1.1.Now, q1.1.Ref⟩ : Decoder), q1.2.1, q1.2.2)) = some (D, co, P) ∧ D.Seq.Cols.length ≤ 1048576 ∧ D.Seq.Rows.length ≤ 1048576 ∧ (P = ⟨0, 0, ⟨#[]⟩⟩ ∨ Xb8 P = true) := fun {z x D co P} e1 e2 l1 l2 hP => by
  refine ⟨D, co, P, e1, ?_, l1, l2, hP⟩
  rw [e2, Xad]
  simp only
  rw [(Yle D.Seq l1 l2).1, Xad]
 unfold Xi5 Xje Xof
 rw [cd, Xad, Yll d (by omega) (by omega), Xad, Ymy, Xad]
 cases hd : Yhs d with
 | false => exact key (D := d) (co := 1) rfl rfl h1 h2 (.inl rfl)
 | true =>
  rw [Bool.not_true, Xav, Xav]
  rcases Ypo u hu with ⟨k, L, hk, hb, hl, e1, e2⟩ | ⟨e1, e2⟩
  ·
   rw [e1, Xad, e2, Xad]
   simp only
   rw [Bool.not_true, Xav, Xav]
   unfold Ye5 at hk
   simp only [Bool.or_eq_true, beq_iff_eq] at hk
   have hz : ((0 : Nat) : Int) = 0 := rfl
   by_cases k7 : k = 7
   ·
    subst k7
    rw [Xb2 (b := (7 : Int) == 7) (by rfl), Xb2 (b := (7 : Int) == 7) (by rfl)]
    rcases Ynf hb hl 0 (by omega) with ⟨q, j, r1, r2, hs, l1, l2, _⟩ | ⟨r1, r2⟩
    ·
     rw [hz] at r1 r2
     rw [r1, Xad, r2, Xad]
     simp only
     simp only [Xaw, Xad]
     cases ((j : Int) != ((strOfNums L).size : Int)) with
     | true => exact key (D := d) (co := 3) rfl rfl h1 h2 (.inl rfl)
     | false => exact key (D := ⟨true, false, false, q, ⟨0, false, false, false⟩, -1, 0, ⟨0, 0, ⟨#[]⟩⟩, ⟨0, 0, ⟨#[]⟩⟩⟩) (co := 0) rfl rfl (by simp only; omega) (by simp only; omega) (.inl rfl)
    ·
     rw [hz] at r1 r2
     rw [r1, Xad, r2, Xad]
     simp only
     simp only [Xav, Xaw, Xad]
     exact key (D := d) (co := 3) rfl rfl h1 h2 (.inl rfl)
   ·
    rw [Xa8 (b := k == 7) (by rw [beq_eq_false_iff_ne]; exact k7), Xa8 (b := k == 7) (by rw [beq_eq_false_iff_ne]; exact k7)]
    by_cases k8 : k = 8
    ·
     subst k8
     rw [Xb2 (b := (8 : Int) == 8) (by rfl), Xb2 (b := (8 : Int) == 8) (by rfl)]
     rcases Yne hb hl 0 (by omega) with ⟨q, j, r1, r2, hs, _⟩ | ⟨r1, r2⟩
     ·
      rw [hz] at r1 r2
      rw [r1, Xad, r2, Xad]
      simp only
      simp only [Xaw, Xad]
      cases ((j : Int) != ((strOfNums L).size : Int)) with
      | true => exact key (D := d) (co := 3) rfl rfl h1 h2 (.inl rfl)
      | false =>
       simp only [Xav]
       cases hS : d.HasSeq with
       | false => exact key (D := d) (co := 4) rfl rfl h1 h2 (.inl rfl)
       | true =>
        simp only [Xaw, Xad]
        cases decide (d.Got > 0) with
        | true => exact key (D := d) (co := 4) rfl rfl h1 h2 (.inl rfl)
        | false => exact key (D := ⟨true, true, d.HasRef, d.Seq, q, d.Frame, d.Got, d.Now, d.Ref⟩) (co := 0) rfl rfl h1 h2 (.inl rfl)
     ·
      rw [hz] at r1 r2
      rw [r1, Xad, r2, Xad]
      simp only
      simp only [Xav, Xaw, Xad]
      exact key (D := d) (co := 3) rfl rfl h1 h2 (.inl rfl)
    ·
     rw [Xa8 (b := k == 8) (by rw [beq_eq_false_iff_ne]; exact k8), Xa8 (b := k == 8) (by rw [beq_eq_false_iff_ne]; exact k8)]
     obtain ⟨D, co, P, s1, s2, s3, s4⟩ := Yrx hb hl d hd (by omega) (by omega) k (by omega)
     rw [s1, Xad, s2, Xad]
     refine key (D := D) (co := co) (P := P) ?_ rfl (by rw [s3]; exact h1) (by rw [s3]; exact h2) s4
     simp only
     rw [← s3]
  ·
   rw [e1, Xad, e2, Xad]
   exact key (D := d) (co := 2) rfl rfl h1 h2 (.inl rfl)
theorem Xni (d : Decoder) (h1 : d.Seq.Cols.length ≤ 1048576) (h2 : d.Seq.Rows.length ≤ 1048576) : Xdv d d = some true := by
 unfold Xdv
 simp only [beq_self_eq_true, Bool.not_true, Xav, Ye7 _ (show d.Seq.Cols.length ≤ 9223372036854775806 by omega) (show d.Seq.Rows.length ≤ 9223372036854775806 by omega), Ye6, Xrt, Xad, bne_self_eq_false]
abbrev Zaj := Int × Bool × Bool × Bool × Int × Int × Int × Bool × Bool × Bool × Int × Int × Int × Int × ByteArray × Int × Int × ByteArray × (List Pic) × (List Int) × (List Int) × (List Int)
def Ysu (k : Int) (d : Decoder) (ps : List Pic) (cs : List Int) : Zaj := (k, d.HasSeq, d.HasPar, d.HasRef, d.Seq.Level, d.Seq.Bits, d.Par.Qp, d.Par.Large, d.Par.Exact, d.Par.Confined, d.Frame, d.Got, d.Now.Wide, d.Now.High, d.Now.Dots, d.Ref.Wide, d.Ref.High, d.Ref.Dots, ps, cs, d.Seq.Cols, d.Seq.Rows)
theorem Yte (us : List ByteArray) (h400 : us.length ≤ 400) (hu : ∀ u ∈ us, u.size ≤ 1048576) : ∀ n k : Nat, k + n = us.length → ∀ (d : Decoder) (ps : List Pic) (cs : List Int), d.Seq.Cols.length ≤ 1048576 → d.Seq.Rows.length ≤ 1048576 → ps.length ≤ k → cs.length = k →
  ∃ (D : Decoder) (ps' : List Pic) (cs' : List Int), loop (Xgb us) (Ysu (k : Int) d ps cs) = some (Ysu 0 D ps' cs').2 ∧ loop (Xge us) (Ysu (k : Int) d ps cs) = some (Ysu 0 D ps' cs').2 ∧ D.Seq.Cols.length ≤ 1048576 ∧ D.Seq.Rows.length ≤ 1048576 ∧ ps'.length ≤ 400 ∧ cs'.length ≤ 400
 | 0, k, hk, d, ps, cs, h1, h2, hp, hc => by
  refine ⟨d, ps, cs, Xck ?_, Xck ?_, h1, h2, by omega, by omega⟩
  ·
   unfold Xgb Ysu
   simp only
   rw [Xam (by omega)]
  ·
   unfold Xge Ysu
   simp only
   rw [Xam (by omega)]
 | n + 1, k, hk, d, ps, cs, h1, h2, hp, hc => by
  have hm : maxLen = 9223372036854775807 := rfl
  have hz := hu (us.getD k Xcn) (by rw [Xce us k (by omega)]; exact List.getElem_mem _)
  obtain ⟨D, co, P, ei, es, d1, d2, hP⟩ := Ync d (us.getD k Xcn) h1 h2 hz
  have ei' : Xi5 (⟨d.HasSeq, d.HasPar, d.HasRef, ⟨d.Seq.Level, d.Seq.Bits, d.Seq.Cols, d.Seq.Rows⟩, ⟨d.Par.Qp, d.Par.Large, d.Par.Exact, d.Par.Confined⟩, d.Frame, d.Got, ⟨d.Now.Wide, d.Now.High, d.Now.Dots⟩, ⟨d.Ref.Wide, d.Ref.High, d.Ref.Dots⟩⟩ : Decoder) (us.getD k Xcn) = some (D, co, P) := ei
  have es' : Xje (⟨d.HasSeq, d.HasPar, d.HasRef, ⟨d.Seq.Level, d.Seq.Bits, d.Seq.Cols, d.Seq.Rows⟩, ⟨d.Par.Qp, d.Par.Large, d.Par.Exact, d.Par.Confined⟩, d.Frame, d.Got, ⟨d.Now.Wide, d.Now.High, d.Now.Dots⟩, ⟨d.Ref.Wide, d.Ref.High, d.Ref.Dots⟩⟩ : Decoder) (us.getD k Xcn) = some (D, co, P) := es
  have hw : decide (P.Wide > 0) = Xb8 P := by
   rcases hP with h | h
   ·
    rw [h]; rfl
   ·
    obtain ⟨k1, _, _⟩ := Xbk h
    rw [h]; exact decide_eq_true (by omega)
  have gI : Xgb us (Ysu (k : Int) d ps cs) = some (.go (Ysu ((k + 1 : Nat) : Int) D (if Xb8 P = true then ps ++ [P] else ps) (cs ++ [co]))) := by
   unfold Xgb Ysu
   simp only [Int.toNat_natCast]
   rw [Xaj (by omega), Xai (by omega), ei', Xad]
   simp only
   rw [Xai (by simp only [List.length_singleton]; omega), Xcg, Xad]
   cases Xb8 P with
   | true => rw [Xaw, Xai (by simp only [List.length_singleton]; omega), Xad, wk (by omega) (by omega)]; rfl
   | false => rw [Xav, Xad, wk (by omega) (by omega)]; rfl
  have gS : Xge us (Ysu (k : Int) d ps cs) = some (.go (Ysu ((k + 1 : Nat) : Int) D (if Xb8 P = true then ps ++ [P] else ps) (cs ++ [co]))) := by
   unfold Xge Ysu
   simp only [Int.toNat_natCast]
   rw [Xaj (by omega), Xai (by omega), es', Xad]
   simp only
   rw [Xai (by simp only [List.length_singleton]; omega), hw]
   cases Xb8 P with
   | true => rw [Xaw, Xai (by simp only [List.length_singleton]; omega), Xad, wk (by omega) (by omega)]; rfl
   | false => rw [Xav, Xad, wk (by omega) (by omega)]; rfl
  have hl : (if Xb8 P = true then ps ++ [P] else ps).length ≤ k + 1 := by
   split
   ·
    rw [List.length_append, List.length_singleton]; omega
   ·
    omega
  obtain ⟨D', ps', cs', r1, r2, r3⟩ := Yte us h400 hu n (k + 1) (by omega) D _ (cs ++ [co]) d1 d2 hl (by rw [List.length_append, List.length_singleton]; omega)
  exact ⟨D', ps', cs', lgo gI r1, lgo gS r2, r3⟩
theorem Ypi (d : Decoder) (us : List ByteArray) (h1 : d.Seq.Cols.length ≤ 1048576) (h2 : d.Seq.Rows.length ≤ 1048576) (hu : ∀ u ∈ us, u.size ≤ 1048576) : ∃ (D : Decoder) (ps : List Pic) (cs : List Int), Xko d us = some (D, ps, cs) ∧ Xnp d us = some (D, ps, cs) ∧ D.Seq.Cols.length ≤ 1048576 ∧ D.Seq.Rows.length ≤ 1048576 ∧ ps.length ≤ 400 ∧ cs.length ≤ 400 := by
 obtain ⟨c1, c2⟩ := Yle d.Seq h1 h2
 have cd : Xco d = some d := by unfold Xco; rw [c2, Xad]
 unfold Xko Xnp
 rw [cd, Xad, c1, Xad]
 by_cases h4 : (us.length : Int) > 400
 ·
  rw [Xaj h4, Xaj h4]
  exact ⟨d, [], [], rfl, rfl, h1, h2, by simp, by simp⟩
 ·
  rw [Xam h4, Xam h4]
  obtain ⟨D, ps, cs, r1, r2, r3⟩ := Yte us (by omega) hu us.length 0 (by omega) d [] [] h1 h2 (by simp) rfl
  refine ⟨D, ps, cs, (Xgk r1).trans rfl, (Xgk r2).trans rfl, r3⟩
theorem Ybc (l : List Pic) (hl : l.length ≤ 1048600) : Xi0 l l = some true := by
 unfold Xi0
 rw [Xa8 (by simp), Xno l.length (f := Xig l l) (by
  intro i hi
  unfold Xig
  rw [Xaj (by omega), Xai (by omega), Xai (by omega), Xrt, Xad, Bool.not_true, Xav, wk (by omega) (by omega)]
  rfl) (by unfold Xig; rw [Xam (by omega)])]
 rfl
noncomputable def Ybm (k : Int) : List Pic → List Pic
 | [] => []
 | _ :: r => ⟨k, k + 1, mT (k + 2)⟩ :: Ybm (k + 3) r
theorem Yop : ∀ (l : List Pic) (k : Int), (Ybm k l).length = l.length
 | [], _ => rfl
 | _ :: r, k => by rw [Ybm, List.length_cons, List.length_cons, Yop r]
theorem Ybh (l : List Pic) (k : Int) (h0 : 0 < k) (h1 : k ≤ 100000000) (hl : l.length ≤ 1048600) : Xj2 l k = some (k + 3 * l.length, Ybm k l) := by
 unfold Xj2
 have key : ∀ (r a : List Pic) (j : Int), 0 < j → j + 3 * r.length ≤ 200000000 → a.length + r.length ≤ 1048600 → loop Xf5 (j, (a.length : Int), a ++ r) = some (j + 3 * r.length, a ++ Ybm j r) := by
  intro r
  induction r with
  | nil =>
   intro a j hj1 hj2 hl
   refine Xck ?_
   unfold Xf5
   simp only [List.append_nil]
   rw [Xam (by omega)]
   simp [Ybm]
  | cons p r ih =>
   intro a j hj1 hj2 hl
   simp only [List.length_cons] at hj2 hl ⊢
   have hcl : ∀ x : Pic, (a ++ x :: r).length = a.length + (r.length + 1) := fun x => by simp
   refine lgo (y := (j + 3, ((a ++ [(⟨j, j + 1, mT (j + 2)⟩ : Pic)]).length : Int), (a ++ [(⟨j, j + 1, mT (j + 2)⟩ : Pic)]) ++ r)) ?_ ?_
   ·
    unfold Xf5
    simp only [Int.toNat_natCast, Xad, Xy2, Xlg, hcl]
    rw [Xaj (by omega), Xai (by omega), Xai (by omega), Xai (by omega), Xai (by omega), wk (e := j + 1) (by omega) (by omega), wk (e := j + 1 + 1) (by omega) (by omega), Xmj _ (by omega) (by omega), Xad, Xai (by omega), Xai (by omega), wk (e := j + 1 + 1 + 1) (by omega) (by omega), wk (e := (a.length : Int) + 1) (by omega) (by omega)]
    rw [show j + 1 + 1 + 1 = j + 3 by omega, show j + 1 + 1 = j + 2 by omega]
    simp
   ·
    rw [ih _ (j + 3) (by omega) (by omega) (by simp; omega)]
    simp only [Ybm, List.append_assoc, List.singleton_append]
    congr 2
    omega
 have := key l [] k h0 (by omega) (by simp; omega)
 simp only [List.length_nil, List.nil_append] at this
 rw [show ((k, 0, l) : Int × Int × List Pic) = (k, ((0 : Nat) : Int), l) from rfl, this]
 rfl
theorem Ybd (l : List Pic) (k : Int) (h0 : 0 < k) (h1 : k ≤ 100000000) (hl : l.length ≤ 1048600) : Xho (Ybm k l) k = some (k + 3 * l.length) := by
 unfold Xho
 have key : ∀ (r a : List Pic) (j : Int), 0 < j → j + 3 * r.length ≤ 200000000 → a.length + r.length ≤ 1048600 → loop (Xf3 (a ++ Ybm j r)) (j, (a.length : Int)) = some (.out (j + 3 * r.length)) := by
  intro r
  induction r with
  | nil =>
   intro a j hj1 hj2 hl
   refine Xck ?_
   unfold Xf3
   simp only [Ybm, List.append_nil]
   rw [Xam (by omega)]
   simp
  | cons p r ih =>
   intro a j hj1 hj2 hl
   simp only [List.length_cons] at hj2 hl ⊢
   have hcl : ∀ (x : Pic) (r : List Pic), (a ++ x :: r).length = a.length + (r.length + 1) := fun x r => by simp
   refine lgo (y := (j + 3, ((a ++ [(⟨j, j + 1, mT (j + 2)⟩ : Pic)]).length : Int))) ?_ ?_
   ·
    unfold Xf3
    simp only [Ybm, Int.toNat_natCast, Xlg, hcl, Yop]
    rw [Xaj (by omega), Xai (by omega), Xa8 (by simp), Xai (by omega), wk (e := j + 1) (by omega) (by omega), Xa8 (by simp), Xai (by omega), wk (e := j + 1 + 1) (by omega) (by omega), Xmj _ (by omega) (by omega), Xad, Xa8 (by rw [show j + 1 + 1 = j + 2 by omega]; simp), wk (e := j + 1 + 1 + 1) (by omega) (by omega), wk (e := (a.length : Int) + 1) (by omega) (by omega)]
    simp; omega
   ·
    have := ih (a ++ [(⟨j, j + 1, mT (j + 2)⟩ : Pic)]) (j + 3) (by omega) (by omega) (by simp; omega)
    simp only [Ybm]
    rw [List.append_assoc, List.singleton_append] at this
    rw [this]
    congr 2
    omega
 have := key l [] k h0 (by omega) (by simp; omega)
 simp only [List.length_nil, List.nil_append] at this
 rw [show ((k, 0) : Int × Int) = (k, ((0 : Nat) : Int)) from rfl, this]
 rfl
theorem Xyw (l : List ByteArray) (hl : l.length ≤ 1048576) : Xdx l = some l := by
 unfold Xdx
 rw [Xai (by omega), Int.toNat_natCast]
 have := Ynw l (fun p : ByteArray => p) Xcn Xcn (f := Xe8 l) (by
  intro i o hi ho
  unfold Xe8
  simp only
  rw [Xaj (by omega), Xai (by omega), Xai (by omega), Xai (by omega), wk (by omega) (by omega)]
  rfl) (by
  intro o; unfold Xe8; simp only; rw [Xam (by omega)])
 rw [this, Xad, List.map_id']
theorem Xyu (l : List ByteArray) (m : Int) (hl : l.length ≤ maxLen) (hs : ∀ s ∈ l, s.size ≤ maxLen) (h0 : 0 ≤ m) (h1 : m ≤ 1048576) : ∃ t, Xij l m = some t ∧ t ≤ m ∧ -1 ≤ t ∧ (0 ≤ t → l.length ≤ 1048576 ∧ ∀ s ∈ l, s.size ≤ 1048576) := by
 have hm : maxLen = 9223372036854775807 := rfl
 unfold Xij
 rw [wk (e := m - (l.length : Int)) (by omega) (by omega)]
 by_cases h : m - (l.length : Int) < 0
 ·
  rw [Xaj h]; exact ⟨_, rfl, by omega, by omega, fun h => by omega⟩
 rw [Xam h]
 have key : ∀ (r a : List ByteArray) (t : Int), l = a ++ r → 0 ≤ t → t ≤ m → (∀ s ∈ a, s.size ≤ 1048576) → ∃ o, loop (Xcy l) (t, (a.length : Int)) = some o ∧ (o = .ret (-1) ∨ ∃ t', o = .out t' ∧ 0 ≤ t' ∧ t' ≤ m ∧ ∀ s ∈ l, s.size ≤ 1048576) := by
  intro r
  induction r with
  | nil =>
   intro a t ha t0 t1 hall
   rw [List.append_nil] at ha
   refine ⟨_, Xck ?_, .inr ⟨t, rfl, t0, t1, by rw [ha]; exact hall⟩⟩
   unfold Xcy
   simp only
   rw [Xam (by rw [ha]; omega)]
  | cons x r ih =>
   intro a t ha t0 t1 hall
   have hlen : a.length < l.length := by rw [ha]; simp
   have hx : l.getD a.length Xcn = x := by rw [ha]; exact Xlg a x _ r
   have hxs := hs x (by rw [ha]; simp)
   by_cases hz : t - (x.size : Int) < 0
   ·
    refine ⟨_, Xck ?_, .inl rfl⟩
    unfold Xcy
    simp only [Int.toNat_natCast, hx]
    rw [Xaj (by omega), Xai (by omega), wk (by omega) (by omega), Xaj hz]
   ·
    obtain ⟨o, e, ho⟩ := ih (a ++ [x]) (t - (x.size : Int)) (by rw [ha]; simp) (by omega) (by omega) (fun s hs2 => by
     rcases List.mem_append.1 hs2 with h | h
     ·
      exact hall s h
     ·
      rw [List.mem_singleton.1 h]; omega)
    rw [List.length_append, List.length_singleton] at e
    refine ⟨o, lgo ?_ e, ho⟩
    unfold Xcy
    simp only [Int.toNat_natCast, hx]
    rw [Xaj (by omega), Xai (by omega), wk (e := t - (x.size : Int)) (by omega) (by omega), Xam hz, wk (by omega) (by omega)]
    rfl
 obtain ⟨o, e, ho⟩ := key l [] (m - (l.length : Int)) rfl (by omega) (by omega) (fun s hs => by simp at hs)
 have e' : loop (Xcy l) (m - (l.length : Int), 0) = some o := e
 rw [e', Xad]
 rcases ho with rfl | ⟨t', rfl, b1, b2, b3⟩
 ·
  exact ⟨_, rfl, by omega, by omega, fun h => by omega⟩
 ·
  exact ⟨t', rfl, b2, by omega, fun _ => ⟨by omega, b3⟩⟩
theorem Xys (p0 : Decoder) (h0 : Yfm p0) : ∃ t, Xii p0 1048576 = some t ∧ t ≤ 1048576 ∧ -1 ≤ t ∧ (0 ≤ t → p0.Seq.Cols.length ≤ 1048576 ∧ p0.Seq.Rows.length ≤ 1048576) := by
 have hm : maxLen = 9223372036854775807 := rfl
 obtain ⟨_, _, _, ⟨_, _, ⟨c1, _⟩, ⟨c2, _⟩⟩, _, _, _, ⟨_, _, n1⟩, ⟨_, _, n2⟩⟩ := h0
 unfold Xii
 obtain ⟨t, e, a1, a2, a3⟩ := Yl7 p0.Seq 1048576 c1 c2 (by omega) (by omega)
 rw [e, Xad]
 by_cases ht : t < 0
 ·
  rw [Xaj ht]; exact ⟨_, rfl, by omega, by omega, fun h => by omega⟩
 rw [Xam ht, Xwk p0.Now t n1 (by omega) (by omega), Xad]
 obtain ⟨b1, b2⟩ := a3 (by omega)
 by_cases g1 : t < p0.Now.Dots.size
 ·
  rw [if_pos g1, Xaj (by omega)]; exact ⟨_, rfl, by omega, by omega, fun h => by omega⟩
 rw [if_neg g1, Xam (by omega), Xwk p0.Ref _ n2 (by omega) (by omega), Xad]
 by_cases g2 : t - (p0.Now.Dots.size : Int) < p0.Ref.Dots.size
 ·
  rw [if_pos g2, Xaj (by omega)]; exact ⟨_, rfl, by omega, by omega, fun h => by omega⟩
 ·
  rw [if_neg g2, Xam (by omega)]; exact ⟨_, rfl, by omega, by omega, fun _ => ⟨b1, b2⟩⟩
theorem Xyv (p0 : Decoder) (l1 : p0.Seq.Cols.length ≤ 1048576) (l2 : p0.Seq.Rows.length ≤ 1048576) : Xdw p0 = some p0 := by
 unfold Xdw Xsm Xph
 rw [Yma _ l1 l2, Xad, Xad, Xad, Xad]
def Yp5 (d : Decoder) : Decoder := ⟨d.HasSeq, d.HasPar, d.HasRef, ⟨d.Seq.Level, d.Seq.Bits, Xra 1 d.Seq.Cols, Xra (1 + (d.Seq.Cols.length : Int)) d.Seq.Rows⟩, d.Par, d.Frame, d.Got, d.Now, d.Ref⟩
theorem Xnl (d : Decoder) (a : d.Seq.Cols.length ≤ 1048576) (b : d.Seq.Rows.length ≤ 1048576) : Xef d 1 = some (1 + (d.Seq.Cols.length : Int) + (d.Seq.Rows.length : Int), Yp5 d) := by
 unfold Xef
 rw [Yfb d.Seq 1 (by omega) (by omega) (by omega) (by omega), Xad]
 rfl
theorem Xuu (D : Decoder) (d1 : D.Seq.Cols.length ≤ 1048576) (d2 : D.Seq.Rows.length ≤ 1048576) : Xee ⟨D.HasSeq, D.HasPar, D.HasRef, ⟨D.Seq.Level, D.Seq.Bits, (Yp5 D).Seq.Cols, (Yp5 D).Seq.Rows⟩, D.Par, D.Frame, D.Got, D.Now, D.Ref⟩ 1 = some (1 + (D.Seq.Cols.length : Int) + (D.Seq.Rows.length : Int)) := by
 unfold Xee
 rw [Ye9 _ D.Seq.Cols D.Seq.Rows 1 (by omega) (by omega) (by omega) (by omega) rfl rfl, Xad, Xam (by omega)]
theorem FnExactDecAll {p0 : Decoder} {p1 : List ByteArray} (h0 : Yfm p0) (h1 : p1.length ≤ maxLen ∧ ∀ y ∈ p1, y.size ≤ maxLen) : Xgm p0 p1 = some true := by
 have hm : maxLen = 9223372036854775807 := rfl
 unfold Xgm
 obtain ⟨t, e, ta, tb, ht⟩ := Xys p0 h0
 rw [e, Xad]
 by_cases t0 : t < 0
 ·
  rw [Xaj t0]
 rw [Xam t0]
 obtain ⟨l1, l2⟩ := ht (by omega)
 obtain ⟨z, ez, za, zb, hz⟩ := Xyu p1 t h1.1 h1.2 (by omega) ta
 rw [ez, Xad]
 by_cases z0 : z < 0
 ·
  rw [Xaj z0]
 rw [Xam z0]
 obtain ⟨u1, u2⟩ := hz (by omega)
 obtain ⟨D, ps, cs, ei, es, d1, d2, hp, hc⟩ := Ypi p0 p1 l1 l2 u2
 simp only [Xyv p0 l1 l2, Xyw p1 u1, es, ei, Xad, Xni D d1 d2, Xni p0 l1 l2, Ybc ps (by omega), Xme cs (by omega), Xut p1 (by omega), Xaw, Xav, Bool.not_true, Xnl p0 l1 l2, Xnl D d1 d2, Xuw p1 (1 + (p0.Seq.Cols.length : Int) + (p0.Seq.Rows.length : Int)) (by omega) (by omega) (by omega), Ybh ps (1 + (D.Seq.Cols.length : Int) + (D.Seq.Rows.length : Int)) (by omega) (by omega) (by omega), Xmh cs (1 + (D.Seq.Cols.length : Int) + (D.Seq.Rows.length : Int) + 3 * (ps.length : Int)) (by omega) (by omega) (by omega), Xuu D d1 d2]
 rw [Xam (by omega), Xad, Xav]
 simp only [Ybd ps (1 + (D.Seq.Cols.length : Int) + (D.Seq.Rows.length : Int)) (by omega) (by omega) (by omega), Xmf cs (1 + (D.Seq.Cols.length : Int) + (D.Seq.Rows.length : Int) + 3 * (ps.length : Int)) (by omega) (by omega) (by omega), Xad, bne_self_eq_false, Xav]
 rw [Xam (by omega), Xam (by omega), Xam (by omega), Xam (by omega), Xam (by omega), Xam (by omega)]
end Go.Proofs.YtjgbfopmjpkkhaaGreat.A.Pure
