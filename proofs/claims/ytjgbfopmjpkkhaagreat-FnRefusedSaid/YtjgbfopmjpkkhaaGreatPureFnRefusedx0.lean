/- The pure statement of the law FnRefused, part 1: over numbers, texts and lists alone, what the law computes is true. Conditions: the sizes of what a machine holds. -/
import Derived.Test.YtjgbfopmjpkkhaaGreatDFnRefused
namespace Go.Proofs.YtjgbfopmjpkkhaaGreat.A.Pure
open Go Go.Proofs Go.Proofs.YtjgbfopmjpkkhaaGreatAL Go.RowKit
set_option linter.unusedVariables false
set_option linter.unusedSimpArgs false
set_option maxHeartbeats 1000000
noncomputable section
def Xjp (p1 : (List ByteArray)) (v6 : (Int × Bool × Bool × Bool × Int × Int × Int × Bool × Bool × Bool × Int × Int × Int × Int × ByteArray × Int × Int × ByteArray × (List Pic) × (List Int) × (List Int) × (List Int))) : Option (Lp (Int × Bool × Bool × Bool × Int × Int × Int × Bool × Bool × Bool × Int × Int × Int × Int × ByteArray × Int × Int × ByteArray × (List Pic) × (List Int) × (List Int) × (List Int)) (Bool × Bool × Bool × Int × Int × Int × Bool × Bool × Bool × Int × Int × Int × Int × ByteArray × Int × Int × ByteArray × (List Pic) × (List Int) × (List Int) × (List Int))) :=
 sel (decide (v6.1 < (p1.length : Int))) (
 bnd (
 req (0 ≤ v6.1 ∧ v6.1 < p1.length) <|
 bnd (Xgl (⟨v6.2.1, v6.2.2.1, v6.2.2.2.1, (⟨v6.2.2.2.2.1, v6.2.2.2.2.2.1, v6.2.2.2.2.2.2.2.2.2.2.2.2.2.2.2.2.2.2.2.2.1, v6.2.2.2.2.2.2.2.2.2.2.2.2.2.2.2.2.2.2.2.2.2⟩ : Seq), (⟨v6.2.2.2.2.2.2.1, v6.2.2.2.2.2.2.2.1, v6.2.2.2.2.2.2.2.2.1, v6.2.2.2.2.2.2.2.2.2.1⟩ : Par), v6.2.2.2.2.2.2.2.2.2.2.1, v6.2.2.2.2.2.2.2.2.2.2.2.1, (⟨v6.2.2.2.2.2.2.2.2.2.2.2.2.1, v6.2.2.2.2.2.2.2.2.2.2.2.2.2.1, v6.2.2.2.2.2.2.2.2.2.2.2.2.2.2.1⟩ : Pic), (⟨v6.2.2.2.2.2.2.2.2.2.2.2.2.2.2.2.1, v6.2.2.2.2.2.2.2.2.2.2.2.2.2.2.2.2.1, v6.2.2.2.2.2.2.2.2.2.2.2.2.2.2.2.2.2.1⟩ : Pic)⟩ : Xak) (p1.getD v6.1.toNat Xb3)) fun q13 =>
 req ((v6.2.2.2.2.2.2.2.2.2.2.2.2.2.2.2.2.2.2.2.1.length + ([q13.2.1]).length) * 8 ≤ 140737488355328 ∧ v6.2.2.2.2.2.2.2.2.2.2.2.2.2.2.2.2.2.2.2.1.length + ([q13.2.1]).length ≤ maxLen) <|
 bnd (Xd4 q13.2.2) fun q14 =>
 sel q14 (
 req ((v6.2.2.2.2.2.2.2.2.2.2.2.2.2.2.2.2.2.2.1.length + ([q13.2.2]).length) * 32 ≤ 140737488355328 ∧ v6.2.2.2.2.2.2.2.2.2.2.2.2.2.2.2.2.2.2.1.length + ([q13.2.2]).length ≤ maxLen) <|
 some (q13.1.HasSeq, q13.1.HasPar, q13.1.HasRef, q13.1.Seq.Level, q13.1.Seq.Bits, q13.1.Par.Qp, q13.1.Par.Large, q13.1.Par.Exact, q13.1.Par.Confined, q13.1.Frame, q13.1.Got, q13.1.Now.Wide, q13.1.Now.High, q13.1.Now.Dots, q13.1.Ref.Wide, q13.1.Ref.High, q13.1.Ref.Dots, (v6.2.2.2.2.2.2.2.2.2.2.2.2.2.2.2.2.2.2.1 ++ ([q13.2.2])), (v6.2.2.2.2.2.2.2.2.2.2.2.2.2.2.2.2.2.2.2.1 ++ ([q13.2.1])), q13.1.Seq.Cols, q13.1.Seq.Rows)) (
 some (q13.1.HasSeq, q13.1.HasPar, q13.1.HasRef, q13.1.Seq.Level, q13.1.Seq.Bits, q13.1.Par.Qp, q13.1.Par.Large, q13.1.Par.Exact, q13.1.Par.Confined, q13.1.Frame, q13.1.Got, q13.1.Now.Wide, q13.1.Now.High, q13.1.Now.Dots, q13.1.Ref.Wide, q13.1.Ref.High, q13.1.Ref.Dots, v6.2.2.2.2.2.2.2.2.2.2.2.2.2.2.2.2.2.2.1, (v6.2.2.2.2.2.2.2.2.2.2.2.2.2.2.2.2.2.2.2.1 ++ ([q13.2.1])), q13.1.Seq.Cols, q13.1.Seq.Rows))) fun v12 =>
 some (.go (Xaa .i64 (v6.1 + 1), v12.1, v12.2.1, v12.2.2.1, v12.2.2.2.1, v12.2.2.2.2.1, v12.2.2.2.2.2.1, v12.2.2.2.2.2.2.1, v12.2.2.2.2.2.2.2.1, v12.2.2.2.2.2.2.2.2.1, v12.2.2.2.2.2.2.2.2.2.1, v12.2.2.2.2.2.2.2.2.2.2.1, v12.2.2.2.2.2.2.2.2.2.2.2.1, v12.2.2.2.2.2.2.2.2.2.2.2.2.1, v12.2.2.2.2.2.2.2.2.2.2.2.2.2.1, v12.2.2.2.2.2.2.2.2.2.2.2.2.2.2.1, v12.2.2.2.2.2.2.2.2.2.2.2.2.2.2.2.1, v12.2.2.2.2.2.2.2.2.2.2.2.2.2.2.2.2.1, v12.2.2.2.2.2.2.2.2.2.2.2.2.2.2.2.2.2.1, v12.2.2.2.2.2.2.2.2.2.2.2.2.2.2.2.2.2.2.1, v12.2.2.2.2.2.2.2.2.2.2.2.2.2.2.2.2.2.2.2.1, v12.2.2.2.2.2.2.2.2.2.2.2.2.2.2.2.2.2.2.2.2))) (
 some (.done (v6.2.1, v6.2.2.1, v6.2.2.2.1, v6.2.2.2.2.1, v6.2.2.2.2.2.1, v6.2.2.2.2.2.2.1, v6.2.2.2.2.2.2.2.1, v6.2.2.2.2.2.2.2.2.1, v6.2.2.2.2.2.2.2.2.2.1, v6.2.2.2.2.2.2.2.2.2.2.1, v6.2.2.2.2.2.2.2.2.2.2.2.1, v6.2.2.2.2.2.2.2.2.2.2.2.2.1, v6.2.2.2.2.2.2.2.2.2.2.2.2.2.1, v6.2.2.2.2.2.2.2.2.2.2.2.2.2.2.1, v6.2.2.2.2.2.2.2.2.2.2.2.2.2.2.2.1, v6.2.2.2.2.2.2.2.2.2.2.2.2.2.2.2.2.1, v6.2.2.2.2.2.2.2.2.2.2.2.2.2.2.2.2.2.1, v6.2.2.2.2.2.2.2.2.2.2.2.2.2.2.2.2.2.2.1, v6.2.2.2.2.2.2.2.2.2.2.2.2.2.2.2.2.2.2.2.1, v6.2.2.2.2.2.2.2.2.2.2.2.2.2.2.2.2.2.2.2.2.1, v6.2.2.2.2.2.2.2.2.2.2.2.2.2.2.2.2.2.2.2.2.2)))
def Xwh (p0 : Xak) (p1 : (List ByteArray)) : Option (Xak × (List Pic) × (List Int)) :=
 bnd (Xdd p0) fun q1 =>
 sel (decide ((p1.length : Int) > 400)) (
 some (q1, ([] : List Pic), ([] : List Int))) (
 bnd (loop (Xjp p1) (0, q1.HasSeq, q1.HasPar, q1.HasRef, q1.Seq.Level, q1.Seq.Bits, q1.Par.Qp, q1.Par.Large, q1.Par.Exact, q1.Par.Confined, q1.Frame, q1.Got, q1.Now.Wide, q1.Now.High, q1.Now.Dots, q1.Ref.Wide, q1.Ref.High, q1.Ref.Dots, ([] : List Pic), ([] : List Int), q1.Seq.Cols, q1.Seq.Rows)) fun v11 =>
 some ((⟨v11.1, v11.2.1, v11.2.2.1, (⟨v11.2.2.2.1, v11.2.2.2.2.1, v11.2.2.2.2.2.2.2.2.2.2.2.2.2.2.2.2.2.2.2.1, v11.2.2.2.2.2.2.2.2.2.2.2.2.2.2.2.2.2.2.2.2⟩ : Seq), (⟨v11.2.2.2.2.2.1, v11.2.2.2.2.2.2.1, v11.2.2.2.2.2.2.2.1, v11.2.2.2.2.2.2.2.2.1⟩ : Par), v11.2.2.2.2.2.2.2.2.2.1, v11.2.2.2.2.2.2.2.2.2.2.1, (⟨v11.2.2.2.2.2.2.2.2.2.2.2.1, v11.2.2.2.2.2.2.2.2.2.2.2.2.1, v11.2.2.2.2.2.2.2.2.2.2.2.2.2.1⟩ : Pic), (⟨v11.2.2.2.2.2.2.2.2.2.2.2.2.2.2.1, v11.2.2.2.2.2.2.2.2.2.2.2.2.2.2.2.1, v11.2.2.2.2.2.2.2.2.2.2.2.2.2.2.2.2.1⟩ : Pic)⟩ : Xak), v11.2.2.2.2.2.2.2.2.2.2.2.2.2.2.2.2.2.1, v11.2.2.2.2.2.2.2.2.2.2.2.2.2.2.2.2.2.2.1))
end
theorem Xab {α β : Type} (a : α) (f : α → Option β) : bnd (some a) f = f a := rfl
theorem Xey {α β : Type} {x : Option α} {a : α} {f : α → Option β} (h : x = some a) : bnd x f = f a := by subst h; rfl
theorem Xav {β : Type} (x y : β) : sel true x y = x := rfl
theorem Xam {β : Type} (x y : β) : sel false x y = y := rfl
theorem Ypz {β : Type} (b : Bool) (x y : β) : sel (!b) x y = sel b y x := by cases b <;> rfl
theorem Xee (b x : Bool) : sel b (some x) (some false) = some (b && x) := by cases b <;> rfl
theorem Ycz (b x : Bool) : sel b (some true) (some x) = some (b || x) := by cases b <;> rfl
theorem Yp0 (b x : Bool) : sel b (some x) (some true) = some (!b || x) := by cases b <;> rfl
theorem Yyl {β : Type} (b : Bool) (x y : β) : sel b (some x) (some y) = some (sel b x y) := by cases b <;> rfl
theorem Ypy {β : Type} (b : Bool) (x y : β) : sel b x y = if b = true then x else y := by cases b <;> rfl
theorem Ypx {β : Type} (p : Prop) [Decidable p] (x y : β) : sel (decide p) x y = if p then x else y := by
 by_cases h : p <;> simp [h, sel]
theorem Xbl {β : Type} {b : Bool} {x y : β} (h : b = true) : sel b x y = x := by subst h; rfl
theorem Xbc {β : Type} {b : Bool} {x y : β} (h : b = false) : sel b x y = y := by subst h; rfl
theorem Xbm {β : Type} {p : Prop} [Decidable p] {x y : β} (h : p) : sel (decide p) x y = x := by simp [h, sel]
theorem Xax {β : Type} {p : Prop} [Decidable p] {x y : β} (h : ¬ p) : sel (decide p) x y = y := by simp [h, sel]
theorem Xa6 {β : Type} {c : Prop} [Decidable c] {k : Option β} (h : c) : req c k = k := if_pos h
theorem wk {e : Int} (h1 : -9223372036854775808 ≤ e) (h2 : e ≤ 9223372036854775807) : Xaa .i64 e = e := by
 show wrap64 e = e
 unfold wrap64; omega
theorem rqA {β : Type} {c : Prop} [Decidable c] {k : Option β} (h : c := by omega) : req c k = k := Xa6 h
theorem syA {β : Type} {c : Prop} [Decidable c] {x y : β} (h : c := by omega) : sel (decide c) x y = x := Xbm h
theorem snA {β : Type} {c : Prop} [Decidable c] {x y : β} (h : ¬ c := by omega) : sel (decide c) x y = y := Xax h
theorem wkA {e : Int} (h1 : -9223372036854775808 ≤ e := by omega) (h2 : e ≤ 9223372036854775807 := by omega) : Xaa .i64 e = e := wk h1 h2
theorem w8 {e : Int} (h1 : 0 ≤ e) (h2 : e ≤ 255) : Xaa .u8 e = e := by
 show IntKind.wrap .u8 e = e
 simp [IntKind.wrap, IntKind.signed, IntKind.bits]; omega
theorem Yxz : maxLen = 9223372036854775807 := rfl
theorem Xbs {a b : Int} (h : 0 ≤ a) : Int.tmod a b = a % b := Int.tmod_eq_emod_of_nonneg h
theorem Xbr {a b : Int} (h : 0 ≤ a) : Int.tdiv a b = a / b := Int.tdiv_eq_ediv_of_nonneg h
theorem Xhn {P : Nat → Prop} (n : Nat) (h0 : P n) (hs : ∀ i, i < n → P (i + 1) → P i) : ∀ i, i ≤ n → P i := by
 intro i hi
 obtain ⟨k, rfl⟩ : ∃ k, n = i + k := ⟨n - i, by omega⟩
 clear hi
 induction k generalizing i with
 | zero => exact h0
 | succ k ih =>
  refine hs i (by omega) ?_
  exact ih (i + 1) (by rw [show i + 1 + k = i + (k + 1) by omega]; exact h0) (fun j hj => hs j (by omega))
theorem lgo {V O : Type} {f : V → Option (Lp V O)} {x y : V} {r : Option O} (h : f x = some (.go y)) (k : loop f y = r) : loop f x = r := by rw [Xho h]; exact k
theorem Xcn {V O : Type} {f : V → Option (Lp V O)} {x : V} {o : O} (h : f x = some (.done o)) : loop f x = some o := Xco h
theorem Xua {V O : Type} {f : V → Option (Lp V O)} (I : V → Prop) (m : V → Nat) (Q : V → O → Prop) (h : ∀ v, I v → (∃ o, f v = some (.done o) ∧ Q v o) ∨ ∃ v', f v = some (.go v') ∧ I v' ∧ m v' < m v ∧ ∀ o, Q v' o → Q v o) : ∀ v, I v → ∃ o, loop f v = some o ∧ Q v o := by
 intro v
 generalize hn : m v = n
 induction n using Nat.strongRecOn generalizing v with
 | _ n ih =>
  intro hv
  rcases h v hv with ⟨o, h1, h2⟩ | ⟨v', h1, h2, h3, h4⟩
  ·
   exact ⟨o, Xco h1, h2⟩
  ·
   obtain ⟨o, h5, h6⟩ := ih (m v') (by omega) v' rfl h2
   exact ⟨o, by rw [Xho h1]; exact h5, h4 o h6⟩
theorem Xb4 {α : Type} (l : List α) (i : Nat) (h : i < l.length) (d : α) : l.getD i d = l[i] := by
 simp [List.getD_eq_getElem?_getD, List.getElem?_eq_getElem h]
theorem Xaj (a b c : Int) : Xau a b c = some (decide (b ≤ a ∧ a ≤ c)) := by
 unfold Xau
 by_cases h : b ≤ a <;> simp [bnd, sel, h]
theorem Xai (a b c : Int) : Xaw a b c = some (decide (b ≤ a ∧ a ≤ c)) := by
 unfold Xaw
 by_cases h : b ≤ a <;> simp [bnd, sel, h]
theorem Ytz {α : Type} (a : List α) (x y : α) (b : List α) : (a ++ x :: b).set a.length y = a ++ y :: b := by
 induction a with
 | nil => rfl
 | cons z a ih => simp only [List.cons_append, List.length_cons, List.set_cons_succ, ih]
theorem Xn9 {α : Type} (a : List α) (x d : α) (b : List α) : (a ++ x :: b).getD a.length d = x := by
 induction a with
 | nil => rfl
 | cons z a ih => simp
theorem Xtb {f : Int → Option (Lp Int (Ou Unit Bool))} (n : Nat) (h : ∀ i : Nat, i < n → f i = some (.go ((i + 1 : Nat) : Int))) (h0 : f n = some (.done (.out ()))) : loop f 0 = some (.out ()) :=
 Xhn (P := fun i => loop f (i : Int) = some (.out ())) n (Xco h0) (fun i hi ih => by rw [Xho (h i hi)]; exact ih) 0 (by omega)
theorem Yoi (y : Int) : 0 ≤ IntKind.wrap .i64 (BitVec.ofInt (IntKind.bits .i64) y &&& BitVec.ofInt (IntKind.bits .i64) 255).toNat ∧ IntKind.wrap .i64 (BitVec.ofInt (IntKind.bits .i64) y &&& BitVec.ofInt (IntKind.bits .i64) 255).toNat ≤ 255 := by
 have h : (BitVec.ofInt (IntKind.bits .i64) y &&& BitVec.ofInt (IntKind.bits .i64) 255).toNat ≤ 255 := by
  rw [BitVec.toNat_and]
  exact Nat.le_trans Nat.and_le_right (by decide)
 generalize (BitVec.ofInt (IntKind.bits .i64) y &&& BitVec.ofInt (IntKind.bits .i64) 255).toNat = n at h ⊢
 rw [← Xuo, wkA]
 omega
def Xht (c : Xa7) : Prop := c.b_.length ≤ 1048576 ∧ 0 ≤ c.i_
theorem Xv0 (b : List Int) (hb : b.length ≤ 1048576) : ∃ c, Xmm b = some c ∧ Xht c := by
 unfold Xmm
 obtain ⟨o, h, _⟩ := Xua (f := Xm1 b) (fun v => 0 ≤ v.2) (fun v => b.length - v.2.toNat) (fun _ _ => True) (by
  intro ⟨h, i⟩ hi
  unfold Xm1
  simp only [Xee, Xab] at hi ⊢
  by_cases h1 : i < b.length ∧ i < 4000
  ·
   rw [Xbl (by simp; exact h1), Xa6 ⟨hi, h1.1⟩]
   refine .inr ⟨_, rfl, ?_, ?_, fun _ _ => trivial⟩
   ·
    simp only; rw [wkA]; omega
   ·
    simp only; rw [wkA]; omega
  ·
   rw [Xbc (by simp; omega)]
   exact .inl ⟨_, rfl, trivial⟩) (Xaa .i64 (94701 + (b.length : Int)), 0) (by simp)
 rw [h]
 exact ⟨_, rfl, hb, by simp⟩
theorem Xii (c : Xa7) (hc : Xht c) : ∃ x c', Xek c = some (x, c') ∧ 0 ≤ x ∧ x ≤ 255 ∧ Xht c' := by
 unfold Xek
 rw [Xa6 (by decide), Xa6 (by decide)]
 obtain ⟨h1, h2⟩ := hc
 by_cases h : c.i_ < c.b_.length
 ·
  rw [Xbm h, Xa6 ⟨h2, h⟩, Xab]
  refine ⟨_, _, rfl, (Yoi _).1, (Yoi _).2, h1, ?_⟩
  simp only; rw [wkA]; omega
 ·
  rw [Xax h, Xab]
  exact ⟨_, _, rfl, (Yoi _).1, (Yoi _).2, h1, h2⟩
theorem Xa3 (c : Xa7) (n : Int) (hc : Xht c) : ∃ x c', Xay c n = some (x, c') ∧ 0 ≤ x ∧ (0 < n → x < n) ∧ (n ≤ 0 → x = 0) ∧ Xht c' := by
 unfold Xay
 by_cases h0 : n ≤ 0
 ·
  rw [Xbm h0]; exact ⟨_, _, rfl, by omega, fun h => by omega, fun _ => rfl, hc⟩
 ·
  rw [Xax h0]
  obtain ⟨x, c1, e1, a1, b1, hc1⟩ := Xii c hc
  by_cases h1 : n ≤ 256
  ·
   rw [Xbm h1, e1, Xab, rqA]
   refine ⟨_, _, rfl, ?_, fun _ => ?_, fun h => by omega, hc1⟩
   ·
    simp only; rw [Xbs a1]; exact Int.emod_nonneg _ (by omega)
   ·
    simp only; rw [Xbs a1]; exact Int.emod_lt_of_pos _ (by omega)
  ·
   obtain ⟨y, c2, e2, a2, b2, hc2⟩ := Xii c1 hc1
   obtain ⟨z, c3, e3, a3, b3, hc3⟩ := Xii c2 hc2
   obtain ⟨u, c4, e4, a4, b4, hc4⟩ := Xii c3 hc3
   rw [Xax h1, e1, Xab]
   simp only
   rw [e2, Xab]
   simp only
   rw [e3, Xab]
   simp only
   rw [e4, Xab, rqA]
   simp only
   rw [wkA (e := x * 16777216), wkA (e := y * 65536), wkA (e := z * 256), wkA (e := x * 16777216 + y * 65536), wkA (e := x * 16777216 + y * 65536 + z * 256), wkA, Xbs (by omega)]
   exact ⟨_, _, rfl, Int.emod_nonneg _ (by omega), fun _ => Int.emod_lt_of_pos _ (by omega), fun h => by omega, hc4⟩
theorem Xdc (c : Xa7) (n : Int) (hc : Xht c) : ∃ x c', Xbt c n = some (x, c') ∧ Xht c' := by
 unfold Xbt
 obtain ⟨x, c', e, _, _, _, h⟩ := Xa3 c n hc
 rw [e, Xab]; exact ⟨_, _, rfl, h⟩
theorem Yto (l : List Int) : Yf6 l = some (decide ((l.length : Int) > 1048576)) := rfl
theorem Xy8 (b : List Int) (hb : b.length ≤ 1048576) : ∃ l, Xia b = some l ∧ l.length = 12 ∧ ∀ x ∈ l, 0 ≤ x ∧ x < 10000 := by
 unfold Xia
 obtain ⟨c, e, hc⟩ := Xv0 b hb
 obtain ⟨x, c1, e1, _, _, hc1⟩ := Xii c hc
 rw [e, Xab, e1, Xab]
 obtain ⟨o, h, h2⟩ := Xua (f := Xhq) (fun v => 0 ≤ v.1 ∧ v.1 ≤ 12 ∧ Xht ⟨v.2.1, v.2.2.1, v.2.2.2.1⟩ ∧ (v.2.2.2.2.length : Int) = v.1 ∧ ∀ x ∈ v.2.2.2.2, 0 ≤ x ∧ x < 10000) (fun v => 12 - v.1.toNat) (fun _ o => o.length = 12 ∧ ∀ x ∈ o, 0 ≤ x ∧ x < 10000) (by
  intro ⟨i, b, j, h, l⟩ ⟨h1, h2, h3, h4, h5⟩
  unfold Xhq
  simp only at h1 h2 h3 h4 h5 ⊢
  by_cases hi : i < 12
  ·
   obtain ⟨x, c', ex, x0, x1, _, hx⟩ := Xa3 _ 10000 h3
   rw [Xbm hi, ex, Xab, Xa6 (by rw [Yxz]; simp only [List.length_singleton]; omega)]
   refine .inr ⟨_, rfl, ?_, ?_, fun _ h => h⟩
   ·
    rw [wkA]
    refine ⟨by omega, by omega, hx, by simp; omega, ?_⟩
    intro y hy
    rcases List.mem_append.1 hy with hy | hy
    ·
     exact h5 y hy
    ·
     rw [List.mem_singleton.1 hy]; exact ⟨x0, x1 (by omega)⟩
   ·
    rw [wkA]; omega
  ·
   rw [Xax hi]
   exact .inl ⟨_, rfl, by omega, h5⟩) (0, c1.b_, c1.i_, c1.h_, []) ⟨by simp, by simp, hc1, by simp, by simp⟩
 rw [h]
 exact ⟨_, rfl, h2⟩
def Xds (n a b : Int) : Int := if b < a ∨ n < a then a else if n > b then b else n
theorem Xla (n a b : Int) : Xe7 n a b = some (Xds n a b) := by
 unfold Xe7 Xds
 congr 1
 repeat' split
 all_goals omega
theorem Xok {n a b : Int} (h : a ≤ b) : a ≤ Xds n a b ∧ Xds n a b ≤ b := by
 unfold Xds
 repeat' split
 all_goals omega
theorem Xf8 (n a b : Int) : Xfk n a b = some (Xds n a b) := by
 unfold Xfk Xds
 rw [Ycz, Xab]
 by_cases h : b < a ∨ n < a
 ·
  rw [if_pos h, Xbl (by simpa using h)]
 ·
  rw [if_neg h, Xbc (by simp; omega), Ypx]; split <;> rfl
theorem Zbr {α : Type} (l : List α) (k : Nat) : (l.drop k).take (l.length - k) = l.drop k := List.take_of_length_le (by rw [List.length_drop]; omega)
def Xfj (n : Int) : Bool := decide (1 ≤ n ∧ n ≤ 8)
def Xl5 : List Int → Int
 | [] => 0
 | x :: r => x + Xl5 r
def Xeu (l : List Int) : Bool := decide (1 ≤ l.length ∧ l.length ≤ 4) && l.all Xfj
def Yb8 (l : List Int) : Int := if Xeu l = true then Xl5 l else 0
theorem Xrp : ∀ {l : List Int}, l.all Xfj = true → (l.length : Int) ≤ Xl5 l ∧ Xl5 l ≤ 8 * l.length
 | [], _ => by simp [Xl5]
 | x :: r, h => by
  rw [List.all_cons, Bool.and_eq_true] at h
  have := Xrp h.2
  have hx := h.1
  unfold Xfj at hx
  simp only [decide_eq_true_eq] at hx
  rw [Xl5, List.length_cons]
  omega
theorem Yc1 (l : List Int) : 0 ≤ Yb8 l ∧ Yb8 l ≤ 32 := by
 unfold Yb8
 split
 ·
  rename_i h
  unfold Xeu at h
  rw [Bool.and_eq_true, decide_eq_true_eq] at h
  have := Xrp h.2
  omega
 ·
  omega
theorem Xm5 (l : List Int) : Xio l = some (Yb8 l) := by
 unfold Xio Yb8 Xeu
 rw [Ycz, Xab]
 by_cases h : 1 ≤ l.length ∧ l.length ≤ 4
 ·
  rw [Xbc (by simp; omega), decide_eq_true h, Bool.true_and]
  have key : ∀ (r a : List Int) (t : Int), l = a ++ r → 0 ≤ t → t ≤ 8 * a.length → loop (Xhi l) (t, (a.length : Int)) = some (if r.all Xfj = true then .out (t + Xl5 r) else .ret 0) := by
   intro r
   induction r with
   | nil =>
    intro a t ha h0 h1
    rw [List.append_nil] at ha
    refine Xcn ?_
    unfold Xhi
    simp only
    rw [Xax (by rw [ha]; omega)]
    simp [Xl5]
   | cons x r ih =>
    intro a t ha h0 h1
    have hlen : a.length < l.length := by rw [ha]; simp
    have hx : l.getD a.length 0 = x := by rw [ha]; exact Xn9 a x _ r
    have hstep : Xhi l (t, (a.length : Int)) = sel (Xfj x) (some (.go (Xaa .i64 (t + x), ((a.length + 1 : Nat) : Int)))) (some (.done (.ret 0))) := by
     unfold Xhi
     simp only [Int.toNat_natCast, hx]
     rw [syA, rqA, Xai, Xab, Ypz, rqA, wkA (e := (a.length : Int) + 1)]
     rfl
    cases e : Xfj x with
    | true =>
     rw [e] at hstep
     have hx2 := e
     unfold Xfj at hx2
     simp only [decide_eq_true_eq] at hx2
     rw [wkA, Xav] at hstep
     have := ih (a ++ [x]) (t + x) (by rw [ha]; simp) (by omega) (by simp; omega)
     rw [List.length_append, List.length_singleton] at this
     rw [Xho hstep, this, List.all_cons, e, Bool.true_and, Xl5, Int.add_assoc]
    | false =>
     rw [e, Xam] at hstep
     rw [Xco hstep, List.all_cons, e, Bool.false_and]; rfl
  have := key l [] 0 rfl (by omega) (by simp)
  simp only [List.length_nil, Int.zero_add] at this
  rw [show (((0 : Int), (0 : Int))) = (0, ((0 : Nat) : Int)) from rfl, this, Xab]
  cases l.all Xfj <;> rfl
 ·
  rw [Xbl (by simp; omega), decide_eq_false h, Bool.false_and]; rfl
theorem Xoc (l : List Int) (h : Xeu l = true) : Xcx l = some (Xl5 l) := by
 unfold Xeu at h
 rw [Bool.and_eq_true, decide_eq_true_eq] at h
 unfold Xcx
 have key : ∀ (r a : List Int) (t : Int), l = a ++ r → 0 ≤ t → t ≤ 8 * a.length → loop (Xed l) (t, (a.length : Int)) = some (t + Xl5 r) := by
  intro r
  induction r with
  | nil =>
   intro a t ha h0 h1
   rw [List.append_nil] at ha
   refine Xcn ?_
   unfold Xed
   simp only
   rw [Xax (by rw [ha]; omega)]
   simp [Xl5]
  | cons x r ih =>
   intro a t ha h0 h1
   have hlen : a.length < l.length := by rw [ha]; simp
   have hx : l.getD a.length 0 = x := by rw [ha]; exact Xn9 a x _ r
   have e : Xfj x = true := List.all_eq_true.1 h.2 x (by rw [ha]; simp)
   unfold Xfj at e
   simp only [decide_eq_true_eq] at e
   have := ih (a ++ [x]) (t + x) (by rw [ha]; simp) (by omega) (by simp; omega)
   rw [List.length_append, List.length_singleton] at this
   rw [Xl5, ← Int.add_assoc, ← this]
   refine Xho ?_
   unfold Xed
   simp only [Int.toNat_natCast, hx]
   rw [syA, rqA, wkA (e := (a.length : Int) + 1), wkA]
   rfl
 have := key l [] 0 rfl (by omega) (by simp)
 simp only [List.length_nil, Int.zero_add] at this
 rw [show (((0 : Int), (0 : Int))) = (0, ((0 : Nat) : Int)) from rfl, this, Xab]
def Xpg (s : Seq) : Int := Yb8 s.Cols * Yb8 s.Rows
theorem Xv7 (s : Seq) : 0 ≤ Xpg s ∧ Xpg s ≤ 1024 := by
 unfold Xpg
 have h1 := Yc1 s.Cols
 have h2 := Yc1 s.Rows
 refine ⟨Int.mul_nonneg h1.1 h2.1, ?_⟩
 calc Yb8 s.Cols * Yb8 s.Rows ≤ 32 * Yb8 s.Rows := Int.mul_le_mul_of_nonneg_right h1.2 h2.1
  _ ≤ 1024 := by omega
theorem Ybm (s : Seq) : Xjz s = some (Xpg s) := by
 have h := Xv7 s
 unfold Xjz
 rw [Xm5, Xab, Xm5, Xab, wk (by show _ ≤ Xpg s; omega) (by show Xpg s ≤ _; omega)]
 rfl
theorem Ywk (s : Seq) (n : Nat) (hn : n = 0 ∨ n = 1) (l : List Int) (hl : ([s.Cols, s.Rows]).getD n Xms = l) (h4 : l.length ≤ 4) : loop (Xc6 s (n : Int)) 0 = some (if l.all Xfj = true then .out () else .ret 0) := by
 have key : ∀ (r a : List Int), l = a ++ r → loop (Xc6 s (n : Int)) (a.length : Int) = some (if r.all Xfj = true then .out () else .ret 0) := by
  intro r
  induction r with
  | nil =>
   intro a ha
   rw [List.append_nil] at ha
   refine Xcn ?_
   unfold Xc6
   rw [Int.toNat_natCast, hl, Xax (by rw [ha]; omega)]; rfl
  | cons x r ih =>
   intro a ha
   have hlen : a.length < l.length := by rw [ha]; simp
   have hx : l.getD a.length 0 = x := by rw [ha]; exact Xn9 a x _ r
   have hstep : Xc6 s (n : Int) (a.length : Int) = sel (Xfj x) (some (.go ((a.length + 1 : Nat) : Int))) (some (.done (.ret 0))) := by
    unfold Xc6
    simp only [Int.toNat_natCast, hl, hx]
    rw [syA, rqA, Xaj, Xab, Ypz, wkA]
    rfl
   cases e : Xfj x with
   | true =>
    rw [e, Xav] at hstep
    have := ih (a ++ [x]) (by rw [ha]; simp)
    rw [List.length_append, List.length_singleton] at this
    rw [Xho hstep, this, List.all_cons, e, Bool.true_and]
   | false => rw [e, Xam] at hstep; rw [Xco hstep, List.all_cons, e, Bool.false_and]; rfl
 exact key l [] rfl
theorem Yar (s : Seq) (h1 : s.Cols.length ≤ maxLen) (h2 : s.Rows.length ≤ maxLen) : Xjt s = some (Xpg s) := by
 have h := Xv7 s
 unfold Xjt
 have step : ∀ (n : Nat) (l : List Int), n = 0 ∨ n = 1 → ([s.Cols, s.Rows]).getD n Xms = l → Xd5 s (n : Int) = sel (Xeu l) (some (.go ((n + 1 : Nat) : Int))) (some (.done (.ret 0))) := by
  intro n l hn hl
  unfold Xd5 Xeu
  rw [Int.toNat_natCast, hl]
  simp only [List.length_cons, List.length_nil]
  rw [syA, rqA, rqA, Xaj, Xab, Ypz]
  by_cases h4 : 1 ≤ l.length ∧ l.length ≤ 4
  ·
   rw [syA, Ywk s n hn l hl h4.2, Xab, decide_eq_true h4, Bool.true_and, wkA]
   cases l.all Xfj <;> rfl
  ·
   rw [snA, decide_eq_false h4, Bool.false_and, Xam]
 have s0 := step 0 s.Cols (.inl rfl) rfl
 have s1 := step 1 s.Rows (.inr rfl) rfl
 have s2 : Xd5 s ((2 : Nat) : Int) = some (.done (.out ())) := by unfold Xd5; rw [Xax (by simp)]
 rw [show (0 : Int) = ((0 : Nat) : Int) from rfl]
 unfold Xpg at h ⊢
 unfold Yb8 at h ⊢
 cases e0 : Xeu s.Cols with
 | false => rw [e0, Xam] at s0; rw [Xco s0, Xab]; simp
 | true =>
  rw [e0, Xav] at s0
  rw [Xho s0]
  cases e1 : Xeu s.Rows with
  | false => rw [e1, Xam] at s1; rw [Xco s1, Xab]; simp
  | true =>
   rw [e1, Xav] at s1
   rw [Xho s1, Xco s2, Xab]
   simp only
   rw [e0, e1, if_pos rfl, if_pos rfl] at h
   rw [Xoc _ e0, Xab, Xoc _ e1, Xab, wkA]
   simp
def Xku (n : Int) : Int := if n = 1 then 16 else if n = 2 then 64 else if n = 3 then 256 else 0
theorem Xu3 (n : Int) : Xgb n = some (Xku n) := by
 unfold Xgb Xku
 simp only [Ypy, beq_iff_eq]
 repeat' split
 all_goals rfl
theorem Xur (n : Int) : Xf3 n = some (Xku n) := by
 unfold Xf3 Xku
 rw [Xaj, Xab, Ypz]
 by_cases h : 1 ≤ n ∧ n ≤ 3
 ·
  rw [Xbm h, wkA, Xa6 (by simp only [List.length_cons, List.length_nil]; omega), Xa6 (by simp only [List.length_cons, List.length_nil]; omega)]
  rcases (show n = 1 ∨ n = 2 ∨ n = 3 by omega) with rfl | rfl | rfl <;> rfl
 ·
  rw [Xax h, if_neg (by omega), if_neg (by omega), if_neg (by omega)]
def Xf7 (s : Seq) : Bool := decide (1 ≤ Xpg s ∧ Xpg s ≤ Xku s.Level) && decide (3 ≤ s.Bits ∧ s.Bits ≤ 8)
theorem Xlv (s : Seq) : Xje s = some (Xf7 s) := by
 unfold Xje Xf7
 simp only [Ybm, Xu3, Xai, Xab, Xee]
theorem Xff (s : Seq) (h1 : s.Cols.length ≤ maxLen) (h2 : s.Rows.length ≤ maxLen) : Xhe s = some (Xf7 s) := by
 unfold Xhe Xf7
 simp only [Yar s h1 h2, Xur, Xaj, Xab, Xee]
theorem Xbf {s : Seq} (h : Xf7 s = true) : Xeu s.Cols = true ∧ Xeu s.Rows = true ∧ 3 ≤ s.Bits ∧ s.Bits ≤ 8 := by
 unfold Xf7 at h
 rw [Bool.and_eq_true, decide_eq_true_eq, decide_eq_true_eq] at h
 obtain ⟨⟨h1, _⟩, h3⟩ := h
 unfold Xpg Yb8 at h1
 refine ⟨?_, ?_, h3⟩
 ·
  refine Classical.byContradiction fun e => ?_
  rw [if_neg e, Int.zero_mul] at h1; omega
 ·
  refine Classical.byContradiction fun e => ?_
  rw [if_neg e, Int.mul_zero] at h1; omega
def Xbn (s : Seq) : Int := if Xf7 s = true then (s.Cols.length : Int) * s.Rows.length else 0
theorem Xbj {l : List Int} (h : Xeu l = true) : 1 ≤ l.length ∧ l.length ≤ 4 := by
 unfold Xeu at h; rw [Bool.and_eq_true, decide_eq_true_eq] at h; exact h.1
theorem Xxg {s : Seq} (h : Xf7 s = true) : 1 ≤ (s.Cols.length : Int) * s.Rows.length ∧ (s.Cols.length : Int) * s.Rows.length ≤ 16 := by
 obtain ⟨h1, h2, _⟩ := Xbf h
 have a := Xbj h1
 have b := Xbj h2
 have e : ∀ x y : Nat, 1 ≤ x → x ≤ 4 → 1 ≤ y → y ≤ 4 → 1 ≤ x * y ∧ x * y ≤ 16 := by
  intro x y h1 h2 h3 h4
  rcases (show x = 1 ∨ x = 2 ∨ x = 3 ∨ x = 4 by omega) with rfl | rfl | rfl | rfl <;> omega
 have := e _ _ a.1 a.2 b.1 b.2
 rw [← Int.natCast_mul]; omega
theorem Xex (s : Seq) : Xfm s = some (Xbn s) := by
 unfold Xfm Xbn
 rw [Xlv, Xab, Ypz]
 cases h : Xf7 s with
 | false => rfl
 | true => have := Xxg h; rw [Xav, wkA, if_pos rfl]
theorem Xhy (s : Seq) (h1 : s.Cols.length ≤ maxLen) (h2 : s.Rows.length ≤ maxLen) : Xgm s = some (Xbn s) := by
 unfold Xgm Xbn
 rw [Xff s h1 h2, Xab, Ypz]
 cases h : Xf7 s with
 | false => rfl
 | true => have := Xxg h; rw [Xav, wkA, if_pos rfl]
def Xh4 (s : Seq) : Int × Int := if Xf7 s = true then (8 * Xl5 s.Cols, 8 * Xl5 s.Rows) else (0, 0)
theorem Xs8 {l : List Int} (h : Xeu l = true) : 1 ≤ Xl5 l ∧ Xl5 l ≤ 32 := by
 unfold Xeu at h
 rw [Bool.and_eq_true, decide_eq_true_eq] at h
 have := Xrp h.2
 omega
theorem Xp7 (s : Seq) : Xif s = some (Xh4 s) := by
 unfold Xif Xh4
 rw [Xlv, Xab, Ypz]
 cases h : Xf7 s with
 | false => rfl
 | true =>
  obtain ⟨h1, h2, _⟩ := Xbf h
  have a := Xs8 h1
  have b := Xs8 h2
  rw [Xav, Xm5, Xab, Xm5, Xab, if_pos rfl]
  unfold Yb8
  rw [if_pos h1, if_pos h2, wkA, wkA]
theorem Xvf (s : Seq) (h1 : s.Cols.length ≤ maxLen) (h2 : s.Rows.length ≤ maxLen) : Xkh s = some (Xh4 s) := by
 unfold Xkh Xh4
 rw [Xff s h1 h2, Xab, Ypz]
 cases h : Xf7 s with
 | false => rfl
 | true =>
  obtain ⟨h1, h2, _⟩ := Xbf h
  have a := Xs8 h1
  have b := Xs8 h2
  rw [Xav, Xoc _ h1, Xab, Xoc _ h2, Xab, if_pos rfl, wkA, wkA]
def Xlo (p : Par) : Bool := decide (0 ≤ p.Qp ∧ p.Qp ≤ 40) && !(p.Large && p.Exact)
theorem Xog (p : Par) : Xkw p = some (Xlo p) := by
 unfold Xkw Xlo
 rw [Xai, Xab, Yp0, Xee, Xab]
 cases p.Large <;> cases p.Exact <;> rfl
theorem Xi2 (p : Par) : Xkp p = some (Xlo p) := by
 unfold Xkp Xlo
 rw [Xaj, Xab, Yp0, Xee, Xab]
 cases p.Large <;> cases p.Exact <;> rfl
def Xct (p : Pic) : Bool := decide (1 ≤ p.Wide ∧ p.Wide ≤ 256) && (decide (1 ≤ p.High ∧ p.High ≤ 256) && ((p.Dots.size : Int) == p.Wide * p.High))
theorem Xeo {w h : Int} (h1 : 1 ≤ w ∧ w ≤ 256) (h2 : 1 ≤ h ∧ h ≤ 256) : 1 ≤ w * h ∧ w * h ≤ 65536 := by
 have a : w * 1 ≤ w * h := Int.mul_le_mul_of_nonneg_left h2.1 (by omega)
 have b : w * h ≤ 256 * h := Int.mul_le_mul_of_nonneg_right h1.2 (by omega)
 omega
theorem Xgy (p : Pic) : Xhg p = some (Xct p) := by
 unfold Xhg Xct
 simp only [Xai, Xab, Xee]
 by_cases h1 : 1 ≤ p.Wide ∧ p.Wide ≤ 256
 ·
  by_cases h2 : 1 ≤ p.High ∧ p.High ≤ 256
  ·
   have := Xeo h1 h2
   rw [wkA]
  ·
   rw [decide_eq_false h2, Bool.false_and, Bool.false_and]
 ·
  rw [decide_eq_false h1, Bool.false_and, Bool.false_and]
theorem Xc5 (p : Pic) : Xd4 p = some (Xct p) := by
 unfold Xd4 Xct
 simp only [Xaj, Xab, Xee]
 by_cases h1 : 1 ≤ p.Wide ∧ p.Wide ≤ 256
 ·
  by_cases h2 : 1 ≤ p.High ∧ p.High ≤ 256
  ·
   have := Xeo h1 h2
   rw [wkA]
  ·
   rw [decide_eq_false h2, Bool.false_and, Bool.false_and]
 ·
  rw [decide_eq_false h1, Bool.false_and, Bool.false_and]
def Xi1 (p : Pic) (s : Seq) : Bool := Xct p && ((p.Wide == (Xh4 s).1) && (p.High == (Xh4 s).2))
theorem Yrl (p : Pic) (s : Seq) (h1 : s.Cols.length ≤ maxLen) (h2 : s.Rows.length ≤ maxLen) : Xqn p s = some (Xi1 p s) := by
 unfold Xqn Xi1
 simp only [Xvf s h1 h2, Xc5, Xab, Xee]
theorem Xbu (a b : List Int) : strOfNums a ++ strOfNums b = strOfNums (a ++ b) := by
 unfold strOfNums
 rw [List.map_append]
 apply ByteArray.ext
 simp
theorem Zcf : (⟨#[]⟩ : ByteArray) = strOfNums [] := rfl
def Yvu (l : List Int) : Prop := ∀ x ∈ l, 0 ≤ x ∧ x ≤ 255
theorem Ypm (l : List Int) (h : Yvu l) : Xa0 (strOfNums l) = l := by
 unfold Xa0
 rw [strOfNums_data, List.map_map]
 have : ∀ x ∈ l, ((fun b : UInt8 => (b.toNat : Int)) ∘ fun n : Int => UInt8.ofNat n.toNat) x = x := by
  intro x hx
  have := h x hx
  simp only [Function.comp_apply, UInt8.toNat_ofNat']
  omega
 rw [List.map_congr_left this, List.map_id']
theorem Xsw (l : List Int) (h : Yvu l) (i : Nat) (hi : i < l.length) : Xl2 (strOfNums l) (i : Int) = l.getD i 0 := by
 unfold Xl2
 rw [dif_pos (by rw [Int.toNat_natCast, strOfNums_size]; exact hi)]
 have hx := h l[i] (List.getElem_mem hi)
 rw [Xb4 l i hi]
 show ((((l.map fun n => UInt8.ofNat n.toNat).toArray)[(i : Int).toNat]'(by simpa using hi)).toNat : Int) = _
 simp only [Int.toNat_natCast, List.getElem_toArray, List.getElem_map, UInt8.toNat_ofNat']
 omega
def Xz5 : Nat → Int → List Int
 | 0, _ => []
 | w + 1, n => Xz5 w (n / 2) ++ [48 + n % 2]
theorem Xc4 : ∀ (w : Nat) (n : Int), (Xz5 w n).length = w
 | 0, _ => rfl
 | w + 1, n => by rw [Xz5, List.length_append, Xc4 w]; rfl
def Xe1 (l : List Int) : Prop := ∀ x ∈ l, x = 48 ∨ x = 49
theorem Xa9 {a b : List Int} (ha : Xe1 a) (hb : Xe1 b) : Xe1 (a ++ b) := fun x hx => (List.mem_append.1 hx).elim (ha x) (hb x)
theorem Xxp (n : Nat) : Xe1 (List.replicate n 48) := fun x hx => .inl (List.eq_of_mem_replicate hx)
theorem Xk8 {l : List Int} (h : Xe1 l) : Yvu l := fun x hx => by rcases h x hx with e | e <;> omega
theorem Xrb : Xe1 [] := fun x hx => by simp at hx
theorem Xxv : ∀ (w : Nat) (n : Int), Xe1 (Xz5 w n)
 | 0, _ => Xrb
 | w + 1, n => Xa9 (Xxv w (n / 2)) (fun x hx => by rw [List.mem_singleton.1 hx]; omega)
theorem Yzq : ∀ (k : Nat) (n : Int) (s : List Int), 0 ≤ n → n ≤ 9223372036854775807 → k + s.length ≤ 100000 → loop Xj1 (n, (k : Int) - 1, List.replicate k 0 ++ s) = some (Xz5 k n ++ s) := by
 intro k
 induction k with
 | zero =>
  intro n s h0 h1 hl
  refine Xcn ?_
  unfold Xj1
  simp only
  rw [snA]
  simp [Xz5]
 | succ k ih =>
  intro n s h0 h1 hl
  have e1 : List.replicate (k + 1) (0 : Int) ++ s = List.replicate k 0 ++ 0 :: s := by rw [List.replicate_succ', List.append_assoc]; rfl
  have e2 := Ytz (List.replicate k (0 : Int)) 0 (48 + n % 2) s
  rw [List.length_replicate] at e2
  refine lgo (y := (n / 2, (k : Int) - 1, List.replicate k 0 ++ (48 + n % 2) :: s)) ?_ ?_
  ·
   unfold Xj1
   have e3 : (((k + 1 : Nat) : Int) - 1).toNat = k := by omega
   simp only [e1, e3]
   rw [syA, Xa6 (by decide), Xa6 (by simp; omega), Xa6 (by simp), Xa6 (by decide), Xbs h0, Xbr h0, wkA (e := 48 + n % 2), w8 (by omega) (by omega), e2, wkA, wkA]
   rw [show ((k + 1 : Nat) : Int) - 1 - 1 = (k : Int) - 1 by omega]
  ·
   rw [ih (n / 2) ((48 + n % 2) :: s) (by omega) (by omega) (by simp; omega), Xz5, List.append_assoc]; rfl
theorem Xm3 (n : Int) (w : Nat) (h0 : 0 ≤ n) (h1 : n ≤ 9223372036854775807) (hw : w ≤ 1000) : Xik n (w : Int) = some (strOfNums (Xz5 w n)) := by
 unfold Xik
 rw [rqA, wkA, Int.toNat_natCast]
 have := Yzq w n [] h0 h1 (by simp; omega)
 rw [List.append_nil, List.append_nil] at this
 rw [this, Xab]
def Ykw (m : Nat) : Nat := if h : m = 0 then 0 else Ykw (m / 2) + 1
termination_by m
decreasing_by omega
def Ys0 (m : Nat) : List Int := if h : m = 0 then [] else Ys0 (m / 2) ++ [48 + ((m % 2 : Nat) : Int)]
termination_by m
decreasing_by omega
theorem Yon (m : Nat) : (Ys0 m).length = Ykw m := by
 induction m using Nat.strongRecOn with
 | _ m ih =>
  rw [Ys0, Ykw]
  by_cases h : m = 0
  ·
   rw [dif_pos h, dif_pos h]; rfl
  ·
   rw [dif_neg h, dif_neg h, List.length_append, ih (m / 2) (by omega)]; rfl
theorem Ytd {m j : Nat} (h : m < 2 ^ j) : Ykw m ≤ j := by
 induction j generalizing m with
 | zero => rw [Ykw, dif_pos (by simp at h; omega)]; omega
 | succ j ih =>
  rw [Ykw]
  split
  ·
   omega
  ·
   have := ih (m := m / 2) (by rw [Nat.pow_succ] at h; omega)
   omega
theorem You {m : Nat} (h : 0 < m) : 1 ≤ Ykw m := by rw [Ykw, dif_neg (by omega)]; omega
theorem Yzh (m : Nat) : Xe1 (Ys0 m) := by
 induction m using Nat.strongRecOn with
 | _ m ih =>
  rw [Ys0]
  by_cases h : m = 0
  ·
   rw [dif_pos h]; exact Xrb
  ·
   rw [dif_neg h]; exact Xa9 (ih (m / 2) (by omega)) (fun x hx => by rw [List.mem_singleton.1 hx]; omega)
def ueL (n : Nat) : List Int := List.replicate (Ykw (n + 1) - 1) 48 ++ Ys0 (n + 1)
theorem Xn1 (n : Nat) : Xe1 (ueL n) := Xa9 (Xxp _) (Yzh _)
theorem Xg2 (n : Nat) (h : n ≤ 1000000) : (ueL n).length ≤ 39 ∧ 1 ≤ (ueL n).length := by
 unfold ueL
 rw [List.length_append, List.length_replicate, Yon]
 have := Ytd (m := n + 1) (j := 20) (by omega)
 have := You (m := n + 1) (by omega)
 omega
theorem Xth (n : Nat) (x : Int) (h : n ≤ 1000000000) : Xkx (n : Int) x = some (strOfNums (List.replicate n x)) := by
 unfold Xkx
 rw [rqA, Int.toNat_natCast]
 have key : ∀ (k a : Nat), k + a = n → loop (Xij (n : Int) x) ((a : Int), List.replicate a x ++ List.replicate k 0) = some (List.replicate n x) := by
  intro k
  induction k with
  | zero =>
   intro a ha
   refine Xcn ?_
   unfold Xij
   simp only
   rw [snA]
   simp; omega
  | succ k ih =>
   intro a ha
   have e2 := Ytz (List.replicate a x) 0 x (List.replicate k 0)
   rw [List.length_replicate] at e2
   refine lgo (y := (((a + 1 : Nat) : Int), List.replicate (a + 1) x ++ List.replicate k 0)) ?_ (ih (a + 1) (by omega))
   unfold Xij
   simp only [List.replicate_succ (n := k), Int.toNat_natCast]
   rw [syA, Xa6 (by simp; omega), Xa6 (by simp), e2, wkA, List.replicate_succ' (n := a), List.append_assoc]
   rfl
 have := key n 0 rfl
 rw [List.replicate_zero, List.nil_append] at this
 exact Xey this
theorem Xeh (n : Nat) (h : n ≤ 1000000) : Xd6 (n : Int) = some (strOfNums (ueL n)) := by
 have main : ∀ (j m : Nat) (s : List Int), m < 2 ^ j → j ≤ 63 → s.length + j ≤ 1000 → loop Xjg ((m : Int), strOfNums s) = some (strOfNums (Ys0 m ++ s)) := by
  intro j
  induction j with
  | zero =>
   intro m s hm _ _
   have : m = 0 := by simp at hm; omega
   subst this
   refine Xcn ?_
   unfold Xjg
   simp only
   rw [snA, Ys0, dif_pos rfl]; rfl
  | succ j ih =>
   intro m s hm hj hl
   by_cases h : m = 0
   ·
    subst h
    refine Xcn ?_
    unfold Xjg
    simp only
    rw [snA, Ys0, dif_pos rfl]; rfl
   ·
    have hlt : (m : Int) < 2 ^ (j + 1) := by exact_mod_cast hm
    have hle : (2 : Int) ^ (j + 1) ≤ 2 ^ 63 := by
     have := Nat.pow_le_pow_right (n := 2) (by omega) hj
     exact_mod_cast this
    have hbd : (m : Int) < 9223372036854775808 := Int.lt_of_lt_of_le hlt (by simpa using hle)
    refine lgo (y := (((m / 2 : Nat) : Int), strOfNums ((48 + ((m % 2 : Nat) : Int)) :: s))) ?_ ?_
    ·
     unfold Xjg
     simp only
     rw [syA, Xa6 (by decide), Xbs (by omega), Xbr (by omega), wkA (e := 48 + (m : Int) % 2), w8 (by omega) (by omega), Xa6 (by simp only [strOfNums_size, List.length_singleton]; omega), Xa6 (by decide), wkA, Xbu]
     congr 3
    ·
     rw [ih (m / 2) _ (by rw [Nat.pow_succ] at hm; omega) (by omega) (by simp; omega)]
     conv => rhs; rw [Ys0, dif_neg h]
     rw [List.append_assoc]; rfl
 unfold Xd6
 have h1 := Ytd (m := n + 1) (j := 20) (by omega)
 have h2 := You (m := n + 1) (by omega)
 rw [wkA (e := (n : Int) + 1), Zcf, show (n : Int) + 1 = ((n + 1 : Nat) : Int) by omega, main 63 (n + 1) [] (by omega) (by omega) (by simp), Xab, List.append_nil, strOfNums_size, Yon, wkA, show (Ykw (n + 1) : Int) - 1 = ((Ykw (n + 1) - 1 : Nat) : Int) by omega, Xth _ _ (by omega), Xab,
  Xa6 (by simp only [strOfNums_size, List.length_replicate]; omega), Xbu]
 rfl
theorem Yzj (x : Int) (h : x = 48 ∨ x = 49) : ((x != 48) && (x != 49)) = false := by rcases h with rfl | rfl <;> rfl
theorem Yu7 (l : List Int) (hl : Xe1 l) (hn : l.length ≤ 9223372036854775806) (f : Int → Option (Lp Int (Ou Unit Bool)))
  (h : ∀ i : Nat, i < l.length → f (i : Int) = sel (((l.getD i 0) != 48) && ((l.getD i 0) != 49)) (some (.done (.ret false))) (some (.go ((i + 1 : Nat) : Int)))) (h0 : f (l.length : Int) = some (.done (.out ()))) : loop f 0 = some (.out ()) :=
 Xtb l.length (fun i hi => by rw [h i hi, Yzj _ (by rw [Xb4 l i hi]; exact hl _ (List.getElem_mem hi)), Xam]) h0
theorem Ymu (l : List Int) (hl : Xe1 l) (hn : l.length ≤ 9223372036854775806) : Xmn (strOfNums l) = some true := by
 unfold Xmn
 rw [Yu7 l hl hn (Xdp (strOfNums l)) (fun i hi => by
  unfold Xdp
  rw [strOfNums_size, Xsw l (Xk8 hl) i hi, syA, rqA, rqA, Xee, Xab, wkA]; rfl) (by
  unfold Xdp; rw [strOfNums_size, snA])]
 rfl
theorem Xzf (l : List Int) (hl : Xe1 l) (hn : l.length ≤ 400000) : Xhh (strOfNums l) = some true := by
 unfold Xhh
 rw [strOfNums_size, syA, Ymu l hl (by omega), Xab, Xab]
theorem Yo2 (l : List Int) (hl : Xe1 l) (hn : l.length ≤ 400000) : Xkq (strOfNums l) = some true := by
 unfold Xkq
 rw [strOfNums_size, snA, Yu7 l hl (by omega) (Xi3 (strOfNums l)) (fun i hi => by
  unfold Xi3
  rw [strOfNums_size, Xsw l (Xk8 hl) i hi, syA, rqA, rqA, Xee, Xab, wkA]; rfl) (by
  unfold Xi3; rw [strOfNums_size, snA])]
 rfl
def Xhs (l : List Int) : Int := l.foldl (fun x b => 2 * x + b - 48) 0
def Xqc : Nat → List Int → List Int
 | 0, _ => []
 | n + 1, l => Xhs (l.take 8) :: Xqc n (l.drop 8)
theorem Yaa : ∀ (n : Nat) (l : List Int), (Xqc n l).length = n
 | 0, _ => rfl
 | n + 1, l => by rw [Xqc, List.length_cons, Yaa n]
def Xqa (l : List Int) : List Int := Xqc (l.length / 8 + 1) (l ++ 49 :: List.replicate (8 * (l.length / 8 + 1) - l.length - 1) 48)
theorem Zcp (l : List Int) : ∀ x : Int, l.foldl (fun x b => 2 * x + b - 48) x = x * 2 ^ l.length + Xhs l := by
 induction l with
 | nil => intro x; simp [Xhs]
 | cons b l ih =>
  intro x
  unfold Xhs
  rw [List.foldl_cons, List.foldl_cons, ih, ih (2 * 0 + b - 48), List.length_cons, Int.pow_succ]
  have e1 : (2 * x + b - 48) * 2 ^ l.length = 2 * (x * 2 ^ l.length) + (b - 48) * 2 ^ l.length := by
   rw [show 2 * x + b - 48 = 2 * x + (b - 48) by omega, Int.add_mul, Int.mul_assoc]
  have e2 : x * (2 ^ l.length * 2) = 2 * (x * 2 ^ l.length) := by rw [← Int.mul_assoc, Int.mul_comm]
  rw [e1, e2, show (2 : Int) * 0 + b - 48 = b - 48 by omega]
  omega
theorem Xr3 (a b : List Int) : Xhs (a ++ b) = Xhs a * 2 ^ b.length + Xhs b := by
 show (a ++ b).foldl _ 0 = _
 rw [List.foldl_append]
 exact Zcp b (Xhs a)
theorem Zcr (z : Nat) : Xhs (List.replicate z 48) = 0 := by
 induction z with
 | zero => rfl
 | succ z ih => rw [List.replicate_succ', Xr3, ih]; rfl
theorem Xj5 {l : List Int} (h : Xe1 l) : 0 ≤ Xhs l ∧ Xhs l < 2 ^ l.length := by
 induction l with
 | nil => simp [Xhs]
 | cons b l ih =>
  have h1 := ih (fun x hx => h x (by simp [hx]))
  have h2 := h b (by simp)
  rw [show b :: l = [b] ++ l from rfl, Xr3, List.length_append, Int.pow_add, show Xhs [b] = b - 48 by simp [Xhs]]
  have : (2 : Int) ^ [b].length = 2 := rfl
  rw [this]
  rcases h2 with rfl | rfl <;> omega
theorem Yy0 (v : List Int) (i : Nat) (out : List Int) (c : List Int) (hc : (v.drop i).take 8 = c) (h8 : c.length = 8) (hb : Xe1 c) (hn : v.length ≤ 1000000) (hi : i + 8 ≤ v.length) : loop (Xeq v ((i : Int), out)) (0, 0) = some (Xhs c) := by
 have key : ∀ (r a : List Int), c = a ++ r → loop (Xeq v ((i : Int), out)) (Xhs a, (a.length : Int)) = some (Xhs c) := by
  intro r
  induction r with
  | nil =>
   intro a ha
   rw [List.append_nil] at ha
   refine Xcn ?_
   unfold Xeq
   simp only
   rw [Xax (by rw [← ha]; omega), ha]
  | cons x r ih =>
   intro a ha
   have hlen : a.length < 8 := by rw [← h8, ha]; simp
   have hx : v.getD (i + a.length) 0 = x := by
    have h1 : c.getD a.length 0 = x := by rw [ha]; exact Xn9 a x _ r
    rw [← h1, ← hc]
    rw [List.getD_eq_getElem?_getD, List.getD_eq_getElem?_getD, List.getElem?_take_of_lt hlen, List.getElem?_drop]
   have hab : Xe1 a := fun y hy => hb y (by rw [ha]; simp [hy])
   have hr := Xj5 hab
   have hp : (2 : Int) ^ a.length ≤ 2 ^ 8 := by
    have := Nat.pow_le_pow_right (n := 2) (by omega) (show a.length ≤ 8 by omega)
    exact_mod_cast this
   have h256 : (2 : Int) ^ 8 = 256 := by decide
   have hxb : x = 48 ∨ x = 49 := hb x (by rw [ha]; simp)
   have hnext := ih (a ++ [x]) (by rw [ha]; simp)
   rw [List.length_append, List.length_singleton] at hnext
   refine lgo (y := (Xhs (a ++ [x]), ((a.length + 1 : Nat) : Int))) ?_ hnext
   unfold Xeq
   simp only
   rw [syA, wkA (e := (i : Int) + a.length), rqA, rqA, show ((i : Int) + (a.length : Int)).toNat = i + a.length by omega, hx, wkA (e := (a.length : Int) + 1), wkA (e := x), wkA (e := 2 * Xhs a), wkA (e := 2 * Xhs a + x), wkA,
    Xr3, show Xhs [x] = x - 48 by simp [Xhs], show [x].length = 1 from rfl, Int.pow_one]
   congr 4
   omega
 have := key c [] rfl
 exact this
theorem Yvw (v : List Int) (hb : Xe1 v) (hn : v.length ≤ 1000000) : ∀ (m i : Nat) (out : List Int), i + 8 * m = v.length → out.length ≤ i → loop (Xge v) ((i : Int), out) = some (out ++ Xqc m (v.drop i)) := by
 have hm' : maxLen = 9223372036854775807 := rfl
 intro m
 induction m with
 | zero =>
  intro i out hi _
  refine Xcn ?_
  unfold Xge
  simp only
  rw [snA]; simp [Xqc]
 | succ m ih =>
  intro i out hi ho
  have hlen : ((v.drop i).take 8).length = 8 := by rw [List.length_take, List.length_drop]; omega
  have hcb : Xe1 ((v.drop i).take 8) := fun x hx => hb x (List.mem_of_mem_drop (List.mem_of_mem_take hx))
  have hr := Xj5 hcb
  rw [hlen, show (2 : Int) ^ 8 = 256 by decide] at hr
  refine lgo (y := (((i + 8 : Nat) : Int), out ++ [Xhs ((v.drop i).take 8)])) ?_ ?_
  ·
   unfold Xge
   simp only
   rw [syA, Yy0 v i out _ rfl hlen hcb hn (by omega), Xab, w8 (by omega) (by omega), Xa6 (by simp only [List.length_singleton]; omega), wkA]
   rfl
  ·
   rw [ih (i + 8) _ (by omega) (by simp; omega), Xqc, List.drop_drop, List.append_assoc]; rfl
theorem Ye1 (l : List Int) (hl : Xe1 l) (hn : l.length ≤ 400000) : Xlw (strOfNums l) = some (strOfNums (Xqa l)) := by
 have hm' : maxLen = 9223372036854775807 := rfl
 unfold Xlw
 rw [strOfNums_size, Ypm l (Xk8 hl), rqA, Xa6 (by simp only [List.length_singleton]; omega)]
 have key : ∀ (z : Nat) (s : List Int), s.length ≤ 500000 → z < 8 → (s.length + z) % 8 = 0 → loop Xg9 s = some (s ++ List.replicate z 48) := by
  intro z
  induction z with
  | zero =>
   intro s hs _ h8
   refine Xcn ?_
   unfold Xg9
   rw [Xa6 (by decide), Xbs (by omega), Xbc (by simp only [bne_eq_false_iff_eq]; omega)]; simp
  | succ z ih =>
   intro s hs hz h8
   refine lgo (y := s ++ [48]) ?_ ?_
   ·
    unfold Xg9
    rw [Xa6 (by decide), Xbs (by omega), Xbl (by simp only [bne_iff_ne, ne_eq]; omega), Xa6 (by simp only [List.length_singleton]; omega)]
   ·
    rw [ih (s ++ [48]) (by simp; omega) (by omega) (by simp; omega), List.append_assoc, List.replicate_succ]; rfl
 have hz : (l ++ [49] ++ List.replicate (8 * (l.length / 8 + 1) - l.length - 1) 48 : List Int).length = 8 * (l.length / 8 + 1) := by simp; omega
 have hvb : Xe1 (l ++ [49] ++ List.replicate (8 * (l.length / 8 + 1) - l.length - 1) 48) := Xa9 (Xa9 hl (fun x hx => .inr (List.mem_singleton.1 hx))) (Xxp _)
 rw [key (8 * (l.length / 8 + 1) - l.length - 1) (l ++ [49]) (by simp; omega) (by omega) (by simp; omega), Xab]
 have := Yvw _ hvb (by omega) (l.length / 8 + 1) 0 [] (by rw [hz]; omega) (by simp)
 rw [List.nil_append, List.drop_zero] at this
 rw [show (0 : Int) = ((0 : Nat) : Int) from rfl, this, Xab]
 unfold Xqa
 rw [List.append_assoc, List.singleton_append]
theorem Xka (l : List Int) : (Xqa l).length = l.length / 8 + 1 := Yaa _ _
def Xng (k : Int) : Bool := k == 1 || (k == 5 || (k == 7 || k == 8))
theorem Xvi (k : Int) : Xov k = some (Xng k) := by
 unfold Xov Xng
 simp only [Ycz, Xab]
theorem Xtq (k : Int) : Xk1 k = some (Xng k) := by
 unfold Xk1 Xng
 simp only [Ycz, Xab]
theorem Yib {k : Int} (h : Xng k = true) : 1 ≤ k ∧ k ≤ 8 := by
 unfold Xng at h
 simp only [Bool.or_eq_true, beq_iff_eq] at h
 omega
theorem Xp9 (k : Int) (l : List Int) (hk : Xng k = true) (hl : Xe1 l) (hn : l.length ≤ 400000) : Xkk k (strOfNums l) = some (strOfNums (k :: Xqa l), true) := by
 have := Yib hk
 have hp := Xka l
 unfold Xkk
 rw [Xtq, Xab, hk, Xav, Xzf l hl hn, Xab, Xab, Bool.not_true, Xam, Ye1 l hl hn, Xab, w8 (by omega) (by omega), Xa6 (by simp only [strOfNums_size, List.length_singleton]; omega), Xbu]; rfl
def Xp5 (b : Bool) : List Int := if b = true then [49] else [48]
theorem Yit (b : Bool) : Xe1 (Xp5 b) := by unfold Xp5; split <;> (intro x hx; rw [List.mem_singleton.1 hx]; simp)
theorem Xnk (b : Bool) : (Xp5 b).length = 1 := by unfold Xp5; split <;> rfl
theorem Xpa (b : Bool) : Xkz b = some (strOfNums (Xp5 b)) := by cases b <;> rfl
def Yd5 (p : Par) : List Int := Xz5 6 p.Qp ++ Xp5 p.Large ++ Xp5 p.Exact ++ Xp5 p.Confined
theorem Xyx (p : Par) : Xe1 (Yd5 p) := Xa9 (Xa9 (Xa9 (Xxv _ _) (Yit _)) (Yit _)) (Yit _)
theorem Xud (p : Par) : (Yd5 p).length = 9 := by unfold Yd5; simp only [List.length_append, Xc4, Xnk]
theorem Xue {p : Par} (h : Xlo p = true) : 0 ≤ p.Qp ∧ p.Qp ≤ 40 := by
 unfold Xlo at h; rw [Bool.and_eq_true, decide_eq_true_eq] at h; exact h.1
theorem Ym0 (p : Par) (h : Xlo p = true) : Xpb p = some (strOfNums (Yd5 p)) := by
 have := Xue h
 unfold Xpb
 rw [show (6 : Int) = ((6 : Nat) : Int) from rfl, Xm3 _ 6 (by omega) (by omega) (by omega), Xab, Xpa, Xab, Xa6 (by simp only [strOfNums_size, Xc4, Xnk]; omega), Xpa, Xab, Xbu, Xa6 (by simp only [strOfNums_size, List.length_append, Xc4, Xnk]; omega), Xpa, Xab, Xbu, Xa6 (by simp only [strOfNums_size, List.length_append, Xc4, Xnk]; omega), Xbu]
 rfl
def Yvl : List Int → List Int
 | [] => []
 | x :: r => ueL x.toNat ++ Yvl r
theorem Yvm : ∀ l : List Int, Xe1 (Yvl l)
 | [] => Xrb
 | x :: r => Xa9 (Xn1 _) (Yvm r)
theorem Yvn : ∀ {l : List Int}, l.all Xfj = true → (Yvl l).length ≤ 39 * l.length
 | [], _ => by simp [Yvl]
 | x :: r, h => by
  rw [List.all_cons, Bool.and_eq_true] at h
  have h1 := Yvn h.2
  have h2 : 1 ≤ x ∧ x ≤ 8 := by simpa [Xfj] using h.1
  have := Xg2 x.toNat (by omega)
  rw [Yvl, List.length_append, List.length_cons]
  omega
def Xrq (l : List Int) : List Int := ueL l.length ++ Yvl l
def Xxi (s : Seq) : List Int := ueL s.Level.toNat ++ Xz5 4 s.Bits ++ Xrq s.Cols ++ Xrq s.Rows
theorem Yrx (l : List Int) : Xe1 (Xrq l) := Xa9 (Xn1 _) (Yvm _)
theorem Xy5 (s : Seq) : Xe1 (Xxi s) := Xa9 (Xa9 (Xa9 (Xn1 _) (Xxv _ _)) (Yrx _)) (Yrx _)
theorem Xyv {l : List Int} (h : Xeu l = true) : (Xrq l).length ≤ 195 := by
 have h1 := Xbj h
 unfold Xeu at h
 rw [Bool.and_eq_true] at h
 have := Yvn h.2
 have := Xg2 l.length (by omega)
 unfold Xrq; rw [List.length_append]; omega
theorem Xwz {s : Seq} (h : Xf7 s = true) : 1 ≤ s.Level ∧ s.Level ≤ 3 := by
 unfold Xf7 at h
 rw [Bool.and_eq_true, decide_eq_true_eq] at h
 have := h.1
 unfold Xku at this
 repeat' split at this
 all_goals omega
theorem Yvd {s : Seq} (h : Xf7 s = true) : (Xxi s).length ≤ 433 := by
 obtain ⟨h1, h2, _⟩ := Xbf h
 have h3 := Xwz h
 have := Xyv h1
 have := Xyv h2
 have := Xg2 s.Level.toNat (by omega)
 unfold Xxi; simp only [List.length_append, Xc4]; omega
theorem Ysv (l : List Int) (ha : l.all Xfj = true) (h4 : l.length ≤ 4) (f : (ByteArray × Int) → Option (Lp (ByteArray × Int) ByteArray))
  (h : ∀ (i : Nat) (s : List Int) (x : Int), i < l.length → s.length ≤ 1000 → l.getD i 0 = x → f (strOfNums s, (i : Int)) = some (.go (strOfNums (s ++ ueL x.toNat), ((i + 1 : Nat) : Int)))) (h0 : ∀ s, f (s, (l.length : Int)) = some (.done s)) (s : List Int) (hs : s.length ≤ 500) : loop f (strOfNums s, 0) = some (strOfNums (s ++ Yvl l)) := by
 have key : ∀ (r a : List Int) (s : List Int), l = a ++ r → s.length + 39 * r.length ≤ 800 → loop f (strOfNums s, (a.length : Int)) = some (strOfNums (s ++ Yvl r)) := by
  intro r
  induction r with
  | nil => intro a s ha _; rw [List.append_nil] at ha; rw [← ha, Xco (h0 _), Yvl, List.append_nil]
  | cons x r ih =>
   intro a s hl hsl
   have hlen : a.length < l.length := by rw [hl]; simp
   have hx : l.getD a.length 0 = x := by rw [hl]; exact Xn9 a x _ r
   have hxs : 1 ≤ x ∧ x ≤ 8 := by simpa [Xfj] using List.all_eq_true.1 ha x (by rw [hl]; simp)
   have := Xg2 x.toNat (by omega)
   rw [List.length_cons] at hsl
   have hn := ih (a ++ [x]) (s ++ ueL x.toNat) (by rw [hl]; simp) (by rw [List.length_append]; omega)
   rw [List.length_append, List.length_singleton] at hn
   rw [Xho (h a.length s x hlen (by omega) hx), hn, Yvl, List.append_assoc]
 exact key l [] s rfl (by omega)
theorem Xtm (l : List Int) (h : Xeu l = true) : Xk0 l = some (strOfNums (Xrq l)) := by
 have h1 := Xbj h
 have ha : l.all Xfj = true := by unfold Xeu at h; rw [Bool.and_eq_true] at h; exact h.2
 have := Xg2 l.length (by omega)
 unfold Xk0
 rw [Xeh _ (by omega), Xab, Ysv l ha h1.2 (Xin l) (by
  intro i s x hi hs hx
  have hxs : 1 ≤ x ∧ x ≤ 8 := by rw [Xb4 l i hi] at hx; simpa [Xfj, hx] using List.all_eq_true.1 ha _ (List.getElem_mem hi)
  have := Xg2 x.toNat (by omega)
  unfold Xin
  simp only [Int.toNat_natCast, hx]
  rw [syA, rqA, show x = ((x.toNat : Nat) : Int) by omega, Xeh _ (by omega), Xab, Xa6 (by simp only [strOfNums_size]; omega), wkA, Xbu]
  rfl) (by intro s; unfold Xin; simp only; rw [snA]) _ (by omega), Xab]
 rfl
theorem Ym2 (s : Seq) (h : Xf7 s = true) : Xpd s = some (strOfNums (Xxi s)) := by
 obtain ⟨h1, h2, h3⟩ := Xbf h
 have h4 := Xwz h
 have := Xyv h1
 have := Xyv h2
 have := Xg2 s.Level.toNat (by omega)
 unfold Xpd
 rw [show s.Level = ((s.Level.toNat : Nat) : Int) by omega, Xeh _ (by omega), Xab, show (4 : Int) = ((4 : Nat) : Int) from rfl, Xm3 _ 4 (by omega) (by omega) (by omega), Xab, Xa6 (by simp only [strOfNums_size, Xc4]; omega), Xtm _ h1, Xab, Xbu, Xa6 (by simp only [strOfNums_size, List.length_append, Xc4]; omega), Xtm _ h2, Xab, Xbu, Xa6 (by simp only [strOfNums_size, List.length_append, Xc4]; omega), Xbu]
 rfl
def Ytg (n : Int) : Nat := if n > 0 then (2 * n - 1).toNat else (-2 * n).toNat
theorem Yma (n : Int) (h : -500000 ≤ n ∧ n ≤ 500000) : Xo2 n = some ((Ytg n : Int), true) := by
 unfold Xo2 Ytg
 rw [Xai, Xab, Ypz, Xbm h, Ypx, wkA (e := 2 * n), wkA, wkA]
 split
 ·
  rw [Int.toNat_of_nonneg (by omega)]
 ·
  rw [Int.toNat_of_nonneg (by omega)]
theorem Yov (n : Int) (h : -500000 ≤ n ∧ n ≤ 500000) : Ytg n ≤ 1000000 := by unfold Ytg; split <;> omega
def seL (n : Int) : List Int := ueL (Ytg n)
theorem Xrv (n : Int) (h : -500000 ≤ n ∧ n ≤ 500000) : (seL n).length ≤ 39 := (Xg2 _ (Yov n h)).1
theorem Xoi (n : Int) (h : -500000 ≤ n ∧ n ≤ 500000) : Xky n = some (strOfNums (seL n)) := by
 unfold Xky
 rw [Yma n h, Xab, Xeh _ (Yov n h), Xab]; rfl
def Ylu (x : Int) : Bool := decide (-5000 ≤ x ∧ x ≤ 5000)
theorem Yf8 {x : Int} : Ylu x = true ↔ -5000 ≤ x ∧ x ≤ 5000 := by simp [Ylu]
def nz : List Int → Nat
 | [] => 0
 | x :: r => if x = 0 then nz r else nz r + 1
theorem Yx4 : ∀ l : List Int, nz l ≤ l.length
 | [] => by simp [nz]
 | x :: r => by rw [nz, List.length_cons]; have := Yx4 r; split <;> omega
def Xod : Nat → List Int → List Int
 | _, [] => []
 | g, x :: r => if x = 0 then Xod (g + 1) r else ueL g ++ seL x ++ Xod 0 r
def Xl3 (l : List Int) : List Int := ueL (nz l) ++ Xod 0 l
theorem Yir : ∀ (l : List Int) (g : Nat), Xe1 (Xod g l)
 | [], _ => Xrb
 | x :: r, g => by
  rw [Xod]
  split
  ·
   exact Yir r _
  ·
   exact Xa9 (Xa9 (Xn1 _) (Xn1 _)) (Yir r _)
theorem Xy3 : ∀ (l : List Int) (g : Nat), l.all Ylu = true → g + l.length ≤ 1000 → (Xod g l).length ≤ 78 * l.length
 | [], _, _, _ => by simp [Xod]
 | x :: r, g, h, hg => by
  rw [List.all_cons, Bool.and_eq_true, Yf8] at h
  rw [List.length_cons] at hg ⊢
  rw [Xod]
  split
  ·
   have := Xy3 r (g + 1) h.2 (by omega); omega
  ·
   have := Xy3 r 0 h.2 (by omega)
   have a := Xg2 g (by omega)
   have b := Xrv x (by omega)
   simp only [List.length_append]; omega
theorem Xta (l : List Int) : Xe1 (Xl3 l) := Xa9 (Xn1 _) (Yir _ _)
theorem Xlp (l : List Int) (h : l.all Ylu = true) (hl : l.length ≤ 64) : (Xl3 l).length ≤ 39 + 78 * l.length := by
 have := Xy3 l 0 h (by omega)
 have := Yx4 l
 have := Xg2 (nz l) (by omega)
 unfold Xl3; rw [List.length_append]; omega
theorem Xis (l : List Int) (h : l.all Ylu = true) (hl : l.length ≤ 64) : Xfo l = some (strOfNums (Xl3 l)) := by
 unfold Xfo
 have key : ∀ (r a : List Int) (n g : Nat) (s : List Int), l = a ++ r → n ≤ a.length → g ≤ a.length → s.length ≤ 78 * a.length → loop (Xgh l) ((n : Int), (g : Int), strOfNums s, (a.length : Int)) = some (((n + nz r : Nat) : Int), strOfNums (s ++ Xod g r)) := by
  intro r
  induction r with
  | nil =>
   intro a n g s ha _ _ _
   rw [List.append_nil] at ha
   refine Xcn ?_
   unfold Xgh
   simp only
   rw [Xax (by rw [ha]; omega), nz, Xod, List.append_nil]; rfl
  | cons x r ih =>
   intro a n g s ha hn hg hs
   have hlen : a.length < l.length := by rw [ha]; simp
   have hx : l.getD a.length 0 = x := by rw [ha]; exact Xn9 a x _ r
   have hxi : -5000 ≤ x ∧ x ≤ 5000 := Yf8.1 (List.all_eq_true.1 h x (by rw [ha]; simp))
   by_cases e : x = 0
   ·
    have hnext := ih (a ++ [x]) n (g + 1) s (by rw [ha]; simp) (by simp; omega) (by simp; omega) (by simp; omega)
    rw [List.length_append, List.length_singleton] at hnext
    rw [nz, Xod, if_pos e, if_pos e, ← hnext]
    refine Xho ?_
    unfold Xgh
    simp only [Int.toNat_natCast, hx]
    rw [syA, rqA, Xbl (by simpa using e), Xab, wkA, wkA]
    rfl
   ·
    have u1 := Xg2 g (by omega)
    have u2 := Xrv x (by omega)
    have hnext := ih (a ++ [x]) (n + 1) 0 (s ++ ueL g ++ seL x) (by rw [ha]; simp) (by simp; omega) (by omega) (by simp only [List.length_append, List.length_singleton]; omega)
    rw [List.length_append, List.length_singleton] at hnext
    rw [nz, Xod, if_neg e, if_neg e, show n + (nz r + 1) = n + 1 + nz r by omega, ← List.append_assoc, ← List.append_assoc, ← hnext]
    refine Xho ?_
    unfold Xgh
    simp only [Int.toNat_natCast, hx]
    rw [syA, rqA, Xbc (by simpa using e), Xeh g (by omega), Xab, Xa6 (by simp only [strOfNums_size]; omega), rqA, Xoi x (by omega), Xab, Xbu, Xa6 (by simp only [strOfNums_size, List.length_append]; omega), Xbu, Xab, wkA, wkA]
    rfl
 have := key l [] 0 0 [] rfl (by omega) (by omega) (by simp)
 refine (Xey this).trans ?_
 have hz := Yx4 l
 have u := Xg2 (nz l) (by omega)
 have b := Xy3 l 0 h (by omega)
 simp only [Nat.zero_add, List.nil_append]
 rw [Xeh _ (by omega), Xab, Xa6 (by simp only [strOfNums_size]; omega), Xbu]
 rfl
def Yky (l : List Int) : Bool := decide (l.length = 64) && l.all Ylu
theorem Yoh (p : Int → Bool) (l : List Int) (f : Int → Option (Lp Int (Ou Unit Bool))) (h : ∀ i : Nat, i < l.length → f (i : Int) = sel (!(p (l.getD i 0))) (some (.done (.ret false))) (some (.go ((i + 1 : Nat) : Int)))) (h0 : f (l.length : Int) = some (.done (.out ()))) :
  loop f 0 = some (if l.all p = true then .out () else .ret false) := by
 have key : ∀ (r a : List Int), l = a ++ r → loop f (a.length : Int) = some (if r.all p = true then .out () else .ret false) := by
  intro r
  induction r with
  | nil => intro a ha; rw [List.append_nil] at ha; rw [← ha, Xco h0]; rfl
  | cons x r ih =>
   intro a ha
   have hlen : a.length < l.length := by rw [ha]; simp
   have hx : l.getD a.length 0 = x := by rw [ha]; exact Xn9 a x _ r
   have hs := h a.length hlen
   rw [hx] at hs
   cases e : p x with
   | true =>
    rw [e] at hs
    have := ih (a ++ [x]) (by rw [ha]; simp)
    rw [List.length_append, List.length_singleton] at this
    rw [Xho hs, this, List.all_cons, e, Bool.true_and]
   | false => rw [e] at hs; rw [Xco hs, List.all_cons, e, Bool.false_and]; rfl
 exact key l [] rfl
theorem Ym3 (l : List Int) : Xeb l 64 5000 = some (Yky l) := by
 unfold Xeb Yky
 by_cases h : l.length = 64
 ·
  rw [Xbc (by simp only [bne_eq_false_iff_eq]; omega), Yoh Ylu l (Xel l 64 5000) (by
   intro i hi
   unfold Xel
   rw [syA, rqA, wkA (e := 0 - 5000), Xai, Xab, wkA, Int.toNat_natCast]
   rfl) (by unfold Xel; rw [snA]), Xab, decide_eq_true h, Bool.true_and]
  cases l.all Ylu <;> rfl
 ·
  rw [Xbl (by simp only [bne_iff_ne, ne_eq]; omega), decide_eq_false h, Bool.false_and]
theorem Xob (l : List Int) (n lo hi : Int) (hl : l.length ≤ 9223372036854775806) : Xep l n lo hi = some (l.all (fun x => decide (lo ≤ x ∧ x ≤ hi)) && ((l.length : Int) == n)) := by
 unfold Xep
 rw [Yoh (fun x => decide (lo ≤ x ∧ x ≤ hi)) l (Xli l lo hi) (by
   intro i hi
   unfold Xli
   rw [syA, rqA, Xaj, Xab, wkA, Int.toNat_natCast]
   rfl) (by unfold Xli; rw [snA]), Xab]
 cases l.all (fun x => decide (lo ≤ x ∧ x ≤ hi)) <;> rfl
theorem Xql (l : List Int) (hl : l.length ≤ 9223372036854775806) : Xfr l = some (Yky l) := by
 unfold Xfr Yky
 rw [Xob l _ _ _ hl, Xab]
 show some (l.all Ylu && ((l.length : Int) == 64)) = _
 have : ((l.length : Int) == 64) = decide (l.length = 64) := by rw [Bool.eq_iff_iff]; simp only [beq_iff_eq, decide_eq_true_eq]; omega
 rw [this, Bool.and_comm]
theorem Xkv {l : List Int} (h : Yky l = true) : l.length = 64 ∧ l.all Ylu = true := by
 unfold Yky at h; rw [Bool.and_eq_true, decide_eq_true_eq] at h; exact h
def Yql (l : List Int) (c : Xf0) : List Int := if (c.Large || c.Exact) = true then Xl3 l else Xl3 (l.take 16) ++ Xl3 ((l.drop 16).take 16) ++ Xl3 ((l.drop 32).take 16) ++ Xl3 (l.drop 48)
theorem Xj7 {l : List Int} (h : l.all Ylu = true) (n : Nat) : (l.take n).all Ylu = true := List.all_eq_true.2 fun x hx => List.all_eq_true.1 h x (List.mem_of_mem_take hx)
theorem Xj6 {l : List Int} (h : l.all Ylu = true) (n : Nat) : (l.drop n).all Ylu = true := List.all_eq_true.2 fun x hx => List.all_eq_true.1 h x (List.mem_of_mem_drop hx)
theorem Yuu (l : List Int) (c : Xf0) : Xe1 (Yql l c) := by
 unfold Yql
 split
 ·
  exact Xta l
 ·
  exact Xa9 (Xa9 (Xa9 (Xta _) (Xta _)) (Xta _)) (Xta _)
theorem Yf7 {l : List Int} {c : Xf0} (h : Yky l = true) : (Yql l c).length ≤ 5148 := by
 obtain ⟨h1, h2⟩ := Xkv h
 unfold Yql
 split
 ·
  have := Xlp l h2 (by omega); omega
 ·
  have a := Xlp (l.take 16) (Xj7 h2 _) (by rw [List.length_take]; omega)
  have b := Xlp ((l.drop 16).take 16) (Xj7 (Xj6 h2 _) _) (by rw [List.length_take, List.length_drop]; omega)
  have c := Xlp ((l.drop 32).take 16) (Xj7 (Xj6 h2 _) _) (by rw [List.length_take, List.length_drop]; omega)
  have d := Xlp (l.drop 48) (Xj6 h2 _) (by rw [List.length_drop]; omega)
  rw [List.length_take] at a
  rw [List.length_take, List.length_drop] at b c
  rw [List.length_drop] at d
  simp only [List.length_append]; omega
theorem Xv3 (l : List Int) (c : Xf0) (h : Yky l = true) : Xmp l c = some (strOfNums (Yql l c)) := by
 obtain ⟨h1, h2⟩ := Xkv h
 unfold Xmp Yql
 rw [Ycz, Xab]
 by_cases e : (c.Large || c.Exact) = true
 ·
  rw [Xbl e, if_pos e, Xis l h2 (by omega), Xab]
 ·
  rw [Xbc (by simpa using e), if_neg e]
  have a := Xlp (l.take 16) (Xj7 h2 _) (by rw [List.length_take]; omega)
  have b := Xlp ((l.drop 16).take 16) (Xj7 (Xj6 h2 _) _) (by rw [List.length_take, List.length_drop]; omega)
  have c := Xlp ((l.drop 32).take 16) (Xj7 (Xj6 h2 _) _) (by rw [List.length_take, List.length_drop]; omega)
  have d := Xlp (l.drop 48) (Xj6 h2 _) (by rw [List.length_drop]; omega)
  have s1 := Xis (l.take 16) (Xj7 h2 _) (by rw [List.length_take]; omega)
  have s2 := Xis ((l.drop 16).take 16) (Xj7 (Xj6 h2 _) _) (by rw [List.length_take, List.length_drop]; omega)
  have s3 := Xis ((l.drop 32).take 16) (Xj7 (Xj6 h2 _) _) (by rw [List.length_take, List.length_drop]; omega)
  have s4 := Xis (l.drop 48) (Xj6 h2 _) (by rw [List.length_drop]; omega)
  rw [List.length_take] at a
  rw [List.length_take, List.length_drop] at b c
  rw [List.length_drop] at d
  rw [show ((16 : Int).toNat - (0 : Int).toNat) = 16 from rfl, show (0 : Int).toNat = 0 from rfl, List.drop_zero, show ((32 : Int).toNat - (16 : Int).toNat) = 16 from rfl, show (16 : Int).toNat = 16 from rfl, show ((48 : Int).toNat - (32 : Int).toNat) = 16 from rfl, show (32 : Int).toNat = 32 from rfl, show (48 : Int).toNat = 48 from rfl, Int.toNat_natCast, Zbr]
  rw [rqA, s1, Xab, rqA, s2, Xab, Xa6 (by simp only [strOfNums_size]; omega), rqA, s3, Xab, Xbu, Xa6 (by simp only [strOfNums_size, List.length_append]; omega), rqA, s4, Xab, Xbu, Xa6 (by simp only [strOfNums_size, List.length_append]; omega), Xbu]
def Xg3 (c : Xf0) : Bool := decide (0 ≤ c.Qp ∧ c.Qp ≤ 40) && !(c.Large && c.Exact)
theorem Xft (c : Xf0) : Xh8 c = some (Xg3 c) := by
 unfold Xh8 Xg3
 rw [Xai, Xab, Yp0, Xee, Xab]
 cases c.Large <;> cases c.Exact <;> rfl
theorem Xdm (c : Xf0) : Xhv c = some (Xg3 c) := by
 unfold Xhv Xg3
 rw [Xaj, Xab, Yp0, Xee, Xab]
 cases c.Large <;> cases c.Exact <;> rfl
def Xnq (s : Xar) : Bool :=
 if s.Kind = 0 then decide (s.Mode = 0 ∧ s.Dx = 0 ∧ s.Dy = 0 ∧ s.Levels.length = 0)
 else if s.Kind = 1 then decide (s.Mode = 0) && (decide (-16 ≤ s.Dx ∧ s.Dx ≤ 16) && (decide (-16 ≤ s.Dy ∧ s.Dy ≤ 16) && Yky s.Levels))
 else if s.Kind = 2 then decide (0 ≤ s.Mode ∧ s.Mode ≤ 3) && (decide (s.Dx = 0) && (decide (s.Dy = 0) && Yky s.Levels))
 else false
theorem Yom (a b : Int) : (a == b) = decide (a = b) := by rw [Bool.eq_iff_iff]; simp
theorem Xkb (s : Xar) : Xef s = some (Xnq s) := by
 unfold Xef Xnq
 simp only [Xai, Ym3, Xab, Xee, Yom]
 simp only [Ypx]
 by_cases h0 : s.Kind = 0
 ·
  rw [if_pos h0, if_pos h0]; congr 1; rw [Bool.eq_iff_iff]; simp
 ·
  rw [if_neg h0, if_neg h0]
  by_cases h1 : s.Kind = 1
  ·
   rw [if_pos h1, if_pos h1]
  ·
   rw [if_neg h1, if_neg h1]
   by_cases h2 : s.Kind = 2
   ·
    rw [decide_eq_true h2, Bool.true_and, if_pos h2]
   ·
    rw [decide_eq_false h2, Bool.false_and, if_neg h2]
theorem Xe3 (s : Xar) (hl : s.Levels.length ≤ 9223372036854775806) : Xgv s = some (Xnq s) := by
 unfold Xgv Xnq
 simp only [Xaj, Xql _ hl, Xab, Xee, Yom]
 simp only [Ypx]
 by_cases h0 : s.Kind = 0
 ·
  rw [if_pos h0, if_pos h0]; congr 1; rw [Bool.eq_iff_iff]; simp
 ·
  rw [if_neg h0, if_neg h0]
  by_cases h1 : s.Kind = 1
  ·
   rw [if_pos h1, if_pos h1]
  ·
   rw [if_neg h1, if_neg h1]
   by_cases h2 : s.Kind = 2
   ·
    rw [decide_eq_true h2, Bool.true_and, if_pos h2]
   ·
    rw [decide_eq_false h2, Bool.false_and, if_neg h2]
def Xiy (s : Xar) (c : Xf0) : Bool := !c.Key || s.Kind == 2
def sqL (s : Xar) (c : Xf0) : List Int :=
 (if c.Key = true then [] else ueL s.Kind.toNat) ++
 (if s.Kind = 1 then seL s.Dx ++ seL s.Dy ++ Yql s.Levels c else if s.Kind = 2 then ueL s.Mode.toNat ++ Yql s.Levels c else [])
theorem Xq7 {s : Xar} (h : Xnq s = true) : 0 ≤ s.Kind ∧ s.Kind ≤ 2 := by
 unfold Xnq at h
 repeat' split at h
 all_goals first | omega | simp at h
theorem Xr0 {s : Xar} (h : Xnq s = true) (h1 : s.Kind = 1) : (-16 ≤ s.Dx ∧ s.Dx ≤ 16) ∧ (-16 ≤ s.Dy ∧ s.Dy ≤ 16) ∧ Yky s.Levels = true := by
 unfold Xnq at h
 rw [if_neg (by omega), if_pos h1] at h
 simp only [Bool.and_eq_true, decide_eq_true_eq] at h
 exact ⟨h.2.1, h.2.2.1, h.2.2.2⟩
theorem Xul {s : Xar} (h : Xnq s = true) (h1 : s.Kind = 2) : (0 ≤ s.Mode ∧ s.Mode ≤ 3) ∧ Yky s.Levels = true := by
 unfold Xnq at h
 rw [if_neg (by omega), if_neg (by omega), if_pos h1] at h
 simp only [Bool.and_eq_true, decide_eq_true_eq] at h
 exact ⟨h.1, h.2.2.2⟩
theorem Yyq (s : Xar) (c : Xf0) : Xe1 (sqL s c) := by
 unfold sqL
 refine Xa9 ?_ ?_
 ·
  split
  ·
   exact Xrb
  ·
   exact Xn1 _
 ·
  split
  ·
   exact Xa9 (Xa9 (Xn1 _) (Xn1 _)) (Yuu _ _)
  ·
   split
   ·
    exact Xa9 (Xn1 _) (Yuu _ _)
   ·
    exact Xrb
theorem Yyr {s : Xar} {c : Xf0} (h : Xnq s = true) : (sqL s c).length ≤ 5265 := by
 have hk := Xq7 h
 have u := Xg2 s.Kind.toNat (by omega)
 have e1 : (if c.Key = true then [] else ueL s.Kind.toNat).length ≤ 39 := by split; simp; exact u.1
 unfold sqL
 rw [List.length_append]
 by_cases h1 : s.Kind = 1
 ·
  obtain ⟨a, b, d⟩ := Xr0 h h1
  have x := Xrv s.Dx (by omega)
  have y := Xrv s.Dy (by omega)
  have z := Yf7 (c := c) d
  rw [if_pos h1]; simp only [List.length_append]; omega
 ·
  by_cases h2 : s.Kind = 2
  ·
   obtain ⟨a, d⟩ := Xul h h2
   have x := Xg2 s.Mode.toNat (by omega)
   have z := Yf7 (c := c) d
   rw [if_neg h1, if_pos h2]; simp only [List.length_append]; omega
  ·
   rw [if_neg h1, if_neg h2]; simp only [List.length_nil]; omega
theorem Ym9 (s : Xar) (c : Xf0) (h : Xnq s = true) : Xpe s c = some (strOfNums (sqL s c)) := by
 have hk := Xq7 h
 have u := Xg2 s.Kind.toNat (by omega)
 unfold Xpe
 have e1 : (sel (!c.Key) (bnd (Xd6 s.Kind) fun q2 => some q2) (some ⟨#[]⟩)) = some (strOfNums (if c.Key = true then [] else ueL s.Kind.toNat)) := by
  rw [show s.Kind = ((s.Kind.toNat : Nat) : Int) by omega, Xeh _ (by omega), Xab, Int.toNat_natCast]
  cases c.Key <;> rfl
 rw [e1, Xab]
 have e2 : (if c.Key = true then [] else ueL s.Kind.toNat).length ≤ 39 := by split; simp; exact u.1
 unfold sqL
 generalize (if c.Key = true then [] else ueL s.Kind.toNat) = k at e2 ⊢
 by_cases h1 : s.Kind = 1
 ·
  obtain ⟨a, b, d⟩ := Xr0 h h1
  have x := Xrv s.Dx (by omega)
  have y := Xrv s.Dy (by omega)
  have z := Yf7 (c := c) d
  rw [if_pos h1, Xbl (by simpa using h1), Xoi _ (by omega), Xab, Xa6 (by simp only [strOfNums_size]; omega), Xoi _ (by omega), Xab, Xbu, Xa6 (by simp only [strOfNums_size, List.length_append]; omega), Xv3 _ c d, Xab, Xbu, Xa6 (by simp only [strOfNums_size, List.length_append]; omega), Xbu]
  simp only [List.append_assoc]
 ·
  rw [if_neg h1, Xbc (by simpa using h1)]
  by_cases h2 : s.Kind = 2
  ·
   obtain ⟨a, d⟩ := Xul h h2
   have x := Xg2 s.Mode.toNat (by omega)
   have z := Yf7 (c := c) d
   rw [if_pos h2, Xbl (by simpa using h2), show s.Mode = ((s.Mode.toNat : Nat) : Int) by omega, Xeh _ (by omega), Xab, Xa6 (by simp only [strOfNums_size]; omega), Xv3 _ c d, Xab, Xbu, Xa6 (by simp only [strOfNums_size, List.length_append]; omega), Xbu, Int.toNat_natCast]
   simp only [List.append_assoc]
  ·
   rw [if_neg h2, Xbc (by simpa using h2), List.append_nil]
def Xk6 : List Xar → Xf0 → List Int
 | [], _ => []
 | s :: r, c => sqL s c ++ Xk6 r c
def Ykr (l : List Xar) (c : Xf0) : Bool := l.all fun s => Xnq s && (Xg3 c && Xiy s c)
theorem Yb9 : ∀ (l : List Xar) (c : Xf0), Xe1 (Xk6 l c)
 | [], _ => Xrb
 | s :: r, c => Xa9 (Yyq s c) (Yb9 r c)
theorem Yca : ∀ {l : List Xar} {c : Xf0}, Ykr l c = true → (Xk6 l c).length ≤ 5265 * l.length
 | [], _, _ => by simp [Xk6]
 | s :: r, c, h => by
  unfold Ykr at h
  rw [List.all_cons, Bool.and_eq_true, Bool.and_eq_true] at h
  have h1 := Yyr (c := c) h.1.1
  have h2 := Yca (l := r) (c := c) h.2
  rw [Xk6, List.length_append, List.length_cons]; omega
theorem Xpm (b : ByteArray) (i : Int) : 0 ≤ Xl2 b i ∧ Xl2 b i ≤ 255 := by
 unfold Xl2
 split
 ·
  rename_i h
  have := (b[i.toNat]'h).toNat_lt
  omega
 ·
  omega
theorem Xby {p : Pic} (h : Xct p = true) : (1 ≤ p.Wide ∧ p.Wide ≤ 256) ∧ (1 ≤ p.High ∧ p.High ≤ 256) ∧ (p.Dots.size : Int) = p.Wide * p.High := by
 unfold Xct at h
 simp only [Bool.and_eq_true, decide_eq_true_eq, beq_iff_eq] at h
 exact ⟨h.1, h.2.1, h.2.2⟩
theorem Xuf {p : Pic} (h1 : 1 ≤ p.Wide ∧ p.Wide ≤ 256) (h2 : 1 ≤ p.High ∧ p.High ≤ 256) (h3 : (p.Dots.size : Int) = p.Wide * p.High) : Xct p = true := by
 unfold Xct
 simp only [Bool.and_eq_true, decide_eq_true_eq, beq_iff_eq]
 exact ⟨h1, h2, h3⟩
def Yos (p : Pic) (x y : Int) : Int := Xl2 p.Dots (Xds y 0 (p.High - 1) * p.Wide + Xds x 0 (p.Wide - 1))
theorem Xrd (p : Pic) (x y : Int) : 0 ≤ Yos p x y ∧ Yos p x y ≤ 255 := Xpm _ _
theorem Yq5 {p : Pic} (ok : Xct p = true) (x y : Int) : 0 ≤ Xds y 0 (p.High - 1) * p.Wide + Xds x 0 (p.Wide - 1) ∧ Xds y 0 (p.High - 1) * p.Wide + Xds x 0 (p.Wide - 1) < p.Dots.size ∧ 0 ≤ Xds y 0 (p.High - 1) * p.Wide ∧ Xds y 0 (p.High - 1) * p.Wide ≤ 65536 := by
 obtain ⟨h1, h2, h3⟩ := Xby ok
 have b1 := Xok (n := y) (a := 0) (b := p.High - 1) (by omega)
 have b2 := Xok (n := x) (a := 0) (b := p.Wide - 1) (by omega)
 have m1 := Int.mul_nonneg b1.1 (show 0 ≤ p.Wide by omega)
 have m2 := Int.mul_le_mul_of_nonneg_right b1.2 (show 0 ≤ p.Wide by omega)
 have m3 : (p.High - 1) * p.Wide = p.Wide * p.High - p.Wide := by rw [Int.sub_mul, Int.one_mul, Int.mul_comm]
 have m4 := (Xeo h1 h2).2
 omega
theorem Yhu {p : Pic} (ok : Xct p = true) (x y : Int) : Xfd p x y = some (Yos p x y) := by
 obtain ⟨h1, h2, h3⟩ := Xby ok
 unfold Xfd Yos
 rw [Xla, Xab, Xla, Xab, wkA (e := p.High - 1), wkA (e := p.Wide - 1)]
 obtain ⟨p1, p2, p3, p4⟩ := Yq5 ok x y
 have b2 := Xok (n := x) (a := 0) (b := p.Wide - 1) (by omega)
 have br := Xpm p.Dots (Xds y 0 (p.High - 1) * p.Wide + Xds x 0 (p.Wide - 1))
 rw [wkA (e := Xds y 0 (p.High - 1) * p.Wide), wkA (e := Xds y 0 (p.High - 1) * p.Wide + Xds x 0 (p.Wide - 1)), Xa6 ⟨p1, p2⟩, wkA]
theorem Xls {p : Pic} (ok : Xct p = true) (x y : Int) : Xf9 p x y = some (Yos p x y) := by
 obtain ⟨h1, h2, h3⟩ := Xby ok
 unfold Xf9 Yos
 rw [Xgy, Xab, ok, Bool.not_true, Xam, Xf8, Xab, Xf8, Xab, wkA (e := p.High - 1), wkA (e := p.Wide - 1)]
 obtain ⟨p1, p2, p3, p4⟩ := Yq5 ok x y
 have b2 := Xok (n := x) (a := 0) (b := p.Wide - 1) (by omega)
 have br := Xpm p.Dots (Xds y 0 (p.High - 1) * p.Wide + Xds x 0 (p.Wide - 1))
 rw [wkA (e := Xds y 0 (p.High - 1) * p.Wide), wkA (e := Xds y 0 (p.High - 1) * p.Wide + Xds x 0 (p.Wide - 1)), Xa6 ⟨p1, p2⟩, wkA]
def Yvt (p : Pic) (x y : Int) (i : Nat) : Int := Yos p (x + ((i % 8 : Nat) : Int)) (y + ((i / 8 : Nat) : Int))
def Yqj (p : Pic) (x y : Int) (n : Nat) : List Int := (List.range n).map (Yvt p x y)
theorem Yqz (p : Pic) (x y : Int) (n : Nat) : Yqj p x y (n + 1) = Yqj p x y n ++ [Yvt p x y n] := by simp [Yqj, List.range_succ]
theorem Xwc (p : Pic) (x y : Int) (n : Nat) : (Yqj p x y n).length = n := by simp [Yqj]
def Yzn (x : Int) : Bool := decide (0 ≤ x ∧ x ≤ 255)
def Xor (l : List Int) : Bool := decide (l.length = 64) && l.all Yzn
theorem Xsy {l : List Int} (h : Xor l = true) : l.length = 64 ∧ ∀ i : Nat, i < 64 → 0 ≤ l.getD i 0 ∧ l.getD i 0 ≤ 255 := by
 simp only [Xor, Bool.and_eq_true, decide_eq_true_eq] at h
 refine ⟨h.1, fun i hi => ?_⟩
 have := List.all_eq_true.1 h.2 (l.getD i 0) (by rw [Xb4 l i (by omega)]; exact List.getElem_mem _)
 simpa [Yzn] using this
theorem Ygp (p : Pic) (x y : Int) : Xor (Yqj p x y 64) = true := by
 simp only [Xor, Xwc, decide_true, Bool.true_and, List.all_eq_true]
 intro z hz
 obtain ⟨i, _, rfl⟩ := List.mem_map.1 hz
 simp only [Yzn, decide_eq_true_eq]
 exact Xrd _ _ _
theorem Yix {p : Pic} (ok : Xct p = true) (x y : Int) (hx : -1000 ≤ x ∧ x ≤ 1000) (hy : -1000 ≤ y ∧ y ≤ 1000) : Xnl p x y = some (Yqj p x y 64) := by
 have hm : maxLen = 9223372036854775807 := rfl
 unfold Xnl
 rw [Xgy, Xab, ok, Xav, Xai, Xab, syA, Xai, Xab, Xab, decide_eq_true (by omega), Bool.not_true, Xam]
 have key : ∀ i : Nat, i ≤ 64 → loop (Xh7 p x y) ((i : Int), Yqj p x y i) = some (Yqj p x y 64) := by
  refine Xhn _ ?_ ?_
  ·
   exact Xcn (by unfold Xh7; rw [Xax (by simp)])
  ·
   intro i hi ih
   refine lgo (y := (((i + 1 : Nat) : Int), Yqj p x y (i + 1))) ?_ ih
   unfold Xh7
   simp only
   rw [syA, rqA, rqA, Xbs (by omega), Xbr (by omega), wkA (e := (i : Int) / 8), wkA (e := x + (i : Int) % 8), wkA (e := y + (i : Int) / 8), Xls ok, Xab, Xa6 (by rw [Xwc]; simp only [List.length_singleton]; omega), wkA (e := (i : Int) + 1)]
   have e2 : Yos p (x + (i : Int) % 8) (y + (i : Int) / 8) = Yvt p x y i := by unfold Yvt; congr 1
   rw [e2, ← Yqz]
   rfl
 have := key 0 (by omega)
 exact (Xey this).trans rfl
theorem Xyj {p : Pic} (ok : Xct p = true) (x y : Int) (hx : -1000 ≤ x ∧ x ≤ 1000) (hy : -1000 ≤ y ∧ y ≤ 1000) : Xhd p x y = some (Yqj p x y 64) := by
 have hm : maxLen = 9223372036854775807 := rfl
 unfold Xhd
 rw [rqA]
 have key : ∀ r : Nat, r ≤ 8 → loop (Xfb p x y) ((r : Int), Yqj p x y (8 * r)) = some (Yqj p x y 64) := by
  refine Xhn _ ?_ ?_
  ·
   exact Xcn (by unfold Xfb; rw [Xax (by simp)])
  ·
   intro r hr ih
   refine lgo (y := (((r + 1 : Nat) : Int), Yqj p x y (8 * (r + 1)))) ?_ ih
   unfold Xfb
   simp only
   have inner : ∀ c : Nat, c ≤ 8 → loop (Xfc p x y ((r : Int), Yqj p x y (8 * r))) ((c : Int), Yqj p x y (8 * r + c)) = some (Yqj p x y (8 * (r + 1))) := by
    refine Xhn _ ?_ ?_
    ·
     exact Xcn (by unfold Xfc; rw [Xax (by simp)]; rfl)
    ·
     intro c hc ih2
     refine lgo (y := (((c + 1 : Nat) : Int), Yqj p x y (8 * r + (c + 1)))) ?_ ih2
     unfold Xfc
     simp only
     rw [syA, wkA (e := x + (c : Int)), wkA (e := y + (r : Int)), Yhu ok, Xab, Xa6 (by rw [Xwc]; simp only [List.length_singleton]; omega), wkA (e := (c : Int) + 1)]
     have e2 : Yos p (x + (c : Int)) (y + (r : Int)) = Yvt p x y (8 * r + c) := by
      unfold Yvt
      rw [show (8 * r + c) % 8 = c by omega, show (8 * r + c) / 8 = r by omega]
     rw [e2, ← Yqz]
     rfl
   have i0 := inner 0 (by omega)
   rw [syA]
   refine (Xey i0).trans ?_
   rw [wkA (e := (r : Int) + 1)]
   rfl
 have := key 0 (by omega)
 exact (Xey this).trans rfl
theorem Yhs (l : List Int) (hl : l.length ≤ 9223372036854775806) : Xep l 64 0 255 = some (Xor l) := by
 rw [Xob l _ _ _ hl]
 have : ((l.length : Int) == 64) = decide (l.length = 64) := by rw [Bool.eq_iff_iff]; simp only [beq_iff_eq, decide_eq_true_eq]; omega
 rw [this, Bool.and_comm]
 rfl
def Xm6 (p : Pic) (x y : Int) : Bool := decide (0 ≤ x ∧ x ≤ p.Wide - 8 ∧ 0 ≤ y ∧ y ≤ p.High - 8)
theorem Ydt {p : Pic} (ok : Xct p = true) (x y : Int) (hx : x.tmod 8 = 0) (hy : y.tmod 8 = 0) (h : Xm6 p x y = true) : Xdk p x y = some true := by
 obtain ⟨k1, k2, k3⟩ := Xby ok
 unfold Xm6 at h
 rw [decide_eq_true_eq] at h
 unfold Xdk
 rw [rqA, hx, rqA, hy, wkA (e := p.Wide - 8), wkA (e := p.High - 8), Xaj, Xab, Xaj, Xab, decide_eq_true (by omega), decide_eq_true (by omega)]
 rfl
theorem Xum (s : ByteArray) : strOfNums (Xa0 s) = s := by
 apply ByteArray.ext
 apply Array.ext'
 simp only [strOfNums, Xa0, List.map_map]
 conv => rhs; rw [← List.map_id s.data.toList]
 refine List.map_congr_left fun c _ => ?_
 simp
theorem Ycb {a b : ByteArray} : a.toList = b.toList ↔ a = b := by
 constructor
 ·
  intro h
  rw [ByteArray.toList_eq, ByteArray.toList_eq] at h
  exact ByteArray.ext (Array.ext' h)
 ·
  intro h; rw [h]
def inB (B : Int) (l : List Int) : Prop := ∀ x ∈ l, -B ≤ x ∧ x ≤ B
theorem Ypc {B C : Int} {l : List Int} (h : inB B l) (hc : B ≤ C) : inB C l := fun x hx => by have := h x hx; omega
theorem Ya0 {B : Int} {a b : List Int} (ha : inB B a) (hb : inB B b) : inB B (a ++ b) := fun x hx => (List.mem_append.1 hx).elim (ha x) (hb x)
theorem Ytj (B : Int) : inB B [] := fun x hx => by simp at hx
theorem Yxl {B x : Int} (h : -B ≤ x ∧ x ≤ B) : inB B [x] := fun y hy => by rw [List.mem_singleton.1 hy]; exact h
theorem Ytl {B : Int} {l : List Int} (h : inB B l) (i : Nat) {y : Int} (hy : -B ≤ y ∧ y ≤ B) : inB B (l.set i y) := fun x hx => by
 rcases List.mem_or_eq_of_mem_set hx with hx | hx
 ·
  exact h x hx
 ·
  rw [hx]; exact hy
theorem Ytk (n : Nat) {B : Int} (h : 0 ≤ B) : inB B (List.replicate n 0) := fun x hx => by rw [List.eq_of_mem_replicate hx]; omega
theorem Xs6 {B : Int} {l : List Int} (h : inB B l) {i : Nat} (hi : i < l.length) : -B ≤ l.getD i 0 ∧ l.getD i 0 ≤ B := h _ (by rw [Xb4 l i hi]; exact List.getElem_mem _)
theorem Yun {B : Int} {l : List Int} (h : inB B l) (n : Nat) : inB B (l.take n) := fun x hx => h x (List.mem_of_mem_take hx)
theorem Yum {B : Int} {l : List Int} (h : inB B l) (n : Nat) : inB B (l.drop n) := fun x hx => h x (List.mem_of_mem_drop hx)
theorem Xfz {S : Type} {f : Int × S → Option (Lp (Int × S) S)} (n : Nat) (I : Nat → S → Prop) (hs : ∀ (i : Nat) (l : S), i < n → I i l → ∃ l', f ((i : Int), l) = some (.go (((i + 1 : Nat) : Int), l')) ∧ I (i + 1) l') (he : ∀ l, f ((n : Int), l) = some (.done l)) (l0 : S) (h0 : I 0 l0) : ∃ o, loop f (0, l0) = some o ∧ I n o := by
 have key : ∀ i : Nat, i ≤ n → ∀ l, I i l → ∃ o, loop f ((i : Int), l) = some o ∧ I n o := by
  refine Xhn _ ?_ ?_
  ·
   intro l h; exact ⟨l, Xcn (he l), h⟩
  ·
   intro i hi ih l h
   obtain ⟨l', e, h'⟩ := hs i l hi h
   obtain ⟨o, e2, h2⟩ := ih l' h'
   exact ⟨o, lgo e e2, h2⟩
 exact key 0 (by omega) l0 h0
theorem Xpl {S : Type} {f : S × Int → Option (Lp (S × Int) S)} (n : Nat) (I : Nat → S → Prop) (hs : ∀ (i : Nat) (l : S), i < n → I i l → ∃ l', f (l, (i : Int)) = some (.go (l', ((i + 1 : Nat) : Int))) ∧ I (i + 1) l') (he : ∀ l, f (l, (n : Int)) = some (.done l)) (l0 : S) (h0 : I 0 l0) : ∃ o, loop f (l0, 0) = some o ∧ I n o := by
 have key : ∀ i : Nat, i ≤ n → ∀ l, I i l → ∃ o, loop f (l, (i : Int)) = some o ∧ I n o := by
  refine Xhn _ ?_ ?_
  ·
   intro l h; exact ⟨l, Xcn (he l), h⟩
  ·
   intro i hi ih l h
   obtain ⟨l', e, h'⟩ := hs i l hi h
   obtain ⟨o, e2, h2⟩ := ih l' h'
   exact ⟨o, lgo e e2, h2⟩
 exact key 0 (by omega) l0 h0
theorem Xgt (l : List Int) (i j : Nat) (y : Int) (hi : i < l.length) : (l.set i y).getD j 0 = if i = j then y else l.getD j 0 := by
 rw [List.getD_eq_getElem?_getD, List.getElem?_set, List.getD_eq_getElem?_getD]
 by_cases h : i = j
 ·
  subst h; rw [if_pos rfl, if_pos rfl, if_pos hi]; rfl
 ·
  rw [if_neg h, if_neg h]
theorem Xub {f : Int × List Int → Option (Lp (Int × List Int) (List Int))} (n : Nat) (P Q : Int → Prop) (hs : ∀ (i : Nat) (l : List Int), i < n → l.length = n → P (l.getD i 0) → ∃ y, f ((i : Int), l) = some (.go (((i + 1 : Nat) : Int), l.set i y)) ∧ Q y) (he : ∀ l, f ((n : Int), l) = some (.done l)) (l0 : List Int) (h0 : l0.length = n) (hb : ∀ x ∈ l0, P x) : ∃ o, loop f (0, l0) = some o ∧ o.length = n ∧ ∀ x ∈ o, Q x := by
 obtain ⟨o, e, h1, h2, _⟩ := Xfz (f := f) n (fun i l => l.length = n ∧ (∀ j, j < i → Q (l.getD j 0)) ∧ ∀ j, i ≤ j → j < n → P (l.getD j 0)) (by
  intro i l hi ⟨g1, g2, g3⟩
  obtain ⟨y, e, hy⟩ := hs i l hi g1 (g3 i (Nat.le_refl _) hi)
  refine ⟨_, e, by rw [List.length_set]; exact g1, fun j hj => ?_, fun j hj hj2 => ?_⟩
  ·
   rw [Xgt l i j y (by omega)]
   by_cases h : i = j
   ·
    rw [if_pos h]; exact hy
   ·
    rw [if_neg h]; exact g2 j (by omega)
  ·
   rw [Xgt l i j y (by omega), if_neg (by omega)]; exact g3 j (by omega) hj2) he l0 ⟨h0, fun j hj => by omega, fun j _ hj => hb _ (by rw [Xb4 l0 j (by omega)]; exact List.getElem_mem _)⟩
 refine ⟨o, e, h1, fun x hx => ?_⟩
 obtain ⟨j, hj, rfl⟩ := List.getElem_of_mem hx
 have := h2 j (by omega)
 rwa [Xb4 o j hj] at this
theorem Xkt (l : List Int) (n B : Int) (hn : (l.length : Int) = n) (hn2 : n ≤ 1000000) (hB : 0 ≤ B ∧ B ≤ 100000000) (h : inB B l) : Xeb l n B = some true := by
 unfold Xeb
 rw [Xbc (by simp only [bne_eq_false_iff_eq]; exact hn), Xtb l.length (f := Xel l n B) (by
  intro i hi
  have := Xs6 h hi
  unfold Xel
  rw [syA, rqA, wkA (e := 0 - B), Xai, Xab, Int.toNat_natCast, decide_eq_true (by omega), Bool.not_true, Xam, wkA]
  rfl) (by unfold Xel; rw [snA]), Xab]
def Xy4 (n i : Int) (v17 : Int × Int) : Option (Lp (Int × Int) (Ou Unit Int)) :=
 sel (decide (v17.2 ≤ (Xaa .i64 ((Xaa .i64 (2 * n)) - 2)))) (
 bnd (it (Xo5 n i v17) 20 (v17.1, 0)) fun o47 => match o47 with
 | .out v43 => (
 some (.go (v43, Xaa .i64 (v17.2 + 1))))
 | .ret r => some (.done (.ret r))) (
 some (.done (.out ())))
theorem Ysk {n i : Int} {v : Int × Int} {x : Lp (Int × Int) (Ou Unit Int)} (h : Xy4 n i v = some x) : Xlt n i v = some x := by
 unfold Xy4 at h
 unfold Xlt
 rcases Xrw h with ⟨hb, h⟩ | ⟨hb, h⟩
 ·
  rw [hb, Xav]
  obtain ⟨a, h1, h2⟩ := Xbo h
  rw [Xjm.2 ⟨20, h1⟩, Xab]
  exact h2
 ·
  rw [hb, Xam]; exact h
theorem Yzx {V O : Type} {f g : V → Option (Lp V O)} (hf : ∀ v y, f v = some y → g v = some y) {o : O} : ∀ (k : Nat) (v : V), it f k v = some o → it g k v = some o
 | 0, v, h => by cases h
 | k + 1, v, h => by
  rw [it] at h ⊢
  cases e : f v with
  | none => rw [e] at h; cases h
  | some s =>
   rw [e] at h
   rw [hf v s e]
   cases s with
   | go y => exact Yzx hf k y h
   | done o' => exact h
def Xh1 (n i : Int) : Int := match it (Xy4 n i) 20 (0, 0) with | some (.ret q) => q | _ => -1
theorem Zaa : ∀ i : Fin 16, (0 ≤ Xh1 4 (i.val : Int) ∧ Xh1 4 (i.val : Int) < 16) := by decide +kernel
theorem Zab : ∀ i : Fin 64, (0 ≤ Xh1 8 (i.val : Int) ∧ Xh1 8 (i.val : Int) < 64) := by decide +kernel
theorem Xps (n : Int) (hn : n = 4 ∨ n = 8) (i : Nat) (hi : (i : Int) < n * n) : 0 ≤ Xh1 n i ∧ Xh1 n i < n * n := by
 rcases hn with rfl | rfl
 ·
  exact Zaa ⟨i, by omega⟩
 ·
  exact Zab ⟨i, by omega⟩
theorem Xp6 (n : Int) (hn : n = 4 ∨ n = 8) (i : Nat) (hi : (i : Int) < n * n) : Xo4 n i = some (Xh1 n i) := by
 have hp := Xps n hn i hi
 unfold Xo4
 have hw : Xaa .i64 (n * n) = n * n := by rcases hn with rfl | rfl <;> exact wkA
 have hc : (sel (n != 4) (sel (n != 8) (some true) (sel (decide ((i : Int) < 0)) (some true) (some (decide ((i : Int) ≥ (Xaa .i64 (n * n))))))) (sel (decide ((i : Int) < 0)) (some true) (some (decide ((i : Int) ≥ (Xaa .i64 (n * n))))))) = some false := by
  rw [hw, Xax (show ¬ (i : Int) < 0 by omega), decide_eq_false (show ¬ (i : Int) ≥ n * n by omega)]
  rcases hn with rfl | rfl <;> rfl
 rw [hc, Xab, Xam]
 unfold Xh1 at hp ⊢
 cases e : it (Xy4 n i) 20 (0, 0) with
 | none => rw [e] at hp; simp only at hp; omega
 | some s =>
  rw [e] at hp
  have h := Yzx (fun v y => Ysk (n := n) (i := i)) 20 _ e
  rw [Xjm.2 ⟨20, h⟩, Xab]
  cases s with
  | out u => simp only at hp; omega
  | ret q => rfl
theorem Xgc (n : Int) (hn : n = 4 ∨ n = 8) (l : List Int) (B : Int) (hB : 0 ≤ B) (hl : (l.length : Int) = n * n) (hb : inB B l) : ∃ o, Xdo n l = some (o, true) ∧ o.length = l.length ∧ inB B o := by
 have hm : maxLen = 9223372036854775807 := rfl
 have hw : Xaa .i64 (n * n) = n * n := by rcases hn with rfl | rfl <;> exact wkA
 have hl2 : l.length ≤ 64 := by rcases hn with rfl | rfl <;> omega
 unfold Xdo
 have hc : (sel (n != 4) (sel (n != 8) (some true) (some ((l.length : Int) != (Xaa .i64 (n * n))))) (some ((l.length : Int) != (Xaa .i64 (n * n))))) = some false := by
  rw [hw, hl, bne_self_eq_false]
  rcases hn with rfl | rfl <;> rfl
 rw [hc, Xab, Xam, rqA, Int.toNat_natCast]
 obtain ⟨o, e, h1, h2⟩ := Xfz (f := Xcy n l) l.length (fun i s => s.length = l.length ∧ inB B s) (by
  intro i s hi ⟨g1, g2⟩
  have hp := Xps n hn i (by omega)
  have ha := Xs6 hb hi
  unfold Xcy
  simp only
  rw [hw, syA, Xp6 n hn i (by omega), Xab, rqA, rqA, rqA, wkA, Int.toNat_natCast]
  exact ⟨_, rfl, by rw [List.length_set]; exact g1, Ytl g2 _ ha⟩) (by intro s; unfold Xcy; simp only; rw [hw, snA]) (List.replicate l.length 0) ⟨List.length_replicate, Ytk _ hB⟩
 exact ⟨o, (Xey e).trans rfl, h1, h2⟩
def Xjx (u v : Int) : Int := match it Xjy 10 (1, (IntKind.wrap .i64 (BitVec.ofInt (IntKind.bits .i64) u &&& BitVec.ofInt (IntKind.bits .i64) v).toNat)) with | some q => q | none => 7
theorem Yym : ∀ u v : Fin 8, (-1 ≤ Xjx (u.val : Int) (v.val : Int) ∧ Xjx (u.val : Int) (v.val : Int) ≤ 1) := by decide +kernel
theorem Xvx (u v : Nat) (hu : u < 8) (hv : v < 8) : ∃ s, Xie u v = some s ∧ -1 ≤ s ∧ s ≤ 1 := by
 have h := Yym ⟨u, hu⟩ ⟨v, hv⟩
 simp only at h
 unfold Xie
 rw [Xai, Xab, decide_eq_true (by omega), Xav, Xai, Xab, decide_eq_true (by omega), Bool.not_true, Xab, Xam]
 unfold Xjx at h
 cases e : it Xjy 10 (1, (IntKind.wrap .i64 (BitVec.ofInt (IntKind.bits .i64) (u : Int) &&& BitVec.ofInt (IntKind.bits .i64) (v : Int)).toNat)) with
 | none => rw [e] at h; simp only at h; omega
 | some q =>
  rw [e] at h
  rw [Xjm.2 ⟨10, e⟩, Xab]
  exact ⟨q, rfl, h⟩
def Xr1 (qp : Int) : Int := if qp.tmod 6 = 0 then 10 else if qp.tmod 6 = 1 then 11 else if qp.tmod 6 = 2 then 13 else if qp.tmod 6 = 3 then 14 else if qp.tmod 6 = 4 then 16 else 18
def Xph (qp : Int) : Int := match it (Xj0 qp) 10 (Xr1 qp, 0) with | some q => q | none => 0
theorem Yyt : ∀ q : Fin 41, (10 ≤ Xph (q.val : Int) ∧ Xph (q.val : Int) ≤ 1152) := by decide +kernel
theorem Ymp (qp : Int) (h0 : 0 ≤ qp ∧ qp ≤ 40) : ∃ s, Xig qp = some s ∧ 10 ≤ s ∧ s ≤ 1152 := by
 have h := Yyt ⟨qp.toNat, by omega⟩
 simp only at h
 rw [show ((qp.toNat : Nat) : Int) = qp by omega] at h
 unfold Xig
 rw [Xai, Xab, decide_eq_true (by omega), Bool.not_true, Xam, rqA]
 have hb : (sel ((qp.tmod 6) == 0) (some (10 : Int)) (sel ((qp.tmod 6) == 1) (some 11) (sel ((qp.tmod 6) == 2) (some 13) (sel ((qp.tmod 6) == 3) (some 14) (sel ((qp.tmod 6) == 4) (some 16) (some 18)))))) = some (Xr1 qp) := by
  unfold Xr1
  simp only [Ypy, beq_iff_eq]
  repeat' split
  all_goals rfl
 rw [hb, Xab]
 unfold Xph at h
 cases e : it (Xj0 qp) 10 (Xr1 qp, 0) with
 | none => rw [e] at h; simp only at h; omega
 | some q =>
  rw [e] at h
  rw [Xjm.2 ⟨10, e⟩, Xab]
  exact ⟨q, rfl, h⟩
theorem Xvu (p : Int) (h : 0 ≤ p ∧ p ≤ 15) : ∃ k, Xmk p = some k ∧ 0 ≤ k ∧ k ≤ 2 := by
 unfold Xmk
 rw [Xai, Xab, decide_eq_true h, Bool.not_true, Xam, rqA, rqA, rqA, rqA, Xee, Xab]
 cases ((Xaa .i64 (p.tdiv 4)).tmod 2 == 0 && (p.tmod 4).tmod 2 == 0) with
 | true => exact ⟨0, rfl, by omega, by omega⟩
 | false =>
  rw [Xam, Xee, Xab]
  cases ((Xaa .i64 (p.tdiv 4)).tmod 2 == 1 && (p.tmod 4).tmod 2 == 1) with
  | true => exact ⟨1, rfl, by omega, by omega⟩
  | false => exact ⟨2, rfl, by omega, by omega⟩
theorem Xb7 (k a b c : Int) : ∃ x, Xca k a b c = some x ∧ (x = a ∨ x = b ∨ x = c) := by
 unfold Xca
 cases (k == 0) with
 | true => exact ⟨a, rfl, Or.inl rfl⟩
 | false =>
  cases (k == 1) with
  | true => exact ⟨b, rfl, Or.inr (Or.inl rfl)⟩
  | false => exact ⟨c, rfl, Or.inr (Or.inr rfl)⟩
theorem Ywc (qp : Int) (h0 : 0 ≤ qp ∧ qp ≤ 40) (x : Int) (hx : 0 ≤ x ∧ x ≤ 29) : ∃ o, loop (Xew qp) (x, 0) = some o ∧ 0 ≤ o ∧ o ≤ 1856 := by
 obtain ⟨o, e, h1, h2⟩ := Xpl (f := Xew qp) (qp / 6).toNat (fun i s => 0 ≤ s ∧ s ≤ 29 * 2 ^ i) (by
  intro i s hi ⟨g1, g2⟩
  have h6 : (2 : Int) ^ i ≤ 64 := by
   have : i ≤ 6 := by omega
   obtain rfl | rfl | rfl | rfl | rfl | rfl | rfl : i = 0 ∨ i = 1 ∨ i = 2 ∨ i = 3 ∨ i = 4 ∨ i = 5 ∨ i = 6 := by omega
   all_goals decide
  have h7 : (2 : Int) ^ (i + 1) = 2 * 2 ^ i := by rw [Int.pow_succ, Int.mul_comm]
  unfold Xew
  simp only
  rw [rqA, Xbr (by omega), wkA (e := qp / 6), syA, wkA (e := 2 * s), wkA (e := (i : Int) + 1)]
  exact ⟨_, rfl, by omega, by rw [h7]; omega⟩) (by intro s; unfold Xew; simp only; rw [rqA, Xbr (by omega), wkA (e := qp / 6), snA]) x ⟨hx.1, by simp; omega⟩
 have h6 : (2 : Int) ^ (qp / 6).toNat ≤ 64 := by
  generalize hi : (qp / 6).toNat = i
  obtain rfl | rfl | rfl | rfl | rfl | rfl | rfl : i = 0 ∨ i = 1 ∨ i = 2 ∨ i = 3 ∨ i = 4 ∨ i = 5 ∨ i = 6 := by omega
  all_goals decide
 exact ⟨o, e, h1, by omega⟩
theorem Yjo (qp p : Int) (h0 : 0 ≤ qp ∧ qp ≤ 40) (hp : 0 ≤ p ∧ p ≤ 15) : ∃ s, Xid qp p = some s ∧ 0 ≤ s ∧ s ≤ 1856 := by
 unfold Xid
 obtain ⟨k, e, k0, k1⟩ := Xvu p hp
 rw [e, Xab, Xai, Xab, decide_eq_true h0, Xav, decide_eq_false (by omega), Xab, Xam, rqA]
 obtain ⟨a1, e1, b1⟩ := Xb7 k 10 16 13
 obtain ⟨a2, e2, b2⟩ := Xb7 k 11 18 14
 obtain ⟨a3, e3, b3⟩ := Xb7 k 13 20 16
 obtain ⟨a4, e4, b4⟩ := Xb7 k 14 23 18
 obtain ⟨a5, e5, b5⟩ := Xb7 k 16 25 20
 obtain ⟨a6, e6, b6⟩ := Xb7 k 18 29 23
 rw [e1, e2, e3, e4, e5, e6]
 simp only [Xab, Yyl]
 obtain ⟨o, eo, o1, o2⟩ := Ywc qp h0 (sel (qp.tmod 6 == 0) a1 (sel (qp.tmod 6 == 1) a2 (sel (qp.tmod 6 == 2) a3 (sel (qp.tmod 6 == 3) a4 (sel (qp.tmod 6 == 4) a5 (sel (qp.tmod 6 == 5) a6 0)))))) (by
  simp only [Ypy]
  repeat' split
  all_goals omega)
 exact ⟨o, (Xey eo).trans rfl, o1, o2⟩
theorem Yu3 {a s B : Int} (ha : -B ≤ a ∧ a ≤ B) (hs : -1 ≤ s ∧ s ≤ 1) : (-B ≤ a * s ∧ a * s ≤ B) ∧ (-B ≤ s * a ∧ s * a ≤ B) := by
 obtain rfl | rfl | rfl : s = -1 ∨ s = 0 ∨ s = 1 := by omega
 all_goals omega
theorem Ym6 (p : List Int) (B : Int) (hB : 0 ≤ B ∧ B ≤ 1000000000000) (hl : p.length = 64) (hb : inB B p) (i v : Nat) (hi : i < 8) (hv : v < 8) : ∃ o, Xkl p i v = some o ∧ -(8 * B) ≤ o ∧ o ≤ 8 * B := by
 unfold Xkl
 obtain ⟨o, e, h1, h2⟩ := Xpl (f := Xem p i v) 8 (fun k s => -(B * k) ≤ s ∧ s ≤ B * k) (by
  intro k s hk ⟨g1, g2⟩
  obtain ⟨q, eq, q0, q1⟩ := Xvx v k hv hk
  have ha := Xs6 hb (i := 8 * i + k) (by omega)
  have hm := (Yu3 ha ⟨q0, q1⟩).1
  have hk8 : B * k ≤ B * 8 := Int.mul_le_mul_of_nonneg_left (by omega) hB.1
  have hk0 : B * ((k + 1 : Nat) : Int) = B * k + B := by rw [Int.natCast_add, Int.mul_add]; simp
  unfold Xem
  simp only
  rw [syA, wkA (e := 8 * (i : Int)), wkA (e := 8 * (i : Int) + (k : Int)), rqA, eq, Xab, show (8 * (i : Int) + (k : Int)).toNat = 8 * i + k by omega, wkA (e := p.getD (8 * i + k) 0 * q), wkA (e := s + p.getD (8 * i + k) 0 * q), wkA (e := (k : Int) + 1)]
  exact ⟨_, rfl, by rw [hk0]; omega, by rw [hk0]; omega⟩) (by intro s; unfold Xem; rw [Xax (by simp)]) 0 (by simp)
 exact ⟨o, (Xey e).trans rfl, by omega, by omega⟩
theorem Ykb (p : List Int) (B : Int) (hB : 0 ≤ B ∧ B ≤ 10000000000) (hl : p.length = 64) (hb : inB B p) : ∃ o, Xip p = some o ∧ o.length = 64 ∧ inB (64 * B) o := by
 have hm : maxLen = 9223372036854775807 := rfl
 unfold Xip
 obtain ⟨h, eh, hh1, hh2⟩ := Xfz (f := Xdg p) 8 (fun i s => s.length = 8 * i ∧ inB (8 * B) s) (by
  intro i s hi ⟨g1, g2⟩
  obtain ⟨t, et, t1, t2⟩ := Xfz (f := Xdh p ((i : Int), s)) 8 (fun v s => s.length = 8 * i + v ∧ inB (8 * B) s) (by
   intro v s hv ⟨g1, g2⟩
   obtain ⟨r, er, r1, r2⟩ := Ym6 p B ⟨hB.1, by omega⟩ hl hb i v hi hv
   unfold Xdh
   simp only
   rw [syA, er, Xab, Xa6 (by simp only [List.length_singleton]; omega), wkA (e := (v : Int) + 1)]
   exact ⟨_, rfl, by simp; omega, Ya0 g2 (Yxl ⟨by omega, r2⟩)⟩) (by intro s; unfold Xdh; rw [Xax (by simp)]) s ⟨by omega, g2⟩
  unfold Xdg
  simp only
  rw [syA, et, Xab, wkA (e := (i : Int) + 1)]
  exact ⟨_, rfl, by omega, t2⟩) (by intro s; unfold Xdg; rw [Xax (by simp)]) [] ⟨rfl, Ytj _⟩
 rw [eh, Xab]
 obtain ⟨o, eo, o1, o2⟩ := Xfz (f := Xcz h) 8 (fun i s => s.length = 8 * i ∧ inB (64 * B) s) (by
  intro i s hi ⟨g1, g2⟩
  obtain ⟨t, et, t1, t2⟩ := Xfz (f := Xc0 h ((i : Int), s)) 8 (fun v s => s.length = 8 * i + v ∧ inB (64 * B) s) (by
   intro v r hv ⟨g1, g2⟩
   obtain ⟨a, ea, a1, a2⟩ := Xpl (f := Xc1 h ((i : Int), s) ((v : Int), r)) 8 (fun k s => -(8 * B * k) ≤ s ∧ s ≤ 8 * B * k) (by
    intro k c hk ⟨g1, g2⟩
    obtain ⟨q, eq, q0, q1⟩ := Xvx i k hi hk
    have ha := Xs6 hh2 (i := 8 * k + v) (by omega)
    have hm := (Yu3 ha ⟨q0, q1⟩).2
    have hk8 : 8 * B * k ≤ 8 * B * 8 := Int.mul_le_mul_of_nonneg_left (by omega) (by omega)
    have hk0 : 8 * B * ((k + 1 : Nat) : Int) = 8 * B * k + 8 * B := by rw [Int.natCast_add, Int.mul_add]; simp
    unfold Xc1
    simp only
    rw [syA, eq, Xab, wkA (e := 8 * (k : Int)), wkA (e := 8 * (k : Int) + (v : Int)), rqA, rqA, show (8 * (k : Int) + (v : Int)).toNat = 8 * k + v by omega, wkA (e := q * h.getD (8 * k + v) 0), wkA (e := c + q * h.getD (8 * k + v) 0), wkA (e := (k : Int) + 1)]
    exact ⟨_, rfl, by rw [hk0]; omega, by rw [hk0]; omega⟩) (by intro s; unfold Xc1; rw [Xax (by simp)]) 0 (by simp)
   unfold Xc0
   simp only
   rw [syA, ea, Xab, Xa6 (by simp only [List.length_singleton]; omega), wkA (e := (v : Int) + 1)]
   exact ⟨_, rfl, by simp; omega, Ya0 g2 (Yxl ⟨by omega, by omega⟩)⟩) (by intro s; unfold Xc0; rw [Xax (by simp)]) s ⟨by omega, g2⟩
  unfold Xcz
  simp only
  rw [syA, et, Xab, wkA (e := (i : Int) + 1)]
  exact ⟨_, rfl, by omega, t2⟩) (by intro s; unfold Xcz; rw [Xax (by simp)]) [] ⟨rfl, Ytj _⟩
 exact ⟨o, (Xey eo).trans rfl, by omega, o2⟩
theorem Xlz (a b : Int) (ha : -1000000000000 ≤ a ∧ a ≤ 1000000000000) (hb : b = 2 ∨ b = 64) : ∃ d, Xdf a b = some d ∧ b * d ≤ a ∧ a < b * d + b := by
 unfold Xdf
 have h1 : b * (a.tdiv b) + a.tmod b = a := Int.mul_tdiv_add_tmod a b
 have h2 : -b < a.tmod b ∧ a.tmod b < b := by
  have hb0 : 0 < b := by omega
  refine ⟨?_, Int.tmod_lt_of_pos a hb0⟩
  have := Int.lt_tmod_of_pos a hb0
  omega
 rw [rqA, rqA]
 generalize a.tmod b = m at h1 h2
 generalize a.tdiv b = t at h1 h2
 have ht : -1000000000001 ≤ t ∧ t ≤ 1000000000001 := by rcases hb with rfl | rfl <;> omega
 by_cases h : m < 0
 ·
  rw [Xbm h, Xab, wkA (e := t), wkA (e := t - 1)]
  refine ⟨_, rfl, ?_⟩
  rcases hb with rfl | rfl <;> omega
 ·
  rw [Xax h, Xab, wkA (e := t)]
  refine ⟨_, rfl, ?_⟩
  rcases hb with rfl | rfl <;> omega
theorem Ybc (p : List Int) (hl : p.length = 64) (hb : inB 5760000 p) : ∃ o, Xfu p = some o ∧ o.length = 64 ∧ inB 10000000 o := by
 unfold Xfu
 obtain ⟨o, e, h1, h2⟩ := Ykb p 5760000 (by omega) hl hb
 rw [Xkt p 64 10000000 (by omega) (by omega) (by omega) (Ypc hb (by omega)), Xab, Bool.not_true, Xam, e, Xab]
 obtain ⟨r, er, r1, r2⟩ := Xub (f := Xga) 64 (fun x => -368640000 ≤ x ∧ x ≤ 368640000) (fun x => -10000000 ≤ x ∧ x ≤ 10000000) (by
  intro i l hi hll hx
  obtain ⟨d, ed, d1, d2⟩ := Xlz (l.getD i 0 + 32) 64 (by omega) (Or.inr rfl)
  unfold Xga
  simp only [Int.toNat_natCast]
  rw [syA, rqA, rqA, wkA (e := l.getD i 0 + 32), ed, Xab, rqA, rqA, wkA (e := (i : Int) + 1)]
  exact ⟨d, rfl, by omega, by omega⟩) (by intro s; unfold Xga; rw [Xax (by simp)]) o h1 (fun x hx => by have := h2 x hx; omega)
 exact ⟨r, (Xey er).trans rfl, r1, r2⟩
theorem Xtv (p : List Int) (B : Int) (hB : 0 ≤ B) (hl : p.length = 16) (hb : inB B p) : ∃ o, Xgq p = some o ∧ o.length = 16 ∧ inB B o := by
 unfold Xgq
 rw [rqA]
 obtain ⟨o, e, h1, h2⟩ := Xfz (f := Xd2 p) 16 (fun i s => s.length = 16 ∧ inB B s) (by
  intro i s hi ⟨g1, g2⟩
  have ha := Xs6 hb (i := i) (by omega)
  unfold Xd2
  simp only
  rw [syA, rqA, rqA, rqA, Xbs (by omega), Xbr (by omega), wkA (e := (i : Int) / 4), wkA (e := (i : Int) % 4 * 4), wkA (e := (i : Int) % 4 * 4 + (i : Int) / 4), rqA, rqA, wkA (e := (i : Int) + 1), Int.toNat_natCast]
  exact ⟨_, rfl, by rw [List.length_set]; exact g1, Ytl g2 _ ha⟩) (by intro s; unfold Xd2; rw [Xax (by simp)]) (List.replicate (16 : Int).toNat 0) ⟨by simp, Ytk _ hB⟩
 exact ⟨o, (Xey e).trans rfl, h1, h2⟩
theorem Yzw {B a b c d : Int} (h1 : -B ≤ a ∧ a ≤ B) (h2 : -B ≤ b ∧ b ≤ B) (h3 : -B ≤ c ∧ c ≤ B) (h4 : -B ≤ d ∧ d ≤ B) : inB B [a, b, c, d] := fun x hx => by
 simp only [List.mem_cons, List.not_mem_nil, or_false] at hx
 rcases hx with rfl | rfl | rfl | rfl
 ·
  exact h1
 ·
  exact h2
 ·
  exact h3
 ·
  exact h4
theorem Xsg (p : List Int) (B : Int) (hB : 0 ≤ B ∧ B ≤ 1000000000) (hl : p.length = 16) (hb : inB B p) : ∃ o, Xfn p = some o ∧ o.length = 16 ∧ inB (4 * B + 2) o := by
 have hm : maxLen = 9223372036854775807 := rfl
 unfold Xfn
 obtain ⟨o, e, h1, h2⟩ := Xfz (f := Xde p) 4 (fun i s => s.length = 4 * i ∧ inB (4 * B + 2) s) (by
  intro i s hi ⟨g1, g2⟩
  have a0 := Xs6 hb (i := 4 * i) (by omega)
  have a1 := Xs6 hb (i := 4 * i + 1) (by omega)
  have a2 := Xs6 hb (i := 4 * i + 2) (by omega)
  have a3 := Xs6 hb (i := 4 * i + 3) (by omega)
  obtain ⟨f, ef, f1, f2⟩ := Xlz (p.getD (4 * i + 1) 0) 2 (by omega) (Or.inl rfl)
  obtain ⟨g, eg, g1', g2'⟩ := Xlz (p.getD (4 * i + 3) 0) 2 (by omega) (Or.inl rfl)
  unfold Xde
  simp only
  rw [syA, wkA (e := 4 * (i : Int)), wkA (e := 4 * (i : Int) + 1), wkA (e := 4 * (i : Int) + 2), wkA (e := 4 * (i : Int) + 3), rqA, rqA, rqA, rqA, show (4 * (i : Int)).toNat = 4 * i by omega, show (4 * (i : Int) + 1).toNat = 4 * i + 1 by omega, show (4 * (i : Int) + 2).toNat = 4 * i + 2 by omega, show (4 * (i : Int) + 3).toNat = 4 * i + 3 by omega, ef, Xab, eg, Xab]
  generalize p.getD (4 * i) 0 = a at *
  generalize p.getD (4 * i + 1) 0 = b at *
  generalize p.getD (4 * i + 2) 0 = c at *
  generalize p.getD (4 * i + 3) 0 = d at *
  rw [wkA (e := (i : Int) + 1), wkA (e := a + c), wkA (e := a - c), wkA (e := b + g), wkA (e := f - d), wkA (e := a + c + (b + g)), wkA (e := a - c + (f - d)), wkA (e := a - c - (f - d)), wkA (e := a + c - (b + g)), Xa6 (by simp only [List.length_cons, List.length_nil]; omega)]
  exact ⟨_, rfl, by simp; omega, Ya0 g2 (Yzw (by omega) (by omega) (by omega) (by omega))⟩) (by intro s; unfold Xde; rw [Xax (by simp)]) [] ⟨rfl, Ytj _⟩
 exact ⟨o, (Xey e).trans rfl, h1, h2⟩
theorem Xsc (p : List Int) (hl : p.length = 16) (hb : inB 10000000 p) : ∃ o, Xgx p = some o ∧ o.length = 16 ∧ inB 10000000 o := by
 unfold Xgx
 obtain ⟨a, ea, a1, a2⟩ := Xsg p 10000000 (by omega) hl hb
 obtain ⟨b, eb, b1, b2⟩ := Xtv a _ (by omega) a1 a2
 obtain ⟨c, ec, c1, c2⟩ := Xsg b _ (by omega) b1 b2
 obtain ⟨d, ed, d1, d2⟩ := Xtv c _ (by omega) c1 c2
 rw [Xkt p 16 10000000 (by omega) (by omega) (by omega) hb, Xab, Bool.not_true, Xam, ea, Xab, eb, Xab, ec, Xab, ed, Xab]
 obtain ⟨r, er, r1, r2⟩ := Xub (f := Xg8) 16 (fun x => -160000010 ≤ x ∧ x ≤ 160000010) (fun x => -10000000 ≤ x ∧ x ≤ 10000000) (by
  intro i l hi hll hx
  obtain ⟨d, ed, d1, d2⟩ := Xlz (l.getD i 0 + 32) 64 (by omega) (Or.inr rfl)
  unfold Xg8
  simp only [Int.toNat_natCast]
  rw [syA, rqA, rqA, wkA (e := l.getD i 0 + 32), ed, Xab, rqA, rqA, wkA (e := (i : Int) + 1)]
  exact ⟨d, rfl, by omega, by omega⟩) (by intro s; unfold Xg8; rw [Xax (by simp)]) d d1 (fun x hx => by have := d2 x hx; omega)
 exact ⟨r, (Xey er).trans rfl, r1, r2⟩
theorem Xq0 (l qp p : Int) (hl : -5000 ≤ l ∧ l ≤ 5000) (h0 : 0 ≤ qp ∧ qp ≤ 40) (hp : 0 ≤ p ∧ p ≤ 15) : ∃ o, Xfx l qp p = some o ∧ -10000000 ≤ o ∧ o ≤ 10000000 := by
 unfold Xfx
 obtain ⟨s, es, q0, q1⟩ := Yjo qp p h0 hp
 rw [Xai, Xab, decide_eq_true hl, Bool.not_true, Xam, es, Xab]
 have m1 : l * s ≤ 5000 * s := Int.mul_le_mul_of_nonneg_right hl.2 q0
 have m2 : -5000 * s ≤ l * s := Int.mul_le_mul_of_nonneg_right hl.1 q0
 rw [wkA]
 exact ⟨_, rfl, by omega, by omega⟩
theorem Xqx (l qp : Int) (hl : -5000 ≤ l ∧ l ≤ 5000) (h0 : 0 ≤ qp ∧ qp ≤ 40) : ∃ o, Xfw l qp = some o ∧ -5760000 ≤ o ∧ o ≤ 5760000 := by
 unfold Xfw
 obtain ⟨s, es, q0, q1⟩ := Ymp qp h0
 rw [Xai, Xab, decide_eq_true hl, Bool.not_true, Xam, es, Xab]
 have m1 : l * s ≤ 5000 * s := Int.mul_le_mul_of_nonneg_right hl.2 (by omega)
 have m2 : -5000 * s ≤ l * s := Int.mul_le_mul_of_nonneg_right hl.1 (by omega)
 rw [wkA]
 exact ⟨_, rfl, by omega, by omega⟩
theorem Yxw {l : List Int} (h : Yky l = true) : l.length = 64 ∧ inB 5000 l := by
 obtain ⟨h1, h2⟩ := Xkv h
 refine ⟨h1, fun x hx => ?_⟩
 have := List.all_eq_true.1 h2 x hx
 unfold Ylu at this
 rwa [decide_eq_true_eq] at this
theorem Yq3 {c : Xf0} (h : Xg3 c = true) : 0 ≤ c.Qp ∧ c.Qp ≤ 40 := by
 unfold Xg3 at h
 rw [Bool.and_eq_true, decide_eq_true_eq] at h
 exact h.1
theorem Xpu (p : List Int) (c : Xf0) (hc : Xg3 c = true) (hp : Yky p = true) : ∃ o, Xdy p c = some (o, true) ∧ o.length = 64 ∧ inB 10000000 o := by
 have hm : maxLen = 9223372036854775807 := rfl
 have hq := Yq3 hc
 obtain ⟨hl, hb⟩ := Yxw hp
 unfold Xdy
 rw [Xft, Xab, hc, Xav, Xkt p 64 5000 (by omega) (by omega) (by omega) hb, Xab, Bool.not_true, Xab, Xam]
 cases hE : c.Exact with
 | true =>
  obtain ⟨o, e, h1, h2⟩ := Xgc 8 (Or.inr rfl) p 5000 (by omega) (by omega) hb
  rw [Xav, e, Xab]
  exact ⟨o, rfl, by omega, Ypc h2 (by omega)⟩
 | false =>
  rw [Xam]
  cases hL : c.Large with
  | true =>
   obtain ⟨w, ew, w1, w2⟩ := Xgc 8 (Or.inr rfl) p 5000 (by omega) (by omega) hb
   obtain ⟨l, el, l1, l2⟩ := Xub (f := Xbw c) 64 (fun x => -5000 ≤ x ∧ x ≤ 5000) (fun x => -5760000 ≤ x ∧ x ≤ 5760000) (by
    intro i l hi hll hx
    obtain ⟨d, ed, d1, d2⟩ := Xqx (l.getD i 0) c.Qp hx hq
    unfold Xbw
    simp only [Int.toNat_natCast]
    rw [syA, rqA, rqA, ed, Xab, rqA, rqA, wkA (e := (i : Int) + 1)]
    exact ⟨d, rfl, d1, d2⟩) (by intro s; unfold Xbw; rw [Xax (by simp)]) w (by omega) w2
   obtain ⟨o, e, h1, h2⟩ := Ybc l l1 l2
   rw [Xav, ew, Xab, el, Xab, e, Xab]
   exact ⟨o, rfl, h1, h2⟩
  | false =>
   obtain ⟨o, eo, o1, o2⟩ := Xfz (f := Xcv p c) 4 (fun k s => s.length = 64 ∧ inB 10000000 s) (by
    intro k s hk ⟨g1, g2⟩
    have hcut : ((p.drop (16 * k)).take 16).length = 16 := by rw [List.length_take, List.length_drop]; omega
    obtain ⟨a, ea, a1, a2⟩ := Xgc 4 (Or.inl rfl) ((p.drop (16 * k)).take 16) 5000 (by omega) (by omega) (Yun (Yum hb _) _)
    obtain ⟨l, el, l1, l2⟩ := Xub (f := Xbq c) 16 (fun x => -5000 ≤ x ∧ x ≤ 5000) (fun x => -10000000 ≤ x ∧ x ≤ 10000000) (by
     intro i l hi hll hx
     obtain ⟨d, ed, d1, d2⟩ := Xq0 (l.getD i 0) c.Qp i hx hq (by omega)
     unfold Xbq
     simp only [Int.toNat_natCast]
     rw [syA, rqA, rqA, ed, Xab, rqA, rqA, wkA (e := (i : Int) + 1)]
     exact ⟨d, rfl, d1, d2⟩) (by intro s; unfold Xbq; rw [Xax (by simp)]) a (by omega) a2
    obtain ⟨b, eb, b1, b2⟩ := Xsc l l1 l2
    obtain ⟨r, er, r1, r2⟩ := Xfz (f := Xbz ((k : Int), s) b) 16 (fun i s => s.length = 64 ∧ inB 10000000 s) (by
     intro i s hi ⟨g1, g2⟩
     have ha := Xs6 b2 (i := i) (by omega)
     unfold Xbz
     simp only
     rw [syA, rqA, rqA, rqA, rqA, rqA, rqA, Xbr (a := (k : Int)) (by omega), Xbr (a := (i : Int)) (by omega), Xbs (a := (k : Int)) (by omega), Xbs (a := (i : Int)) (by omega), wkA (e := (k : Int) / 2), wkA (e := (k : Int) / 2 * 4), wkA (e := (i : Int) / 4), wkA (e := (k : Int) / 2 * 4 + (i : Int) / 4), wkA (e := 8 * ((k : Int) / 2 * 4 + (i : Int) / 4)), wkA (e := (k : Int) % 2 * 4), wkA (e := 8 * ((k : Int) / 2 * 4 + (i : Int) / 4) + (k : Int) % 2 * 4), wkA (e := 8 * ((k : Int) / 2 * 4 + (i : Int) / 4) + (k : Int) % 2 * 4 + (i : Int) % 4), rqA, rqA, wkA (e := (i : Int) + 1), Int.toNat_natCast]
     exact ⟨_, rfl, by rw [List.length_set]; exact g1, Ytl g2 _ ha⟩) (by intro s; unfold Xbz; rw [Xax (by simp)]) s ⟨g1, g2⟩
    unfold Xcv
    simp only
    rw [syA, wkA (e := 16 * (k : Int)), wkA (e := 16 * (k : Int) + 16), rqA, show (16 * (k : Int)).toNat = 16 * k by omega, show (16 * (k : Int) + 16).toNat - 16 * k = 16 by omega, ea, Xab, el, Xab, eb, Xab, er, Xab, wkA (e := (k : Int) + 1)]
    exact ⟨_, rfl, r1, r2⟩) (by intro s; unfold Xcv; rw [Xax (by simp)]) (List.replicate (64 : Int).toNat 0) ⟨by simp, Ytk _ (by omega)⟩
   rw [Xam, rqA, eo, Xab]
   exact ⟨o, rfl, o1, o2⟩
theorem Xsl (l : List Int) (h : Xor l = true) : Xnp l = some true := by
 obtain ⟨h1, h2⟩ := Xsy h
 unfold Xnp
 rw [Xbc (by simp only [bne_eq_false_iff_eq]; omega), Xtb l.length (f := Xit l) (by
  intro i hi
  have := h2 i (by omega)
  unfold Xit
  rw [syA, rqA, Xai, Xab, Int.toNat_natCast, decide_eq_true this, Bool.not_true, Xam, wkA]
  rfl) (by unfold Xit; rw [snA]), Xab]
theorem Yq6 {l : List Int} (h1 : l.length = 64) (h2 : ∀ x ∈ l, 0 ≤ x ∧ x ≤ 255) : Xor l = true := by
 unfold Xor
 rw [Bool.and_eq_true, decide_eq_true_eq, List.all_eq_true]
 exact ⟨h1, fun x hx => by unfold Yzn; rw [decide_eq_true_eq]; exact h2 x hx⟩
theorem Xvt (g b : List Int) (hg : Xor g = true) (hl : b.length = 64) (hb : inB 10000000 b) : ∃ o, Xic g b = some o ∧ Xor o = true := by
 have hm : maxLen = 9223372036854775807 := rfl
 obtain ⟨g1, g2⟩ := Xsy hg
 unfold Xic
 rw [Xsl g hg, Xab, Xav, Xkt b 64 10000000 (by omega) (by omega) (by omega) hb, Xab, Bool.not_true, Xab, Xam]
 obtain ⟨o, e, h1, h2⟩ := Xfz (f := Xfv g b) 64 (fun i s => s.length = i ∧ ∀ x ∈ s, 0 ≤ x ∧ x ≤ 255) (by
  intro i s hi ⟨k1, k2⟩
  have ha := Xs6 hb (i := i) (by omega)
  have hd := g2 i hi
  have br := Xok (n := g.getD i 0 + b.getD i 0) (a := 0) (b := 255) (by omega)
  unfold Xfv
  simp only [Int.toNat_natCast]
  rw [syA, rqA, rqA, wkA (e := g.getD i 0 + b.getD i 0), Xf8, Xab, Xa6 (by simp only [List.length_singleton]; omega), wkA (e := (i : Int) + 1)]
  refine ⟨_, rfl, by simp; omega, fun x hx => ?_⟩
  rcases List.mem_append.1 hx with hx | hx
  ·
   exact k2 x hx
  ·
   rw [List.mem_singleton.1 hx]; exact br) (by intro s; unfold Xfv; rw [Xax (by simp)]) [] ⟨rfl, fun x hx => by simp at hx⟩
 exact ⟨o, (Xey e).trans rfl, Yq6 h1 h2⟩
def Ycl (e : Xl6) : Prop := (e.Above.length = 0 ∨ e.Above.length = 8) ∧ (e.Left.length = 0 ∨ e.Left.length = 8) ∧ (∀ x ∈ e.Above, 0 ≤ x ∧ x ≤ 255) ∧ (∀ x ∈ e.Left, 0 ≤ x ∧ x ≤ 255) ∧ -1 ≤ e.Corner ∧ e.Corner ≤ 255
theorem Yfm {p : Pic} (ok : Xct p = true) (x y : Int) : Xcs p x y 8 8 = some (Xm6 p x y) := by
 obtain ⟨k1, k2, k3⟩ := Xby ok
 unfold Xcs Xm6
 rw [Xgy, Xab, ok, Xav, Xai, Xab, Xai, Xab, wkA (e := p.Wide - 8), wkA (e := p.High - 8), Xai, Xab, Xai, Xab]
 simp only [Xee, Xab]
 congr 1
 rw [Bool.eq_iff_iff]
 simp only [Bool.and_eq_true, decide_eq_true_eq]
 omega
theorem Xn0 {p : Pic} (ok : Xct p = true) {x y : Int} (hx : x.tmod 8 = 0) (hy : y.tmod 8 = 0) (h : Xm6 p x y = true) : Xk2 p x y = some true := by
 unfold Xk2
 rw [rqA, hx, rqA, hy, Yfm ok, Xab, h]
 rfl
theorem Yi5 {p : Pic} (ok : Xct p = true) {x y : Int} (hx : x.tmod 8 = 0) (hy : y.tmod 8 = 0) (h : Xm6 p x y = true) : ∃ e, Xib p x y = some (e, true) ∧ Ycl e := by
 have hm : maxLen = 9223372036854775807 := rfl
 obtain ⟨k1, k2, k3⟩ := Xby ok
 have h' := h
 unfold Xm6 at h'
 rw [decide_eq_true_eq] at h'
 unfold Xib
 rw [Xn0 ok hx hy h, Xab, Bool.not_true, Xam]
 obtain ⟨o, e, o1, o2, o3, o4, o5, o6⟩ := Xfz (f := Xev p x y) 8 (fun i s => (y > 0 → s.1.length = i) ∧ (¬ y > 0 → s.1.length = 0) ∧ (x > 0 → s.2.length = i) ∧ (¬ x > 0 → s.2.length = 0) ∧ (∀ z ∈ s.1, 0 ≤ z ∧ z ≤ 255) ∧ (∀ z ∈ s.2, 0 ≤ z ∧ z ≤ 255)) (by
  intro i s hi ⟨g1, g2, g3, g4, g5, g6⟩
  obtain ⟨a, b⟩ := s
  simp only at g1 g2 g3 g4 g5 g6
  have d1 := Xrd p (x + i) (y - 1)
  have d2 := Xrd p (x - 1) (y + i)
  have st1 : ∃ a', (sel (decide (y > 0)) (bnd (Xf9 p (Xaa .i64 (x + (i : Int))) (Xaa .i64 (y - 1))) fun q16 => req ((a.length + ([q16]).length) * 8 ≤ 140737488355328 ∧ a.length + ([q16]).length ≤ maxLen) <| some (a ++ ([q16]))) (some a)) = some a' ∧ (y > 0 → a'.length = i + 1) ∧ (¬ y > 0 → a'.length = 0) ∧ (∀ z ∈ a', 0 ≤ z ∧ z ≤ 255) := by
   by_cases c : y > 0
   ·
    rw [Xbm c, wkA (e := x + (i : Int)), wkA (e := y - 1), Xls ok, Xab, Xa6 (by simp only [List.length_singleton]; have := g1 c; omega)]
    refine ⟨_, rfl, fun _ => by simp; exact g1 c, fun hn => absurd c hn, fun z hz => ?_⟩
    rcases List.mem_append.1 hz with hz | hz
    ·
     exact g5 z hz
    ·
     rw [List.mem_singleton.1 hz]; exact d1
   ·
    rw [Xax c]
    exact ⟨_, rfl, fun hn => absurd hn c, fun _ => g2 c, g5⟩
  obtain ⟨a', ea, a1, a2, a3⟩ := st1
  have st2 : ∃ b', (sel (decide (x > 0)) (bnd (Xf9 p (Xaa .i64 (x - 1)) (Xaa .i64 (y + (i : Int)))) fun q17 => req ((b.length + ([q17]).length) * 8 ≤ 140737488355328 ∧ b.length + ([q17]).length ≤ maxLen) <| some (a', (b ++ ([q17])))) (some (a', b))) = some (a', b') ∧ (x > 0 → b'.length = i + 1) ∧ (¬ x > 0 → b'.length = 0) ∧ (∀ z ∈ b', 0 ≤ z ∧ z ≤ 255) := by
   by_cases c : x > 0
   ·
    rw [Xbm c, wkA (e := y + (i : Int)), wkA (e := x - 1), Xls ok, Xab, Xa6 (by simp only [List.length_singleton]; have := g3 c; omega)]
    refine ⟨_, rfl, fun _ => by simp; exact g3 c, fun hn => absurd c hn, fun z hz => ?_⟩
    rcases List.mem_append.1 hz with hz | hz
    ·
     exact g6 z hz
    ·
     rw [List.mem_singleton.1 hz]; exact d2
   ·
    rw [Xax c]
    exact ⟨_, rfl, fun hn => absurd hn c, fun _ => g4 c, g6⟩
  obtain ⟨b', eb, b1, b2, b3⟩ := st2
  unfold Xev
  simp only
  rw [syA, ea, Xab, eb, Xab, wkA (e := (i : Int) + 1)]
  exact ⟨(a', b'), rfl, a1, a2, b1, b2, a3, b3⟩) (by intro s; unfold Xev; rw [Xax (by simp)]) ([], []) ⟨fun _ => rfl, fun _ => rfl, fun _ => rfl, fun _ => rfl, fun z hz => by simp at hz, fun z hz => by simp at hz⟩
 rw [e, Xab, Xee, Xab]
 have d3 := Xrd p (x - 1) (y - 1)
 have ha : o.1.length = 0 ∨ o.1.length = 8 := by
  by_cases c : y > 0
  ·
   exact Or.inr (o1 c)
  ·
   exact Or.inl (o2 c)
 have hb : o.2.length = 0 ∨ o.2.length = 8 := by
  by_cases c : x > 0
  ·
   exact Or.inr (o3 c)
  ·
   exact Or.inl (o4 c)
 cases hc : (decide (x > 0) && decide (y > 0)) with
 | true =>
  rw [Xav, wkA (e := x - 1), wkA (e := y - 1), Xls ok, Xab, Xab]
  exact ⟨_, rfl, ha, hb, o5, o6, by simp only; omega, by simp only; omega⟩
 | false =>
  rw [Xam, Xab]
  exact ⟨_, rfl, ha, hb, o5, o6, by simp only; omega, by simp only; omega⟩
theorem Xso (l : List Int) (hl : l.length = 0 ∨ l.length = 8) (h : ∀ x ∈ l, 0 ≤ x ∧ x ≤ 255) : Xk3 l = some true := by
 unfold Xk3
 have hc : (sel ((l.length : Int) != 0) (some ((l.length : Int) != 8)) (some false)) = some false := by
  rcases hl with e | e
  ·
   rw [e]; rfl
  ·
   rw [e]; rfl
 rw [hc, Xab, Xam, Xtb l.length (f := Xiu l) (by
  intro i hi
  have := h (l.getD i 0) (by rw [Xb4 l i hi]; exact List.getElem_mem _)
  unfold Xiu
  rw [syA, rqA, Xai, Xab, Int.toNat_natCast, decide_eq_true this, Bool.not_true, Xam, wkA]
  rfl) (by unfold Xiu; rw [snA]), Xab]
theorem Xsb {e : Xl6} (h : Ycl e) : Xnm e = some true := by
 obtain ⟨h1, h2, h3, h4, h5, h6⟩ := h
 unfold Xnm
 rw [Xso _ h1 h3, Xab, Xav, Xso _ h2 h4, Xab, Xav, Xai, Xab, decide_eq_true ⟨h5, h6⟩, Xab]
theorem Xq5 (l : List Int) (k : Nat) (hk : k < 8) (hl : l.length = 0 ∨ l.length = 8) (h : ∀ x ∈ l, 0 ≤ x ∧ x ≤ 255) : ∃ x, Xdq l k = some x ∧ 0 ≤ x ∧ x ≤ 255 := by
 unfold Xdq
 rcases hl with e | e
 ·
  rw [Xbl (by rw [e]; rfl)]; exact ⟨_, rfl, by omega, by omega⟩
 ·
  rw [Xbc (by rw [e]; rfl), rqA, Int.toNat_natCast]
  exact ⟨_, rfl, h _ (by rw [Xb4 l k (by omega)]; exact List.getElem_mem _)⟩
theorem Xv1 {e : Xl6} (h : Ycl e) : ∃ x, Xkm e = some x ∧ 0 ≤ x ∧ x ≤ 255 := by
 obtain ⟨h1, h2, h3, h4, _, _⟩ := h
 unfold Xkm
 rw [wkA (e := (e.Above.length : Int) + (e.Left.length : Int))]
 by_cases hz : (e.Above.length : Int) + (e.Left.length : Int) = 0
 ·
  rw [Xbl (by simpa using hz)]; exact ⟨_, rfl, by omega, by omega⟩
 ·
  rw [Xbc (by simpa using hz), rqA, Xbr (by omega), wkA (e := ((e.Above.length : Int) + (e.Left.length : Int)) / 2)]
  obtain ⟨a, ea, a1, a2⟩ := Xpl (f := Xhl e) e.Above.length (fun i s => 0 ≤ s ∧ s ≤ ((e.Above.length : Int) + (e.Left.length : Int)) / 2 + 255 * i) (by
   intro i s hi ⟨g1, g2⟩
   have := h3 (e.Above.getD i 0) (by rw [Xb4 _ i hi]; exact List.getElem_mem _)
   unfold Xhl
   simp only [Int.toNat_natCast]
   rw [syA, rqA, wkA (e := s + e.Above.getD i 0), wkA (e := (i : Int) + 1)]
   exact ⟨_, rfl, by omega, by omega⟩) (by intro s; unfold Xhl; rw [Xax (by simp)]) (((e.Above.length : Int) + (e.Left.length : Int)) / 2) ⟨by omega, by omega⟩
  obtain ⟨b, eb, b1, b2⟩ := Xpl (f := Xhm e) e.Left.length (fun i s => 0 ≤ s ∧ s ≤ ((e.Above.length : Int) + (e.Left.length : Int)) / 2 + 255 * e.Above.length + 255 * i) (by
   intro i s hi ⟨g1, g2⟩
   have := h4 (e.Left.getD i 0) (by rw [Xb4 _ i hi]; exact List.getElem_mem _)
   unfold Xhm
   simp only [Int.toNat_natCast]
   rw [syA, rqA, wkA (e := s + e.Left.getD i 0), wkA (e := (i : Int) + 1)]
   exact ⟨_, rfl, by omega, by omega⟩) (by intro s; unfold Xhm; rw [Xax (by simp)]) a ⟨by omega, by omega⟩
  rw [ea, Xab, eb, Xab, Xa6 hz, Xbr b1]
  have hn : (e.Above.length : Int) + (e.Left.length : Int) = 8 ∨ (e.Above.length : Int) + (e.Left.length : Int) = 16 := by omega
  have hr : 0 ≤ b / ((e.Above.length : Int) + (e.Left.length : Int)) ∧ b / ((e.Above.length : Int) + (e.Left.length : Int)) ≤ 255 := by
   rcases hn with hn | hn <;> rw [hn] <;> omega
  rw [wkA]
  exact ⟨_, rfl, hr⟩
theorem Yja (m : Int) (hm0 : 0 ≤ m ∧ m ≤ 3) {e : Xl6} (h : Ycl e) : ∃ g, Xgp m e = some g ∧ Xor g = true := by
 have hm : maxLen = 9223372036854775807 := rfl
 have h' := h
 obtain ⟨h1, h2, h3, h4, h5, h6⟩ := h'
 obtain ⟨mid, em, m1, m2⟩ := Xv1 h
 unfold Xgp
 rw [Xsb h, Xab, Xav, Xai, Xab, decide_eq_true hm0, Bool.not_true, Xab, Xam]
 have hc : ∃ v, sel (decide (e.Corner < 0)) (some (128 : Int)) (some e.Corner) = some v ∧ 0 ≤ v ∧ v ≤ 255 := by
  by_cases c : e.Corner < 0
  ·
   rw [Xbm c]; exact ⟨_, rfl, by omega, by omega⟩
  ·
   rw [Xax c]; exact ⟨_, rfl, by omega, by omega⟩
 obtain ⟨v, ev, v1, v2⟩ := hc
 rw [ev, Xab]
 obtain ⟨o, eo, o1, o2⟩ := Xfz (f := Xdx m e v) 64 (fun i s => s.length = i ∧ ∀ x ∈ s, 0 ≤ x ∧ x ≤ 255) (by
  intro i s hi ⟨g1, g2⟩
  obtain ⟨a, ea, a1, a2⟩ := Xq5 e.Above (i % 8) (by omega) h1 h3
  obtain ⟨b, eb, b1, b2⟩ := Xq5 e.Left (i / 8) (by omega) h2 h4
  have br := Xok (n := b + a - v) (a := 0) (b := 255) (by omega)
  have put : ∀ z : Int, 0 ≤ z ∧ z ≤ 255 → (s ++ [z]).length = i + 1 ∧ ∀ x ∈ s ++ [z], 0 ≤ x ∧ x ≤ 255 := by
   intro z hz
   refine ⟨by simp; omega, fun x hx => ?_⟩
   rcases List.mem_append.1 hx with hx | hx
   ·
    exact g2 x hx
   ·
    rw [List.mem_singleton.1 hx]; exact hz
  unfold Xdx
  simp only
  rw [syA, rqA, Xbs (by omega), show (i : Int) % 8 = ((i % 8 : Nat) : Int) by omega, ea, Xab, rqA, Xbr (by omega), wkA (e := (i : Int) / 8), show (i : Int) / 8 = ((i / 8 : Nat) : Int) by omega, eb, Xab, wkA (e := (i : Int) + 1), em]
  cases (m == 0) with
  | true =>
   rw [Xav, Xab, Xa6 (by simp only [List.length_singleton]; omega), Xab]
   exact ⟨_, rfl, put _ ⟨m1, m2⟩⟩
  | false =>
   rw [Xam]
   cases (m == 1) with
   | true =>
    rw [Xav, Xa6 (by simp only [List.length_singleton]; omega), Xab]
    exact ⟨_, rfl, put _ ⟨a1, a2⟩⟩
   | false =>
    rw [Xam]
    cases (m == 2) with
    | true =>
     rw [Xav, Xa6 (by simp only [List.length_singleton]; omega), Xab]
     exact ⟨_, rfl, put _ ⟨b1, b2⟩⟩
    | false =>
     rw [Xam, wkA (e := b + a), wkA (e := b + a - v), Xf8, Xab, Xa6 (by simp only [List.length_singleton]; omega), Xab]
     exact ⟨_, rfl, put _ br⟩) (by intro s; unfold Xdx; rw [Xax (by simp)]) [] ⟨rfl, fun x hx => by simp at hx⟩
 exact ⟨o, (Xey eo).trans rfl, Yq6 o1 o2⟩
theorem Yys : Xnq ⟨0, 0, 0, 0, []⟩ = true := rfl
theorem Ywj {m : Int} {l : List Int} (hm : 0 ≤ m ∧ m ≤ 3) (hl : Yky l = true) : Xnq ⟨2, m, 0, 0, l⟩ = true := by
 unfold Xnq
 simp only
 rw [if_neg (by omega), if_neg (by omega), if_pos trivial, hl, decide_eq_true hm]
 rfl
theorem Ysp {dx dy : Int} {l : List Int} (hx : -16 ≤ dx ∧ dx ≤ 16) (hy : -16 ≤ dy ∧ dy ≤ 16) (hl : Yky l = true) : Xnq ⟨1, 0, dx, dy, l⟩ = true := by
 unfold Xnq
 simp only
 rw [if_neg (by omega), if_pos trivial, hl, decide_eq_true hx, decide_eq_true hy]
 rfl
theorem Ynb {p : Pic} {x y : Int} {d : List Int} (ok : Xct p = true) (h0 : Xm6 p x y = true) (hd : Xor d = true) : ∃ p', Xiv p x y d = some p' ∧ Xct p' = true ∧ p'.Wide = p.Wide ∧ p'.High = p.High := by
 have hm : maxLen = 9223372036854775807 := rfl
 obtain ⟨k1, k2, k3⟩ := Xby ok
 have ar := Xeo k1 k2
 unfold Xm6 at h0
 rw [decide_eq_true_eq] at h0
 have hdl := (Xsy hd).1
 have hn := Xbv p.Dots
 unfold Xiv
 rw [rqA]
 obtain ⟨o, e, o1⟩ := Xfz (f := Xfy p x y d) 64 (fun _ s => s.length = p.Dots.size) (by
  intro i s hi g1
  have b1 : 0 ≤ (y + (i : Int) / 8) * p.Wide := Int.mul_nonneg (by omega) (by omega)
  have b2 : (y + (i : Int) / 8) * p.Wide ≤ (p.High - 1) * p.Wide := Int.mul_le_mul_of_nonneg_right (by omega) (by omega)
  have b3 : (p.High - 1) * p.Wide = p.Wide * p.High - p.Wide := by rw [Int.sub_mul, Int.one_mul, Int.mul_comm]
  unfold Xfy
  simp only
  rw [syA, rqA, rqA, rqA, Xbr (by omega), Xbs (by omega), wkA (e := (i : Int) / 8), wkA (e := y + (i : Int) / 8), wkA (e := (y + (i : Int) / 8) * p.Wide), wkA (e := (y + (i : Int) / 8) * p.Wide + x), wkA (e := (y + (i : Int) / 8) * p.Wide + x + (i : Int) % 8), rqA, rqA, wkA (e := (i : Int) + 1)]
  exact ⟨_, rfl, by rw [List.length_set]; exact g1⟩) (by intro s; unfold Xfy; rw [Xax (by simp)]) (Xa0 p.Dots) hn
 refine ⟨_, (Xey e).trans rfl, Xuf k1 k2 ?_, rfl, rfl⟩
 simp only
 rw [strOfNums_size]; omega
def Xrx (n : Int) : Bool := decide (n.tmod 8 = 0) && decide (8 ≤ n ∧ n ≤ 64)
theorem Xt0 (n : Int) : Xk5 n = some (Xrx n) := by
 unfold Xk5 Xrx
 rw [rqA, Xai, Xab, Xee, Xab, Yom]
theorem Ynd (l : List Xar) (c : Xf0) (hs : ∀ s ∈ l, Xnq s = true) (hl : l.length ≤ 64) : Xpf l c = some (strOfNums (Xk6 l c)) := by
 have hm : maxLen = 9223372036854775807 := rfl
 have kr : ∀ (r a : List Xar) (t : List Int), l = a ++ r → t.length ≤ 5265 * a.length → loop (Xj4 l c) ((a.length : Int), t) = some (t ++ Xk6 r c) := by
  intro r
  induction r with
  | nil =>
   intro a t ha _
   rw [List.append_nil] at ha
   exact Xcn (by unfold Xj4; simp only; rw [Xax (by rw [ha]; omega), Xk6, List.append_nil])
  | cons s r ih =>
   intro a t ha ht
   have hlen : a.length < l.length := by rw [ha]; simp
   have hx : l.getD a.length Xbx = s := by rw [ha]; exact Xn9 a s _ r
   have hok : Xnq s = true := hs s (by rw [ha]; simp)
   have g := Yyr (c := c) hok
   have hn := ih (a ++ [s]) (t ++ sqL s c) (by rw [ha]; simp) (by simp only [List.length_append, List.length_singleton]; omega)
   rw [List.length_append, List.length_singleton] at hn
   rw [Xk6, ← List.append_assoc, ← hn]
   refine Xho ?_
   unfold Xj4
   simp only [Int.toNat_natCast, hx]
   rw [syA, rqA, show (⟨s.Kind, s.Mode, s.Dx, s.Dy, s.Levels⟩ : Xar) = s from rfl, Ym9 s c hok, Xab, Ypm _ (Xk8 (Yyq _ _)), rqA, wkA]
   rfl
 unfold Xpf
 exact Xey (kr l [] [] rfl (by simp))
theorem Xw9 (c : Xa7) (hc : Xht c) : ∃ p c', Xha c = some (p, c') ∧ Xlo p = true ∧ Xht c' := by
 unfold Xha
 obtain ⟨x, c1, e1, x0, x1, _, h1⟩ := Xa3 c 41 hc
 obtain ⟨b, c2, e2, h2⟩ := Xdc c1 4 h1
 obtain ⟨y, c3, e3, y0, y1, _, h3⟩ := Xa3 c2 3 h2
 have x1' := x1 (by omega)
 rw [e1, Xab]
 simp only
 rw [e2, Xab]
 simp only
 rw [e3, Xab]
 simp only
 have po : ∀ (l e f : Bool), (l && e) = false → Xlo ⟨x, l, e, f⟩ = true := by
  intro l e f h
  unfold Xlo
  rw [Bool.and_eq_true, decide_eq_true_eq]
  exact ⟨by simp only; omega, by simp only [h]; rfl⟩
 cases (y == 0) with
 | true => exact ⟨_, _, rfl, po _ _ _ rfl, h3⟩
 | false =>
  cases (y == 1) with
  | true => exact ⟨_, _, rfl, po _ _ _ rfl, h3⟩
  | false => exact ⟨_, _, rfl, po _ _ _ rfl, h3⟩
theorem Ypd {V O : Type} {f g : V → Option (Lp V O)} (I : V → Prop) (h : ∀ v, I v → f v = g v) (hI : ∀ v v', I v → g v = some (.go v') → I v') : ∀ (k : Nat) (v : V), I v → it f k v = it g k v
 | 0, _, _ => rfl
 | k + 1, v, hv => by
  rw [it, it, h v hv]
  cases e : g v with
  | none => rfl
  | some s =>
   cases s with
   | go y => exact Ypd I h hI k y (hI v y hv e)
   | done o => rfl
theorem Ya4 {V O : Type} {f g : V → Option (Lp V O)} (I : V → Prop) (h : ∀ v, I v → f v = g v) (hI : ∀ v v', I v → g v = some (.go v') → I v') {v : V} (hv : I v) : loop f v = loop g v := by
 apply Option.ext
 intro o
 rw [Xjm, Xjm]
 exact ⟨fun ⟨k, hk⟩ => ⟨k, by rw [← Ypd I h hI k v hv]; exact hk⟩, fun ⟨k, hk⟩ => ⟨k, by rw [Ypd I h hI k v hv]; exact hk⟩⟩
theorem Ytr {V O : Type} {f : V → Option (Lp V O)} {v : V} {o : O} (k : Nat) (h : it f k v = some o) : loop f v = some o := Xjm.2 ⟨k, h⟩
theorem Yie {a b : List Int} {n : Nat} (ha : a.length = n) (hb : b.length = n) (h : ∀ i : Nat, i < n → a.getD i 0 = b.getD i 0) : a = b := by
 apply List.ext_getElem (by omega)
 intro i h1 h2
 have := h i (by omega)
 rwa [Xb4 a i h1, Xb4 b i h2] at this
theorem Xj8 {n : Nat} (g : Nat → Int) {i : Nat} (h : i < n) : ((List.range n).map g).getD i 0 = g i := by
 rw [Xb4 _ i (by simpa using h)]; simp
theorem Yzg {α : Type} {f : Int × List α → Option (Lp (Int × List α) (List α))} (n : Nat) (g : Nat → α) (a : List α) (hs : ∀ i : Nat, i < n → f ((i : Int), a ++ (List.range i).map g) = some (.go (((i + 1 : Nat) : Int), a ++ (List.range i).map g ++ [g i]))) (he : f ((n : Int), a ++ (List.range n).map g) = some (.done (a ++ (List.range n).map g))) : loop f (0, a) = some (a ++ (List.range n).map g) := by
 have key : ∀ i : Nat, i ≤ n → loop f ((i : Int), a ++ (List.range i).map g) = some (a ++ (List.range n).map g) := by
  refine Xhn _ (Xcn he) ?_
  intro i hi ih
  refine lgo (hs i hi) ?_
  rw [List.append_assoc, show (List.range i).map g ++ [g i] = (List.range (i + 1)).map g by simp [List.range_succ]]
  exact ih
 have := key 0 (by omega)
 simpa using this
theorem Xjk {S : Type} {f : Int × S → Option (Lp (Int × S) S)} (n : Nat) (I : Nat → S → Prop) (hs : ∀ (i : Nat) (l : S), i < n → I i l → ∃ l', f ((i : Int), l) = some (.go (((i + 1 : Nat) : Int), l')) ∧ I (i + 1) l') (he : ∀ l, I n l → f ((n : Int), l) = some (.done l)) (l0 : S) (h0 : I 0 l0) : ∃ o, loop f (0, l0) = some o ∧ I n o := by
 have key : ∀ i : Nat, i ≤ n → ∀ l, I i l → ∃ o, loop f ((i : Int), l) = some o ∧ I n o := by
  refine Xhn _ ?_ ?_
  ·
   intro l h; exact ⟨l, Xcn (he l h), h⟩
  ·
   intro i hi ih l h
   obtain ⟨l', e, h'⟩ := hs i l hi h
   obtain ⟨o, e2, h2⟩ := ih l' h'
   exact ⟨o, lgo e e2, h2⟩
 exact key 0 (by omega) l0 h0
theorem Yv9 {f : Int × List Int → Option (Lp (Int × List Int) (List Int))} (n : Nat) (g : Nat → Int) (l : List Int) (hl : l.length = n) (hs : ∀ (i : Nat) (s : List Int), i < n → s.length = n → s.getD i 0 = l.getD i 0 → f ((i : Int), s) = some (.go (((i + 1 : Nat) : Int), s.set i (g i)))) (he : ∀ s : List Int, s.length = n → f ((n : Int), s) = some (.done s)) : loop f (0, l) = some ((List.range n).map g) := by
 obtain ⟨o, e, h1, h2, _⟩ := Xjk (f := f) n (fun i s => s.length = n ∧ (∀ j, j < i → s.getD j 0 = g j) ∧ ∀ j, i ≤ j → s.getD j 0 = l.getD j 0) (by
  intro i s hi ⟨g1, g2, g3⟩
  refine ⟨_, hs i s hi g1 (g3 i (Nat.le_refl _)), by rw [List.length_set]; exact g1, fun j hj => ?_, fun j hj => ?_⟩
  ·
   rw [Xgt s i j _ (by omega)]
   by_cases h : i = j
   ·
    rw [if_pos h, h]
   ·
    rw [if_neg h]; exact g2 j (by omega)
  ·
   rw [Xgt s i j _ (by omega), if_neg (by omega)]; exact g3 j (by omega)) (fun s hs => he s hs.1) l ⟨hl, fun j hj => by omega, fun _ _ => rfl⟩
 rw [e]
 congr 1
 exact Yie h1 (by simp) fun i hi => by rw [h2 i hi, Xj8 g hi]
theorem Ytf : Xop = Xdf := rfl
theorem Ymo (qp : Int) (h0 : 0 ≤ qp ∧ qp ≤ 40) : Xig qp = some (Xph qp) := by
 have h := Yyt ⟨qp.toNat, by omega⟩
 simp only at h
 rw [show ((qp.toNat : Nat) : Int) = qp by omega] at h
 unfold Xig
 rw [Xai, Xab, decide_eq_true (by omega), Bool.not_true, Xam, rqA]
 have hb : (sel ((qp.tmod 6) == 0) (some (10 : Int)) (sel ((qp.tmod 6) == 1) (some 11) (sel ((qp.tmod 6) == 2) (some 13) (sel ((qp.tmod 6) == 3) (some 14) (sel ((qp.tmod 6) == 4) (some 16) (some 18)))))) = some (Xr1 qp) := by
  unfold Xr1
  simp only [Ypy, beq_iff_eq]
  repeat' split
  all_goals rfl
 rw [hb, Xab]
 unfold Xph at h ⊢
 cases e : it (Xj0 qp) 10 (Xr1 qp, 0) with
 | none => rw [e] at h; simp only at h; omega
 | some q => rw [Xjm.2 ⟨10, e⟩, Xab]
theorem Yo9 : ∀ q : Fin 41, Xma (q.val : Int) = some (Xph (q.val : Int)) := by decide +kernel
theorem Yll (qp : Int) (h0 : 0 ≤ qp ∧ qp ≤ 40) : Xma qp = some (Xph qp) := by
 have := Yo9 ⟨qp.toNat, by omega⟩
 simp only at this
 rwa [show ((qp.toNat : Nat) : Int) = qp by omega] at this
theorem Yqr (qp : Int) (h0 : 0 ≤ qp ∧ qp ≤ 40) : Xma qp = Xig qp := by rw [Yll qp h0, Ymo qp h0]
theorem Xvw (u v : Nat) (hu : u < 8) (hv : v < 8) : Xie u v = some (Xjx u v) := by
 have h := Yym ⟨u, hu⟩ ⟨v, hv⟩
 simp only at h
 unfold Xie
 rw [Xai, Xab, decide_eq_true (by omega), Xav, Xai, Xab, decide_eq_true (by omega), Bool.not_true, Xab, Xam]
 unfold Xjx at h ⊢
 cases e : it Xjy 10 (1, (IntKind.wrap .i64 (BitVec.ofInt (IntKind.bits .i64) (u : Int) &&& BitVec.ofInt (IntKind.bits .i64) (v : Int)).toNat)) with
 | none => rw [e] at h; simp only at h; omega
 | some q => rw [Xjm.2 ⟨10, e⟩, Xab]
theorem Yo8 : ∀ u v : Fin 8, Xl9 (u.val : Int) (v.val : Int) = some (Xjx (u.val : Int) (v.val : Int)) := by decide +kernel
theorem Ycg (u v : Nat) (hu : u < 8) (hv : v < 8) : Xl9 u v = some (Xjx u v) := Yo8 ⟨u, hu⟩ ⟨v, hv⟩
def Ypw (qp p : Int) : Option Int :=
 bnd (Xmk p) fun q1 => bnd (Xca q1 10 16 13) fun a1 => bnd (Xca q1 11 18 14) fun a2 => bnd (Xca q1 13 20 16) fun a3 => bnd (Xca q1 14 23 18) fun a4 => bnd (Xca q1 16 25 20) fun a5 => bnd (Xca q1 18 29 23) fun a6 =>
 it (Xew qp) 10 ((sel (qp.tmod 6 == 0) a1 (sel (qp.tmod 6 == 1) a2 (sel (qp.tmod 6 == 2) a3 (sel (qp.tmod 6 == 3) a4 (sel (qp.tmod 6 == 4) a5 (sel (qp.tmod 6 == 5) a6 0)))))), 0)
theorem Yyi : ∀ q : Fin 41, ∀ p : Fin 16, (Ypw (q.val : Int) (p.val : Int)).isSome = true ∧ Xnb (q.val : Int) (p.val : Int) = Ypw (q.val : Int) (p.val : Int) := by decide +kernel
theorem Yod (qp p : Int) (h0 : 0 ≤ qp ∧ qp ≤ 40) (hp : 0 ≤ p ∧ p ≤ 15) : Xnb qp p = Xid qp p := by
 have := Yyi ⟨qp.toNat, by omega⟩ ⟨p.toNat, by omega⟩
 simp only at this
 rw [show ((qp.toNat : Nat) : Int) = qp by omega, show ((p.toNat : Nat) : Int) = p by omega] at this
 obtain ⟨h1, h2⟩ := this
 rw [h2]
 cases e : Ypw qp p with
 | none => rw [e] at h1; cases h1
 | some o =>
  unfold Ypw at e
  unfold Xid
  obtain ⟨k, ek, k0, k1⟩ := Xvu p hp
  rw [ek, Xab] at e ⊢
  rw [Xai, Xab, decide_eq_true h0, Xav, decide_eq_false (by omega), Xab, Xam, rqA]
  obtain ⟨a1, e1, b1⟩ := Xb7 k 10 16 13
  obtain ⟨a2, e2, b2⟩ := Xb7 k 11 18 14
  obtain ⟨a3, e3, b3⟩ := Xb7 k 13 20 16
  obtain ⟨a4, e4, b4⟩ := Xb7 k 14 23 18
  obtain ⟨a5, e5, b5⟩ := Xb7 k 16 25 20
  obtain ⟨a6, e6, b6⟩ := Xb7 k 18 29 23
  rw [e1, e2, e3, e4, e5, e6] at e ⊢
  simp only [Xab, Yyl] at e ⊢
  rw [Ytr 10 e, Xab]
def Xqu (n : Int) (v16 : Int × List Int) : Option (Lp (Int × List Int) (List Int)) :=
 sel (decide (v16.1 ≤ (Xaa .i64 ((Xaa .i64 (2 * n)) - 2)))) (
 bnd (it (Xlj n v16) 20 (0, v16.2)) fun v42 =>
 some (.go (Xaa .i64 (v16.1 + 1), v42))) (
 some (.done v16.2))
theorem Ysl {n : Int} {v : Int × List Int} {x : Lp (Int × List Int) (List Int)} (h : Xqu n v = some x) : Xhp n v = some x := by
 unfold Xqu at h
 unfold Xhp
 rcases Xrw h with ⟨hb, h⟩ | ⟨hb, h⟩
 ·
  rw [hb, Xav]
  obtain ⟨a, h1, h2⟩ := Xbo h
  rw [Xjm.2 ⟨20, h1⟩, Xab]
  exact h2
 ·
  rw [hb, Xam]; exact h
def Ylw (n : Int) : List Int := (it (Xqu n) 20 (0, [])).getD []
theorem Zcc : (it (Xqu 4) 20 (0, [])).isSome = true ∧ (Ylw 4).length = 16 := by decide +kernel
theorem Zcd : (it (Xqu 8) 20 (0, [])).isSome = true ∧ (Ylw 8).length = 64 := by decide +kernel
theorem Yyj : ∀ i : Fin 16, (Ylw 4).getD i.val 0 = Xh1 4 (i.val : Int) := by decide +kernel
theorem Yyk : ∀ i : Fin 64, (Ylw 8).getD i.val 0 = Xh1 8 (i.val : Int) := by decide +kernel
theorem Yax (n : Int) (hn : n = 4 ∨ n = 8) : Xju n = some (Ylw n) ∧ ((Ylw n).length : Int) = n * n ∧ ∀ i : Nat, (i : Int) < n * n → (Ylw n).getD i 0 = Xh1 n i := by
 have h : (it (Xqu n) 20 (0, [])).isSome = true ∧ ((Ylw n).length : Int) = n * n := by
  rcases hn with rfl | rfl
  ·
   have := Zcc; exact ⟨this.1, by omega⟩
  ·
   have := Zcd; exact ⟨this.1, by omega⟩
 refine ⟨?_, h.2, fun i hi => ?_⟩
 ·
  obtain ⟨o, ho⟩ := Option.isSome_iff_exists.1 h.1
  have hl := Ytr 20 (Yzx (fun v y => Ysl (n := n)) 20 _ ho)
  unfold Xju
  rw [hl, Xab]
  unfold Ylw; rw [ho]; rfl
 ·
  rcases hn with rfl | rfl
  ·
   exact Yyj ⟨i, by omega⟩
  ·
   exact Yyk ⟨i, by omega⟩
theorem Xsu (n : Int) (hn : n = 4 ∨ n = 8) (l : List Int) (hl : (l.length : Int) = n * n) : Xfq n l = Xdo n l := by
 obtain ⟨e, h1, h2⟩ := Yax n hn
 have hw : Xaa .i64 (n * n) = n * n := by rcases hn with rfl | rfl <;> exact wkA
 have hn2 : n * n ≤ 64 := by rcases hn with rfl | rfl <;> omega
 unfold Xfq Xdo
 rw [e]
 have : loop (Xi5 l (Ylw n)) (0, List.replicate (l.length : Int).toNat 0) = loop (Xcy n l) (0, List.replicate (l.length : Int).toNat 0) := by
  refine Ya4 (fun v => (∃ i : Nat, v.1 = (i : Int) ∧ i ≤ l.length) ∧ v.2.length = l.length) ?_ ?_ ⟨⟨0, rfl, by omega⟩, by simp⟩
  ·
   intro ⟨i, s⟩ ⟨⟨k, ek, hk⟩, hs⟩
   simp only at hs ek
   subst ek
   unfold Xi5 Xcy
   simp only [Int.toNat_natCast]
   rw [hw]
   by_cases hi : (k : Int) < n * n
   ·
    have hp := Xps n hn k hi
    have h3 := h2 k hi
    simp only [h3]
    rw [syA, Xbm hi, Xp6 n hn k hi, Xab, rqA, rqA]
   ·
    rw [snA, Xax hi]
  ·
   intro ⟨i, s⟩ v' ⟨⟨k, ek, hk⟩, hs⟩ he
   simp only at hs ek
   subst ek
   unfold Xcy at he
   simp only [Int.toNat_natCast] at he
   rw [hw] at he
   by_cases hi : (k : Int) < n * n
   ·
    have hp := Xps n hn k hi
    rw [Xbm hi, Xp6 n hn k hi, Xab, rqA, rqA, rqA, wkA] at he
    cases he
    exact ⟨⟨k + 1, rfl, by omega⟩, by rw [List.length_set]; exact hs⟩
   ·
    rw [Xax hi] at he; cases he
 simp only [Xab, this]
def Yqi (t : Nat → Int) : Nat → Int
 | 0 => 0
 | k + 1 => Xaa .i64 (Yqi t k + t k)
def Zb8 (p : List Int) (i v k : Nat) : Int := Xaa .i64 (Xjx v k * p.getD (8 * i + k) 0)
def Zbp (p : List Int) (u v k : Nat) : Int := Xaa .i64 (Xjx u k * p.getD (8 * k + v) 0)
def Xsz (p : List Int) : List Int := (List.range 64).map fun j => Yqi (Zb8 p (j / 8) (j % 8)) 8
def Ywn (p : List Int) : List Int := (List.range 64).map fun j => Yqi (Zbp (Xsz p) (j / 8) (j % 8)) 8
theorem Yrf (p : List Int) : (Xsz p).length = 64 := by simp [Xsz]
theorem Yyv (p : List Int) : (Ywn p).length = 64 := by simp [Ywn]
theorem Yst {f1 : Int × List Int → Option (Lp (Int × List Int) (List Int))} {f2 : Int × List Int → Int × List Int → Option (Lp (Int × List Int) (List Int))} {f3 : Int × List Int → Int × List Int → Int × List Int → Option (Lp (Int × List Int) (List Int))} (t : Nat → Nat → Nat → Int)
  (h1 : ∀ v, f1 v = sel (decide (v.1 < 8)) (bnd (loop (f2 v) (0, v.2)) fun w => some (.go (Xaa .i64 (v.1 + 1), w))) (some (.done v.2)))
  (h2 : ∀ v w, f2 v w = sel (decide (w.1 < 8)) (bnd (loop (f3 v w) (0, w.2)) fun x => some (.go (Xaa .i64 (w.1 + 1), x))) (some (.done w.2)))
  (h3 : ∀ (i v k : Nat) (a b s : List Int), i < 8 → v < 8 → k < 8 → s.length = 64 → f3 ((i : Int), a) ((v : Int), b) ((k : Int), s) = some (.go (((k + 1 : Nat) : Int), s.set (8 * i + v) (Xaa .i64 (s.getD (8 * i + v) 0 + t i v k)))))
  (h4 : ∀ (i v : Nat) (a b s : List Int), f3 ((i : Int), a) ((v : Int), b) (8, s) = some (.done s)) : loop f1 (0, List.replicate 64 0) = some ((List.range 64).map fun j => Yqi (t (j / 8) (j % 8)) 8) := by
 obtain ⟨o, e, o1, o2, _⟩ := Xjk (f := f1) 8 (fun i s => s.length = 64 ∧ (∀ j, j < 8 * i → s.getD j 0 = Yqi (t (j / 8) (j % 8)) 8) ∧ ∀ j, 8 * i ≤ j → s.getD j 0 = 0) (by
  intro i s hi ⟨g1, g2, g3⟩
  obtain ⟨r, er, r1, r2, r3⟩ := Xjk (f := f2 ((i : Int), s)) 8 (fun v s => s.length = 64 ∧ (∀ j, j < 8 * i + v → s.getD j 0 = Yqi (t (j / 8) (j % 8)) 8) ∧ ∀ j, 8 * i + v ≤ j → s.getD j 0 = 0) (by
   intro v s' hv ⟨k1, k2, k3⟩
   obtain ⟨q, eq, q1, q2, q3⟩ := Xjk (f := f3 ((i : Int), s) ((v : Int), s')) 8 (fun k s => s.length = 64 ∧ (∀ j, j ≠ 8 * i + v → s.getD j 0 = s'.getD j 0) ∧ s.getD (8 * i + v) 0 = Yqi (t i v) k) (by
    intro k s'' hk ⟨m1, m2, m3⟩
    refine ⟨_, h3 i v k s s' s'' hi hv hk m1, by rw [List.length_set]; exact m1, fun j hj => ?_, ?_⟩
    ·
     rw [Xgt _ _ _ _ (by omega), if_neg (fun h => hj h.symm)]; exact m2 j hj
    ·
     rw [Xgt _ _ _ _ (by omega), if_pos rfl, m3]; rfl) (fun z _ => h4 i v s s' z) s' ⟨k1, fun _ _ => rfl, by rw [k3 _ (Nat.le_refl _)]; rfl⟩
   refine ⟨q, by rw [h2, Xbm (by simp only; omega), eq, Xab, wk (by simp only; omega) (by simp only; omega)]; rfl, q1, fun j hj => ?_, fun j hj => ?_⟩
   ·
    by_cases h : j = 8 * i + v
    ·
     rw [h, q3, show (8 * i + v) / 8 = i by omega, show (8 * i + v) % 8 = v by omega]
    ·
     rw [q2 j h]; exact k2 j (by omega)
   ·
    rw [q2 j (by omega)]; exact k3 j (by omega)) (fun z _ => by rw [h2, Xax (by simp)]) s ⟨g1, g2, g3⟩
  refine ⟨r, by rw [h1, Xbm (by simp only; omega), er, Xab, wk (by simp only; omega) (by simp only; omega)]; rfl, r1, fun j hj => r2 j (by omega), fun j hj => r3 j (by omega)⟩) (fun z _ => by rw [h1, Xax (by simp)]) (List.replicate 64 0) ⟨by simp, fun j hj => by omega, fun j _ => by
   by_cases h : j < 64
   ·
    rw [Xb4 _ _ (by rw [List.length_replicate]; exact h)]; exact List.getElem_replicate ..
   ·
    rw [List.getD_eq_getElem?_getD, List.getElem?_eq_none (by rw [List.length_replicate]; omega)]; rfl⟩
 rw [e]
 congr 1
 exact Yie o1 (by simp) fun j hj => by rw [o2 j (by omega), Xj8 (fun j => Yqi (t (j / 8) (j % 8)) 8) hj]
theorem Yrp (p : List Int) (hp : p.length = 64) : Xs5 p = some (Ywn p) := by
 unfold Xs5
 rw [rqA]
 have e1 : loop (Xrm p) (0, List.replicate (64 : Int).toNat 0) = some (Xsz p) :=
  Yst (f2 := Xrn p) (f3 := Xll p) (fun i v k => Zb8 p i v k) (fun _ => rfl) (fun _ _ => rfl) (fun i v k a b s hi hv hk hs => by
   unfold Xll
   simp only
   rw [syA, wkA (e := 8 * (i : Int)), wkA (e := 8 * (i : Int) + (v : Int)), wkA (e := 8 * (i : Int) + (k : Int)), rqA, rqA, Ycg v k hv hk, Xab, rqA, rqA, rqA, wkA (e := (k : Int) + 1), show (8 * (i : Int) + (v : Int)).toNat = 8 * i + v by omega, show (8 * (i : Int) + (k : Int)).toNat = 8 * i + k by omega]
   rfl) (fun i v a b s => by unfold Xll; rw [Xax (by simp)])
 have e2 : loop (Xp0 (Xsz p)) (0, List.replicate (64 : Int).toNat 0) = some (Ywn p) :=
  Yst (f2 := Xp1 (Xsz p)) (f3 := Xjv (Xsz p)) (fun i v k => Zbp (Xsz p) i v k) (fun _ => rfl) (fun _ _ => rfl) (fun i v k a b s hi hv hk hs => by
   have hl := Yrf p
   unfold Xjv
   simp only
   rw [syA, wkA (e := 8 * (i : Int)), wkA (e := 8 * (i : Int) + (v : Int)), wkA (e := 8 * (k : Int)), wkA (e := 8 * (k : Int) + (v : Int)), rqA, rqA, Ycg i k hi hk, Xab, rqA, rqA, rqA, rqA, wkA (e := (k : Int) + 1), show (8 * (i : Int) + (v : Int)).toNat = 8 * i + v by omega, show (8 * (k : Int) + (v : Int)).toNat = 8 * k + v by omega]
   rfl) (fun i v a b s => by unfold Xjv; rw [Xax (by simp)])
 rw [e1, Xab, rqA, e2, Xab]
theorem Ym5 (p : List Int) (hp : p.length = 64) (i v : Nat) (hi : i < 8) (hv : v < 8) : Xkl p i v = some (Yqi (Zb8 p i v) 8) := by
 obtain ⟨o, e, h⟩ := Xpl (f := Xem p i v) 8 (fun k s => s = Yqi (Zb8 p i v) k) (by
  intro k s hk g
  subst g
  unfold Xem
  simp only
  rw [syA, wkA (e := 8 * (i : Int)), wkA (e := 8 * (i : Int) + (k : Int)), rqA, Xvw v k hv hk, Xab, wkA (e := (k : Int) + 1), show (8 * (i : Int) + (k : Int)).toNat = 8 * i + k by omega, Int.mul_comm (p.getD _ _)]
  exact ⟨_, rfl, rfl⟩) (by intro s; unfold Xem; rw [Xax (by simp)]) 0 rfl
 unfold Xkl
 rw [e, Xab, h]
theorem Yka (p : List Int) (hp : p.length = 64) : Xip p = some (Ywn p) := by
 have hm : maxLen = 9223372036854775807 := rfl
 unfold Xip
 obtain ⟨o, e, ho⟩ := Xfz (f := Xdg p) 8 (fun i s => s = (List.range (8 * i)).map fun j => Yqi (Zb8 p (j / 8) (j % 8)) 8) (by
  intro i s hi g
  subst g
  obtain ⟨r, er, hr⟩ := Xfz (f := Xdh p ((i : Int), (List.range (8 * i)).map fun j => Yqi (Zb8 p (j / 8) (j % 8)) 8)) 8 (fun v s => s = (List.range (8 * i + v)).map fun j => Yqi (Zb8 p (j / 8) (j % 8)) 8) (by
   intro v s hv g
   subst g
   unfold Xdh
   simp only
   rw [syA, Ym5 p hp i v hi hv, Xab, Xa6 (by simp only [List.length_singleton, List.length_map, List.length_range]; omega), wkA (e := (v : Int) + 1)]
   refine ⟨_, rfl, ?_⟩
   rw [show 8 * i + (v + 1) = (8 * i + v) + 1 by omega, List.range_succ, List.map_append, List.map_singleton, show (8 * i + v) / 8 = i by omega, show (8 * i + v) % 8 = v by omega]) (by intro s; unfold Xdh; rw [Xax (by simp)]) _ rfl
  rw [Nat.add_zero] at er
  unfold Xdg
  simp only
  rw [syA, er, Xab, wkA (e := (i : Int) + 1)]
  exact ⟨_, rfl, by rw [hr, show 8 * (i + 1) = 8 * i + 8 by omega]⟩) (by intro s; unfold Xdg; rw [Xax (by simp)]) [] rfl
 have ho' : o = Xsz p := by rw [ho]; rfl
 rw [e, Xab, ho']
 obtain ⟨o2, e2, ho2⟩ := Xfz (f := Xcz (Xsz p)) 8 (fun i s => s = (List.range (8 * i)).map fun j => Yqi (Zbp (Xsz p) (j / 8) (j % 8)) 8) (by
  intro i s hi g
  subst g
  obtain ⟨r, er, hr⟩ := Xfz (f := Xc0 (Xsz p) ((i : Int), (List.range (8 * i)).map fun j => Yqi (Zbp (Xsz p) (j / 8) (j % 8)) 8)) 8 (fun v s => s = (List.range (8 * i + v)).map fun j => Yqi (Zbp (Xsz p) (j / 8) (j % 8)) 8) (by
   intro v s hv g
   obtain ⟨c, ec, hc⟩ := Xpl (f := Xc1 (Xsz p) ((i : Int), (List.range (8 * i)).map fun j => Yqi (Zbp (Xsz p) (j / 8) (j % 8)) 8) ((v : Int), s)) 8 (fun k x => x = Yqi (Zbp (Xsz p) i v) k) (by
    intro k x hk g
    subst g
    have hl := Yrf p
    unfold Xc1
    simp only
    rw [syA, Xvw i k hi hk, Xab, wkA (e := 8 * (k : Int)), wkA (e := 8 * (k : Int) + (v : Int)), rqA, rqA, wkA (e := (k : Int) + 1), show (8 * (k : Int) + (v : Int)).toNat = 8 * k + v by omega]
    exact ⟨_, rfl, rfl⟩) (by intro s; unfold Xc1; rw [Xax (by simp)]) 0 rfl
   subst g
   unfold Xc0
   simp only
   rw [syA, ec, Xab, Xa6 (by simp only [List.length_singleton, List.length_map, List.length_range]; omega), wkA (e := (v : Int) + 1)]
   refine ⟨_, rfl, ?_⟩
   rw [hc, show 8 * i + (v + 1) = (8 * i + v) + 1 by omega, List.range_succ, List.map_append, List.map_singleton, show (8 * i + v) / 8 = i by omega, show (8 * i + v) % 8 = v by omega]) (by intro s; unfold Xc0; rw [Xax (by simp)]) _ rfl
  rw [Nat.add_zero] at er
  unfold Xcz
  simp only
  rw [syA, er, Xab, wkA (e := (i : Int) + 1)]
  exact ⟨_, rfl, by rw [hr, show 8 * (i + 1) = 8 * i + 8 by omega]⟩) (by intro s; unfold Xcz; rw [Xax (by simp)]) [] rfl
 rw [e2, Xab, ho2]
 rfl
theorem Ygn (l : List Int) (n B : Int) (hn : (l.length : Int) = n) (hn2 : n ≤ 1000000) (h : inB B l) : Xep l n (-B) B = some true := by
 rw [Xob l n (-B) B (by omega), hn, beq_self_eq_true, Bool.and_true]
 congr 1
 rw [List.all_eq_true]
 intro x hx
 rw [decide_eq_true_eq]; exact h x hx
theorem Xy6 (o : List Int) {f : Int × List Int → Option (Lp (Int × List Int) (List Int))} (n : Nat) (hn : n ≤ 64) (hl : o.length = n) (hf : ∀ v : Int × List Int, f v = sel (decide (v.1 < (n : Int))) (req (0 ≤ v.1 ∧ v.1 < v.2.length) <| req (v.1.toNat < v.2.length) <| bnd (Xdf (Xaa .i64 ((v.2.getD v.1.toNat 0) + 32)) 64) fun q => req (0 ≤ v.1 ∧ v.1 < v.2.length) <| req (v.1.toNat < v.2.length) <| some (.go (Xaa .i64 (v.1 + 1), (v.2.set v.1.toNat q)))) (some (.done v.2))) : bnd (Xkr o) (fun q => some q.2) = bnd (loop f (0, o)) fun q => some q := by
 unfold Xkr
 have : Xox o = f := by
  funext v
  rw [hf, ← hl]; rfl
 rw [this]
 cases loop f (0, o) <;> rfl
theorem Yge (p : List Int) (hl : p.length = 64) (hb : inB 10000000 p) : Xjq p = Xfu p := by
 unfold Xjq Xfu
 rw [Ygn p 64 10000000 (by omega) (by omega) hb, Xkt p 64 10000000 (by omega) (by omega) (by omega) hb, Xab, Xab, Bool.not_true, Xam, Xam, Yrp p hl, Yka p hl, Xab, Xab]
 exact Xy6 (Ywn p) 64 (by omega) (Yyv p) (fun _ => rfl)
def tgA (q : Int → Int → Int → Int → Option (Int × Int × Int × Int)) (v4 : (Int × (List Int))) : Option (Lp (Int × (List Int)) (List Int)) :=
 sel (decide (v4.1 < 16)) (
 req (0 ≤ v4.1 ∧ v4.1 < v4.2.length) <|
 req (v4.1.toNat < v4.2.length) <|
 req (0 ≤ (Xaa .i64 (v4.1 + 1)) ∧ (Xaa .i64 (v4.1 + 1)) < v4.2.length) <|
 req ((Xaa .i64 (v4.1 + 1)).toNat < v4.2.length) <|
 req (0 ≤ (Xaa .i64 (v4.1 + 2)) ∧ (Xaa .i64 (v4.1 + 2)) < v4.2.length) <|
 req ((Xaa .i64 (v4.1 + 2)).toNat < v4.2.length) <|
 req (0 ≤ (Xaa .i64 (v4.1 + 3)) ∧ (Xaa .i64 (v4.1 + 3)) < v4.2.length) <|
 req ((Xaa .i64 (v4.1 + 3)).toNat < v4.2.length) <|
 bnd (q (v4.2.getD v4.1.toNat 0) (v4.2.getD ((Xaa .i64 (v4.1 + 1)).toNat) 0) (v4.2.getD ((Xaa .i64 (v4.1 + 2)).toNat) 0) (v4.2.getD ((Xaa .i64 (v4.1 + 3)).toNat) 0)) fun q8 =>
 req (0 ≤ v4.1 ∧ v4.1 ≤ (Xaa .i64 (v4.1 + 4)) ∧ (Xaa .i64 (v4.1 + 4)) ≤ (v4.2.length : Int)) <|
 req ((v4.1.toNat + ((Xaa .i64 (v4.1 + 4)).toNat - v4.1.toNat) ≤ v4.2.length ∧ ([q8.1, q8.2.1, q8.2.2.1, q8.2.2.2]).length ≤ ((Xaa .i64 (v4.1 + 4)).toNat - v4.1.toNat))) <|
 some (.go (Xaa .i64 (v4.1 + 4), (over v4.2 v4.1.toNat ([q8.1, q8.2.1, q8.2.2.1, q8.2.2.2]))))) (
 some (.done v4.2))
def tgB (v17 : (Int × (List Int))) (q26 : (Int × Int × Int × Int)) (v28 : (Int × (List Int))) : Option (Lp (Int × (List Int)) (List Int)) :=
 sel (decide (v28.1 < 4)) (
 req (0 ≤ v28.1 ∧ v28.1 < ([q26.1, q26.2.1, q26.2.2.1, q26.2.2.2] : List Int).length) <|
 req (0 ≤ (Xaa .i64 (v17.1 + (Xaa .i64 (4 * v28.1)))) ∧ (Xaa .i64 (v17.1 + (Xaa .i64 (4 * v28.1)))) < v28.2.length) <|
 req ((Xaa .i64 (v17.1 + (Xaa .i64 (4 * v28.1)))).toNat < v28.2.length) <|
 some (.go (Xaa .i64 (v28.1 + 1), (v28.2.set ((Xaa .i64 (v17.1 + (Xaa .i64 (4 * v28.1)))).toNat) (([q26.1, q26.2.1, q26.2.2.1, q26.2.2.2] : List Int).getD v28.1.toNat 0))))) (
 some (.done v28.2))
noncomputable def tgC (q : Int → Int → Int → Int → Option (Int × Int × Int × Int)) (v17 : (Int × (List Int))) : Option (Lp (Int × (List Int)) (List Int)) :=
 sel (decide (v17.1 < 4)) (
 req (0 ≤ v17.1 ∧ v17.1 < v17.2.length) <|
 req (v17.1.toNat < v17.2.length) <|
 req (0 ≤ (Xaa .i64 (v17.1 + 4)) ∧ (Xaa .i64 (v17.1 + 4)) < v17.2.length) <|
 req ((Xaa .i64 (v17.1 + 4)).toNat < v17.2.length) <|
 req (0 ≤ (Xaa .i64 (v17.1 + 8)) ∧ (Xaa .i64 (v17.1 + 8)) < v17.2.length) <|
 req ((Xaa .i64 (v17.1 + 8)).toNat < v17.2.length) <|
 req (0 ≤ (Xaa .i64 (v17.1 + 12)) ∧ (Xaa .i64 (v17.1 + 12)) < v17.2.length) <|
 req ((Xaa .i64 (v17.1 + 12)).toNat < v17.2.length) <|
 bnd (q (v17.2.getD v17.1.toNat 0) (v17.2.getD ((Xaa .i64 (v17.1 + 4)).toNat) 0) (v17.2.getD ((Xaa .i64 (v17.1 + 8)).toNat) 0) (v17.2.getD ((Xaa .i64 (v17.1 + 12)).toNat) 0)) fun q26 =>
 bnd (loop (tgB v17 q26) (0, v17.2)) fun v30 =>
 some (.go (Xaa .i64 (v17.1 + 1), v30))) (
 some (.done v17.2))
noncomputable def Zco (q : Int → Int → Int → Int → Option (Int × Int × Int × Int)) (p0 : (List Int)) : Option (List Int) :=
 bnd (Xfh p0) fun q1 =>
 bnd (loop (tgA q) (0, q1)) fun v7 =>
 bnd (loop (tgC q) (0, v7)) fun v25 =>
 some v25
theorem Yyy : Xc8 = Zco Xes := rfl
abbrev Q4 := Int × Int × Int × Int
def Ysa (q : Q4) (i : Nat) : Int := [q.1, q.2.1, q.2.2.1, q.2.2.2].getD i 0
def Xwx (t : Int → Int → Int → Int → Q4) (p : List Int) : List Int := (List.range 16).map fun j => Ysa (t (p.getD (4 * (j / 4)) 0) (p.getD (4 * (j / 4) + 1) 0) (p.getD (4 * (j / 4) + 2) 0) (p.getD (4 * (j / 4) + 3) 0)) (j % 4)
def Xxw (p : List Int) : List Int := (List.range 16).map fun j => p.getD (j % 4 * 4 + j / 4) 0
theorem Xy1 (t : Int → Int → Int → Int → Q4) (p : List Int) : (Xwx t p).length = 16 := by simp [Xwx]
theorem Xxx (p : List Int) : (Xxw p).length = 16 := by simp [Xxw]
theorem Yr8 {l m : List Int} {i : Nat} (h : i + m.length ≤ l.length) (j : Nat) : (over l i m).getD j 0 = if i ≤ j ∧ j < i + m.length then m.getD (j - i) 0 else l.getD j 0 := by
 rw [List.getD_eq_getElem?_getD, Yga h]
 split <;> rw [List.getD_eq_getElem?_getD]
theorem Zay {q : Int → Int → Int → Int → Option Q4} {t : Int → Int → Int → Int → Q4} (hq : ∀ a b c d, q a b c d = some (t a b c d)) (p : List Int) (hp : p.length = 16) : Zco q p = some (Xxw (Xwx t (Xxw (Xwx t p)))) := by
 have hm : maxLen = 9223372036854775807 := rfl
 unfold Zco Xfh
 rw [Xa6 (by simp only [List.length_nil]; omega), Xab, List.nil_append]
 have hA : loop (tgA q) (0, p) = some (Xwx t p) := by
  have key : ∀ r : Nat, r ≤ 4 → ∀ s : List Int, s.length = 16 → (∀ j, j < 4 * r → s.getD j 0 = (Xwx t p).getD j 0) → (∀ j, 4 * r ≤ j → s.getD j 0 = p.getD j 0) → loop (tgA q) (((4 * r : Nat) : Int), s) = some (Xwx t p) := by
   refine Xhn _ ?_ ?_
   ·
    intro s h1 h2 _
    refine Xcn ?_
    unfold tgA
    rw [Xax (by simp), Yie h1 (Xy1 t p) h2]
   ·
    intro r hr ih s h1 h2 h3
    refine lgo (y := (((4 * (r + 1) : Nat) : Int), over s (4 * r) [Ysa (t (p.getD (4 * r) 0) (p.getD (4 * r + 1) 0) (p.getD (4 * r + 2) 0) (p.getD (4 * r + 3) 0)) 0, Ysa (t (p.getD (4 * r) 0) (p.getD (4 * r + 1) 0) (p.getD (4 * r + 2) 0) (p.getD (4 * r + 3) 0)) 1, Ysa (t (p.getD (4 * r) 0) (p.getD (4 * r + 1) 0) (p.getD (4 * r + 2) 0) (p.getD (4 * r + 3) 0)) 2, Ysa (t (p.getD (4 * r) 0) (p.getD (4 * r + 1) 0) (p.getD (4 * r + 2) 0) (p.getD (4 * r + 3) 0)) 3])) ?_ (ih _ ?_ ?_ ?_)
    ·
     unfold tgA
     simp only
     rw [syA, wkA (e := ((4 * r : Nat) : Int) + 1), wkA (e := ((4 * r : Nat) : Int) + 2), wkA (e := ((4 * r : Nat) : Int) + 3), wkA (e := ((4 * r : Nat) : Int) + 4)]
     rw [rqA, rqA, rqA, rqA, rqA, rqA, rqA, rqA, hq, Xab, rqA, Xa6 (by simp only [List.length_cons, List.length_nil]; omega)]
     rw [show (((4 * r : Nat) : Int) + 1).toNat = 4 * r + 1 by omega, show (((4 * r : Nat) : Int) + 2).toNat = 4 * r + 2 by omega, show (((4 * r : Nat) : Int) + 3).toNat = 4 * r + 3 by omega, Int.toNat_natCast, h3 _ (by omega), h3 _ (by omega), h3 _ (by omega), h3 _ (by omega)]
     rfl
    ·
     rw [Xrt (by simp only [List.length_cons, List.length_nil]; omega)]; exact h1
    ·
     intro j hj
     rw [Yr8 (by simp only [List.length_cons, List.length_nil]; omega)]
     simp only [List.length_cons, List.length_nil]
     by_cases h : 4 * r ≤ j
     ·
      rw [if_pos (by omega)]
      unfold Xwx
      rw [Xj8 _ (by omega), show 4 * (j / 4) = 4 * r by omega]
      obtain h | h | h | h : j = 4 * r ∨ j = 4 * r + 1 ∨ j = 4 * r + 2 ∨ j = 4 * r + 3 := by omega
      ·
       rw [h, show 4 * r - 4 * r = 0 by omega, show (4 * r) % 4 = 0 by omega]; rfl
      ·
       rw [h, show 4 * r + 1 - 4 * r = 1 by omega, show (4 * r + 1) % 4 = 1 by omega]; rfl
      ·
       rw [h, show 4 * r + 2 - 4 * r = 2 by omega, show (4 * r + 2) % 4 = 2 by omega]; rfl
      ·
       rw [h, show 4 * r + 3 - 4 * r = 3 by omega, show (4 * r + 3) % 4 = 3 by omega]; rfl
     ·
      rw [if_neg (by omega)]; exact h2 j (by omega)
    ·
     intro j hj
     rw [Yr8 (by simp only [List.length_cons, List.length_nil]; omega), if_neg (by simp only [List.length_cons, List.length_nil]; omega)]
     exact h3 j (by omega)
  exact key 0 (by omega) p hp (fun j hj => by omega) fun _ _ => rfl
 rw [hA, Xab]
 generalize hR : Xwx t p = R
 have hl : R.length = 16 := by rw [← hR]; exact Xy1 t p
 have hC : loop (tgC q) (0, R) = some (Xxw (Xwx t (Xxw R))) := by
  have at4 : ∀ j : Nat, j < 16 → (Xxw (Xwx t (Xxw R))).getD j 0 = Ysa (t (R.getD (j % 4) 0) (R.getD (j % 4 + 4) 0) (R.getD (j % 4 + 8) 0) (R.getD (j % 4 + 12) 0)) (j / 4) := by
   intro j hj
   rw [Xxw, Xj8 _ hj, Xwx, Xj8 _ (by omega), Xxw, Xj8 _ (by omega), Xj8 _ (by omega), Xj8 _ (by omega), Xj8 _ (by omega)]
   rw [show (j % 4 * 4 + j / 4) / 4 = j % 4 by omega, show (j % 4 * 4 + j / 4) % 4 = j / 4 by omega, show 4 * (j % 4) % 4 * 4 + 4 * (j % 4) / 4 = j % 4 by omega, show (4 * (j % 4) + 1) % 4 * 4 + (4 * (j % 4) + 1) / 4 = j % 4 + 4 by omega, show (4 * (j % 4) + 2) % 4 * 4 + (4 * (j % 4) + 2) / 4 = j % 4 + 8 by omega, show (4 * (j % 4) + 3) % 4 * 4 + (4 * (j % 4) + 3) / 4 = j % 4 + 12 by omega]
  obtain ⟨o, e, o1, o2, _⟩ := Xjk (f := tgC q) 4 (fun c s => s.length = 16 ∧ (∀ j, j < 16 → j % 4 < c → s.getD j 0 = (Xxw (Xwx t (Xxw R))).getD j 0) ∧ ∀ j, j < 16 → c ≤ j % 4 → s.getD j 0 = R.getD j 0) (by
   intro c s hc ⟨g1, g2, g3⟩
   obtain ⟨r, er, r1, r2, r3⟩ := Xjk (f := tgB ((c : Int), s) (t (R.getD c 0) (R.getD (c + 4) 0) (R.getD (c + 8) 0) (R.getD (c + 12) 0))) 4 (fun i s' => s'.length = 16 ∧ (∀ j, j < 16 → j % 4 ≠ c → s'.getD j 0 = s.getD j 0) ∧ ∀ j, j < 16 → j % 4 = c → j / 4 < i → s'.getD j 0 = Ysa (t (R.getD c 0) (R.getD (c + 4) 0) (R.getD (c + 8) 0) (R.getD (c + 12) 0)) (j / 4)) (by
    intro i s' hi ⟨k1, k2, k3⟩
    unfold tgB
    simp only
    rw [syA, Xa6 (by simp only [List.length_cons, List.length_nil]; omega), wkA (e := 4 * (i : Int)), wkA (e := (c : Int) + 4 * (i : Int)), rqA, rqA, wkA (e := (i : Int) + 1), show ((c : Int) + 4 * (i : Int)).toNat = c + 4 * i by omega, Int.toNat_natCast]
    refine ⟨_, rfl, by rw [List.length_set]; exact k1, fun j hj hjc => ?_, fun j hj hjc hji => ?_⟩
    ·
     rw [Xgt _ _ _ _ (by omega), if_neg (by omega)]; exact k2 j hj hjc
    ·
     rw [Xgt _ _ _ _ (by omega)]
     by_cases h : c + 4 * i = j
     ·
      rw [if_pos h, show j / 4 = i by omega]; rfl
     ·
      rw [if_neg h]; exact k3 j hj hjc (by omega)) (fun z _ => by unfold tgB; rw [Xax (by simp)]) s ⟨g1, fun _ _ _ => rfl, fun j hj hjc hji => by omega⟩
   unfold tgC
   simp only
   rw [syA, wkA (e := (c : Int) + 4), wkA (e := (c : Int) + 8), wkA (e := (c : Int) + 12), rqA, rqA, rqA, rqA, rqA, rqA, rqA, rqA, hq, Xab, show ((c : Int) + 4).toNat = c + 4 by omega, show ((c : Int) + 8).toNat = c + 8 by omega, show ((c : Int) + 12).toNat = c + 12 by omega, Int.toNat_natCast, g3 c (by omega) (by omega), g3 (c + 4) (by omega) (by omega), g3 (c + 8) (by omega) (by omega), g3 (c + 12) (by omega) (by omega), er, Xab, wkA (e := (c : Int) + 1)]
   refine ⟨r, rfl, r1, fun j hj hjc => ?_, fun j hj hjc => ?_⟩
   ·
    by_cases h : j % 4 = c
    ·
     rw [r3 j hj h (by omega), at4 j hj, h]
    ·
     rw [r2 j hj h]; exact g2 j hj (by omega)
   ·
    rw [r2 j hj (by omega)]; exact g3 j hj (by omega)) (fun z _ => by unfold tgC; rw [Xax (by simp)]) R ⟨hl, fun j hj hjc => by omega, fun _ _ _ => rfl⟩
  rw [e]
  congr 1
  exact Yie o1 (Xxx _) fun j hj => o2 j hj (by omega)
 rw [hC, Xab]
theorem Xtu (p : List Int) (hl : p.length = 16) : Xgq p = some (Xxw p) := by
 unfold Xgq
 rw [rqA]
 obtain ⟨o, e, o1, o2⟩ := Xjk (f := Xd2 p) 16 (fun i s => s.length = 16 ∧ ∀ j, j < 16 → j % 4 * 4 + j / 4 < i → s.getD j 0 = p.getD (j % 4 * 4 + j / 4) 0) (by
  intro i s hi ⟨g1, g2⟩
  unfold Xd2
  simp only
  rw [syA, rqA, rqA, rqA, Xbs (by omega), Xbr (by omega), wkA (e := (i : Int) / 4), wkA (e := (i : Int) % 4 * 4), wkA (e := (i : Int) % 4 * 4 + (i : Int) / 4), rqA, rqA, wkA (e := (i : Int) + 1), Int.toNat_natCast, show ((i : Int) % 4 * 4 + (i : Int) / 4).toNat = i % 4 * 4 + i / 4 by omega]
  refine ⟨_, rfl, by rw [List.length_set]; exact g1, fun j hj hji => ?_⟩
  rw [Xgt _ _ _ _ (by omega)]
  by_cases h : i % 4 * 4 + i / 4 = j
  ·
   rw [if_pos h, show j % 4 * 4 + j / 4 = i by omega]
  ·
   rw [if_neg h]; exact g2 j hj (by omega)) (fun z _ => by unfold Xd2; rw [Xax (by simp)]) (List.replicate (16 : Int).toNat 0) ⟨by simp, fun j hj h => by omega⟩
 rw [e, Xab]
 congr 1
 exact Yie o1 (Xxx p) fun j hj => by rw [o2 j hj (by omega), Xxw, Xj8 _ hj]
theorem Yyf {f : Int × List Int → Option (Lp (Int × List Int) (List Int))} {t : Int → Int → Int → Int → Q4} (p : List Int) (h : ∀ (i : Nat) (s : List Int), i < 4 → s.length = 4 * i → f ((i : Int), s) = some (.go (((i + 1 : Nat) : Int), s ++ [(t (p.getD (4 * i) 0) (p.getD (4 * i + 1) 0) (p.getD (4 * i + 2) 0) (p.getD (4 * i + 3) 0)).1, (t (p.getD (4 * i) 0) (p.getD (4 * i + 1) 0) (p.getD (4 * i + 2) 0) (p.getD (4 * i + 3) 0)).2.1, (t (p.getD (4 * i) 0) (p.getD (4 * i + 1) 0) (p.getD (4 * i + 2) 0) (p.getD (4 * i + 3) 0)).2.2.1, (t (p.getD (4 * i) 0) (p.getD (4 * i + 1) 0) (p.getD (4 * i + 2) 0) (p.getD (4 * i + 3) 0)).2.2.2]))) (he : ∀ s, f (4, s) = some (.done s)) : loop f (0, []) = some (Xwx t p) := by
 obtain ⟨o, e, ho⟩ := Xjk (f := f) 4 (fun i s => s = (List.range (4 * i)).map fun j => Ysa (t (p.getD (4 * (j / 4)) 0) (p.getD (4 * (j / 4) + 1) 0) (p.getD (4 * (j / 4) + 2) 0) (p.getD (4 * (j / 4) + 3) 0)) (j % 4)) (by
  intro i s hi g
  refine ⟨_, h i s hi (by rw [g]; simp), ?_⟩
  rw [g, show 4 * (i + 1) = 4 * i + 1 + 1 + 1 + 1 by omega]
  simp only [List.range_succ, List.map_append, List.map_singleton, List.append_assoc]
  rw [show (4 * i + 1 + 1 + 1) / 4 = i by omega, show (4 * i + 1 + 1) / 4 = i by omega, show (4 * i + 1) / 4 = i by omega, show 4 * i / 4 = i by omega, show (4 * i + 1 + 1 + 1) % 4 = 3 by omega, show (4 * i + 1 + 1) % 4 = 2 by omega, show (4 * i + 1) % 4 = 1 by omega, show 4 * i % 4 = 0 by omega]
  rfl) (fun z _ => he z) [] rfl
 rw [e, ho]; rfl
def Yno (a b : Int) : Int := Xaa .i64 (if a.tmod b < 0 then Xaa .i64 (a.tdiv b) - 1 else a.tdiv b)
theorem Xt9 (a b : Int) (hb : b ≠ 0) : Xdf a b = some (Yno a b) := by
 unfold Xdf Yno
 rw [Xa6 hb, Xa6 hb, Ypx]
 split <;> rfl
def t4B (a b c d : Int) : Q4 := (Xaa .i64 ((Xaa .i64 (a + c)) + (Xaa .i64 (b + Yno d 2))), Xaa .i64 ((Xaa .i64 (a - c)) + (Xaa .i64 (Yno b 2 - d))), Xaa .i64 ((Xaa .i64 (a - c)) - (Xaa .i64 (Yno b 2 - d))), Xaa .i64 ((Xaa .i64 (a + c)) - (Xaa .i64 (b + Yno d 2))))
theorem Xx3 (a b c d : Int) : Xes a b c d = some (t4B a b c d) := by
 unfold Xes
 rw [Ytf, Xt9 b 2 (by omega), Xt9 d 2 (by omega), Xab, Xab]; rfl
theorem Xsf (p : List Int) (hl : p.length = 16) : Xfn p = some (Xwx t4B p) := by
 have hm : maxLen = 9223372036854775807 := rfl
 unfold Xfn
 rw [Yyf (f := Xde p) (t := t4B) p (by
  intro i s hi hs
  unfold Xde
  simp only
  rw [syA, wkA (e := 4 * (i : Int)), wkA (e := 4 * (i : Int) + 1), wkA (e := 4 * (i : Int) + 2), wkA (e := 4 * (i : Int) + 3), rqA, rqA, rqA, rqA, show (4 * (i : Int)).toNat = 4 * i by omega, show (4 * (i : Int) + 1).toNat = 4 * i + 1 by omega, show (4 * (i : Int) + 2).toNat = 4 * i + 2 by omega, show (4 * (i : Int) + 3).toNat = 4 * i + 3 by omega, Xt9 _ 2 (by omega), Xab, Xt9 _ 2 (by omega), Xab, wkA (e := (i : Int) + 1), Xa6 (by simp only [List.length_cons, List.length_nil]; omega)]
  rfl) (by intro s; unfold Xde; rw [Xax (by simp)]), Xab]
theorem Ykz (p : List Int) (hl : p.length = 16) (hb : inB 10000000 p) : Xlc p = Xgx p := by
 unfold Xlc Xgx
 rw [Ygn p 16 10000000 (by omega) (by omega) hb, Xkt p 16 10000000 (by omega) (by omega) (by omega) hb, Xab, Xab, Bool.not_true, Xam, Xam, Yyy, Zay Xx3 p hl, Xsf p hl, Xab, Xab, Xtu _ (Xy1 _ _), Xab, Xsf _ (Xxx _), Xab, Xtu _ (Xy1 _ _), Xab]
 exact Xy6 _ 16 (by omega) (Xxx _) (fun _ => rfl)
theorem Ypq {β : Type} {c : Prop} [Decidable c] {k k' : Option β} (h : c → k = k') : req c k = req c k' := by
 by_cases hc : c
 ·
  rw [Xa6 hc, Xa6 hc, h hc]
 ·
  unfold req; rw [if_neg hc, if_neg hc]
theorem Xvn {β : Type} {c : Prop} [Decidable c] {k k' : Option β} (h0 : c) (h : k = k') : req c k = k' := by rw [Xa6 h0, h]
theorem Yty {β : Type} {b : Bool} {x x' y y' : β} (h : b = true → x = x') (h2 : b = false → y = y') : sel b x y = sel b x' y' := by
 cases b
 ·
  exact h2 rfl
 ·
  exact h rfl
theorem Zbm {α β : Type} {x x' : Option α} {f f' : α → Option β} (h : x = x') (h2 : ∀ a, x' = some a → f a = f' a) : bnd x f = bnd x' f' := by
 subst h
 cases x with
 | none => rfl
 | some a => exact h2 a rfl
theorem Yxv {V O : Type} {f : V → Option (Lp V O)} (I : V → Prop) (J : O → Prop) (h1 : ∀ v v', I v → f v = some (.go v') → I v') (h2 : ∀ v o, I v → f v = some (.done o) → J o) {v : V} {o : O} (h : loop f v = some o) (hv : I v) : J o := by
 obtain ⟨k, hk⟩ := Xjm.1 h
 clear h
 induction k generalizing v with
 | zero => cases hk
 | succ k ih =>
  rw [it] at hk
  cases e : f v with
  | none => rw [e] at hk; cases hk
  | some s =>
   rw [e] at hk
   cases s with
   | go y => exact ih (h1 v y hv e) hk
   | done o' => cases hk; exact h2 v o hv e
theorem Ygh (l qp p : Int) (h0 : 0 ≤ qp ∧ qp ≤ 40) (hp : 0 ≤ p ∧ p ≤ 15) : Xjs l qp p = Xfx l qp p := by
 unfold Xjs Xfx
 rw [Xaj, Xai, Yod qp p h0 hp]
theorem Ygf (l qp : Int) (h0 : 0 ≤ qp ∧ qp ≤ 40) : Xjr l qp = Xfw l qp := by
 unfold Xjr Xfw
 rw [Xaj, Xai, Yqr qp h0]
def Xyz (k : Int) (v7 : Int × List Int) : Option (Lp (Int × List Int) (List Int)) :=
 sel (decide (v7.1 < 4)) (
 bnd (it (Xnw k v7) 10 (0, v7.2)) fun v18 =>
 some (.go (Xaa .i64 (v7.1 + 1), v18))) (
 some (.done v7.2))
theorem Ysd {k : Int} {v : Int × List Int} {x : Lp (Int × List Int) (List Int)} (h : Xyz k v = some x) : Xj9 k v = some x := by
 unfold Xyz at h
 unfold Xj9
 rcases Xrw h with ⟨hb, h⟩ | ⟨hb, h⟩
 ·
  rw [hb, Xav]
  obtain ⟨a, h1, h2⟩ := Xbo h
  rw [Xjm.2 ⟨10, h1⟩, Xab]
  exact h2
 ·
  rw [hb, Xam]; exact h
def Xpr (k : Int) : List Int := (it (Xyz k) 10 (0, [])).getD []
def Xo1 (k i : Int) : Int := (Xaa .i64 ((Xaa .i64 ((Xaa .i64 (8 * (Xaa .i64 ((Xaa .i64 ((Xaa .i64 (k.tdiv 2)) * 4)) + (Xaa .i64 (i.tdiv 4)))))) + (Xaa .i64 ((k.tmod 2) * 4)))) + (i.tmod 4)))
theorem Ytu : ∀ k : Fin 4, (it (Xyz (k.val : Int)) 10 (0, [])).isSome = true ∧ (Xpr (k.val : Int)).length = 16 ∧ ∀ i : Fin 16, (Xpr (k.val : Int)).getD i.val 0 = Xo1 (k.val : Int) (i.val : Int) ∧ 0 ≤ Xo1 (k.val : Int) (i.val : Int) ∧ Xo1 (k.val : Int) (i.val : Int) < 64 := by decide +kernel
theorem Yh8 (k : Nat) (hk : k < 4) : Xne k = some (Xpr k) ∧ (Xpr k).length = 16 ∧ ∀ i : Nat, i < 16 → (Xpr k).getD i 0 = Xo1 k i ∧ 0 ≤ Xo1 k i ∧ Xo1 k i < 64 := by
 obtain ⟨h1, h2, h3⟩ := Ytu ⟨k, hk⟩
 refine ⟨?_, h2, fun i hi => h3 ⟨i, hi⟩⟩
 obtain ⟨o, ho⟩ := Option.isSome_iff_exists.1 h1
 have hl := Ytr 10 (Yzx (fun v y => Ysd (k := (k : Int))) 10 _ ho)
 unfold Xne
 rw [hl, Xab]
 unfold Xpr; simp only at ho; rw [ho]; rfl
theorem Xr5 (p : List Int) (c : Xf0) (hc : Xg3 c = true) (hp : Yky p = true) : Xhw p c = Xdy p c := by
 have hq := Yq3 hc
 obtain ⟨hl, hb⟩ := Yxw hp
 unfold Xhw Xdy
 rw [Xft, Xdm, Xql p (by omega), hp, hc, Xkt p 64 5000 (by omega) (by omega) (by omega) hb]
 simp only [Xab, Xav, Bool.not_true, Xam]
 rw [Xsu 8 (Or.inr rfl) p (by omega)]
 refine Yty (fun _ => rfl) fun _ => Yty (fun _ => ?_) fun _ => ?_
 ·
  obtain ⟨w, ew, w1, w2⟩ := Xgc 8 (Or.inr rfl) p 5000 (by omega) (by omega) hb
  rw [ew, Xab, Xab]
  have hloop : loop (Xe9 c (w, true)) (0, (w, true).1) = loop (Xbw c) (0, (w, true).1) := by
   have : Xe9 c (w, true) = Xbw c := by
    funext v
    unfold Xe9 Xbw
    simp only [Ygf _ _ hq, w1, hl]
    rfl
   rw [this]
  rw [hloop]
  obtain ⟨l, el, l1, l2⟩ := Xub (f := Xbw c) 64 (fun x => -5000 ≤ x ∧ x ≤ 5000) (fun x => -5760000 ≤ x ∧ x ≤ 5760000) (by
   intro i l hi hll hx
   obtain ⟨d, ed, d1, d2⟩ := Xqx (l.getD i 0) c.Qp hx hq
   unfold Xbw
   simp only [Int.toNat_natCast]
   rw [syA, rqA, rqA, ed, Xab, rqA, rqA, wkA (e := (i : Int) + 1)]
   exact ⟨d, rfl, d1, d2⟩) (by intro s; unfold Xbw; rw [Xax (by simp)]) w (by omega) w2
  simp only [el, Xab]
  rw [Yge l l1 (Ypc l2 (by omega))]
 ·
  refine Ypq fun _ => Zbm ?_ fun _ _ => rfl
  refine Ya4 (fun v => (∃ k : Nat, v.1 = (k : Int) ∧ k ≤ 4) ∧ v.2.length = 64) ?_ ?_ ⟨⟨0, rfl, by omega⟩, by simp⟩
  ·
   intro ⟨k0, s⟩ ⟨⟨k, ek, hk⟩, hs⟩
   simp only at ek hs
   subst ek
   unfold Xkf Xcv
   simp only
   refine Yty (fun hk4 => ?_) fun _ => rfl
   have hk4 : k < 4 := by have := of_decide_eq_true hk4; omega
   rw [wkA (e := 16 * (k : Int)), wkA (e := 16 * (k : Int) + 16)]
   refine Ypq fun _ => ?_
   rw [show (16 * (k : Int)).toNat = 16 * k by omega, show (16 * (k : Int) + 16).toNat - 16 * k = 16 by omega]
   have hcut : ((p.drop (16 * k)).take 16).length = 16 := by rw [List.length_take, List.length_drop]; omega
   obtain ⟨a, ea, a1, a2⟩ := Xgc 4 (Or.inl rfl) ((p.drop (16 * k)).take 16) 5000 (by omega) (by omega) (Yun (Yum hb _) _)
   rw [Xsu 4 (Or.inl rfl) _ (by omega), ea, Xab, Xab]
   have hloop : loop (Xet c (a, true)) (0, (a, true).1) = loop (Xbq c) (0, (a, true).1) := by
    have : Xet c (a, true) = Xbq c := by
     funext v
     unfold Xet Xbq
     simp only [show ((a.length : Nat) : Int) = 16 by omega]
     refine Yty (fun h16 => ?_) fun _ => rfl
     have := of_decide_eq_true h16
     refine Ypq fun h0 => Ypq fun _ => ?_
     rw [Ygh _ _ _ hq (by omega)]
    rw [this]
   rw [hloop]
   obtain ⟨l, el, l1, l2⟩ := Xub (f := Xbq c) 16 (fun x => -5000 ≤ x ∧ x ≤ 5000) (fun x => -10000000 ≤ x ∧ x ≤ 10000000) (by
    intro i l hi hll hx
    obtain ⟨d, ed, d1, d2⟩ := Xq0 (l.getD i 0) c.Qp i hx hq (by omega)
    unfold Xbq
    simp only [Int.toNat_natCast]
    rw [syA, rqA, rqA, ed, Xab, rqA, rqA, wkA (e := (i : Int) + 1)]
    exact ⟨d, rfl, d1, d2⟩) (by intro s; unfold Xbq; rw [Xax (by simp)]) a (by omega) a2
   obtain ⟨b, eb, b1, b2⟩ := Xsc l l1 l2
   obtain ⟨q1, q2, q3⟩ := Yh8 k hk4
   simp only [el, Xab]
   rw [Ykz l l1 l2, eb, Xab, Xab, q1, Xab]
   refine Zbm ?_ fun _ _ => rfl
   have : Xgu b (Xpr k) = Xbz ((k : Int), s) b := by
    funext v
    unfold Xgu Xbz
    simp only [show (((Xpr k).length : Nat) : Int) = 16 by omega]
    refine Yty (fun h16 => ?_) fun _ => rfl
    have h16 := of_decide_eq_true h16
    by_cases h0 : 0 ≤ v.1
    ·
     obtain ⟨i, hi⟩ : ∃ i : Nat, v.1 = (i : Int) := ⟨v.1.toNat, by omega⟩
     obtain ⟨v1, v2⟩ := v
     simp only at hi h0 h16
     subst hi
     obtain ⟨r1, r2, r3⟩ := q3 i (by omega)
     have e1 : (Xaa .i64 ((Xaa .i64 ((Xaa .i64 (8 * (Xaa .i64 ((Xaa .i64 ((Xaa .i64 ((k : Int).tdiv 2)) * 4)) + (Xaa .i64 ((i : Int).tdiv 4)))))) + (Xaa .i64 (((k : Int).tmod 2) * 4)))) + ((i : Int).tmod 4))) = Xo1 k i := rfl
     simp only [Int.toNat_natCast, r1, e1]
     refine Xvn (by omega) (Xvn (by omega) (Xvn (by omega) (Xvn (by omega) ?_)))
     refine (Xvn (by omega) (Xvn (by omega) (Xvn (by omega) (Xvn (by omega) (Xvn (by omega) (Xvn (by omega) ?_)))))).symm
     rfl
    ·
     unfold req
     rw [if_neg (by omega), if_pos (by omega), if_pos (by omega), if_pos (by omega), if_pos (by omega), if_neg (by omega)]
   rw [this]
  ·
   intro ⟨k0, s⟩ v' ⟨⟨k, ek, hk⟩, hs⟩ he
   simp only at ek hs
   subst ek
   unfold Xcv at he
   simp only at he
   rcases Xrw he with ⟨hb4, he⟩ | ⟨_, he⟩
   ·
    have hk4 : k < 4 := by have := of_decide_eq_true hb4; omega
    obtain ⟨_, he⟩ := Xba he
    obtain ⟨a, _, he⟩ := Xbo he
    obtain ⟨l, _, he⟩ := Xbo he
    obtain ⟨b, _, he⟩ := Xbo he
    obtain ⟨r, hr, he⟩ := Xbo he
    rw [wkA (e := (k : Int) + 1)] at he
    cases he
    refine ⟨⟨k + 1, rfl, by omega⟩, ?_⟩
    refine Yxv (f := Xbz ((k : Int), s) b) (fun v => v.2.length = 64) (fun o => o.length = 64) ?_ ?_ hr hs
    ·
     intro v v' hv he
     unfold Xbz at he
     rcases Xrw he with ⟨_, he⟩ | ⟨_, he⟩
     ·
      obtain ⟨_, he⟩ := Xba he
      obtain ⟨_, he⟩ := Xba he
      obtain ⟨_, he⟩ := Xba he
      obtain ⟨_, he⟩ := Xba he
      obtain ⟨_, he⟩ := Xba he
      obtain ⟨_, he⟩ := Xba he
      obtain ⟨_, he⟩ := Xba he
      obtain ⟨_, he⟩ := Xba he
      cases he
      simp only [List.length_set]; exact hv
     ·
      cases he
    ·
     intro v o hv he
     unfold Xbz at he
     rcases Xrw he with ⟨_, he⟩ | ⟨_, he⟩
     ·
      obtain ⟨_, he⟩ := Xba he
      obtain ⟨_, he⟩ := Xba he
      obtain ⟨_, he⟩ := Xba he
      obtain ⟨_, he⟩ := Xba he
      obtain ⟨_, he⟩ := Xba he
      obtain ⟨_, he⟩ := Xba he
      obtain ⟨_, he⟩ := Xba he
      obtain ⟨_, he⟩ := Xba he
      cases he
     ·
      cases he; exact hv
   ·
    cases he
theorem Yu0 {S O : Type} {f g : Int × S → Option (Lp (Int × S) O)} (n : Nat) (I : Nat → S → Prop) (h : ∀ (i : Nat) (s : S), i ≤ n → I i s → f ((i : Int), s) = g ((i : Int), s)) (hI : ∀ (i : Nat) (s : S) (v' : Int × S), i ≤ n → I i s → g ((i : Int), s) = some (.go v') → v'.1 = ((i + 1 : Nat) : Int) ∧ i + 1 ≤ n ∧ I (i + 1) v'.2) {s0 : S} (h0 : I 0 s0) : loop f (0, s0) = loop g (0, s0) := by
 refine Ya4 (fun v => ∃ i : Nat, v.1 = (i : Int) ∧ i ≤ n ∧ I i v.2) ?_ ?_ ⟨0, rfl, by omega, h0⟩
 ·
  intro ⟨k, s⟩ ⟨i, e, hi, hs⟩
  simp only at e hs
  subst e
  exact h i s hi hs
 ·
  intro ⟨k, s⟩ v' ⟨i, e, hi, hs⟩ he
  simp only at e hs
  subst e
  obtain ⟨a, b, c⟩ := hI i s v' hi hs he
  exact ⟨i + 1, a, b, c⟩
theorem Yq4 {p : Pic} (ok : Xct p = true) (x y : Int) : Xfd p x y = Xf9 p x y := by rw [Yhu ok, Xls ok]
theorem Xs7 {p : Pic} (ok : Xct p = true) {x y : Int} (hx : x.tmod 8 = 0) (hy : y.tmod 8 = 0) (h : Xm6 p x y = true) : Xdk p x y = some true := Ydt ok x y hx hy h
theorem Yn8 {p : Pic} (ok : Xct p = true) {x y : Int} (hx : x.tmod 8 = 0) (hy : y.tmod 8 = 0) (h : Xm6 p x y = true) : Xm8 p x y = Xib p x y := by
 unfold Xm8 Xib
 rw [Xc5, ok, Xs7 ok hx hy h, Xn0 ok hx hy h]
 have : Xlb p x y = Xev p x y := by
  funext v
  unfold Xlb Xev
  simp only [Yq4 ok]
 simp only [Xab, Xav, Bool.not_true, Xam, this, Yq4 ok]
theorem Ys2 {e : Xl6} (h : Ycl e) : Xm9 e = some true := by
 obtain ⟨h1, h2, h3, h4, h5, h6⟩ := h
 have side : ∀ l : List Int, (l.length = 0 ∨ l.length = 8) → (∀ x ∈ l, 0 ≤ x ∧ x ≤ 255) → bnd (sel (decide ((l.length : Int) > 0)) (bnd (Xep l 8 0 255) fun q10 => some (!q10)) (some false)) (fun v9 => some v9) = some false := by
  intro l hl hb
  rcases hl with e | e
  ·
   rw [snA]; rfl
  ·
   rw [syA, Xob l 8 0 255 (by omega)]
   have : (l.all fun x => decide (0 ≤ x ∧ x ≤ 255)) = true := List.all_eq_true.2 fun x hx => decide_eq_true (hb x hx)
   rw [this, e]; rfl
 have go : ∀ (i : Nat) (l : List Int), i < 2 → ([e.Above, e.Left]).getD i Xms = l → (l.length = 0 ∨ l.length = 8) → (∀ x ∈ l, 0 ≤ x ∧ x ≤ 255) → Xf2 e (i : Int) = some (.go ((i + 1 : Nat) : Int)) := by
  intro i l hi hg hl hb
  unfold Xf2
  simp only [Int.toNat_natCast, hg]
  have hs := side l hl hb
  rw [Xbm (by simp only [List.length_cons, List.length_nil]; omega), Xa6 (by simp only [List.length_cons, List.length_nil]; omega), Xa6 (by simp only [List.length_cons, List.length_nil]; omega)]
  obtain ⟨a, ea, hs⟩ := Xbo hs
  injection hs with hs
  subst hs
  rw [ea, Xab, Xam, wkA]
  rfl
 unfold Xm9
 have : loop (Xf2 e) 0 = some (.out ()) := by
  refine lgo (go 0 e.Above (by omega) rfl h1 h3) (lgo (go 1 e.Left (by omega) rfl h2 h4) (Xcn ?_))
  unfold Xf2
  rw [Xax (by simp)]
 rw [this, Xab, Xaj, Xab, decide_eq_true ⟨h5, h6⟩]
def Yvi (l : List Int) : Nat → Int
 | 0 => 0
 | n + 1 => Yvi l n + l.getD n 0
theorem Xun {l : List Int} (h : ∀ x ∈ l, 0 ≤ x ∧ x ≤ 255) : ∀ n : Nat, n ≤ l.length → 0 ≤ Yvi l n ∧ Yvi l n ≤ 255 * n
 | 0, _ => by simp [Yvi]
 | n + 1, hn => by
  have a := Xun h n (by omega)
  have b := h (l.getD n 0) (by rw [Xb4 l n (by omega)]; exact List.getElem_mem _)
  rw [Yvi]; omega
theorem Yqd {f : Int × Int → Option (Lp (Int × Int) Int)} {l : List Int} (hl : l.length ≤ 64) (h : ∀ x ∈ l, 0 ≤ x ∧ x ≤ 255) (hf : ∀ v, f v = sel (decide (v.2 < (l.length : Int))) (req (0 ≤ v.2 ∧ v.2 < l.length) <| some (.go (Xaa .i64 (v.1 + (l.getD v.2.toNat 0)), Xaa .i64 (v.2 + 1)))) (some (.done v.1))) (a : Int) (ha : 0 ≤ a ∧ a ≤ 100000) : loop f (a, 0) = some (a + Yvi l l.length) := by
 obtain ⟨o, e, ho⟩ := Xpl (f := f) l.length (fun i s => s = a + Yvi l i) (by
  intro i s hi g
  have r := Xun h i (by omega)
  have b := h (l.getD i 0) (by rw [Xb4 l i (by omega)]; exact List.getElem_mem _)
  rw [hf]
  simp only [Int.toNat_natCast]
  rw [syA, rqA, wkA (e := s + l.getD i 0), wkA (e := (i : Int) + 1)]
  exact ⟨_, rfl, by rw [Yvi]; omega⟩) (by intro s; rw [hf, Xax (by simp)]) a (by simp [Yvi])
 rw [e, ho]
theorem Xyq {l : List Int} (hl : l.length ≤ 64) (h : ∀ x ∈ l, 0 ≤ x ∧ x ≤ 255) : Xcx l = some (Yvi l l.length) := by
 unfold Xcx
 rw [Yqd (f := Xed l) hl h (fun _ => rfl) 0 (by omega), Xab, Int.zero_add]
theorem Yx1 {e : Xl6} (h : Ycl e) : (sel (decide ((Xaa .i64 ((e.Above.length : Int) + (e.Left.length : Int))) > 0)) (bnd (Xcx e.Above) fun q5 => bnd (Xcx e.Left) fun q6 => req ((2 : Int) ≠ 0) <| req ((Xaa .i64 ((e.Above.length : Int) + (e.Left.length : Int))) ≠ 0) <|
  some (Xaa .i64 ((Xaa .i64 ((Xaa .i64 (q5 + q6)) + (Xaa .i64 ((Xaa .i64 ((e.Above.length : Int) + (e.Left.length : Int))).tdiv 2)))).tdiv (Xaa .i64 ((e.Above.length : Int) + (e.Left.length : Int)))))) (some 128)) = Xkm e := by
 obtain ⟨h1, h2, h3, h4, h5, h6⟩ := h
 unfold Xkm
 have r1 := Xun h3 e.Above.length (Nat.le_refl _)
 have r2 := Xun h4 e.Left.length (Nat.le_refl _)
 rw [wkA (e := (e.Above.length : Int) + (e.Left.length : Int))]
 by_cases hz : (e.Above.length : Int) + (e.Left.length : Int) = 0
 ·
  rw [snA, Xbl (by simpa using hz)]
 ·
  rw [syA, Xbc (by simpa using hz), Xyq (by omega) h3, Xab, Xyq (by omega) h4, Xab, rqA, Xa6 hz, rqA, Xbr (a := (e.Above.length : Int) + (e.Left.length : Int)) (by omega), wkA (e := ((e.Above.length : Int) + (e.Left.length : Int)) / 2),
   Yqd (f := Xhl e) (by omega) h3 (fun _ => rfl) _ (by omega), Xab, Yqd (f := Xhm e) (by omega) h4 (fun _ => rfl) _ (by omega), Xab, Xa6 hz, wkA (e := Yvi e.Above e.Above.length + Yvi e.Left e.Left.length), wkA (e := Yvi e.Above e.Above.length + Yvi e.Left e.Left.length + ((e.Above.length : Int) + (e.Left.length : Int)) / 2)]
  congr 3; omega
theorem Yr7 (l : List Int) (hl : l.length = 0 ∨ l.length = 8) : ∃ g, Xme l = some g ∧ g.length = 8 ∧ ∀ k : Nat, k < 8 → Xdq l k = some (g.getD k 0) := by
 unfold Xme
 rcases hl with e | e
 ·
  refine ⟨_, Xbl (by rw [e]; rfl), rfl, fun k hk => ?_⟩
  unfold Xdq
  rw [Xbl (by rw [e]; rfl)]
  congr 1
  obtain rfl | rfl | rfl | rfl | rfl | rfl | rfl | rfl : k = 0 ∨ k = 1 ∨ k = 2 ∨ k = 3 ∨ k = 4 ∨ k = 5 ∨ k = 6 ∨ k = 7 := by omega
  all_goals rfl
 ·
  refine ⟨l, Xbc (by rw [e]; rfl), e, fun k hk => ?_⟩
  unfold Xdq
  rw [Xbc (by rw [e]; rfl), rqA, Int.toNat_natCast]
theorem Yoo (n a b : Int) : Xe7 n a b = Xfk n a b := by rw [Xla, Xf8]
def Yae (m mid v : Int) (A B : List Int) (i : Nat) : Int := sel (m == 0) mid (sel (m == 1) (A.getD (i % 8) 0) (sel (m == 2) (B.getD (i / 8) 0) (Xds (Xaa .i64 (Xaa .i64 (B.getD (i / 8) 0 + A.getD (i % 8) 0) - v)) 0 255)))
theorem Yv4 {f1 : Int × List Int → Option (Lp (Int × List Int) (List Int))} {f2 : Int × List Int → Int × List Int → Option (Lp (Int × List Int) (List Int))} (g : Nat → Int)
  (h1 : ∀ v, f1 v = sel (decide (v.1 < 8)) (bnd (loop (f2 v) (0, v.2)) fun w => some (.go (Xaa .i64 (v.1 + 1), w))) (some (.done v.2)))
  (h2 : ∀ (r c : Nat) (a s : List Int), r < 8 → c < 8 → s.length = 8 * r + c → f2 ((r : Int), a) ((c : Int), s) = some (.go (((c + 1 : Nat) : Int), s ++ [g (8 * r + c)])))
  (h3 : ∀ (r : Nat) (a s : List Int), f2 ((r : Int), a) (8, s) = some (.done s)) : loop f1 (0, []) = some ((List.range 64).map g) := by
 obtain ⟨o, e, ho⟩ := Xfz (f := f1) 8 (fun r s => s = (List.range (8 * r)).map g) (by
  intro r s hr hs
  obtain ⟨q, eq, hq⟩ := Xjk (f := f2 ((r : Int), s)) 8 (fun c s' => s' = (List.range (8 * r + c)).map g) (by
   intro c s' hc hs'
   exact ⟨_, h2 r c s s' hr hc (by rw [hs']; simp), by rw [hs', show 8 * r + (c + 1) = (8 * r + c) + 1 by omega, List.range_succ, List.map_append]; rfl⟩) (fun z _ => h3 r s z) s hs
  rw [h1]
  refine ⟨q, ?_, by rw [hq, show 8 * (r + 1) = 8 * r + 8 by omega]⟩
  simp only
  rw [syA, eq, Xab, wkA]
  rfl) (by intro s; rw [h1, Xax (by simp)]) [] rfl
 rw [e, ho]
theorem Yqn (m : Int) (hm0 : 0 ≤ m ∧ m ≤ 3) {e : Xl6} (h : Ycl e) : ∃ g, Xko m e = some g ∧ Xgp m e = some g := by
 have hm : maxLen = 9223372036854775807 := rfl
 obtain ⟨mid, em, m1, m2⟩ := Xv1 h
 obtain ⟨A, eA, hA, fA⟩ := Yr7 e.Above h.1
 obtain ⟨B, eB, hB, fB⟩ := Yr7 e.Left h.2.1
 obtain ⟨v, ev⟩ : ∃ v, sel (decide (e.Corner < 0)) (some (128 : Int)) (some e.Corner) = some v := by rw [Yyl]; exact ⟨_, rfl⟩
 refine ⟨(List.range 64).map (Yae m mid v A B), ?_, ?_⟩
 ·
  unfold Xko
  rw [Ys2 h, Xab, Xav, Xaj, Xab, decide_eq_true hm0, Bool.not_true, Xab, Xam, Yx1 h, em, Xab, eA, Xab, eB, Xab, ev, Xab, Yv4 (f1 := Xnu m mid A B v) (f2 := Xg4 m mid A B v) (Yae m mid v A B) (fun _ => rfl) ?_ ?_, Xab]
  ·
   intro r c a s hr hc hs
   unfold Xg4 Yae
   simp only [Int.toNat_natCast, Xla, Xab]
   rw [syA, wkA (e := (c : Int) + 1), show (8 * r + c) % 8 = c by omega, show (8 * r + c) / 8 = r by omega]
   cases (m == 0) with
   | true => rw [Xav, Xa6 (by simp only [List.length_singleton]; omega), Xab]; rfl
   | false =>
    rw [Xam]
    cases (m == 1) with
    | true => rw [Xav, rqA, Xa6 (by simp only [List.length_singleton]; omega), Xab]; rfl
    | false =>
     rw [Xam]
     cases (m == 2) with
     | true => rw [Xav, rqA, Xa6 (by simp only [List.length_singleton]; omega), Xab]; rfl
     | false => rw [Xam, rqA, rqA, Xa6 (by simp only [List.length_singleton]; omega), Xab]; rfl
  ·
   intro r a s
   unfold Xg4
   rw [Xax (by simp)]
 ·
  unfold Xgp
  rw [Xsb h, Xab, Xav, Xai, Xab, decide_eq_true hm0, Bool.not_true, Xab, Xam, ev, Xab]
  obtain ⟨o, eo, ho⟩ := Xfz (f := Xdx m e v) 64 (fun i s => s = (List.range i).map (Yae m mid v A B)) (by
   intro i s hi hs
   have hlen : s.length = i := by rw [hs]; simp
   refine ⟨s ++ [Yae m mid v A B i], ?_, by rw [hs, List.range_succ, List.map_append]; rfl⟩
   unfold Xdx Yae
   simp only
   rw [syA, rqA, Xbs (by omega), show (i : Int) % 8 = ((i % 8 : Nat) : Int) by omega, fA _ (by omega), Xab, rqA, Xbr (by omega), wkA (e := (i : Int) / 8), show (i : Int) / 8 = ((i / 8 : Nat) : Int) by omega, fB _ (by omega), Xab, wkA (e := (i : Int) + 1), em]
   cases (m == 0) with
   | true => rw [Xav, Xab, Xa6 (by simp only [List.length_singleton]; omega), Xab]; rfl
   | false =>
    rw [Xam]
    cases (m == 1) with
    | true => rw [Xav, Xa6 (by simp only [List.length_singleton]; omega), Xab]; rfl
    | false =>
     rw [Xam]
     cases (m == 2) with
     | true => rw [Xav, Xa6 (by simp only [List.length_singleton]; omega), Xab]; rfl
     | false => rw [Xam, Xf8, Xab, Xa6 (by simp only [List.length_singleton]; omega), Xab]; rfl) (by intro s; unfold Xdx; rw [Xax (by simp)]) [] rfl
  rw [eo, Xab, ho]
theorem Yn9 (m : Int) (hm0 : 0 ≤ m ∧ m ≤ 3) {e : Xl6} (h : Ycl e) : Xko m e = Xgp m e := by
 obtain ⟨g, h1, h2⟩ := Yqn m hm0 h
 rw [h1, h2]
theorem Ycf (g b : List Int) (hg : Xor g = true) (hl : b.length = 64) (hb : inB 10000000 b) : Xl7 g b = Xic g b := by
 obtain ⟨g1, g2⟩ := Xsy hg
 unfold Xl7 Xic
 rw [Xsl g hg, Yhs g (by omega), hg, Ygn b 64 10000000 (by omega) (by omega) hb, Xkt b 64 10000000 (by omega) (by omega) (by omega) hb]
 have : Xmu g b = Xfv g b := by
  funext v
  unfold Xmu Xfv
  simp only [Yoo, show ((g.length : Nat) : Int) = 64 by omega]
 simp only [Xab, Xav, Bool.not_true, Xam, this]
theorem Ysq {s : Xar} (h : Xnq s = true) (h1 : s.Kind = 0) : s.Dx = 0 ∧ s.Dy = 0 := by
 unfold Xnq at h
 rw [h1] at h
 simp at h
 exact ⟨h.2.1, h.2.2.1⟩
theorem Zae {s : Xar} (h : Xnq s = true) : (-16 ≤ s.Dx ∧ s.Dx ≤ 16) ∧ (-16 ≤ s.Dy ∧ s.Dy ≤ 16) := by
 have hk := Xq7 h
 obtain h1 | h1 | h1 : s.Kind = 0 ∨ s.Kind = 1 ∨ s.Kind = 2 := by omega
 ·
  obtain ⟨a, b⟩ := Ysq h h1; omega
 ·
  obtain ⟨a, b, _⟩ := Xr0 h h1; exact ⟨a, b⟩
 ·
  unfold Xnq at h
  rw [h1] at h
  simp at h
  omega
theorem Yh2 (s : Xar) (c : Xf0) : Xhx s c = some (Xiy s c) := by
 unfold Xhx Xiy
 cases c.Key <;> rfl
structure Zbe (now ref : Pic) (l t x y : Int) (c : Xf0) (q : Xar) : Prop where
 ok : Xct now = true
 hx : x.tmod 8 = 0
 hy : y.tmod 8 = 0
 h0 : Xm6 now x y = true
 hl : 0 ≤ l ∧ l ≤ 256
 ht : 0 ≤ t ∧ t ≤ 256
 hc : Xg3 c = true
 hs : q.Levels.length ≤ 1048576
theorem Yoe {now ref : Pic} {l t x y : Int} {c : Xf0} {q : Xar} (h : Zbe now ref l t x y c q) (hq : (Xnq q && Xiy q c) = false) : Xdw now ref l t c x y q = some ([], false) := by
 unfold Xdw
 rw [Xc5, Xab, h.ok, Xav, Xs7 h.ok h.hx h.hy h.h0, Xab, Xav, Xaj, Xab, decide_eq_true h.hl, Xav, Xaj, Xab, decide_eq_true h.ht, Xav, Xe3 q (by have := h.hs; omega), Xab, Xdm, Xab, h.hc, Xav, Yh2, Xab]
 cases h1 : Xnq q with
 | false => rfl
 | true =>
  rw [h1, Bool.true_and] at hq
  rw [hq]; rfl
theorem Ygi {now ref : Pic} {l t x y : Int} {c : Xf0} {q : Xar} (h : Zbe now ref l t x y c q) (hq : Xnq q = true) (hL : Xiy q c = true) (hr : c.Key = false → Xct ref = true) : ∃ d, Xdw now ref l t c x y q = some (d, true) ∧ Xda now ref l t c x y q = some (d, true) ∧ Xor d = true := by
 obtain ⟨ok, hx, hy, h0, hl, ht, hc, hs⟩ := h
 obtain ⟨k1, k2, k3⟩ := Xby ok
 have h0' := h0
 unfold Xm6 at h0'
 rw [decide_eq_true_eq] at h0'
 have dxy := Zae hq
 unfold Xda Xdw
 rw [Xn0 ok hx hy h0, Xab, Xav, Xai, Xab, decide_eq_true hl, Xav, Xai, Xab, decide_eq_true ht, Xav, Xkb, Xab, hq, Xav, Xft, Xab, hc, Bool.not_true, Xab, Xam]
 rw [Xc5, Xab, ok, Xav, Xs7 ok hx hy h0, Xab, Xav, Xaj, Xab, decide_eq_true hl, Xav, Xaj, Xab, decide_eq_true ht, Xav, Xe3 q (by omega), Xab, hq, Xav, Xdm, Xab, hc, Xav, Yh2, Xab, hL, Xav]
 by_cases h2 : q.Kind = 2
 ·
  obtain ⟨hm, hlv⟩ := Xul hq h2
  obtain ⟨e, ee, he⟩ := Yi5 ok hx hy h0
  obtain ⟨b, eb, b1, b2⟩ := Xpu q.Levels c hc hlv
  obtain ⟨g, eg, hg⟩ := Yja q.Mode hm he
  obtain ⟨j, ej, hj⟩ := Xvt g b hg b1 b2
  refine ⟨j, ?_, ?_, hj⟩
  ·
   rw [Xbc (b := q.Kind != 2) (by simpa using h2), Xab, Xam, Xbc (by rw [h2]; rfl), Xr5 q.Levels c hc hlv, eb, Xab, Xbc (by rw [h2]; rfl), Yn8 ok hx hy h0, ee, Xab, Yn9 q.Mode hm he, eg, Xab, Ycf g b hg b1 b2, ej, Xab]
  ·
   rw [Xbl (by simpa using h2), ee, Xab, eb, Xab, eg, Xab, ej, Xab]
 ·
  have hK : c.Key = false := by
   unfold Xiy at hL
   cases hk : c.Key with
   | false => rfl
   | true => rw [hk] at hL; simp at hL; exact absurd hL h2
  have rok := hr hK
  rw [Xbl (b := q.Kind != 2) (by simpa using h2), Xc5, Xab, rok, Bool.not_true, Xab, Xam]
  rw [Xbc (b := q.Kind == 2) (by simpa using h2), hK, Xam, Xgy, Xab, rok, Bool.not_true, Xab, Xam]
  rw [wkA (e := l + x), wkA (e := l + x + q.Dx), wkA (e := t + y), wkA (e := t + y + q.Dy), Yix rok _ _ (by omega) (by omega), Xab, Xyj rok _ _ (by omega) (by omega), Xab, Xyj rok _ _ (by omega) (by omega)]
  by_cases h3 : q.Kind = 0
  ·
   obtain ⟨z1, z2⟩ := Ysq hq h3
   rw [Xbl (b := q.Kind == 0) (by simpa using h3), Xbl (b := q.Kind == 0) (by simpa using h3), z1, z2, Int.add_zero, Int.add_zero]
   exact ⟨_, rfl, rfl, Ygp _ _ _⟩
  ·
   have h1 : q.Kind = 1 := by have := Xq7 hq; omega
   obtain ⟨_, _, hlv⟩ := Xr0 hq h1
   obtain ⟨b, eb, b1, b2⟩ := Xpu q.Levels c hc hlv
   obtain ⟨j, ej, hj⟩ := Xvt _ b (Ygp ref (l + x + q.Dx) (t + y + q.Dy)) b1 b2
   rw [Xbc (b := q.Kind == 0) (by simpa using h3), Xbc (b := q.Kind == 0) (by simpa using h3), Xr5 q.Levels c hc hlv, eb, Xab, Xab, Xbl (b := q.Kind == 1) (by simpa using h1), Xab, Ycf _ b (Ygp _ _ _) b1 b2, ej, Xab]
   exact ⟨_, rfl, rfl, hj⟩
theorem Yz7 {β : Type} {a b c : Prop} [Decidable a] [Decidable b] [Decidable c] (hb : b) (hc : c) (k : Option β) : req a (req b (req c k)) = req b (req c (req a k)) := by
 rw [Xa6 hb, Xa6 hc, Xa6 hb, Xa6 hc]
theorem Yui {p : Pic} (ok : Xct p = true) : p.Dots.size ≤ 65536 := by
 obtain ⟨k1, k2, k3⟩ := Xby ok
 have := Xeo k1 k2
 omega
theorem Yx9 {p : Pic} {x y : Int} {d : List Int} (hd : Xor d = true) (hp : p.Dots.size ≤ maxLen) : Xt7 p x y d = Xiv p x y d := by
 obtain ⟨d1, d2⟩ := Xsy hd
 unfold Xt7 Xiv Xqm
 rw [Xa6 hp, Xab, Xa6 hp]
 have : Xrl p x y d = Xfy p x y d := by
  funext v
  unfold Xrl Xfy
  simp only [show ((d.length : Nat) : Int) = 64 by omega]
  exact Yty (fun _ => Yz7 (by omega) (by omega) _) fun _ => rfl
 rw [this]
theorem Yxy (n : Nat) (x : Int) : ((List.range n).map fun _ => x) = List.replicate n x := by
 apply List.ext_getElem
 ·
  simp
 ·
  intro i h1 h2; simp
theorem Yco (w h : Int) (hw : 1 ≤ w ∧ w ≤ 256) (hh : 1 ≤ h ∧ h ≤ 256) : Xos w h = some ⟨w, h, strOfNums (List.replicate (w * h).toNat 128)⟩ := by
 have ar := Xeo hw hh
 unfold Xos
 rw [Xaj, Xab, decide_eq_true hw, Xav, Xaj, Xab, decide_eq_true hh, Bool.not_true, Xab, Xam, wkA (e := w * h), rqA]
 rw [Yv9 (f := Xna w h) (w * h).toNat (fun _ => 128) (List.replicate (w * h).toNat 0) (by simp) ?_ ?_, Xab, Yxy]
 ·
  intro i s hi hs _
  unfold Xna
  simp only [List.length_replicate, Int.toNat_natCast]
  rw [wkA (e := w * h), syA, rqA, rqA, wkA]
  rfl
 ·
  intro s hs
  unfold Xna
  simp only [List.length_replicate]
  rw [wkA (e := w * h), snA]
theorem Xtd (w h : Int) (hw : 1 ≤ w ∧ w ≤ 256) (hh : 1 ≤ h ∧ h ≤ 256) : Xnn w h = some ⟨w, h, strOfNums (List.replicate (w * h).toNat 128)⟩ := by
 have ar := Xeo hw hh
 unfold Xnn
 rw [Xai, Xab, decide_eq_true hw, Xav, Xai, Xab, decide_eq_true hh, Bool.not_true, Xab, Xam, wkA (e := w * h), show w * h = (((w * h).toNat : Nat) : Int) by omega, Xth _ _ (by omega), Xab, Int.toNat_natCast]
def Xm7 (p : Pic) (r : Xpw) : Bool := decide (1 ≤ r.Wide ∧ r.Wide ≤ p.Wide) && (decide (1 ≤ r.High ∧ r.High ≤ p.High) && (decide (0 ≤ r.Left ∧ r.Left ≤ p.Wide - r.Wide) && decide (0 ≤ r.Top ∧ r.Top ≤ p.High - r.High)))
theorem Xrk {p : Pic} (ok : Xct p = true) (r : Xpw) : Xej p r = some (Xm7 p r) := by
 obtain ⟨k1, k2, k3⟩ := Xby ok
 unfold Xej Xm7
 rw [Xaj, Xaj, Xab, Xab]
 by_cases h1 : 1 ≤ r.Wide ∧ r.Wide ≤ p.Wide
 ·
  rw [decide_eq_true h1, Xav, Bool.true_and]
  by_cases h2 : 1 ≤ r.High ∧ r.High ≤ p.High
  ·
   rw [decide_eq_true h2, Xav, Bool.true_and, wkA (e := p.Wide - r.Wide), wkA (e := p.High - r.High), Xaj, Xaj, Xab, Xab, Xee, Xab]
  ·
   rw [decide_eq_false h2, Xam, Bool.false_and]; rfl
 ·
  rw [decide_eq_false h1, Xam, Bool.false_and]; rfl
theorem Xmo (p : Pic) (r : Xpw) : Xcs p r.Left r.Top r.Wide r.High = some (Xct p && Xm7 p r) := by
 unfold Xcs Xm7
 rw [Xgy, Xab]
 cases ok : Xct p with
 | false => rfl
 | true =>
  obtain ⟨k1, k2, k3⟩ := Xby ok
  rw [Xav, Xai, Xai, Xab, Xab]
  by_cases h1 : 1 ≤ r.Wide ∧ r.Wide ≤ p.Wide
  ·
   rw [decide_eq_true h1, Xav, Bool.true_and, Bool.true_and]
   by_cases h2 : 1 ≤ r.High ∧ r.High ≤ p.High
   ·
    rw [decide_eq_true h2, Xav, Bool.true_and, wkA (e := p.Wide - r.Wide), wkA (e := p.High - r.High), Xai, Xai, Xab, Xab, Xee, Xab]
   ·
    rw [decide_eq_false h2, Xam, Bool.false_and]; rfl
  ·
   rw [decide_eq_false h1, Xam, Bool.false_and]; rfl
theorem Xkn {p : Pic} {r : Xpw} (h : Xm7 p r = true) : (1 ≤ r.Wide ∧ r.Wide ≤ p.Wide) ∧ (1 ≤ r.High ∧ r.High ≤ p.High) ∧ (0 ≤ r.Left ∧ r.Left ≤ p.Wide - r.Wide) ∧ (0 ≤ r.Top ∧ r.Top ≤ p.High - r.High) := by
 unfold Xm7 at h
 simp only [Bool.and_eq_true, decide_eq_true_eq] at h
 exact h
def Xpx (p : Pic) (r : Xpw) : Nat → List Int
 | 0 => []
 | n + 1 => Xpx p r n ++ Xa0 (p.Dots.extract ((r.Top + n) * p.Wide + r.Left).toNat ((r.Top + n) * p.Wide + r.Left + r.Wide).toNat)
theorem Yxa {p : Pic} {r : Xpw} (ok : Xct p = true) (h : Xm7 p r = true) (n : Nat) (hn : (n : Int) < r.High) : 0 ≤ (r.Top + n) * p.Wide ∧ (r.Top + n) * p.Wide + r.Left + r.Wide ≤ p.Dots.size ∧ (r.Top + n) * p.Wide ≤ 65536 ∧ (Xa0 (p.Dots.extract ((r.Top + n) * p.Wide + r.Left).toNat ((r.Top + n) * p.Wide + r.Left + r.Wide).toNat)).length = r.Wide.toNat := by
 obtain ⟨k1, k2, k3⟩ := Xby ok
 obtain ⟨a1, a2, a3, a4⟩ := Xkn h
 have ar := Xeo k1 k2
 have b1 : 0 ≤ (r.Top + n) * p.Wide := Int.mul_nonneg (by omega) (by omega)
 have b2 : (r.Top + n) * p.Wide ≤ (p.High - 1) * p.Wide := Int.mul_le_mul_of_nonneg_right (by omega) (by omega)
 have b3 : (p.High - 1) * p.Wide = p.Wide * p.High - p.Wide := by rw [Int.sub_mul, Int.one_mul, Int.mul_comm]
 refine ⟨b1, by omega, by omega, ?_⟩
 rw [Xbv, ByteArray.size_extract]
 omega
theorem Xwd {p : Pic} {r : Xpw} (ok : Xct p = true) (h : Xm7 p r = true) : ∀ n : Nat, (n : Int) ≤ r.High → ((Xpx p r n).length : Int) = n * r.Wide
 | 0, _ => by simp [Xpx]
 | n + 1, hn => by
  have a := Xkn h
  have b := Yxa ok h n (by omega)
  rw [Xpx, List.length_append, Int.natCast_add, Xwd ok h n (by omega), b.2.2.2, Int.natCast_add, Int.add_mul]
  simp only [Int.natCast_one, Int.one_mul]
  omega
theorem Yuh {p : Pic} {r : Xpw} {f : Int × List Int → Option (Lp (Int × List Int) (List Int))} (ok : Xct p = true) (h : Xm7 p r = true) (hf : f = Xjc p r) : loop f (r.Top, []) = some (Xpx p r r.High.toNat) := by
 have hm : maxLen = 9223372036854775807 := rfl
 obtain ⟨k1, k2, k3⟩ := Xby ok
 obtain ⟨a1, a2, a3, a4⟩ := Xkn h
 subst hf
 have key : ∀ n : Nat, n ≤ r.High.toNat → loop (Xjc p r) (r.Top + n, Xpx p r n) = some (Xpx p r r.High.toNat) := by
  refine Xhn _ ?_ ?_
  ·
   refine Xcn ?_
   unfold Xjc
   rw [wkA (e := r.Top + r.High), Xax (by simp only; omega)]
  ·
   intro n hn ih
   refine lgo (y := (r.Top + ((n + 1 : Nat) : Int), Xpx p r (n + 1))) ?_ ih
   obtain ⟨b1, b2, b3, b4⟩ := Yxa ok h n (by omega)
   have cl := Xwd ok h n (by omega)
   have cw : (n : Int) * r.Wide ≤ 256 * r.Wide := Int.mul_le_mul_of_nonneg_right (by omega) (by omega)
   unfold Xjc
   simp only
   rw [wkA (e := r.Top + r.High), syA, wkA (e := (r.Top + n) * p.Wide), wkA (e := (r.Top + n) * p.Wide + r.Left), wkA (e := (r.Top + n) * p.Wide + r.Left + r.Wide), rqA, Xa6 (by rw [b4]; omega), wkA (e := r.Top + n + 1), show r.Top + ((n + 1 : Nat) : Int) = r.Top + n + 1 by omega]
   rfl
 have := key 0 (by omega)
 simpa [Xpx] using this
def Zct (p : Pic) (r : Xpw) : Pic := ⟨r.Wide, r.High, strOfNums (Xpx p r r.High.toNat)⟩
theorem Zbq {p : Pic} {r : Xpw} (ok : Xct p = true) (h : Xm7 p r = true) : Xct (Zct p r) = true := by
 obtain ⟨k1, k2, k3⟩ := Xby ok
 obtain ⟨a1, a2, a3, a4⟩ := Xkn h
 refine Xuf (by show 1 ≤ r.Wide ∧ r.Wide ≤ 256; omega) (by show 1 ≤ r.High ∧ r.High ≤ 256; omega) ?_
 show ((strOfNums _).size : Int) = r.Wide * r.High
 rw [strOfNums_size, Xwd ok h _ (by omega), Int.mul_comm]
 congr 1; omega
theorem Yp6 {p : Pic} {r : Xpw} (ok : Xct p = true) (h : Xm7 p r = true) : Xoq p r = some (Zct p r, true) := by
 unfold Xoq
 rw [Xmo, ok, h, Xab]
 simp only [Bool.true_and, Bool.not_true, Xam]
 rw [Yuh ok h rfl, Xab]
 rfl
theorem Yoy {p : Pic} {r : Xpw} (ok : Xct p = true) (h : Xm7 p r = true) : Xon p r = some (Zct p r, true) := by
 obtain ⟨k1, k2, k3⟩ := Xby ok
 obtain ⟨a1, a2, a3, a4⟩ := Xkn h
 have ar := Xeo (w := r.Wide) (h := r.High) (by omega) (by omega)
 unfold Xon
 rw [Xc5, Xab, ok, Xav, Xrk ok, Xab, h, Bool.not_true, Xab, Xam, wkA (e := r.Wide * r.High), rqA]
 have := Yuh (f := Xri p r) ok h rfl
 rw [show List.replicate (0 : Int).toNat (0 : Int) = [] from rfl, this, Xab]
 rfl
def Xpv (l : List Xar) (c : Xf0) : Bool := l.all fun q => Xnq q && Xiy q c
theorem Xvk (n : Int) : Xmd n = some (Xrx n) := by
 unfold Xmd Xrx
 rw [rqA, Xaj, Xab, Xee, Xab, Yom]
theorem Yqb (l : List Xar) (c : Xf0) (hl : l.length ≤ 1048576) : Xq6 l c = some (Xg3 c && (decide (1 ≤ l.length ∧ l.length ≤ 64) && Xpv l c)) := by
 unfold Xq6
 rw [Xft, Xab]
 cases hc : Xg3 c with
 | false => rfl
 | true =>
  rw [Xav, Xai, Xab, Xab]
  by_cases h64 : 1 ≤ l.length ∧ l.length ≤ 64
  ·
   rw [decide_eq_true (show 1 ≤ (l.length : Int) ∧ (l.length : Int) ≤ 64 by omega), decide_eq_true h64, Bool.not_true, Xam, Bool.true_and, Bool.true_and]
   have key : ∀ (r a : List Xar), l = a ++ r → loop (Xg1 l c) (a.length : Int) = some (if Xpv r c = true then .out () else .ret false) := by
    intro r
    induction r with
    | nil =>
     intro a ha
     rw [List.append_nil] at ha
     exact Xcn (by unfold Xg1; rw [Xax (by rw [ha]; omega)]; rfl)
    | cons s r ih =>
     intro a ha
     have hlen : a.length < l.length := by rw [ha]; simp
     have hx : l.getD a.length Xbx = s := by rw [ha]; exact Xn9 a s _ r
     have hn := ih (a ++ [s]) (by rw [ha]; simp)
     rw [List.length_append, List.length_singleton] at hn
     have hstep : Xg1 l c (a.length : Int) = sel (!(Xnq s && Xiy s c)) (some (.done (.ret false))) (some (.go ((a.length + 1 : Nat) : Int))) := by
      unfold Xg1
      simp only [Int.toNat_natCast, hx]
      rw [syA, rqA, show (⟨s.Kind, s.Mode, s.Dx, s.Dy, s.Levels⟩ : Xar) = s from rfl, Xkb, Xab, rqA, wkA]
      unfold Xiy
      cases Xnq s with
      | false => rfl
      | true =>
       cases c.Key with
       | false => rfl
       | true => rw [Xav, Xav, Xab, Bool.true_and, Bool.not_true, Bool.false_or]; rfl
     unfold Xpv at hn ⊢
     rw [List.all_cons]
     cases hq : (Xnq s && Xiy s c) with
     | true =>
      rw [hq] at hstep
      rw [Xho (hstep.trans (by rw [Bool.not_true, Xam])), hn, Bool.true_and]
     | false =>
      rw [hq] at hstep
      rw [Xco (hstep.trans (by rw [Bool.not_false, Xav]))]
      simp
   have k0 : loop (Xg1 l c) 0 = some (if Xpv l c = true then .out () else .ret false) := key l [] rfl
   rw [k0, Xab]
   cases Xpv l c <;> rfl
  ·
   rw [decide_eq_false (show ¬ (1 ≤ (l.length : Int) ∧ (l.length : Int) ≤ 64) by omega), decide_eq_false h64]; rfl
theorem Yn5 {w h : Int} (hw : Xrx w = true) (hh : Xrx h = true) (i : Nat) (hi : (i : Int) < w / 8 * (h / 8)) : (8 ≤ w ∧ w ≤ 64) ∧ (8 ≤ h ∧ h ≤ 64) ∧ 1 ≤ w / 8 ∧ w / 8 ≤ 8 ∧ 1 ≤ h / 8 ∧ h / 8 ≤ 8 ∧ 0 ≤ (i : Int) % (w / 8) * 8 ∧ (i : Int) % (w / 8) * 8 ≤ w - 8 ∧ 0 ≤ (i : Int) / (w / 8) * 8 ∧ (i : Int) / (w / 8) * 8 ≤ h - 8 := by
 unfold Xrx at hw hh
 rw [Bool.and_eq_true, decide_eq_true_eq, decide_eq_true_eq] at hw hh
 rw [Xbs (by omega)] at hw hh
 have h1 : 1 ≤ w / 8 ∧ w / 8 ≤ 8 := by omega
 have h2 : 1 ≤ h / 8 ∧ h / 8 ≤ 8 := by omega
 have m0 : 0 ≤ (i : Int) % (w / 8) := Int.emod_nonneg _ (by omega)
 have m1 : (i : Int) % (w / 8) < w / 8 := Int.emod_lt_of_pos _ (by omega)
 have d0 : 0 ≤ (i : Int) / (w / 8) := Int.ediv_nonneg (by omega) (by omega)
 have d1 : (i : Int) / (w / 8) < h / 8 := Int.ediv_lt_of_lt_mul (by omega) (by rw [Int.mul_comm]; exact hi)
 exact ⟨hw.2, hh.2, h1.1, h1.2, h2.1, h2.2, by omega, by omega, by omega, by omega⟩
theorem Xh3 {w : Int} (hw : Xrx w = true) : w % 8 = 0 ∧ 8 ≤ w ∧ w ≤ 64 := by
 unfold Xrx at hw
 rw [Bool.and_eq_true, decide_eq_true_eq, decide_eq_true_eq] at hw
 rw [Xbs (by omega)] at hw
 exact ⟨hw.1, hw.2⟩
structure Yzc (ref : Pic) (le tp : Int) (r : Xpw) (c : Xf0) (l : List Xar) : Prop where
 hw : Xrx r.Wide = true
 hh : Xrx r.High = true
 hl : 0 ≤ le ∧ le ≤ 256
 ht : 0 ≤ tp ∧ tp ≤ 256
 hc : Xg3 c = true
 hn : (l.length : Int) = r.Wide / 8 * (r.High / 8)
 hs : ∀ q ∈ l, q.Levels.length ≤ 1048576
 hr : c.Key = false → Xct ref = true
def tbI (r : Xpw) (v : Int × Int × ByteArray) : Prop := Xct ⟨v.1, v.2.1, v.2.2⟩ = true ∧ v.1 = r.Wide ∧ v.2.1 = r.High
theorem Yyx {ref : Pic} {le tp : Int} {r : Xpw} {c : Xf0} {l : List Xar} (H : Yzc ref le tp r c l) (i : Nat) (hi : i < l.length) (s : Int × Int × ByteArray) (hs : tbI r s) :
  ((Xnq (l.getD i Xbx) && Xiy (l.getD i Xbx) c) = false → Xb5 r c l (le, tp, ref.Wide, ref.High, ref.Dots) ((i : Int), s) = some (.done (.ret (⟨0, 0, ⟨#[]⟩⟩, false)))) ∧
  ((Xnq (l.getD i Xbx) && Xiy (l.getD i Xbx) c) = true → ∃ s', Xb5 r c l (le, tp, ref.Wide, ref.High, ref.Dots) ((i : Int), s) = some (.go (((i + 1 : Nat) : Int), s')) ∧ Xbp r c l (le, tp, ref.Wide, ref.High, ref.Dots) ((i : Int), s) = some (.go (((i + 1 : Nat) : Int), s')) ∧ tbI r s') := by
 obtain ⟨hw, hh, hl, ht, hc, hn, hls, hr⟩ := H
 obtain ⟨w, h, dt⟩ := s
 obtain ⟨ok, e1, e2⟩ := hs
 simp only at ok e1 e2
 subst e1; subst e2
 obtain ⟨p1, p2, p3, p4, p5, p6, p7, p8, p9, p10⟩ := Yn5 hw hh i (by omega)
 have hmem : l.getD i Xbx ∈ l := by rw [Xb4 l i hi]; exact List.getElem_mem _
 have held : Xm6 (⟨r.Wide, r.High, dt⟩ : Pic) ((i : Int) % (r.Wide / 8) * 8) ((i : Int) / (r.Wide / 8) * 8) = true := by
  unfold Xm6; rw [decide_eq_true_eq]; exact ⟨p7, p8, p9, p10⟩
 have SD : Zbe (⟨r.Wide, r.High, dt⟩ : Pic) ref le tp ((i : Int) % (r.Wide / 8) * 8) ((i : Int) / (r.Wide / 8) * 8) c (l.getD i Xbx) :=
  ⟨ok, by rw [Xbs p7]; omega, by rw [Xbs p9]; omega, held, hl, ht, hc, hls _ hmem⟩
 have l64 : l.length ≤ 64 := by
  have : r.Wide / 8 * (r.High / 8) ≤ 8 * 8 := Int.mul_le_mul (by omega) (by omega) (by omega) (by omega)
  omega
 have eI : Xb5 r c l (le, tp, ref.Wide, ref.High, ref.Dots) ((i : Int), r.Wide, r.High, dt) = bnd (Xdw (⟨r.Wide, r.High, dt⟩ : Pic) ref le tp c ((i : Int) % (r.Wide / 8) * 8) ((i : Int) / (r.Wide / 8) * 8) (l.getD i Xbx)) fun q21 => sel (!q21.2) (some (.done (.ret (⟨0, 0, ⟨#[]⟩⟩, false)))) (bnd (Xt7 (⟨r.Wide, r.High, dt⟩ : Pic) ((i : Int) % (r.Wide / 8) * 8) ((i : Int) / (r.Wide / 8) * 8) q21.1) fun q22 => some (.go (((i + 1 : Nat) : Int), q22.Wide, q22.High, q22.Dots))) := by
  unfold Xb5
  simp only [Int.toNat_natCast]
  rw [syA, rqA, rqA, Xbr (a := r.Wide) (by omega), wkA (e := r.Wide / 8), rqA, rqA, rqA, Xbs (a := (i : Int)) (by omega), Xbr (a := (i : Int)) (by omega), wkA (e := (i : Int) % (r.Wide / 8) * 8), wkA (e := (i : Int) / (r.Wide / 8)), wkA (e := (i : Int) / (r.Wide / 8) * 8), wkA (e := (i : Int) + 1)]
  rfl
 have eS : Xbp r c l (le, tp, ref.Wide, ref.High, ref.Dots) ((i : Int), r.Wide, r.High, dt) = bnd (Xda (⟨r.Wide, r.High, dt⟩ : Pic) ref le tp c ((i : Int) % (r.Wide / 8) * 8) ((i : Int) / (r.Wide / 8) * 8) (l.getD i Xbx)) fun q21 => bnd (Xiv (⟨r.Wide, r.High, dt⟩ : Pic) ((i : Int) % (r.Wide / 8) * 8) ((i : Int) / (r.Wide / 8) * 8) q21.1) fun q22 => some (.go (((i + 1 : Nat) : Int), q22.Wide, q22.High, q22.Dots)) := by
  unfold Xbp
  simp only [Int.toNat_natCast]
  rw [syA, rqA, Xbr (a := r.Wide) (by omega), wkA (e := r.Wide / 8), rqA, rqA, rqA, rqA, Xbs (a := (i : Int)) (by omega), Xbr (a := (i : Int)) (by omega), Int.mul_comm 8 ((i : Int) % (r.Wide / 8)), wkA (e := (i : Int) / (r.Wide / 8)), Int.mul_comm 8 ((i : Int) / (r.Wide / 8)), wkA (e := (i : Int) % (r.Wide / 8) * 8), wkA (e := (i : Int) / (r.Wide / 8) * 8), wkA (e := (i : Int) + 1)]
  rfl
 refine ⟨fun hq => ?_, fun hq => ?_⟩
 ·
  rw [eI, Yoe SD hq, Xab]; rfl
 ·
  rw [Bool.and_eq_true] at hq
  obtain ⟨d, d1, d2, d3⟩ := Ygi SD hq.1 hq.2 hr
  obtain ⟨p', ep, g1, g2, g3⟩ := Ynb ok held d3
  refine ⟨(p'.Wide, p'.High, p'.Dots), ?_, ?_, g1, g2, g3⟩
  ·
   rw [eI, d1, Xab, Bool.not_true, Xam, Yx9 d3 (by have := Yui ok; have hm : maxLen = 9223372036854775807 := rfl; simp only at this ⊢; omega), ep, Xab]
  ·
   rw [eS, d2, Xab, ep, Xab]
theorem Zbv {r : Xpw} (hw : Xrx r.Wide = true) (hh : Xrx r.High = true) : tbI r (r.Wide, r.High, strOfNums (List.replicate (r.Wide * r.High).toNat 128)) := by
 have a := Xh3 hw
 have b := Xh3 hh
 have ar := Xeo (w := r.Wide) (h := r.High) (by omega) (by omega)
 refine ⟨Xuf (by simp only; omega) (by simp only; omega) ?_, rfl, rfl⟩
 simp only
 rw [strOfNums_size, List.length_replicate]; omega
theorem Zak {ref : Pic} {le tp : Int} {r : Xpw} {c : Xf0} {l : List Xar} (H : Yzc ref le tp r c l) (s0 : Int × Int × ByteArray) (h0 : tbI r s0) :
  (Xpv l c = false → loop (Xb5 r c l (le, tp, ref.Wide, ref.High, ref.Dots)) (0, s0) = some (.ret (⟨0, 0, ⟨#[]⟩⟩, false))) ∧
  (Xpv l c = true → ∃ s, loop (Xb5 r c l (le, tp, ref.Wide, ref.High, ref.Dots)) (0, s0) = some (.out s) ∧ loop (Xbp r c l (le, tp, ref.Wide, ref.High, ref.Dots)) (0, s0) = some s ∧ tbI r s) := by
 have key : ∀ i : Nat, i ≤ l.length → ∀ s, tbI r s →
  ((∃ j, i ≤ j ∧ j < l.length ∧ (Xnq (l.getD j Xbx) && Xiy (l.getD j Xbx) c) = false) → loop (Xb5 r c l (le, tp, ref.Wide, ref.High, ref.Dots)) ((i : Int), s) = some (.ret (⟨0, 0, ⟨#[]⟩⟩, false))) ∧
  ((∀ j, i ≤ j → j < l.length → (Xnq (l.getD j Xbx) && Xiy (l.getD j Xbx) c) = true) → ∃ s', loop (Xb5 r c l (le, tp, ref.Wide, ref.High, ref.Dots)) ((i : Int), s) = some (.out s') ∧ loop (Xbp r c l (le, tp, ref.Wide, ref.High, ref.Dots)) ((i : Int), s) = some s' ∧ tbI r s') := by
  refine Xhn _ ?_ ?_
  ·
   intro s hs
   refine ⟨fun ⟨j, h1, h2, _⟩ => by omega, fun _ => ⟨s, Xcn ?_, Xcn ?_, hs⟩⟩
   ·
    unfold Xb5; rw [Xax (by simp)]
   ·
    unfold Xbp; rw [Xax (by simp)]
  ·
   intro i hi ih s hs
   obtain ⟨hno, hyes⟩ := Yyx H i hi s hs
   cases hq : (Xnq (l.getD i Xbx) && Xiy (l.getD i Xbx) c) with
   | false =>
    refine ⟨fun _ => Xcn (hno hq), fun hall => ?_⟩
    have := hall i (Nat.le_refl _) hi
    rw [hq] at this; cases this
   | true =>
    obtain ⟨s', e1, e2, hs'⟩ := hyes hq
    obtain ⟨i1, i2⟩ := ih s' hs'
    refine ⟨fun ⟨j, h1, h2, h3⟩ => lgo e1 (i1 ⟨j, ?_, h2, h3⟩), fun hall => ?_⟩
    ·
     rcases Nat.lt_or_ge i j with h | h
     ·
      exact h
     ·
      have : j = i := by omega
      subst this
      rw [hq] at h3; cases h3
    ·
     obtain ⟨s2, k1, k2, k3⟩ := i2 fun j hj => hall j (by omega)
     exact ⟨s2, lgo e1 k1, lgo e2 k2, k3⟩
 obtain ⟨k1, k2⟩ := key 0 (by omega) s0 h0
 refine ⟨fun hf => k1 ?_, fun ht => k2 fun j _ hj => ?_⟩
 ·
  unfold Xpv at hf
  rw [List.all_eq_false] at hf
  obtain ⟨x, hx, hxf⟩ := hf
  obtain ⟨j, hj, rfl⟩ := List.getElem_of_mem hx
  exact ⟨j, by omega, hj, by rw [Xb4 l j hj]; simpa using hxf⟩
 ·
  unfold Xpv at ht
  rw [List.all_eq_true] at ht
  exact ht _ (by rw [Xb4 l j hj]; exact List.getElem_mem _)
theorem Yzz {now ref ref' : Pic} {l l' t t' x y : Int} {c : Xf0} {q : Xar} (h : Zbe now ref l t x y c q) (h' : Zbe now ref' l' t' x y c q) (hq : Xnq q = true) (hL : Xiy q c = true) (hK : c.Key = true) : Xda now ref l t c x y q = Xda now ref' l' t' c x y q := by
 have h2 : (q.Kind == 2) = true := by unfold Xiy at hL; rw [hK] at hL; simpa using hL
 unfold Xda
 rw [Xai, Xai, Xai, Xai, decide_eq_true h.hl, decide_eq_true h.ht, decide_eq_true h'.hl, decide_eq_true h'.ht, h2]
 simp only [Xav]
theorem Yz0 {ref ref' : Pic} {le tp le' tp' : Int} {r : Xpw} {c : Xf0} {l : List Xar} (H : Yzc ref le tp r c l) (H' : Yzc ref' le' tp' r c l) (hK : c.Key = true) (ha : Xpv l c = true) (s0 : Int × Int × ByteArray) (h0 : tbI r s0) :
  loop (Xbp r c l (le, tp, ref.Wide, ref.High, ref.Dots)) (0, s0) = loop (Xbp r c l (le', tp', ref'.Wide, ref'.High, ref'.Dots)) (0, s0) := by
 have hall : ∀ i, i < l.length → (Xnq (l.getD i Xbx) && Xiy (l.getD i Xbx) c) = true := fun i hi => by
  unfold Xpv at ha
  rw [List.all_eq_true] at ha
  exact ha _ (by rw [Xb4 l i hi]; exact List.getElem_mem _)
 refine Yu0 l.length (fun _ s => tbI r s) ?_ ?_ h0
 ·
  intro i s hi hs
  rcases Nat.lt_or_ge i l.length with hlt | hge
  ·
   have hq := hall i hlt
   rw [Bool.and_eq_true] at hq
   obtain ⟨w, h, dt⟩ := s
   obtain ⟨ok, e1, e2⟩ := hs
   simp only at ok e1 e2
   subst e1; subst e2
   have hn := H.hn
   obtain ⟨p1, p2, p3, p4, p5, p6, p7, p8, p9, p10⟩ := Yn5 H.hw H.hh i (by omega)
   have hmem : l.getD i Xbx ∈ l := by rw [Xb4 l i hlt]; exact List.getElem_mem _
   have held : Xm6 (⟨r.Wide, r.High, dt⟩ : Pic) ((i : Int) % (r.Wide / 8) * 8) ((i : Int) / (r.Wide / 8) * 8) = true := by
    unfold Xm6; rw [decide_eq_true_eq]; exact ⟨p7, p8, p9, p10⟩
   have SD : Zbe (⟨r.Wide, r.High, dt⟩ : Pic) ref le tp ((i : Int) % (r.Wide / 8) * 8) ((i : Int) / (r.Wide / 8) * 8) c (l.getD i Xbx) :=
    ⟨ok, by rw [Xbs p7]; omega, by rw [Xbs p9]; omega, held, H.hl, H.ht, H.hc, H.hs _ hmem⟩
   have SD' : Zbe (⟨r.Wide, r.High, dt⟩ : Pic) ref' le' tp' ((i : Int) % (r.Wide / 8) * 8) ((i : Int) / (r.Wide / 8) * 8) c (l.getD i Xbx) :=
    ⟨ok, by rw [Xbs p7]; omega, by rw [Xbs p9]; omega, held, H'.hl, H'.ht, H'.hc, H'.hs _ hmem⟩
   have l64 : l.length ≤ 64 := by
    have : r.Wide / 8 * (r.High / 8) ≤ 8 * 8 := Int.mul_le_mul (by omega) (by omega) (by omega) (by omega)
    omega
   unfold Xbp
   simp only [Int.toNat_natCast]
   refine Yty (fun _ => Ypq fun _ => ?_) fun _ => rfl
   rw [Xbr (a := r.Wide) (by omega), wkA (e := r.Wide / 8), Xbs (a := (i : Int)) (by omega), Xbr (a := (i : Int)) (by omega), Int.mul_comm 8 ((i : Int) % (r.Wide / 8)), wkA (e := (i : Int) / (r.Wide / 8)), Int.mul_comm 8 ((i : Int) / (r.Wide / 8)), wkA (e := (i : Int) % (r.Wide / 8) * 8), wkA (e := (i : Int) / (r.Wide / 8) * 8)]
   refine Ypq fun _ => Ypq fun _ => Ypq fun _ => Ypq fun _ => Zbm ?_ fun _ _ => rfl
   exact Yzz SD SD' hq.1 hq.2 hK
  ·
   unfold Xbp
   rw [Xax (by simp only; omega), Xax (by simp only; omega)]
 ·
  intro i s v' hi hs he
  rcases Nat.lt_or_ge i l.length with hlt | hge
  ·
   obtain ⟨s', _, e2, hs'⟩ := (Yyx H' i hlt s hs).2 (hall i hlt)
   rw [e2] at he
   injection he with he
   injection he with he
   subst he
   exact ⟨rfl, by omega, hs'⟩
  ·
   unfold Xbp at he
   rw [Xax (by simp only; omega)] at he
   cases he
theorem Xxk (ref : Pic) (r : Xpw) (c : Xf0) (cf : Bool) (l : List Xar) (hll : l.length ≤ 1048576) (hs : ∀ q ∈ l, q.Levels.length ≤ 1048576) : ∃ x, Xlg ref r c cf l = some x ∧ Xg0 ref r c cf l = some x ∧ (x.2 = true → tbI r (x.1.Wide, x.1.High, x.1.Dots)) := by
 unfold Xlg Xg0
 rw [Xvk, Xab, Xt0, Xab]
 cases hw : Xrx r.Wide with
 | false => exact ⟨_, rfl, rfl, fun h => by cases h⟩
 | true =>
  rw [Xav, Xav, Xvk, Xab, Xt0, Xab]
  cases hh : Xrx r.High with
  | false => exact ⟨_, rfl, rfl, fun h => by cases h⟩
  | true =>
   rw [Xav, Xav, Xaj, Xab, Xai, Xab]
   by_cases hL : 0 ≤ r.Left ∧ r.Left ≤ 256
   ·
    rw [decide_eq_true hL, Xav, Xav, Xaj, Xab, Xai, Xab]
    by_cases hT : 0 ≤ r.Top ∧ r.Top ≤ 256
    ·
     rw [decide_eq_true hT, Xav, Xav, Xdm, Xab, Yqb l c hll, Xab]
     cases hc : Xg3 c with
     | false => exact ⟨_, rfl, rfl, fun h => by cases h⟩
     | true =>
      have sw := Xh3 hw
      have sh := Xh3 hh
      have mb : r.Wide / 8 * (r.High / 8) ≤ 8 * 8 := Int.mul_le_mul (by omega) (by omega) (by omega) (by omega)
      have m0 : 1 * 1 ≤ r.Wide / 8 * (r.High / 8) := Int.mul_le_mul (by omega) (by omega) (by omega) (by omega)
      rw [Xav, rqA, rqA, Bool.true_and, Xbr (a := r.Wide) (by omega), Xbr (a := r.High) (by omega), wkA (e := r.Wide / 8), wkA (e := r.High / 8), wkA (e := r.Wide / 8 * (r.High / 8))]
      by_cases hn : (l.length : Int) = r.Wide / 8 * (r.High / 8)
      ·
       have hne : ((l.length : Int) != r.Wide / 8 * (r.High / 8)) = false := by simpa using hn
       rw [decide_eq_true (show 1 ≤ l.length ∧ l.length ≤ 64 by omega), Bool.true_and, hne]
       -- the picture before
       have ha : (sel c.Key (some false) (bnd (Xd4 ref) fun q8 => sel q8 (bnd (Xej ref r) fun q9 => some (!q9)) (some true))) = some (!c.Key && !(Xct ref && Xm7 ref r)) := by
        cases c.Key with
        | true => rfl
        | false =>
         rw [Xam, Xc5, Xab]
         cases hp : Xct ref with
         | false => rfl
         | true => rw [Xav, Xrk hp, Xab]; rfl
       have hb : (sel c.Key (some false) (bnd (Xcs ref r.Left r.Top r.Wide r.High) fun q8 => some (!q8))) = some (!c.Key && !(Xct ref && Xm7 ref r)) := by
        cases c.Key with
        | true => rfl
        | false => rw [Xam, Xmo, Xab]; rfl
       have G := Zbv hw hh
       have gI := Yco r.Wide r.High (by omega) (by omega)
       have gS := Xtd r.Wide r.High (by omega) (by omega)
       rw [ha, hb, gI, gS]
       simp only [Xab, Xam]
       cases hbad : (!c.Key && !(Xct ref && Xm7 ref r)) with
       | true => cases Xpv l c <;> exact ⟨_, rfl, rfl, fun h => by cases h⟩
       | false =>
        have hr : c.Key = false → Xct ref = true ∧ Xm7 ref r = true := by
         intro hk
         rw [hk] at hbad
         simp only [Bool.not_false, Bool.true_and, Bool.not_eq_false'] at hbad
         rwa [Bool.and_eq_true] at hbad
        have vI : ∃ (rI : Pic) (lI tI : Int), (sel cf (sel (!c.Key) (bnd (Xon ref r) fun q11 => some ((0 : Int), (0 : Int), q11.1.Wide, q11.1.High, q11.1.Dots)) (some (0, 0, ref.Wide, ref.High, ref.Dots))) (some (r.Left, r.Top, ref.Wide, ref.High, ref.Dots))) = some (lI, tI, rI.Wide, rI.High, rI.Dots) ∧ Yzc rI lI tI r c l ∧
          ∃ (rS : Pic) (lS tS : Int), (bnd (sel c.Key (some false) (some cf)) fun v10 => sel v10 (bnd (Xoq ref r) fun q11 => some ((0 : Int), (0 : Int), q11.1.Wide, q11.1.High, q11.1.Dots)) (some (r.Left, r.Top, ref.Wide, ref.High, ref.Dots))) = some (lS, tS, rS.Wide, rS.High, rS.Dots) ∧ Yzc rS lS tS r c l ∧ (c.Key = false → rI = rS ∧ lI = lS ∧ tI = tS) := by
         cases hK : c.Key with
         | true =>
          have TT : ∀ le tp : Int, (0 ≤ le ∧ le ≤ 256) → (0 ≤ tp ∧ tp ≤ 256) → Yzc ref le tp r c l := fun le tp h1 h2 => ⟨hw, hh, h1, h2, hc, hn, hs, fun h => by rw [hK] at h; cases h⟩
          cases cf with
          | true => exact ⟨ref, 0, 0, rfl, TT 0 0 (by omega) (by omega), ref, r.Left, r.Top, rfl, TT _ _ hL hT, fun h => by cases h⟩
          | false => exact ⟨ref, r.Left, r.Top, rfl, TT _ _ hL hT, ref, r.Left, r.Top, rfl, TT _ _ hL hT, fun h => by cases h⟩
         | false =>
          obtain ⟨hp, ho⟩ := hr hK
          cases cf with
          | true =>
           rw [Xav, Bool.not_false, Xav, Yoy hp ho, Xab, Xam, Xab, Xav, Yp6 hp ho, Xab]
           have TT : Yzc (Zct ref r) 0 0 r c l := ⟨hw, hh, by omega, by omega, hc, hn, hs, fun _ => Zbq hp ho⟩
           exact ⟨Zct ref r, 0, 0, rfl, TT, Zct ref r, 0, 0, rfl, TT, fun _ => ⟨rfl, rfl, rfl⟩⟩
          | false =>
           have TT : Yzc ref r.Left r.Top r c l := ⟨hw, hh, hL, hT, hc, hn, hs, fun _ => hp⟩
           exact ⟨ref, r.Left, r.Top, rfl, TT, ref, r.Left, r.Top, rfl, TT, fun _ => ⟨rfl, rfl, rfl⟩⟩
        obtain ⟨rI, lI, tI, eI, HI, rS, lS, tS, eS, HS, hk⟩ := vI
        rw [Xam, eI, eS]
        simp only [Xab, Xam]
        obtain ⟨n1, n2⟩ := Zak HI _ G
        cases hall : Xpv l c with
        | false =>
         rw [n1 hall, Xab]
         exact ⟨_, rfl, rfl, fun h => by cases h⟩
        | true =>
         obtain ⟨s, e1, e2, e3⟩ := n2 hall
         have e4 : loop (Xbp r c l (lS, tS, rS.Wide, rS.High, rS.Dots)) (0, r.Wide, r.High, strOfNums (List.replicate (r.Wide * r.High).toNat 128)) = some s := by
          cases hK : c.Key with
          | true => rw [Yz0 HS HI hK hall _ G]; exact e2
          | false =>
           obtain ⟨q1, q2, q3⟩ := hk hK
           subst q1; subst q2; subst q3
           exact e2
         rw [e1, Xab, Xav, Xab, Xam, e4, Xab]
         exact ⟨_, rfl, rfl, fun _ => e3⟩
      ·
       have hne : ((l.length : Int) != r.Wide / 8 * (r.High / 8)) = true := by simpa using hn
       rw [hne, Xab, Xav]
       refine ⟨_, rfl, ?_, fun h => by cases h⟩
       cases (decide (1 ≤ l.length ∧ l.length ≤ 64) && Xpv l c) <;> rfl
    ·
     rw [decide_eq_false hT]; exact ⟨_, rfl, rfl, fun h => by cases h⟩
   ·
    rw [decide_eq_false hL]; exact ⟨_, rfl, rfl, fun h => by cases h⟩
theorem Xpq (l : List Int) (hl : l.length ≤ 1000000000) : Xi7 l l = some true := by
 unfold Xi7
 rw [bne_self_eq_false, Xam, Xtb l.length (f := Xg7 l l) (by
  intro i hi
  unfold Xg7
  rw [syA, rqA, rqA, bne_self_eq_false, Xam, wkA]
  rfl) (by unfold Xg7; rw [snA]), Xab]
theorem Yih (s : ByteArray) (k : Nat) (hk : k < s.size) : (Xa0 s).getD k 0 = Xl2 s k := by
 have := Xsw (Xa0 s) (by intro x hx; obtain ⟨b, _, rfl⟩ := List.mem_map.1 hx; have := b.toNat_lt; omega) k (by rw [Xbv]; exact hk)
 rw [Xum] at this
 exact this.symm
theorem Yxj {w h : Int} (hw : 1 ≤ w ∧ w ≤ 256) (hh : 1 ≤ h ∧ h ≤ 256) : Xct ⟨w, h, strOfNums (List.replicate (w * h).toNat 128)⟩ = true := by
 have ar := Xeo hw hh
 refine Xuf hw hh ?_
 simp only
 rw [strOfNums_size, List.length_replicate]; omega
theorem Ynq (a b : List Int) (i : Nat) : (a ++ b).getD (a.length + i) 0 = b.getD i 0 := by
 rw [List.getD_eq_getElem?_getD, List.getD_eq_getElem?_getD, List.getElem?_append_right (by omega)]
 congr 2; omega
theorem Yxf (a b : List Int) (i : Nat) (hi : i < a.length) : (a ++ b).getD i 0 = a.getD i 0 := by
 rw [List.getD_eq_getElem?_getD, List.getD_eq_getElem?_getD, List.getElem?_append_left hi]
theorem Zc9 (v x : Int) (h0 : 0 ≤ v) (h1 : v ≤ 1000000000000000000) (hx : x = 0 ∨ x = 1) : IntKind.wrap .i64 (BitVec.ofInt (IntKind.bits .i64) (v * 2) ||| BitVec.ofInt (IntKind.bits .i64) x).toNat = v * 2 + x := by
 obtain ⟨a, rfl⟩ : ∃ a : Nat, v = a := ⟨v.toNat, by omega⟩
 obtain ⟨b, rfl⟩ : ∃ b : Nat, x = b := ⟨x.toNat, by omega⟩
 have h : (BitVec.ofInt 64 ((a : Int) * 2) ||| BitVec.ofInt 64 (b : Int)).toNat = a * 2 + b := by
  rw [BitVec.toNat_or, BitVec.toNat_ofInt, BitVec.toNat_ofInt]
  have e1 : (((a : Int) * 2) % ((2 ^ 64 : Nat) : Int)).toNat = a * 2 := by omega
  have e2 : ((b : Int) % ((2 ^ 64 : Nat) : Int)).toNat = b := by omega
  rw [e1, e2]
  have := Nat.two_pow_add_eq_or_of_lt (i := 1) (b := b) (by omega) a
  rw [show 2 ^ 1 * a = a * 2 by omega] at this
  exact this.symm
 show IntKind.wrap .i64 ((BitVec.ofInt 64 ((a : Int) * 2) ||| BitVec.ofInt 64 (b : Int)).toNat : Int) = _
 rw [h, ← Xuo, wkA]
 omega
theorem Xyy {i : Nat} (h : i ≤ 40) : (2 : Int) ^ i ≤ 1099511627776 := by
 have h2 : (2 : Nat) ^ i ≤ 1099511627776 := Nat.pow_le_pow_right (n := 2) (by omega) h
 have := Int.ofNat_le.2 h2
 rw [Int.natCast_pow] at this
 exact this
theorem Xh2 {L a f b : List Int} (hL : L = a ++ (f ++ b)) (hb : Xe1 L) (hl : L.length ≤ 400000) (hf : f.length ≤ 41) : Xa5 ⟨strOfNums L, (a.length : Int), false⟩ (f.length : Int) = some (Xhs f, ⟨strOfNums L, ((a.length + f.length : Nat) : Int), false⟩) := by
 have hLl : L.length = a.length + (f.length + b.length) := by rw [hL]; simp only [List.length_append]
 have hfb : Xe1 f := fun x hx => hb x (by rw [hL]; simp [hx])
 unfold Xa5
 simp only
 rw [Xam, strOfNums_size, wkA, Xab, snA]
 have key : ∀ i : Nat, i ≤ f.length → loop (Xg6 ⟨strOfNums L, (a.length : Int), false⟩ (f.length : Int)) (Xhs (f.take i), (i : Int)) = some (Xhs f) := by
  refine Xhn _ ?_ ?_
  ·
   refine Xcn ?_
   unfold Xg6
   simp only
   rw [snA, List.take_length]
  ·
   intro i hi ih
   refine lgo ?_ ih
   have hx : L.getD (a.length + i) 0 = f.getD i 0 := by rw [hL, Ynq, Yxf _ _ _ hi]
   have hbt : Xl2 (strOfNums L) ((a.length : Int) + i) = f.getD i 0 := by
    rw [show (a.length : Int) + i = ((a.length + i : Nat) : Int) by omega, Xsw L (Xk8 hb) _ (by omega), hx]
   have h2 : f.getD i 0 = 48 ∨ f.getD i 0 = 49 := hfb _ (by rw [Xb4 f i hi]; exact List.getElem_mem hi)
   have ht : Xe1 (f.take i) := fun x hx => hfb x (List.mem_of_mem_take hx)
   have hr := Xj5 ht
   have hp : (2 : Int) ^ (f.take i).length ≤ 1099511627776 := Xyy (by rw [List.length_take]; omega)
   have hv : Xhs (f.take (i + 1)) = Xhs (f.take i) * 2 + (f.getD i 0 - 48) := by
    rw [List.take_add_one, Xr3, Xb4 f i hi, List.getElem?_eq_getElem hi]
    simp [Xhs]
   unfold Xg6
   simp only
   rw [syA, rqA, wkA (e := (a.length : Int) + i), Xa6 (by rw [strOfNums_size]; omega), hbt, w8 (by omega) (by omega), wkA (e := f.getD i 0 - 48), show (2 : Int) ^ min (1 : Int).toNat (IntKind.bits .i64) = 2 from rfl, wkA (e := Xhs (f.take i) * 2), Zc9 _ _ (by omega) (by omega) (by omega), wkA, hv]
   rfl
 have := key 0 (by omega)
 rw [List.take_zero] at this
 refine (Xey this).trans ?_
 rw [wkA]
 rfl
theorem Yw4 (m : Nat) (h : m ≠ 0) : ∃ r, Ys0 m = 49 :: r := by
 induction m using Nat.strongRecOn with
 | _ m ih =>
  rw [Ys0, dif_neg h]
  by_cases h1 : m / 2 = 0
  ·
   have : m = 1 := by omega
   subst this
   rw [Ys0, dif_pos h1]
   exact ⟨[], rfl⟩
  ·
   obtain ⟨r, e⟩ := ih (m / 2) (by omega) h1
   rw [e]
   exact ⟨r ++ [48 + ((m % 2 : Nat) : Int)], rfl⟩
theorem Zcq (m : Nat) : Xhs (Ys0 m) = m := by
 induction m using Nat.strongRecOn with
 | _ m ih =>
  rw [Ys0]
  by_cases h : m = 0
  ·
   rw [dif_pos h, h]; rfl
  ·
   rw [dif_neg h, Xr3, ih (m / 2) (by omega)]
   simp [Xhs]
   omega
end Go.Proofs.YtjgbfopmjpkkhaaGreat.A.Pure
