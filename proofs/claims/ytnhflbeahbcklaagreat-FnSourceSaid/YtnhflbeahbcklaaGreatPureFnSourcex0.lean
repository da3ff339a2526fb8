/- The pure statement of the law FnSource, part 1: over numbers, texts and lists alone, what the law computes is true. Conditions: the sizes of what a machine holds. -/
import Derived.Test.YtnhflbeahbcklaaGreatDFnSource
namespace Go.Proofs.YtnhflbeahbcklaaGreat.A.Pure
open Go Go.Proofs Go.Proofs.YtnhflbeahbcklaaGreatAL Go.RowKit
set_option linter.unusedVariables false
set_option linter.unusedSimpArgs false
set_option maxHeartbeats 1000000
noncomputable section
def Xhm (p0 : ByteArray) (v4 : (Int × (List Int))) : Option (Lp (Int × (List Int)) (List Int)) :=
 sel (decide (v4.1 < (p0.size : Int))) (
 req (0 ≤ v4.1 ∧ v4.1 < p0.size) <|
 bnd (Xi6 (Xaa .i64 ((Xno p0 v4.1))) 8) fun q8 =>
 req ((v4.2.length + (Xbb q8).length) * 1 ≤ 140737488355328 ∧ v4.2.length + (Xbb q8).length ≤ maxLen) <|
 some (.go (Xaa .i64 (v4.1 + 1), (v4.2 ++ (Xbb q8))))) (
 some (.done v4.2))
def Xhn (v7 : (List Int)) (v12 : Int) : Option (Lp Int Int) :=
 bnd (
 sel (decide (v12 > 0)) (
 req (0 ≤ (Xaa .i64 (v12 - 1)) ∧ (Xaa .i64 (v12 - 1)) < v7.length) <|
 req ((Xaa .i64 (v12 - 1)).toNat < v7.length) <|
 some ((v7.getD ((Xaa .i64 (v12 - 1)).toNat) 0) == 48)) (
 some false)) fun v16 =>
 sel v16 (
 some (.go (Xaa .i64 (v12 - 1)))) (
 some (.done v12))
def Xp6 (p0 : ByteArray) : Option (ByteArray × Bool) :=
 bnd (
 sel ((p0.size : Int) == 0) (
 some true) (
 sel (decide ((p0.size : Int) > 50001)) (
 some true) (
 req (0 ≤ (Xaa .i64 ((p0.size : Int) - 1)) ∧ (Xaa .i64 ((p0.size : Int) - 1)) < p0.size) <|
 some ((Xno p0 (Xaa .i64 ((p0.size : Int) - 1))) == 0)))) fun v1 =>
 sel v1 (
 some (⟨#[]⟩, false)) (
 bnd (loop (Xhm p0) (0, ([] : List Int))) fun v7 =>
 bnd (loop (Xhn v7) (v7.length : Int)) fun v15 =>
 sel (decide ((Xaa .i64 (v15 - 1)) > 400000)) (
 some (⟨#[]⟩, false)) (
 req (0 ≤ (0 : Int) ∧ (0 : Int) ≤ (Xaa .i64 (v15 - 1)) ∧ (Xaa .i64 (v15 - 1)) ≤ (v7.length : Int)) <|
 req ((0 : Int).toNat + ((Xaa .i64 (v15 - 1)).toNat - (0 : Int).toNat) ≤ v7.length) <|
 some ((strOfNums ((v7.drop ((0 : Int).toNat)).take ((Xaa .i64 (v15 - 1)).toNat - (0 : Int).toNat))), true)))
def Xus (p0 : ByteArray) : Option (Int × ByteArray × Bool) :=
 bnd (
 sel (decide ((p0.size : Int) < 1)) (
 some true) (
 req (0 ≤ (0 : Int) ∧ (0 : Int) < p0.size) <|
 bnd (Xl6 (Xaa .i64 ((Xno p0 (0 : Int))))) fun q2 =>
 some (!q2))) fun v1 =>
 sel v1 (
 some (0, ⟨#[]⟩, false)) (
 req (0 ≤ (1 : Int) ∧ (1 : Int) ≤ (p0.size : Int) ∧ (p0.size : Int) ≤ (p0.size : Int)) <|
 bnd (Xp6 (p0.extract (1 : Int).toNat (p0.size : Int).toNat)) fun q3 =>
 sel (!q3.2) (
 some (0, ⟨#[]⟩, false)) (
 req (0 ≤ (0 : Int) ∧ (0 : Int) < p0.size) <|
 some (Xaa .i64 ((Xno p0 (0 : Int))), q3.1, true)))
def Xm7 (p0 : ByteArray) (p1 : Int) (p2 : Int) (v2 : (Int × Int)) : Option (Lp (Int × Int) Int) :=
 sel (decide (v2.2 < (Xaa .i64 (p1 + p2)))) (
 req (0 ≤ v2.2 ∧ v2.2 < p0.size) <|
 some (.go (Xaa .i64 ((Xaa .i64 ((Xaa .i64 (2 * v2.1)) + (Xaa .i64 ((Xno p0 v2.2))))) - 48), Xaa .i64 (v2.2 + 1)))) (
 some (.done v2.1))
def Xd2 (p0 : ByteArray) (p1 : Int) (p2 : Int) : Option (Int × Int × Bool) :=
 sel (decide (p2 > (Xaa .i64 ((p0.size : Int) - p1)))) (
 some (0, 0, false)) (
 bnd (loop (Xm7 p0 p1 p2) (0, p1)) fun v4 =>
 some (v4, Xaa .i64 (p1 + p2), true))
def Xgt (p0 : ByteArray) (p1 : Int) (v3 : Int) : Option (Lp Int Int) :=
 bnd (
 sel (decide ((Xaa .i64 (p1 + v3)) < (p0.size : Int))) (
 req (0 ≤ (Xaa .i64 (p1 + v3)) ∧ (Xaa .i64 (p1 + v3)) < p0.size) <|
 sel ((Xno p0 (Xaa .i64 (p1 + v3))) == 48) (
 some (decide (v3 < 21))) (
 some false)) (
 some false)) fun v7 =>
 sel v7 (
 some (.go (Xaa .i64 (v3 + 1)))) (
 some (.done v3))
def Xh1 (p0 : ByteArray) (p1 : Int) : Option (Int × Int × Bool) :=
 bnd (loop (Xgt p0 p1) 0) fun v6 =>
 bnd (Xd2 p0 (Xaa .i64 (p1 + v6)) (Xaa .i64 (v6 + 1))) fun q9 =>
 bnd (
 sel q9.2.2 (
 req (0 ≤ (Xaa .u64 (v6))) <|
 sel (decide (q9.1 < (Xaa .i64 (1 * 2 ^ min (Xaa .u64 (v6)).toNat (IntKind.bits .i64))))) (
 some true) (
 some (decide ((Xaa .i64 (q9.1 - 1)) > 1000000)))) (
 some true)) fun v10 =>
 sel v10 (
 some (0, 0, false)) (
 some (Xaa .i64 (q9.1 - 1), q9.2.1, true))
def Xbr (p0 : ByteArray) (q1 : (Int × Int × Bool)) (v5 : (Int × Int × (List Int))) : Option (Lp (Int × Int × (List Int)) (Ou (Int × (List Int)) ((List Int) × Int × Bool))) :=
 sel (decide (v5.2.1 < q1.1)) (
 bnd (Xh1 p0 v5.1) fun q9 =>
 sel (!q9.2.2) (
 some (.done (.ret (([] : List Int), 0, false)))) (
 req ((v5.2.2.length + ([q9.1]).length) * 8 ≤ 140737488355328 ∧ v5.2.2.length + ([q9.1]).length ≤ maxLen) <|
 some (.go (q9.2.1, Xaa .i64 (v5.2.1 + 1), (v5.2.2 ++ ([q9.1])))))) (
 some (.done (.out (v5.1, v5.2.2))))
def Xhr (p0 : ByteArray) (p1 : Int) : Option ((List Int) × Int × Bool) :=
 bnd (Xh1 p0 p1) fun q1 =>
 bnd (
 sel q1.2.2 (
 some (decide (q1.1 > 4))) (
 some true)) fun v2 =>
 sel v2 (
 some (([] : List Int), 0, false)) (
 bnd (loop (Xbr p0 q1) (q1.2.1, 0, ([] : List Int))) fun o10 => match o10 with
| .out v8 => (
 some (v8.2, v8.1, true))
| .ret r => some r)
def Xi9 (p0 : ByteArray) (p1 : Int) : Option (Seq × Int × Bool) :=
 bnd (Xh1 p0 p1) fun q1 =>
 sel (!q1.2.2) (
 some ((⟨0, 0, [], []⟩ : Seq), 0, false)) (
 bnd (Xd2 p0 q1.2.1 4) fun q2 =>
 sel (!q2.2.2) (
 some ((⟨0, 0, [], []⟩ : Seq), 0, false)) (
 bnd (Xhr p0 q2.2.1) fun q3 =>
 sel (!q3.2.2) (
 some ((⟨0, 0, [], []⟩ : Seq), 0, false)) (
 bnd (Xhr p0 q3.2.1) fun q4 =>
 bnd (
 sel q4.2.2 (
 bnd (Xl0 (⟨q1.1, q2.1, q3.1, q4.1⟩ : Seq)) fun q6 =>
 some (!q6)) (
 some true)) fun v5 =>
 sel v5 (
 some ((⟨0, 0, [], []⟩ : Seq), 0, false)) (
 some ((⟨q1.1, q2.1, q3.1, q4.1⟩ : Seq), q4.2.1, true)))))
def Xi8 (p0 : ByteArray) (p1 : Int) : Option (Par × Int × Bool) :=
 bnd (Xd2 p0 p1 6) fun q1 =>
 bnd (
 sel q1.2.2 (
 some (decide ((Xaa .i64 ((p0.size : Int) - q1.2.1)) < 3))) (
 some true)) fun v2 =>
 sel v2 (
 some ((⟨0, false, false, false⟩ : Par), 0, false)) (
 req (0 ≤ q1.2.1 ∧ q1.2.1 < p0.size) <|
 req (0 ≤ (Xaa .i64 (q1.2.1 + 1)) ∧ (Xaa .i64 (q1.2.1 + 1)) < p0.size) <|
 req (0 ≤ (Xaa .i64 (q1.2.1 + 2)) ∧ (Xaa .i64 (q1.2.1 + 2)) < p0.size) <|
 bnd (Xof (⟨q1.1, ((Xno p0 q1.2.1) == 49), ((Xno p0 (Xaa .i64 (q1.2.1 + 1))) == 49), ((Xno p0 (Xaa .i64 (q1.2.1 + 2))) == 49)⟩ : Par)) fun q3 =>
 sel (!q3) (
 some ((⟨0, false, false, false⟩ : Par), 0, false)) (
 some ((⟨q1.1, ((Xno p0 q1.2.1) == 49), ((Xno p0 (Xaa .i64 (q1.2.1 + 1))) == 49), ((Xno p0 (Xaa .i64 (q1.2.1 + 2))) == 49)⟩ : Par), Xaa .i64 (q1.2.1 + 3), true)))
def Xj0 (p0 : (List Int)) (p1 : Int) (v2 : (Int × Int)) : Option (Lp (Int × Int) Int) :=
 sel (decide (v2.2 < p1)) (
 req (0 ≤ v2.2 ∧ v2.2 < p0.length) <|
 some (.go (Xaa .i64 (v2.1 + (p0.getD v2.2.toNat 0)), Xaa .i64 (v2.2 + 1)))) (
 some (.done v2.1))
def Xst (p0 : (List Int)) (p1 : Int) : Option Int :=
 bnd (loop (Xj0 p0 p1) (0, 0)) fun v4 =>
 some v4
def Xur (p0 : Seq) (p1 : Int) : Option (Zed × Bool) :=
 bnd (
 sel (decide (p1 < 0)) (
 some true) (
 bnd (Xi3 p0) fun q2 =>
 some (decide (p1 ≥ q2)))) fun v1 =>
 sel v1 (
 some ((⟨0, 0, 0, 0⟩ : Zed), false)) (
 req ((p0.Cols.length : Int) ≠ 0) <|
 req ((p0.Cols.length : Int) ≠ 0) <|
 bnd (Xst p0.Cols (p1.tmod (p0.Cols.length : Int))) fun q3 =>
 bnd (Xst p0.Rows (Xaa .i64 (p1.tdiv (p0.Cols.length : Int)))) fun q4 =>
 req (0 ≤ (p1.tmod (p0.Cols.length : Int)) ∧ (p1.tmod (p0.Cols.length : Int)) < p0.Cols.length) <|
 req (0 ≤ (Xaa .i64 (p1.tdiv (p0.Cols.length : Int))) ∧ (Xaa .i64 (p1.tdiv (p0.Cols.length : Int))) < p0.Rows.length) <|
 some ((⟨Xaa .i64 (8 * q3), Xaa .i64 (8 * q4), Xaa .i64 (8 * (p0.Cols.getD (p1.tmod (p0.Cols.length : Int)).toNat 0)), Xaa .i64 (8 * (p0.Rows.getD (Xaa .i64 (p1.tdiv (p0.Cols.length : Int))).toNat 0))⟩ : Zed), true))
def Xk4 (p0 : Seq) (p1 : Int) : Option Int :=
 bnd (Xur p0 p1) fun q1 =>
 req ((8 : Int) ≠ 0) <|
 req ((8 : Int) ≠ 0) <|
 some (Xaa .i64 ((Xaa .i64 (q1.1.Wide.tdiv 8)) * (Xaa .i64 (q1.1.High.tdiv 8))))
def Yb3 (p0 : Seq) (p1 : Int) : Option (Zed × Bool) :=
 bnd (Xik p0) fun q1 =>
 bnd (Xao p1 0 (Xaa .i64 (q1 - 1))) fun q2 =>
 sel (!q2) (
 some ((⟨0, 0, 0, 0⟩ : Zed), false)) (
 req ((p0.Cols.length : Int) ≠ 0) <|
 req ((p0.Cols.length : Int) ≠ 0) <|
 req (0 ≤ (0 : Int) ∧ (0 : Int) ≤ (p1.tmod (p0.Cols.length : Int)) ∧ (p1.tmod (p0.Cols.length : Int)) ≤ (p0.Cols.length : Int)) <|
 bnd (Xcl ((p0.Cols.drop (0 : Int).toNat).take ((p1.tmod (p0.Cols.length : Int)).toNat - (0 : Int).toNat))) fun q3 =>
 req (0 ≤ (0 : Int) ∧ (0 : Int) ≤ (Xaa .i64 (p1.tdiv (p0.Cols.length : Int))) ∧ (Xaa .i64 (p1.tdiv (p0.Cols.length : Int))) ≤ (p0.Rows.length : Int)) <|
 bnd (Xcl ((p0.Rows.drop (0 : Int).toNat).take ((Xaa .i64 (p1.tdiv (p0.Cols.length : Int))).toNat - (0 : Int).toNat))) fun q4 =>
 req (0 ≤ (p1.tmod (p0.Cols.length : Int)) ∧ (p1.tmod (p0.Cols.length : Int)) < p0.Cols.length) <|
 req (0 ≤ (Xaa .i64 (p1.tdiv (p0.Cols.length : Int))) ∧ (Xaa .i64 (p1.tdiv (p0.Cols.length : Int))) < p0.Rows.length) <|
 some ((⟨Xaa .i64 (8 * q3), Xaa .i64 (8 * q4), Xaa .i64 (8 * (p0.Cols.getD (p1.tmod (p0.Cols.length : Int)).toNat 0)), Xaa .i64 (8 * (p0.Rows.getD (Xaa .i64 (p1.tdiv (p0.Cols.length : Int))).toNat 0))⟩ : Zed), true))
end
theorem Xad {α β : Type} (a : α) (f : α → Option β) : bnd (some a) f = f a := rfl
theorem Xh6 {α β : Type} {x : Option α} {a : α} {f : α → Option β} (h : x = some a) : bnd x f = f a := by subst h; rfl
theorem Xay {β : Type} (x y : β) : sel true x y = x := rfl
theorem Xaw {β : Type} (x y : β) : sel false x y = y := rfl
theorem Xul {β : Type} (b : Bool) (x y : β) : sel (!b) x y = sel b y x := by cases b <;> rfl
theorem Xdh (b x : Bool) : sel b (some x) (some false) = some (b && x) := by cases b <;> rfl
theorem Yc2 (b x : Bool) : sel b (some true) (some x) = some (b || x) := by cases b <;> rfl
theorem Xum (b x : Bool) : sel b (some x) (some true) = some (!b || x) := by cases b <;> rfl
theorem Zad {β : Type} (b : Bool) (x y : β) : sel b (some x) (some y) = some (sel b x y) := by cases b <;> rfl
theorem Ynm {β : Type} (b : Bool) (x y : β) : sel b x y = if b = true then x else y := by cases b <;> rfl
theorem Ynl {β : Type} (p : Prop) [Decidable p] (x y : β) : sel (decide p) x y = if p then x else y := by
 by_cases h : p <;> simp [h, sel]
theorem Xbt {β : Type} {b : Bool} {x y : β} (h : b = true) : sel b x y = x := by subst h; rfl
theorem Xbh {β : Type} {b : Bool} {x y : β} (h : b = false) : sel b x y = y := by subst h; rfl
theorem Xbf {β : Type} {p : Prop} [Decidable p] {x y : β} (h : p) : sel (decide p) x y = x := by simp [h, sel]
theorem Xav {β : Type} {p : Prop} [Decidable p] {x y : β} (h : ¬ p) : sel (decide p) x y = y := by simp [h, sel]
theorem Xax {β : Type} {c : Prop} [Decidable c] {k : Option β} (h : c) : req c k = k := if_pos h
theorem wk {e : Int} (h1 : -9223372036854775808 ≤ e) (h2 : e ≤ 9223372036854775807) : Xaa .i64 e = e := by
 show wrap64 e = e
 unfold wrap64; omega
theorem rqA {β : Type} {c : Prop} [Decidable c] {k : Option β} (h : c := by omega) : req c k = k := Xax h
theorem syA {β : Type} {c : Prop} [Decidable c] {x y : β} (h : c := by omega) : sel (decide c) x y = x := Xbf h
theorem snA {β : Type} {c : Prop} [Decidable c] {x y : β} (h : ¬ c := by omega) : sel (decide c) x y = y := Xav h
theorem wkA {e : Int} (h1 : -9223372036854775808 ≤ e := by omega) (h2 : e ≤ 9223372036854775807 := by omega) : Xaa .i64 e = e := wk h1 h2
theorem w8 {e : Int} (h1 : 0 ≤ e) (h2 : e ≤ 255) : Xaa .u8 e = e := by
 show IntKind.wrap .u8 e = e
 simp [IntKind.wrap, IntKind.signed, IntKind.bits]; omega
theorem Zkd {n : Int} (h : (Lit.int .i64 n).wf = true) : -9223372036854775808 ≤ n ∧ n ≤ 9223372036854775807 := by
 simp [Lit.wf, IntKind.min, IntKind.max, IntKind.signed, IntKind.bits] at h
 omega
theorem Xb1 {a b : Int} (h : 0 ≤ a) : Int.tmod a b = a % b := Int.tmod_eq_emod_of_nonneg h
theorem Xb2 {a b : Int} (h : 0 ≤ a) : Int.tdiv a b = a / b := Int.tdiv_eq_ediv_of_nonneg h
theorem Xgb {P : Nat → Prop} (n : Nat) (h0 : P n) (hs : ∀ i, i < n → P (i + 1) → P i) : ∀ i, i ≤ n → P i := by
 intro i hi
 obtain ⟨k, rfl⟩ : ∃ k, n = i + k := ⟨n - i, by omega⟩
 clear hi
 induction k generalizing i with
 | zero => exact h0
 | succ k ih =>
  refine hs i (by omega) ?_
  exact ih (i + 1) (by rw [show i + 1 + k = i + (k + 1) by omega]; exact h0) (fun j hj => hs j (by omega))
theorem lgo {V O : Type} {f : V → Option (Lp V O)} {x y : V} {r : Option O} (h : f x = some (.go y)) (k : loop f y = r) : loop f x = r := by rw [Xde h]; exact k
theorem Xd8 {V O : Type} {f : V → Option (Lp V O)} {x : V} {o : O} (h : f x = some (.done o)) : loop f x = some o := Xch h
theorem Xr1 {V O : Type} {f : V → Option (Lp V O)} (I : V → Prop) (m : V → Nat) (Q : V → O → Prop) (h : ∀ v, I v → (∃ o, f v = some (.done o) ∧ Q v o) ∨ ∃ v', f v = some (.go v') ∧ I v' ∧ m v' < m v ∧ ∀ o, Q v' o → Q v o) : ∀ v, I v → ∃ o, loop f v = some o ∧ Q v o := by
 intro v
 generalize hn : m v = n
 induction n using Nat.strongRecOn generalizing v with
 | _ n ih =>
  intro hv
  rcases h v hv with ⟨o, h1, h2⟩ | ⟨v', h1, h2, h3, h4⟩
  ·
   exact ⟨o, Xch h1, h2⟩
  ·
   obtain ⟨o, h5, h6⟩ := ih (m v') (by omega) v' rfl h2
   exact ⟨o, by rw [Xde h1]; exact h5, h4 o h6⟩
theorem Xcd {α : Type} (l : List α) (i : Nat) (h : i < l.length) (d : α) : l.getD i d = l[i] := by
 simp [List.getD_eq_getElem?_getD, List.getElem?_eq_getElem h]
theorem Xaq (a b c : Int) : Xao a b c = some (decide (b ≤ a ∧ a ≤ c)) := by
 unfold Xao
 by_cases h : b ≤ a <;> simp [bnd, sel, h]
theorem Xaj (a b c : Int) : Xas a b c = some (decide (b ≤ a ∧ a ≤ c)) := by
 unfold Xas
 by_cases h : b ≤ a <;> simp [bnd, sel, h]
theorem Yys {α : Type} (a : List α) (x y : α) (b : List α) : (a ++ x :: b).set a.length y = a ++ y :: b := by
 induction a with
 | nil => rfl
 | cons z a ih => simp only [List.cons_append, List.length_cons, List.set_cons_succ, ih]
theorem Xku {α : Type} (a : List α) (x d : α) (b : List α) : (a ++ x :: b).getD a.length d = x := by
 induction a with
 | nil => rfl
 | cons z a ih => simp
theorem Xtl {f : Int → Option (Lp Int (Ou Unit Bool))} (n : Nat) (h : ∀ i : Nat, i < n → f i = some (.go ((i + 1 : Nat) : Int))) (h0 : f n = some (.done (.out ()))) : loop f 0 = some (.out ()) :=
 Xgb (P := fun i => loop f (i : Int) = some (.out ())) n (Xch h0) (fun i hi ih => by rw [Xde (h i hi)]; exact ih) 0 (by omega)
theorem Yk7 (y : Int) : 0 ≤ IntKind.wrap .i64 (BitVec.ofInt (IntKind.bits .i64) y &&& BitVec.ofInt (IntKind.bits .i64) 255).toNat ∧ IntKind.wrap .i64 (BitVec.ofInt (IntKind.bits .i64) y &&& BitVec.ofInt (IntKind.bits .i64) 255).toNat ≤ 255 := by
 have h : (BitVec.ofInt (IntKind.bits .i64) y &&& BitVec.ofInt (IntKind.bits .i64) 255).toNat ≤ 255 := by
  rw [BitVec.toNat_and]
  exact Nat.le_trans Nat.and_le_right (by decide)
 generalize (BitVec.ofInt (IntKind.bits .i64) y &&& BitVec.ofInt (IntKind.bits .i64) 255).toNat = n at h ⊢
 rw [← Xr7, wkA]
 omega
def Xqf (c : Xbs) : Prop := c.b_.length ≤ 1048576 ∧ 0 ≤ c.i_
theorem Yrq (b : List Int) (hb : b.length ≤ 1048576) : ∃ c, Xq9 b = some c ∧ Xqf c := by
 unfold Xq9
 obtain ⟨o, h, _⟩ := Xr1 (f := Xou b) (fun v => 0 ≤ v.2) (fun v => b.length - v.2.toNat) (fun _ _ => True) (by
  intro ⟨h, i⟩ hi
  unfold Xou
  simp only [Xdh, Xad] at hi ⊢
  by_cases h1 : i < b.length ∧ i < 4000
  ·
   rw [Xbt (by simp; exact h1), Xax ⟨hi, h1.1⟩]
   refine .inr ⟨_, rfl, ?_, ?_, fun _ _ => trivial⟩
   ·
    simp only; rw [wkA]; omega
   ·
    simp only; rw [wkA]; omega
  ·
   rw [Xbh (by simp; omega)]
   exact .inl ⟨_, rfl, trivial⟩) (Xaa .i64 (94701 + (b.length : Int)), 0) (by simp)
 rw [h]
 exact ⟨_, rfl, hb, by simp⟩
theorem Xe6 (c : Xbs) (hc : Xqf c) : ∃ x c', Xco c = some (x, c') ∧ 0 ≤ x ∧ x ≤ 255 ∧ Xqf c' := by
 unfold Xco
 rw [Xax (by decide), Xax (by decide)]
 obtain ⟨h1, h2⟩ := hc
 by_cases h : c.i_ < c.b_.length
 ·
  rw [Xbf h, Xax ⟨h2, h⟩, Xad]
  refine ⟨_, _, rfl, (Yk7 _).1, (Yk7 _).2, h1, ?_⟩
  simp only; rw [wkA]; omega
 ·
  rw [Xav h, Xad]
  exact ⟨_, _, rfl, (Yk7 _).1, (Yk7 _).2, h1, h2⟩
theorem Xa7 (c : Xbs) (n : Int) (hc : Xqf c) : ∃ x c', Xa9 c n = some (x, c') ∧ 0 ≤ x ∧ (0 < n → x < n) ∧ (n ≤ 0 → x = 0) ∧ Xqf c' := by
 unfold Xa9
 by_cases h0 : n ≤ 0
 ·
  rw [Xbf h0]; exact ⟨_, _, rfl, by omega, fun h => by omega, fun _ => rfl, hc⟩
 ·
  rw [Xav h0]
  obtain ⟨x, c1, e1, a1, b1, hc1⟩ := Xe6 c hc
  by_cases h1 : n ≤ 256
  ·
   rw [Xbf h1, e1, Xad, rqA]
   refine ⟨_, _, rfl, ?_, fun _ => ?_, fun h => by omega, hc1⟩
   ·
    simp only; rw [Xb1 a1]; exact Int.emod_nonneg _ (by omega)
   ·
    simp only; rw [Xb1 a1]; exact Int.emod_lt_of_pos _ (by omega)
  ·
   obtain ⟨y, c2, e2, a2, b2, hc2⟩ := Xe6 c1 hc1
   obtain ⟨z, c3, e3, a3, b3, hc3⟩ := Xe6 c2 hc2
   obtain ⟨u, c4, e4, a4, b4, hc4⟩ := Xe6 c3 hc3
   rw [Xav h1, e1, Xad]
   simp only
   rw [e2, Xad]
   simp only
   rw [e3, Xad]
   simp only
   rw [e4, Xad, rqA]
   simp only
   rw [wkA (e := x * 16777216), wkA (e := y * 65536), wkA (e := z * 256), wkA (e := x * 16777216 + y * 65536), wkA (e := x * 16777216 + y * 65536 + z * 256), wkA, Xb1 (by omega)]
   exact ⟨_, _, rfl, Int.emod_nonneg _ (by omega), fun _ => Int.emod_lt_of_pos _ (by omega), fun h => by omega, hc4⟩
theorem Xm5 (c : Xbs) (n : Int) (hc : Xqf c) : ∃ x c', Xgy c n = some (x, c') ∧ Xqf c' := by
 unfold Xgy
 obtain ⟨x, c', e, _, _, _, h⟩ := Xa7 c n hc
 rw [e, Xad]; exact ⟨_, _, rfl, h⟩
theorem Yyh (l : List Int) : Ykr l = some (decide ((l.length : Int) > 1048576)) := rfl
def Xbl (n a b : Int) : Int := if b < a ∨ n < a then a else if n > b then b else n
theorem Xid (n a b : Int) : Xc0 n a b = some (Xbl n a b) := by
 unfold Xc0 Xbl
 congr 1
 repeat' split
 all_goals omega
def Xj4 (r : Rate) : Bool := decide (0 ≤ r.Qp ∧ r.Qp ≤ 40 ∧ 1 ≤ r.Target ∧ r.Target ≤ 100000 ∧ -8 * r.Target ≤ r.Debt ∧ r.Debt ≤ 8 * r.Target)
theorem Xly (r : Rate) : Xj4 r = true ↔ 0 ≤ r.Qp ∧ r.Qp ≤ 40 ∧ 1 ≤ r.Target ∧ r.Target ≤ 100000 ∧ -8 * r.Target ≤ r.Debt ∧ r.Debt ≤ 8 * r.Target := by simp [Xj4]
theorem Xr9 (r : Rate) : Xk9 r = some (Xj4 r) := by
 unfold Xk9 Xj4
 simp only [Xaq, Xad]
 by_cases h1 : 0 ≤ r.Qp ∧ r.Qp ≤ 40
 ·
  rw [Xbf h1]
  by_cases h2 : 1 ≤ r.Target ∧ r.Target ≤ 100000
  ·
   rw [Xbf h2, wkA, wkA, Xad]
   simp only [h1.1, h1.2, h2.1, h2.2, true_and]
  ·
   rw [Xav h2, Xad]; congr 1; symm; rw [decide_eq_false_iff_not]; exact fun h => h2 ⟨h.2.2.1, h.2.2.2.1⟩
 ·
  rw [Xav h1, Xad]; congr 1; symm; rw [decide_eq_false_iff_not]; exact fun h => h1 ⟨h.1, h.2.1⟩
def Xeg (r : Rate) (n : Int) : Int := Xbl (r.Debt + Xbl n 0 400000 - r.Target) (-8 * r.Target) (8 * r.Target)
def Xuj (r : Rate) (n : Int) : Rate :=
 if Xj4 r = true then ⟨Xbl (if Xeg r n > r.Target then r.Qp + 1 else if Xeg r n < -r.Target then r.Qp - 1 else r.Qp) 0 40, r.Target, Xeg r n⟩ else r
theorem Xeq {n a b : Int} (h : a ≤ b) : a ≤ Xbl n a b ∧ Xbl n a b ≤ b := by
 unfold Xbl
 repeat' split
 all_goals omega
theorem Yht (r : Rate) (n : Int) : Xmg r n = some (Xuj r n) := by
 unfold Xmg Xuj
 rw [Xr9, Xad]
 by_cases h : Xj4 r = true
 ·
  rw [if_pos h, Xbh (by rw [h]; rfl)]
  have h' := (Xly r).1 h
  have hb := Xeq (n := n) (a := 0) (b := 400000) (by omega)
  simp only [Xid, Xad]
  rw [wkA (e := r.Debt + Xbl n 0 400000), wkA (e := r.Debt + Xbl n 0 400000 - r.Target), wkA (e := -8 * r.Target), wkA (e := 8 * r.Target)]
  have hd := Xeq (n := r.Debt + Xbl n 0 400000 - r.Target) (a := -8 * r.Target) (b := 8 * r.Target) (by omega)
  have ed : Xbl (r.Debt + Xbl n 0 400000 - r.Target) (-8 * r.Target) (8 * r.Target) = Xeg r n := rfl
  rw [ed]
  have hd' : -8 * r.Target ≤ Xeg r n ∧ Xeg r n ≤ 8 * r.Target := hd
  rw [wkA (e := r.Qp + 1), wkA (e := r.Qp - 1), wkA (e := 0 - r.Target)]
  simp only [Ynl]
  by_cases h1 : Xeg r n > r.Target
  ·
   rw [if_pos h1, if_pos h1, Xad]
  ·
   rw [if_neg h1, if_neg h1]
   by_cases h2 : Xeg r n < -r.Target
   ·
    rw [if_pos h2, if_pos (show Xeg r n < 0 - r.Target by omega), Xad]
   ·
    rw [if_neg h2, if_neg (show ¬ Xeg r n < 0 - r.Target by omega), Xad]
 ·
  rw [if_neg h, Xbt (by simpa using h)]
theorem Yyq (r : Rate) (n : Int) (h : Xj4 r = true) : Xj4 (Xuj r n) = true := by
 unfold Xuj
 rw [if_pos h]
 have h' := (Xly r).1 h
 rw [Xly]
 have hd : -8 * r.Target ≤ Xeg r n ∧ Xeg r n ≤ 8 * r.Target := Xeq (by omega)
 have hq := Xeq (n := (if Xeg r n > r.Target then r.Qp + 1 else if Xeg r n < -r.Target then r.Qp - 1 else r.Qp)) (a := 0) (b := 40) (by omega)
 simp only
 omega
def Yai (r : Rate) (key : Bool) : Int := if Xj4 r = true then (if key = true then Xbl (r.Qp - 2) 0 40 else r.Qp) else 0
theorem Ytr (r : Rate) (key : Bool) : Xs1 r key = some (Yai r key) := by
 unfold Xs1 Yai
 rw [Xr9, Xad, Xul]
 by_cases h : Xj4 r = true
 ·
  rw [if_pos h, Xbt h]
  have h' := (Xly r).1 h
  rw [wkA]
  cases key
  ·
   rfl
  ·
   rw [Xay, if_pos rfl]; congr 1; unfold Xbl; repeat' split
   all_goals omega
 ·
  rw [if_neg h, Xbh (by simpa using h)]
theorem Ykk (c : Xbs) (hc : Xqf c) : ∃ r c', Xnm c = some (r, c') ∧ Xj4 r = true ∧ Xqf c' := by
 unfold Xnm
 obtain ⟨x, c1, e1, a1, b1, _, h1⟩ := Xa7 c 2000 hc
 rw [e1, Xad]
 obtain ⟨y, c2, e2, a2, b2, _, h2⟩ := Xa7 c1 41 h1
 simp only
 rw [e2, Xad]
 have b1' := b1 (by omega)
 have b2' := b2 (by omega)
 rw [wkA (e := 1 + x), wkA (e := 16 * (1 + x)), wkA (e := 16 * (1 + x) + 1)]
 obtain ⟨z, c3, e3, a3, b3, _, h3⟩ := Xa7 c2 (16 * (1 + x) + 1) h2
 have b3' := b3 (by omega)
 simp only
 rw [e3, Xad, wkA (e := 8 * (1 + x)), wkA]
 refine ⟨_, _, rfl, ?_, h3⟩
 rw [Xly]
 simp only
 omega
def cnt (n : Int) : Bool := decide (0 ≤ n ∧ n ≤ 1000000000)
theorem Xdv (n a b : Int) : Xcm n a b = some (Xbl n a b) := by
 unfold Xcm Xbl
 rw [Yc2, Xad]
 by_cases h : b < a ∨ n < a
 ·
  rw [if_pos h, Xbt (by simpa using h)]
 ·
  rw [if_neg h, Xbh (by simp; omega), Ynl]; split <;> rfl
theorem Zgv {α : Type} (l : List α) (k : Nat) : (l.drop k).take (l.length - k) = l.drop k := List.take_of_length_le (by rw [List.length_drop]; omega)
def Xek (n : Int) : Bool := decide (1 ≤ n ∧ n ≤ 8)
def Xqw : List Int → Int
 | [] => 0
 | x :: r => x + Xqw r
def Xd9 (l : List Int) : Bool := decide (1 ≤ l.length ∧ l.length ≤ 4) && l.all Xek
def Ygm (l : List Int) : Int := if Xd9 l = true then Xqw l else 0
theorem Xug : ∀ {l : List Int}, l.all Xek = true → (l.length : Int) ≤ Xqw l ∧ Xqw l ≤ 8 * l.length
 | [], _ => by simp [Xqw]
 | x :: r, h => by
  rw [List.all_cons, Bool.and_eq_true] at h
  have := Xug h.2
  have hx := h.1
  unfold Xek at hx
  simp only [decide_eq_true_eq] at hx
  rw [Xqw, List.length_cons]
  omega
theorem Yg9 (l : List Int) : 0 ≤ Ygm l ∧ Ygm l ≤ 32 := by
 unfold Ygm
 split
 ·
  rename_i h
  unfold Xd9 at h
  rw [Bool.and_eq_true, decide_eq_true_eq] at h
  have := Xug h.2
  omega
 ·
  omega
theorem Xox (l : List Int) : Xja l = some (Ygm l) := by
 unfold Xja Ygm Xd9
 rw [Yc2, Xad]
 by_cases h : 1 ≤ l.length ∧ l.length ≤ 4
 ·
  rw [Xbh (by simp; omega), decide_eq_true h, Bool.true_and]
  have key : ∀ (r a : List Int) (t : Int), l = a ++ r → 0 ≤ t → t ≤ 8 * a.length → loop (Xh2 l) (t, (a.length : Int)) = some (if r.all Xek = true then .out (t + Xqw r) else .ret 0) := by
   intro r
   induction r with
   | nil =>
    intro a t ha h0 h1
    rw [List.append_nil] at ha
    refine Xd8 ?_
    unfold Xh2
    simp only
    rw [Xav (by rw [ha]; omega)]
    simp [Xqw]
   | cons x r ih =>
    intro a t ha h0 h1
    have hlen : a.length < l.length := by rw [ha]; simp
    have hx : l.getD a.length 0 = x := by rw [ha]; exact Xku a x _ r
    have hstep : Xh2 l (t, (a.length : Int)) = sel (Xek x) (some (.go (Xaa .i64 (t + x), ((a.length + 1 : Nat) : Int)))) (some (.done (.ret 0))) := by
     unfold Xh2
     simp only [Int.toNat_natCast, hx]
     rw [syA, rqA, Xaj, Xad, Xul, rqA, wkA (e := (a.length : Int) + 1)]
     rfl
    cases e : Xek x with
    | true =>
     rw [e] at hstep
     have hx2 := e
     unfold Xek at hx2
     simp only [decide_eq_true_eq] at hx2
     rw [wkA, Xay] at hstep
     have := ih (a ++ [x]) (t + x) (by rw [ha]; simp) (by omega) (by simp; omega)
     rw [List.length_append, List.length_singleton] at this
     rw [Xde hstep, this, List.all_cons, e, Bool.true_and, Xqw, Int.add_assoc]
    | false =>
     rw [e, Xaw] at hstep
     rw [Xch hstep, List.all_cons, e, Bool.false_and]; rfl
  have := key l [] 0 rfl (by omega) (by simp)
  simp only [List.length_nil, Int.zero_add] at this
  rw [show (((0 : Int), (0 : Int))) = (0, ((0 : Nat) : Int)) from rfl, this, Xad]
  cases l.all Xek <;> rfl
 ·
  rw [Xbt (by simp; omega), decide_eq_false h, Bool.false_and]; rfl
theorem Xp3 (l : List Int) (h : Xd9 l = true) : Xcl l = some (Xqw l) := by
 unfold Xd9 at h
 rw [Bool.and_eq_true, decide_eq_true_eq] at h
 unfold Xcl
 have key : ∀ (r a : List Int) (t : Int), l = a ++ r → 0 ≤ t → t ≤ 8 * a.length → loop (Xee l) (t, (a.length : Int)) = some (t + Xqw r) := by
  intro r
  induction r with
  | nil =>
   intro a t ha h0 h1
   rw [List.append_nil] at ha
   refine Xd8 ?_
   unfold Xee
   simp only
   rw [Xav (by rw [ha]; omega)]
   simp [Xqw]
  | cons x r ih =>
   intro a t ha h0 h1
   have hlen : a.length < l.length := by rw [ha]; simp
   have hx : l.getD a.length 0 = x := by rw [ha]; exact Xku a x _ r
   have e : Xek x = true := List.all_eq_true.1 h.2 x (by rw [ha]; simp)
   unfold Xek at e
   simp only [decide_eq_true_eq] at e
   have := ih (a ++ [x]) (t + x) (by rw [ha]; simp) (by omega) (by simp; omega)
   rw [List.length_append, List.length_singleton] at this
   rw [Xqw, ← Int.add_assoc, ← this]
   refine Xde ?_
   unfold Xee
   simp only [Int.toNat_natCast, hx]
   rw [syA, rqA, wkA (e := (a.length : Int) + 1), wkA]
   rfl
 have := key l [] 0 rfl (by omega) (by simp)
 simp only [List.length_nil, Int.zero_add] at this
 rw [show (((0 : Int), (0 : Int))) = (0, ((0 : Nat) : Int)) from rfl, this, Xad]
def Xrh (s : Seq) : Int := Ygm s.Cols * Ygm s.Rows
theorem Xzl (s : Seq) : 0 ≤ Xrh s ∧ Xrh s ≤ 1024 := by
 unfold Xrh
 have h1 := Yg9 s.Cols
 have h2 := Yg9 s.Rows
 refine ⟨Int.mul_nonneg h1.1 h2.1, ?_⟩
 calc Ygm s.Cols * Ygm s.Rows ≤ 32 * Ygm s.Rows := Int.mul_le_mul_of_nonneg_right h1.2 h2.1
  _ ≤ 1024 := by omega
theorem Yf8 (s : Seq) : Xko s = some (Xrh s) := by
 have h := Xzl s
 unfold Xko
 rw [Xox, Xad, Xox, Xad, wk (by show _ ≤ Xrh s; omega) (by show Xrh s ≤ _; omega)]
 rfl
theorem Zbs (s : Seq) (n : Nat) (hn : n = 0 ∨ n = 1) (l : List Int) (hl : ([s.Cols, s.Rows]).getD n Xg3 = l) (h4 : l.length ≤ 4) : loop (Xct s (n : Int)) 0 = some (if l.all Xek = true then .out () else .ret 0) := by
 have key : ∀ (r a : List Int), l = a ++ r → loop (Xct s (n : Int)) (a.length : Int) = some (if r.all Xek = true then .out () else .ret 0) := by
  intro r
  induction r with
  | nil =>
   intro a ha
   rw [List.append_nil] at ha
   refine Xd8 ?_
   unfold Xct
   rw [Int.toNat_natCast, hl, Xav (by rw [ha]; omega)]; rfl
  | cons x r ih =>
   intro a ha
   have hlen : a.length < l.length := by rw [ha]; simp
   have hx : l.getD a.length 0 = x := by rw [ha]; exact Xku a x _ r
   have hstep : Xct s (n : Int) (a.length : Int) = sel (Xek x) (some (.go ((a.length + 1 : Nat) : Int))) (some (.done (.ret 0))) := by
    unfold Xct
    simp only [Int.toNat_natCast, hl, hx]
    rw [syA, rqA, Xaq, Xad, Xul, wkA]
    rfl
   cases e : Xek x with
   | true =>
    rw [e, Xay] at hstep
    have := ih (a ++ [x]) (by rw [ha]; simp)
    rw [List.length_append, List.length_singleton] at this
    rw [Xde hstep, this, List.all_cons, e, Bool.true_and]
   | false => rw [e, Xaw] at hstep; rw [Xch hstep, List.all_cons, e, Bool.false_and]; rfl
 exact key l [] rfl
theorem Ye5 (s : Seq) (h1 : s.Cols.length ≤ maxLen) (h2 : s.Rows.length ≤ maxLen) : Xkh s = some (Xrh s) := by
 have h := Xzl s
 unfold Xkh
 have step : ∀ (n : Nat) (l : List Int), n = 0 ∨ n = 1 → ([s.Cols, s.Rows]).getD n Xg3 = l → Xd7 s (n : Int) = sel (Xd9 l) (some (.go ((n + 1 : Nat) : Int))) (some (.done (.ret 0))) := by
  intro n l hn hl
  unfold Xd7 Xd9
  rw [Int.toNat_natCast, hl]
  simp only [List.length_cons, List.length_nil]
  rw [syA, rqA, rqA, Xaq, Xad, Xul]
  by_cases h4 : 1 ≤ l.length ∧ l.length ≤ 4
  ·
   rw [syA, Zbs s n hn l hl h4.2, Xad, decide_eq_true h4, Bool.true_and, wkA]
   cases l.all Xek <;> rfl
  ·
   rw [snA, decide_eq_false h4, Bool.false_and, Xaw]
 have s0 := step 0 s.Cols (.inl rfl) rfl
 have s1 := step 1 s.Rows (.inr rfl) rfl
 have s2 : Xd7 s ((2 : Nat) : Int) = some (.done (.out ())) := by unfold Xd7; rw [Xav (by simp)]
 rw [show (0 : Int) = ((0 : Nat) : Int) from rfl]
 unfold Xrh at h ⊢
 unfold Ygm at h ⊢
 cases e0 : Xd9 s.Cols with
 | false => rw [e0, Xaw] at s0; rw [Xch s0, Xad]; simp
 | true =>
  rw [e0, Xay] at s0
  rw [Xde s0]
  cases e1 : Xd9 s.Rows with
  | false => rw [e1, Xaw] at s1; rw [Xch s1, Xad]; simp
  | true =>
   rw [e1, Xay] at s1
   rw [Xde s1, Xch s2, Xad]
   simp only
   rw [e0, e1, if_pos rfl, if_pos rfl] at h
   rw [Xp3 _ e0, Xad, Xp3 _ e1, Xad, wkA]
   simp
def Xlx (n : Int) : Int := if n = 1 then 16 else if n = 2 then 64 else if n = 3 then 256 else 0
theorem Xyb (n : Int) : Xgq n = some (Xlx n) := by
 unfold Xgq Xlx
 simp only [Ynm, beq_iff_eq]
 repeat' split
 all_goals rfl
theorem Xx5 (n : Int) : Xge n = some (Xlx n) := by
 unfold Xge Xlx
 rw [Xaq, Xad, Xul]
 by_cases h : 1 ≤ n ∧ n ≤ 3
 ·
  rw [Xbf h, wkA, Xax (by simp only [List.length_cons, List.length_nil]; omega), Xax (by simp only [List.length_cons, List.length_nil]; omega)]
  rcases (show n = 1 ∨ n = 2 ∨ n = 3 by omega) with rfl | rfl | rfl <;> rfl
 ·
  rw [Xav h, if_neg (by omega), if_neg (by omega), if_neg (by omega)]
def Xgo (s : Seq) : Bool := decide (1 ≤ Xrh s ∧ Xrh s ≤ Xlx s.Level) && decide (3 ≤ s.Bits ∧ s.Bits ≤ 8)
theorem Xp7 (s : Seq) : Xl0 s = some (Xgo s) := by
 unfold Xl0 Xgo
 simp only [Yf8, Xyb, Xaj, Xad, Xdh]
theorem Xjm (s : Seq) (h1 : s.Cols.length ≤ maxLen) (h2 : s.Rows.length ≤ maxLen) : Xjl s = some (Xgo s) := by
 unfold Xjl Xgo
 simp only [Ye5 s h1 h2, Xx5, Xaq, Xad, Xdh]
theorem Xbi {s : Seq} (h : Xgo s = true) : Xd9 s.Cols = true ∧ Xd9 s.Rows = true ∧ 3 ≤ s.Bits ∧ s.Bits ≤ 8 := by
 unfold Xgo at h
 rw [Bool.and_eq_true, decide_eq_true_eq, decide_eq_true_eq] at h
 obtain ⟨⟨h1, _⟩, h3⟩ := h
 unfold Xrh Ygm at h1
 refine ⟨?_, ?_, h3⟩
 ·
  refine Classical.byContradiction fun e => ?_
  rw [if_neg e, Int.zero_mul] at h1; omega
 ·
  refine Classical.byContradiction fun e => ?_
  rw [if_neg e, Int.mul_zero] at h1; omega
def Xxt (c r : List Int) : Int := if Xgo ⟨1, 3, c, r⟩ = true then 1 else if Xgo ⟨2, 3, c, r⟩ = true then 2 else if Xgo ⟨3, 3, c, r⟩ = true then 3 else 0
theorem Zbc (c r : List Int) (f : Int → Option (Lp Int (Ou Unit Int))) (h : ∀ n : Int, n ≤ 3 → 1 ≤ n → f n = sel (Xgo ⟨n, 3, c, r⟩) (some (.done (.ret n))) (some (.go (n + 1)))) (h4 : f 4 = some (.done (.out ()))) :
  (bnd (loop f 1) fun o => match o with | .out _ => some 0 | .ret r => some r) = some (Xxt c r) := by
 have h1 := h 1 (by omega) (by omega)
 have h2 := h 2 (by omega) (by omega)
 have h3 := h 3 (by omega) (by omega)
 unfold Xxt
 cases e1 : Xgo ⟨1, 3, c, r⟩ with
 | true => rw [e1, Xay] at h1; rw [Xch h1]; rfl
 | false =>
  rw [e1, Xaw] at h1
  rw [Xde h1]
  cases e2 : Xgo ⟨2, 3, c, r⟩ with
  | true => rw [e2, Xay] at h2; rw [show (1 : Int) + 1 = 2 from rfl, Xch h2]; rfl
  | false =>
   rw [e2, Xaw] at h2
   rw [show (1 : Int) + 1 = 2 from rfl, Xde h2]
   cases e3 : Xgo ⟨3, 3, c, r⟩ with
   | true => rw [e3, Xay] at h3; rw [show (2 : Int) + 1 = 3 from rfl, Xch h3]; rfl
   | false =>
    rw [e3, Xaw] at h3
    rw [show (2 : Int) + 1 = 3 from rfl, Xde h3, show (3 : Int) + 1 = 4 from rfl, Xch h4]; rfl
theorem Yi0 (c r : List Int) : Xm0 c r = some (Xxt c r) := by
 unfold Xm0
 refine Zbc c r _ (fun n h1 h2 => ?_) ?_
 ·
  unfold Xk1
  rw [Xbf h1, Xp7, Xad, wkA]
 ·
  unfold Xk1; rw [snA]
def Xcc (s : Seq) : Int := if Xgo s = true then (s.Cols.length : Int) * s.Rows.length else 0
theorem Xbo {l : List Int} (h : Xd9 l = true) : 1 ≤ l.length ∧ l.length ≤ 4 := by
 unfold Xd9 at h; rw [Bool.and_eq_true, decide_eq_true_eq] at h; exact h.1
theorem Ypg {s : Seq} (h : Xgo s = true) : 1 ≤ (s.Cols.length : Int) * s.Rows.length ∧ (s.Cols.length : Int) * s.Rows.length ≤ 16 := by
 obtain ⟨h1, h2, _⟩ := Xbi h
 have a := Xbo h1
 have b := Xbo h2
 have e : ∀ x y : Nat, 1 ≤ x → x ≤ 4 → 1 ≤ y → y ≤ 4 → 1 ≤ x * y ∧ x * y ≤ 16 := by
  intro x y h1 h2 h3 h4
  rcases (show x = 1 ∨ x = 2 ∨ x = 3 ∨ x = 4 by omega) with rfl | rfl | rfl | rfl <;> omega
 have := e _ _ a.1 a.2 b.1 b.2
 rw [← Int.natCast_mul]; omega
theorem Xq8 (s : Seq) : Xi3 s = some (Xcc s) := by
 unfold Xi3 Xcc
 rw [Xp7, Xad, Xul]
 cases h : Xgo s with
 | false => rfl
 | true => have := Ypg h; rw [Xay, wkA, if_pos rfl]
theorem Xqo (s : Seq) (h1 : s.Cols.length ≤ maxLen) (h2 : s.Rows.length ≤ maxLen) : Xik s = some (Xcc s) := by
 unfold Xik Xcc
 rw [Xjm s h1 h2, Xad, Xul]
 cases h : Xgo s with
 | false => rfl
 | true => have := Ypg h; rw [Xay, wkA, if_pos rfl]
def Xld (s : Seq) : Int × Int := if Xgo s = true then (8 * Xqw s.Cols, 8 * Xqw s.Rows) else (0, 0)
theorem Yfd {l : List Int} (h : Xd9 l = true) : 1 ≤ Xqw l ∧ Xqw l ≤ 32 := by
 unfold Xd9 at h
 rw [Bool.and_eq_true, decide_eq_true_eq] at h
 have := Xug h.2
 omega
theorem Xsp (s : Seq) : Xlg s = some (Xld s) := by
 unfold Xlg Xld
 rw [Xp7, Xad, Xul]
 cases h : Xgo s with
 | false => rfl
 | true =>
  obtain ⟨h1, h2, _⟩ := Xbi h
  have a := Yfd h1
  have b := Yfd h2
  rw [Xay, Xox, Xad, Xox, Xad, if_pos rfl]
  unfold Ygm
  rw [if_pos h1, if_pos h2, wkA, wkA]
theorem Yqg (s : Seq) (h1 : s.Cols.length ≤ maxLen) (h2 : s.Rows.length ≤ maxLen) : Xqn s = some (Xld s) := by
 unfold Xqn Xld
 rw [Xjm s h1 h2, Xad, Xul]
 cases h : Xgo s with
 | false => rfl
 | true =>
  obtain ⟨h1, h2, _⟩ := Xbi h
  have a := Yfd h1
  have b := Yfd h2
  rw [Xay, Xp3 _ h1, Xad, Xp3 _ h2, Xad, if_pos rfl, wkA, wkA]
def Xnp (p : Par) : Bool := decide (0 ≤ p.Qp ∧ p.Qp ≤ 40) && !(p.Large && p.Exact)
theorem Xup (p : Par) : Xof p = some (Xnp p) := by
 unfold Xof Xnp
 rw [Xaj, Xad, Xum, Xdh, Xad]
 cases p.Large <;> cases p.Exact <;> rfl
theorem Xme (p : Par) : Xln p = some (Xnp p) := by
 unfold Xln Xnp
 rw [Xaq, Xad, Xum, Xdh, Xad]
 cases p.Large <;> cases p.Exact <;> rfl
def Xdg (p : Pic) : Bool := decide (1 ≤ p.Wide ∧ p.Wide ≤ 256) && (decide (1 ≤ p.High ∧ p.High ≤ 256) && ((p.Dots.size : Int) == p.Wide * p.High))
theorem Xga {w h : Int} (h1 : 1 ≤ w ∧ w ≤ 256) (h2 : 1 ≤ h ∧ h ≤ 256) : 1 ≤ w * h ∧ w * h ≤ 65536 := by
 have a : w * 1 ≤ w * h := Int.mul_le_mul_of_nonneg_left h2.1 (by omega)
 have b : w * h ≤ 256 * h := Int.mul_le_mul_of_nonneg_right h1.2 (by omega)
 omega
theorem Xei (p : Pic) : Xes p = some (Xdg p) := by
 unfold Xes Xdg
 simp only [Xaj, Xad, Xdh]
 by_cases h1 : 1 ≤ p.Wide ∧ p.Wide ≤ 256
 ·
  by_cases h2 : 1 ≤ p.High ∧ p.High ≤ 256
  ·
   have := Xga h1 h2
   rw [wkA]
  ·
   rw [decide_eq_false h2, Bool.false_and, Bool.false_and]
 ·
  rw [decide_eq_false h1, Bool.false_and, Bool.false_and]
theorem Xdl (p : Pic) : Xda p = some (Xdg p) := by
 unfold Xda Xdg
 simp only [Xaq, Xad, Xdh]
 by_cases h1 : 1 ≤ p.Wide ∧ p.Wide ≤ 256
 ·
  by_cases h2 : 1 ≤ p.High ∧ p.High ≤ 256
  ·
   have := Xga h1 h2
   rw [wkA]
  ·
   rw [decide_eq_false h2, Bool.false_and, Bool.false_and]
 ·
  rw [decide_eq_false h1, Bool.false_and, Bool.false_and]
def Xvw (p : Pic) (s : Seq) : Bool := Xdg p && ((p.Wide == (Xld s).1) && (p.High == (Xld s).2))
theorem Ygv (p : Pic) (s : Seq) (h1 : s.Cols.length ≤ maxLen) (h2 : s.Rows.length ≤ maxLen) : Xs3 p s = some (Xvw p s) := by
 unfold Xs3 Xvw
 simp only [Yqg s h1 h2, Xdl, Xad, Xdh]
theorem Xsn (r : Rate) : Xlf r = some (Xj4 r) := by
 unfold Xlf Xj4
 simp only [Xaj, Xad]
 by_cases h1 : 0 ≤ r.Qp ∧ r.Qp ≤ 40
 ·
  rw [Xbf h1]
  by_cases h2 : 1 ≤ r.Target ∧ r.Target ≤ 100000
  ·
   rw [Xbf h2, wkA, wkA, Xad]
   simp only [h1.1, h1.2, h2.1, h2.2, true_and]
  ·
   rw [Xav h2, Xad]; congr 1; symm; rw [decide_eq_false_iff_not]; exact fun h => h2 ⟨h.2.2.1, h.2.2.2.1⟩
 ·
  rw [Xav h1, Xad]; congr 1; symm; rw [decide_eq_false_iff_not]; exact fun h => h1 ⟨h.1, h.2.1⟩
def Xbz (s : Xbc) : Bool :=
 decide (Xcc s.Seq = 1) && Xnp s.Par && Xj4 s.Rate && decide (0 ≤ s.Frame ∧ s.Frame < 2 ^ s.Seq.Bits.toNat) && decide ((1 ≤ s.Every ∧ s.Every ≤ 1000) ∧ (0 ≤ s.Since ∧ s.Since ≤ 1000) ∧ (0 ≤ s.Reach ∧ s.Reach ≤ 4)) &&
 (if s.Has = true then Xvw s.Ref s.Seq else decide (s.Ref.Wide = 0 ∧ s.Ref.High = 0 ∧ s.Ref.Dots.size = 0))
theorem Yza {b : Int} (h : 3 ≤ b ∧ b ≤ 8) : (2 : Int) ^ min b.toNat (IntKind.bits .i64) = 2 ^ b.toNat ∧ (8 : Int) ≤ 2 ^ b.toNat ∧ (2 : Int) ^ b.toNat ≤ 256 := by
 rcases (show b = 3 ∨ b = 4 ∨ b = 5 ∨ b = 6 ∨ b = 7 ∨ b = 8 by omega) with rfl | rfl | rfl | rfl | rfl | rfl <;> decide
theorem Xxj {s : Seq} (h : Xcc s = 1) : Xgo s = true := by
 unfold Xcc at h
 refine Classical.byContradiction fun e => ?_
 rw [if_neg e] at h; cases h
theorem Zdq (b : ByteArray) : (b.toList == (⟨#[]⟩ : ByteArray).toList) = decide (b.size = 0) := by
 rw [ByteArray.toList_eq, ByteArray.toList_eq, Bool.eq_iff_iff]
 obtain ⟨⟨l⟩⟩ := b
 show (l == []) = true ↔ decide (l.length = 0) = true
 cases l <;> simp
theorem Xk3 (s : Xbc) (hb : (Lit.int .i64 s.Seq.Bits).wf = true) : Xfq s = some (Xbz s) := by
 have hb' := Zkd hb
 unfold Xfq Xbz
 rw [Xq8, Xad]
 by_cases h1 : Xcc s.Seq = 1
 ·
  have hs := (Xbi (Xxj h1)).2.2
  have hp := Yza hs
  have e64 : Xaa .u64 s.Seq.Bits = s.Seq.Bits := by
   show IntKind.wrap .u64 s.Seq.Bits = _
   simp [IntKind.wrap, IntKind.signed, IntKind.bits]; omega
  rw [Xbh (by simp [h1]), e64, rqA, hp.1, wkA, Xup, Xad, Xsn, Xad, Yc2, Xum, Xum, Xad]
  simp only [Xaj, Xad, Xum]
  rw [decide_eq_true h1, Bool.true_and]
  cases hpar : Xnp s.Par with
  | false => rfl
  | true =>
   cases hr : Xj4 s.Rate with
   | false => rfl
   | true =>
    by_cases hf : 0 ≤ s.Frame ∧ s.Frame < 2 ^ s.Seq.Bits.toNat
    ·
     rw [Xbh (by simp; omega), decide_eq_true hf]
     by_cases h3 : (1 ≤ s.Every ∧ s.Every ≤ 1000) ∧ (0 ≤ s.Since ∧ s.Since ≤ 1000) ∧ (0 ≤ s.Reach ∧ s.Reach ≤ 4)
     ·
      rw [Xbh (by simp; omega), decide_eq_true h3, Xsp, Xad]
      cases s.Has with
      | true =>
       rw [Xay]
       simp only [Xei, Xad, Xdh, Xvw]
       rfl
      | false =>
       rw [Xaw]
       simp only [Xad, Xdh]
       congr 1
       rw [Bool.eq_iff_iff]; simp
     ·
      rw [Xbt (by simp; omega), decide_eq_false h3]; simp
    ·
     rw [Xbt (by simp; omega), decide_eq_false hf]; simp
 ·
  rw [Xbt (by simpa using h1), Xad, Xay, decide_eq_false h1]; simp
theorem Xpi (s : Xbc) (h1 : s.Seq.Cols.length ≤ maxLen) (h2 : s.Seq.Rows.length ≤ maxLen) : Xg6 s = some (Xbz s) := by
 unfold Xg6 Xbz
 rw [Xqo _ h1 h2, Xad]
 by_cases ht : Xcc s.Seq = 1
 ·
  have hs := (Xbi (Xxj ht)).2.2
  have hp := Yza hs
  rw [Xbh (by simp [ht]), rqA, hp.1, wkA (e := 1 * 2 ^ s.Seq.Bits.toNat), wkA, Xme, Xad, Xr9, Xad]
  simp only [Xaq, Xad, Xum]
  rw [decide_eq_true ht, Bool.true_and]
  cases hpar : Xnp s.Par with
  | false => rfl
  | true =>
   cases hr : Xj4 s.Rate with
   | false => rfl
   | true =>
    by_cases hf : 0 ≤ s.Frame ∧ s.Frame < 2 ^ s.Seq.Bits.toNat
    ·
     rw [decide_eq_true hf]
     by_cases h3 : (1 ≤ s.Every ∧ s.Every ≤ 1000) ∧ (0 ≤ s.Since ∧ s.Since ≤ 1000) ∧ (0 ≤ s.Reach ∧ s.Reach ≤ 4)
     ·
      rw [Xbh (by simp; omega), decide_eq_true h3, Ygv _ _ h1 h2, Xad, Zdq]
      cases s.Has with
      | true => rfl
      | false =>
       rw [Xaw]
       congr 1
       rw [Bool.eq_iff_iff]; simp
     ·
      rw [Xbt (by simp; omega), decide_eq_false h3]; simp
    ·
     rw [Xbt (by simp; omega), decide_eq_false hf]; simp
 ·
  rw [Xbt (by simpa using ht), Xad, Xay, decide_eq_false ht]; simp
def Xqd (c r b : Int) (p : Par) (t : Rate) (e n : Int) : Xbc := ⟨⟨Xxt [c] [r], b, [c], [r]⟩, p, t, 0, 0, e, n, false, ⟨0, 0, ⟨#[]⟩⟩⟩
theorem Xa3 (a b : List Int) : strOfNums a ++ strOfNums b = strOfNums (a ++ b) := by
 unfold strOfNums
 rw [List.map_append]
 apply ByteArray.ext
 simp
theorem Zhj : (⟨#[]⟩ : ByteArray) = strOfNums [] := rfl
def Ytc (l : List Int) : Prop := ∀ x ∈ l, 0 ≤ x ∧ x ≤ 255
theorem Xmu (l : List Int) (h : Ytc l) : Xbb (strOfNums l) = l := by
 unfold Xbb
 rw [strOfNums_data, List.map_map]
 have : ∀ x ∈ l, ((fun b : UInt8 => (b.toNat : Int)) ∘ fun n : Int => UInt8.ofNat n.toNat) x = x := by
  intro x hx
  have := h x hx
  simp only [Function.comp_apply, UInt8.toNat_ofNat']
  omega
 rw [List.map_congr_left this, List.map_id']
theorem Xvt (l : List Int) (h : Ytc l) (i : Nat) (hi : i < l.length) : Xno (strOfNums l) (i : Int) = l.getD i 0 := by
 unfold Xno
 rw [dif_pos (by rw [Int.toNat_natCast, strOfNums_size]; exact hi)]
 have hx := h l[i] (List.getElem_mem hi)
 rw [Xcd l i hi]
 show ((((l.map fun n => UInt8.ofNat n.toNat).toArray)[(i : Int).toNat]'(by simpa using hi)).toNat : Int) = _
 simp only [Int.toNat_natCast, List.getElem_toArray, List.getElem_map, UInt8.toNat_ofNat']
 omega
theorem Zji (y : Int) : IntKind.wrap .i64 (BitVec.ofInt (IntKind.bits .i64) y &&& BitVec.ofInt (IntKind.bits .i64) 1).toNat = y % 2 := by
 have h : (BitVec.ofInt 64 y &&& BitVec.ofInt 64 1).toNat = (y % 2).toNat := by
  rw [BitVec.toNat_and]
  have e1 : (BitVec.ofInt 64 1).toNat = 1 := by decide
  rw [e1, Nat.and_one_is_mod, BitVec.toNat_ofInt]
  omega
 show IntKind.wrap .i64 ((BitVec.ofInt 64 y &&& BitVec.ofInt 64 1).toNat : Int) = _
 rw [h, ← Xr7, wkA]
 omega
def Xvx : Nat → Int → List Int
 | 0, _ => []
 | w + 1, n => Xvx w (n / 2) ++ [48 + n % 2]
theorem Xce : ∀ (w : Nat) (n : Int), (Xvx w n).length = w
 | 0, _ => rfl
 | w + 1, n => by rw [Xvx, List.length_append, Xce w]; rfl
def Xjh (l : List Int) : Prop := ∀ x ∈ l, x = 48 ∨ x = 49
theorem Xa5 {a b : List Int} (ha : Xjh a) (hb : Xjh b) : Xjh (a ++ b) := fun x hx => (List.mem_append.1 hx).elim (ha x) (hb x)
theorem Ykn (n : Nat) : Xjh (List.replicate n 48) := fun x hx => .inl (List.eq_of_mem_replicate hx)
theorem Xc8 {l : List Int} (h : Xjh l) : Ytc l := fun x hx => by rcases h x hx with e | e <;> omega
theorem Xt3 : Xjh [] := fun x hx => by simp at hx
theorem Ybb : ∀ (w : Nat) (n : Int), Xjh (Xvx w n)
 | 0, _ => Xt3
 | w + 1, n => Xa5 (Ybb w (n / 2)) (fun x hx => by rw [List.mem_singleton.1 hx]; omega)
theorem Zbl (w : Nat) : ∀ (k : Nat) (n : Int) (s : List Int), 0 ≤ n → n ≤ 9223372036854775807 → k + s.length ≤ 100000 → loop Xmr (n, (k : Int) - 1, List.replicate k 0 ++ s) = some (Xvx k n ++ s) := by
 intro k
 induction k with
 | zero =>
  intro n s h0 h1 hl
  refine Xd8 ?_
  unfold Xmr
  simp only
  rw [snA]
  simp [Xvx]
 | succ k ih =>
  intro n s h0 h1 hl
  have e1 : List.replicate (k + 1) (0 : Int) ++ s = List.replicate k 0 ++ 0 :: s := by rw [List.replicate_succ', List.append_assoc]; rfl
  have e2 := Yys (List.replicate k (0 : Int)) 0 (48 + n % 2) s
  rw [List.length_replicate] at e2
  refine lgo (y := (n / 2, (k : Int) - 1, List.replicate k 0 ++ (48 + n % 2) :: s)) ?_ ?_
  ·
   unfold Xmr
   have e3 : (((k + 1 : Nat) : Int) - 1).toNat = k := by omega
   simp only [e1, e3]
   rw [syA, Xax (by simp; omega), Xax (by simp), Xax (by decide), Zji, wkA (e := 48 + n % 2), w8 (by omega) (by omega), e2, wkA]
   rw [show ((k + 1 : Nat) : Int) - 1 - 1 = (k : Int) - 1 by omega]
   rfl
  ·
   rw [ih (n / 2) ((48 + n % 2) :: s) (by omega) (by omega) (by simp; omega), Xvx, List.append_assoc]; rfl
theorem Xp2 (n : Int) (w : Nat) (h0 : 0 ≤ n) (h1 : n ≤ 9223372036854775807) (hw : w ≤ 1000) : Xlv n (w : Int) = some (strOfNums (Xvx w n)) := by
 unfold Xlv
 rw [rqA, wkA, Int.toNat_natCast]
 have := Zbl w w n [] h0 h1 (by simp; omega)
 rw [List.append_nil, List.append_nil] at this
 rw [this, Xad]
theorem Zex : ∀ (k : Nat) (n : Int) (s : List Int), 0 ≤ n → n ≤ 9223372036854775807 → k + s.length ≤ 100000 → loop Xkq (n, (k : Int) - 1, List.replicate k 0 ++ s) = some (Xvx k n ++ s) := by
 intro k
 induction k with
 | zero =>
  intro n s h0 h1 hl
  refine Xd8 ?_
  unfold Xkq
  simp only
  rw [snA]
  simp [Xvx]
 | succ k ih =>
  intro n s h0 h1 hl
  have e1 : List.replicate (k + 1) (0 : Int) ++ s = List.replicate k 0 ++ 0 :: s := by rw [List.replicate_succ', List.append_assoc]; rfl
  have e2 := Yys (List.replicate k (0 : Int)) 0 (48 + n % 2) s
  rw [List.length_replicate] at e2
  refine lgo (y := (n / 2, (k : Int) - 1, List.replicate k 0 ++ (48 + n % 2) :: s)) ?_ ?_
  ·
   unfold Xkq
   have e3 : (((k + 1 : Nat) : Int) - 1).toNat = k := by omega
   simp only [e1, e3]
   rw [syA, Xax (by decide), Xax (by simp; omega), Xax (by simp), Xax (by decide), Xb1 h0, Xb2 h0, wkA (e := 48 + n % 2), w8 (by omega) (by omega), e2, wkA, wkA]
   rw [show ((k + 1 : Nat) : Int) - 1 - 1 = (k : Int) - 1 by omega]
  ·
   rw [ih (n / 2) ((48 + n % 2) :: s) (by omega) (by omega) (by simp; omega), Xvx, List.append_assoc]; rfl
theorem Xov (n : Int) (w : Nat) (h0 : 0 ≤ n) (h1 : n ≤ 9223372036854775807) (hw : w ≤ 1000) : Xi6 n (w : Int) = some (strOfNums (Xvx w n)) := by
 unfold Xi6
 rw [rqA, wkA, Int.toNat_natCast]
 have := Zex w n [] h0 h1 (by simp; omega)
 rw [List.append_nil, List.append_nil] at this
 rw [this, Xad]
def Xvv (m : Nat) : Nat := if h : m = 0 then 0 else Xvv (m / 2) + 1
termination_by m
decreasing_by omega
def Yvh (m : Nat) : List Int := if h : m = 0 then [] else Yvh (m / 2) ++ [48 + ((m % 2 : Nat) : Int)]
termination_by m
decreasing_by omega
theorem Yta (m : Nat) : (Yvh m).length = Xvv m := by
 induction m using Nat.strongRecOn with
 | _ m ih =>
  rw [Yvh, Xvv]
  by_cases h : m = 0
  ·
   rw [dif_pos h, dif_pos h]; rfl
  ·
   rw [dif_neg h, dif_neg h, List.length_append, ih (m / 2) (by omega)]; rfl
theorem Yth {m j : Nat} (h : m < 2 ^ j) : Xvv m ≤ j := by
 induction j generalizing m with
 | zero => rw [Xvv, dif_pos (by simp at h; omega)]; omega
 | succ j ih =>
  rw [Xvv]
  split
  ·
   omega
  ·
   have := ih (m := m / 2) (by rw [Nat.pow_succ] at h; omega)
   omega
theorem Ykp {m : Nat} (h : 0 < m) : 1 ≤ Xvv m := by rw [Xvv, dif_neg (by omega)]; omega
theorem Zej (m : Nat) : Xjh (Yvh m) := by
 induction m using Nat.strongRecOn with
 | _ m ih =>
  rw [Yvh]
  by_cases h : m = 0
  ·
   rw [dif_pos h]; exact Xt3
  ·
   rw [dif_neg h]; exact Xa5 (ih (m / 2) (by omega)) (fun x hx => by rw [List.mem_singleton.1 hx]; omega)
theorem Zew (z m : Nat) : Xvx (Xvv m + z) m = List.replicate z 48 ++ Yvh m := by
 induction m using Nat.strongRecOn with
 | _ m ih =>
  rw [Yvh, Xvv]
  by_cases h : m = 0
  ·
   rw [dif_pos h, dif_pos h, h, List.append_nil, Nat.zero_add]
   clear ih h
   induction z with
   | zero => rfl
   | succ z iz => rw [Xvx, show ((0 : Nat) : Int) / 2 = ((0 : Nat) : Int) from rfl, iz, List.replicate_succ']; rfl
  ·
   rw [dif_neg h, dif_neg h, show Xvv (m / 2) + 1 + z = Xvv (m / 2) + z + 1 by omega, Xvx, show (m : Int) / 2 = ((m / 2 : Nat) : Int) by omega, ih (m / 2) (by omega), List.append_assoc, show (m : Int) % 2 = ((m % 2 : Nat) : Int) by omega]
def ueL (n : Nat) : List Int := List.replicate (Xvv (n + 1) - 1) 48 ++ Yvh (n + 1)
theorem Xhe (n : Nat) : Xjh (ueL n) := Xa5 (Ykn _) (Zej _)
theorem Xc7 (n : Nat) (h : n ≤ 1000000) : (ueL n).length ≤ 39 ∧ 1 ≤ (ueL n).length := by
 unfold ueL
 rw [List.length_append, List.length_replicate, Yta]
 have := Yth (m := n + 1) (j := 20) (by omega)
 have := Ykp (m := n + 1) (by omega)
 omega
theorem Ypt : ∀ (m : Nat) (k : Int), 0 ≤ k → k ≤ 1000 → m ≤ 9223372036854775807 → loop Xdb ((m : Int), k) = some (k + Xvv m) := by
 have main : ∀ (j m : Nat) (k : Int), m < 2 ^ j → j ≤ 63 → 0 ≤ k → k + j ≤ 2000 → loop Xdb ((m : Int), k) = some (k + Xvv m) := by
  intro j
  induction j with
  | zero =>
   intro m k hm _ _ _
   have : m = 0 := by simp at hm; omega
   subst this
   refine Xd8 ?_
   unfold Xdb
   simp only
   rw [snA, Xvv, dif_pos rfl]; simp
  | succ j ih =>
   intro m k hm hj h0 h1
   by_cases h : m = 0
   ·
    subst h
    refine Xd8 ?_
    unfold Xdb
    simp only
    rw [snA, Xvv, dif_pos rfl]; simp
   ·
    refine lgo (y := (((m / 2 : Nat) : Int), k + 1)) ?_ ?_
    ·
     unfold Xdb
     simp only
     rw [syA, Xax (by decide), wkA]
     show some (Lp.go ((m : Int) / 2, k + 1)) = _
     congr 3
    ·
     rw [ih (m / 2) (k + 1) (by rw [Nat.pow_succ] at hm; omega) (by omega) (by omega) (by omega), Xvv.eq_def m, dif_neg h]
     congr 1; omega
 intro m k h0 h1 hm
 exact main 63 m k (by omega) (by omega) h0 (by omega)
theorem Xgj (n : Nat) (h : n ≤ 1000000) : Xj5 (n : Int) = some (strOfNums (ueL n)) := by
 unfold Xj5 Xop
 rw [wkA (e := (n : Int) + 1)]
 have := Ypt (n + 1) 0 (by omega) (by omega) (by omega)
 rw [show ((n + 1 : Nat) : Int) = (n : Int) + 1 by omega, Int.zero_add] at this
 rw [this, Xad, Xad]
 have h1 := Yth (m := n + 1) (j := 20) (by omega)
 have h2 := Ykp (m := n + 1) (by omega)
 rw [wkA (e := 2 * (Xvv (n + 1) : Int)), wkA, show 2 * (Xvv (n + 1) : Int) - 1 = ((Xvv (n + 1) + (Xvv (n + 1) - 1) : Nat) : Int) by omega, Xp2 _ _ (by omega) (by omega) (by omega), Xad,
  show (n : Int) + 1 = ((n + 1 : Nat) : Int) by omega, Zew]
 rfl
theorem Xwt (n : Nat) (x : Int) (h : n ≤ 1000000000) : Xl2 (n : Int) x = some (strOfNums (List.replicate n x)) := by
 unfold Xl2
 rw [rqA, Int.toNat_natCast]
 have key : ∀ (k a : Nat), k + a = n → loop (Xi5 (n : Int) x) ((a : Int), List.replicate a x ++ List.replicate k 0) = some (List.replicate n x) := by
  intro k
  induction k with
  | zero =>
   intro a ha
   refine Xd8 ?_
   unfold Xi5
   simp only
   rw [snA]
   simp; omega
  | succ k ih =>
   intro a ha
   have e2 := Yys (List.replicate a x) 0 x (List.replicate k 0)
   rw [List.length_replicate] at e2
   refine lgo (y := (((a + 1 : Nat) : Int), List.replicate (a + 1) x ++ List.replicate k 0)) ?_ (ih (a + 1) (by omega))
   unfold Xi5
   simp only [List.replicate_succ (n := k), Int.toNat_natCast]
   rw [syA, Xax (by simp; omega), Xax (by simp), e2, wkA, List.replicate_succ' (n := a), List.append_assoc]
   rfl
 have := key n 0 rfl
 rw [List.replicate_zero, List.nil_append] at this
 exact Xh6 this
theorem Xcx (n : Nat) (h : n ≤ 1000000) : Xcz (n : Int) = some (strOfNums (ueL n)) := by
 have main : ∀ (j m : Nat) (s : List Int), m < 2 ^ j → j ≤ 63 → s.length + j ≤ 1000 → loop Xjz ((m : Int), strOfNums s) = some (strOfNums (Yvh m ++ s)) := by
  intro j
  induction j with
  | zero =>
   intro m s hm _ _
   have : m = 0 := by simp at hm; omega
   subst this
   refine Xd8 ?_
   unfold Xjz
   simp only
   rw [snA, Yvh, dif_pos rfl]; rfl
  | succ j ih =>
   intro m s hm hj hl
   by_cases h : m = 0
   ·
    subst h
    refine Xd8 ?_
    unfold Xjz
    simp only
    rw [snA, Yvh, dif_pos rfl]; rfl
   ·
    have hlt : (m : Int) < 2 ^ (j + 1) := by exact_mod_cast hm
    have hle : (2 : Int) ^ (j + 1) ≤ 2 ^ 63 := by
     have := Nat.pow_le_pow_right (n := 2) (by omega) hj
     exact_mod_cast this
    have hbd : (m : Int) < 9223372036854775808 := Int.lt_of_lt_of_le hlt (by simpa using hle)
    refine lgo (y := (((m / 2 : Nat) : Int), strOfNums ((48 + ((m % 2 : Nat) : Int)) :: s))) ?_ ?_
    ·
     unfold Xjz
     simp only
     rw [syA, Xax (by decide), Xb1 (by omega), Xb2 (by omega), wkA (e := 48 + (m : Int) % 2), w8 (by omega) (by omega), Xax (by simp only [strOfNums_size, List.length_singleton]; omega), Xax (by decide), wkA, Xa3]
     congr 3
    ·
     rw [ih (m / 2) _ (by rw [Nat.pow_succ] at hm; omega) (by omega) (by simp; omega)]
     conv => rhs; rw [Yvh, dif_neg h]
     rw [List.append_assoc]; rfl
 unfold Xcz
 have h1 := Yth (m := n + 1) (j := 20) (by omega)
 have h2 := Ykp (m := n + 1) (by omega)
 rw [wkA (e := (n : Int) + 1), Zhj, show (n : Int) + 1 = ((n + 1 : Nat) : Int) by omega, main 63 (n + 1) [] (by omega) (by omega) (by simp), Xad, List.append_nil, strOfNums_size, Yta, wkA, show (Xvv (n + 1) : Int) - 1 = ((Xvv (n + 1) - 1 : Nat) : Int) by omega, Xwt _ _ (by omega), Xad,
  Xax (by simp only [strOfNums_size, List.length_replicate]; omega), Xa3]
 rfl
theorem Zel (x : Int) (h : x = 48 ∨ x = 49) : ((x != 48) && (x != 49)) = false := by rcases h with rfl | rfl <;> rfl
theorem Yz9 (l : List Int) (hl : Xjh l) (hn : l.length ≤ 9223372036854775806) (f : Int → Option (Lp Int (Ou Unit Bool)))
  (h : ∀ i : Nat, i < l.length → f (i : Int) = sel (((l.getD i 0) != 48) && ((l.getD i 0) != 49)) (some (.done (.ret false))) (some (.go ((i + 1 : Nat) : Int)))) (h0 : f (l.length : Int) = some (.done (.out ()))) : loop f 0 = some (.out ()) :=
 Xtl l.length (fun i hi => by rw [h i hi, Zel _ (by rw [Xcd l i hi]; exact hl _ (List.getElem_mem hi)), Xaw]) h0
theorem Yrs (l : List Int) (hl : Xjh l) (hn : l.length ≤ 9223372036854775806) : Xra (strOfNums l) = some true := by
 unfold Xra
 rw [Yz9 l hl hn (Xkr (strOfNums l)) (fun i hi => by
  unfold Xkr
  rw [strOfNums_size, Xvt l (Xc8 hl) i hi, syA, rqA, rqA, Xdh, Xad, wkA]; rfl) (by
  unfold Xkr; rw [strOfNums_size, snA])]
 rfl
theorem Yu3 (l : List Int) (hl : Xjh l) (hn : l.length ≤ 400000) : Xtr (strOfNums l) = some true := by
 unfold Xtr
 rw [strOfNums_size, syA, Yrs l hl (by omega), Xad, Xad]
theorem Ybt (l : List Int) (hl : Xjh l) (hn : l.length ≤ 400000) : Xqa (strOfNums l) = some true := by
 unfold Xqa
 rw [strOfNums_size, snA, Yz9 l hl (by omega) (Xmi (strOfNums l)) (fun i hi => by
  unfold Xmi
  rw [strOfNums_size, Xvt l (Xc8 hl) i hi, syA, rqA, rqA, Xdh, Xad, wkA]; rfl) (by
  unfold Xmi; rw [strOfNums_size, snA])]
 rfl
def Xhf (l : List Int) : Int := l.foldl (fun x b => 2 * x + b - 48) 0
def Xf8 : Nat → List Int → List Int
 | 0, _ => []
 | n + 1, l => Xhf (l.take 8) :: Xf8 n (l.drop 8)
theorem Xsy : ∀ (n : Nat) (l : List Int), (Xf8 n l).length = n
 | 0, _ => rfl
 | n + 1, l => by rw [Xf8, List.length_cons, Xsy n]
def Xtz (l : List Int) : List Int := Xf8 (l.length / 8 + 1) (l ++ 49 :: List.replicate (8 * (l.length / 8 + 1) - l.length - 1) 48)
theorem Zhw (l : List Int) : ∀ x : Int, l.foldl (fun x b => 2 * x + b - 48) x = x * 2 ^ l.length + Xhf l := by
 induction l with
 | nil => intro x; simp [Xhf]
 | cons b l ih =>
  intro x
  unfold Xhf
  rw [List.foldl_cons, List.foldl_cons, ih, ih (2 * 0 + b - 48), List.length_cons, Int.pow_succ]
  have e1 : (2 * x + b - 48) * 2 ^ l.length = 2 * (x * 2 ^ l.length) + (b - 48) * 2 ^ l.length := by
   rw [show 2 * x + b - 48 = 2 * x + (b - 48) by omega, Int.add_mul, Int.mul_assoc]
  have e2 : x * (2 ^ l.length * 2) = 2 * (x * 2 ^ l.length) := by rw [← Int.mul_assoc, Int.mul_comm]
  rw [e1, e2, show (2 : Int) * 0 + b - 48 = b - 48 by omega]
  omega
theorem Xpu (a b : List Int) : Xhf (a ++ b) = Xhf a * 2 ^ b.length + Xhf b := by
 show (a ++ b).foldl _ 0 = _
 rw [List.foldl_append]
 exact Zhw b (Xhf a)
theorem Yvc (z : Nat) : Xhf (List.replicate z 48) = 0 := by
 induction z with
 | zero => rfl
 | succ z ih => rw [List.replicate_succ', Xpu, ih]; rfl
theorem Xjg {l : List Int} (h : Xjh l) : 0 ≤ Xhf l ∧ Xhf l < 2 ^ l.length := by
 induction l with
 | nil => simp [Xhf]
 | cons b l ih =>
  have h1 := ih (fun x hx => h x (by simp [hx]))
  have h2 := h b (by simp)
  rw [show b :: l = [b] ++ l from rfl, Xpu, List.length_append, Int.pow_add, show Xhf [b] = b - 48 by simp [Xhf]]
  have : (2 : Int) ^ [b].length = 2 := rfl
  rw [this]
  rcases h2 with rfl | rfl <;> omega
theorem Zig : ∀ (x : Fin 256) (k : Fin 8), x.val % 2 ^ (8 - k.val) = 0 → (BitVec.ofNat 8 x.val ||| BitVec.ofNat 8 (128 / 2 ^ k.val)).toNat = x.val + 2 ^ (7 - k.val) := by decide +kernel
theorem Zii (x : Int) (k : Nat) (h0 : 0 ≤ x) (h1 : x ≤ 255) (hk : k < 8) (hx : x % 2 ^ (8 - k) = 0) : IntKind.wrap .u8 (BitVec.ofInt (IntKind.bits .u8) x ||| BitVec.ofInt (IntKind.bits .u8) ((128 : Int) / 2 ^ min k (IntKind.bits .u8))).toNat = x + 2 ^ (7 - k) := by
 obtain ⟨n, rfl⟩ : ∃ n : Nat, x = n := ⟨x.toNat, by omega⟩
 have hm : min k (IntKind.bits .u8) = k := by show min k 8 = k; omega
 have hn : n % 2 ^ (8 - k) = 0 := by exact_mod_cast hx
 have := Zig ⟨n, by omega⟩ ⟨k, hk⟩ hn
 simp only at this
 rw [hm]
 have e1 : BitVec.ofInt 8 ((128 : Int) / 2 ^ k) = BitVec.ofNat 8 (128 / 2 ^ k) := by
  rw [show ((128 : Int) / 2 ^ k) = ((128 / 2 ^ k : Nat) : Int) by push_cast; rfl, BitVec.ofInt_natCast]
 have e2 : BitVec.ofInt 8 (n : Int) = BitVec.ofNat 8 n := BitVec.ofInt_natCast ..
 show IntKind.wrap .u8 ((BitVec.ofInt 8 (n : Int) ||| BitVec.ofInt 8 ((128 : Int) / 2 ^ k)).toNat : Int) = _
 rw [e1, e2, this, ← Xr7]
 have hp : n + 2 ^ (7 - k) ≤ 255 := by
  have : n + 2 ^ (7 - k) < 256 := by rw [← this]; exact (BitVec.ofNat 8 n ||| BitVec.ofNat 8 (128 / 2 ^ k)).isLt
  omega
 rw [w8 (by omega) (by omega)]
 push_cast; rfl
theorem Yeb : ∀ (m : Nat) (L : List Int), Xjh L → L.length < 8 * m → Xf8 m (L ++ 49 :: List.replicate (8 * m - L.length - 1) 48) = (Xf8 m (L ++ List.replicate (8 * m - L.length) 48)).set (L.length / 8) ((Xf8 m (L ++ List.replicate (8 * m - L.length) 48)).getD (L.length / 8) 0 + 2 ^ (7 - L.length % 8)) ∧
  (Xf8 m (L ++ List.replicate (8 * m - L.length) 48)).getD (L.length / 8) 0 % 2 ^ (8 - L.length % 8) = 0 ∧ 0 ≤ (Xf8 m (L ++ List.replicate (8 * m - L.length) 48)).getD (L.length / 8) 0 ∧ (Xf8 m (L ++ List.replicate (8 * m - L.length) 48)).getD (L.length / 8) 0 ≤ 255
 | 0, L, _, h => by omega
 | m + 1, L, hb, h => by
  by_cases h8 : L.length < 8
  ·
   have e0 : L.length / 8 = 0 := by omega
   have em : L.length % 8 = L.length := by omega
   have t1 : (L ++ List.replicate (8 * (m + 1) - L.length) 48).take 8 = L ++ List.replicate (8 - L.length) 48 := by
    rw [List.take_append, List.take_of_length_le (by omega), List.take_replicate]; congr 2; omega
   have d1 : (L ++ List.replicate (8 * (m + 1) - L.length) 48).drop 8 = List.replicate (8 * m) (48 : Int) := by
    rw [List.drop_append, List.drop_eq_nil_of_le (by omega), List.nil_append, List.drop_replicate]; congr 1; omega
   have t2 : (L ++ 49 :: List.replicate (8 * (m + 1) - L.length - 1) 48).take 8 = L ++ 49 :: List.replicate (8 - L.length - 1) 48 := by
    rw [List.take_append, List.take_of_length_le (by omega), show 8 - L.length = (8 - L.length - 1) + 1 by omega, List.take_succ_cons, List.take_replicate]; congr 3; omega
   have d2 : (L ++ 49 :: List.replicate (8 * (m + 1) - L.length - 1) 48).drop 8 = List.replicate (8 * m) (48 : Int) := by
    rw [List.drop_append, List.drop_eq_nil_of_le (by omega), List.nil_append, show 8 - L.length = (8 - L.length - 1) + 1 by omega, List.drop_succ_cons, List.drop_replicate]; congr 1; omega
   have r := Xjg hb
   have v1 : Xhf (L ++ List.replicate (8 - L.length) 48) = Xhf L * 2 ^ (8 - L.length) := by rw [Xpu, Yvc, List.length_replicate, Int.add_zero]
   have v2 : Xhf (L ++ 49 :: List.replicate (8 - L.length - 1) 48) = Xhf L * 2 ^ (8 - L.length) + 2 ^ (7 - L.length) := by
    rw [Xpu, show (49 : Int) :: List.replicate (8 - L.length - 1) 48 = [49] ++ List.replicate (8 - L.length - 1) 48 from rfl, Xpu, Yvc, Int.add_zero, List.length_append, List.length_replicate, show [(49 : Int)].length = 1 from rfl, show 1 + (8 - L.length - 1) = 8 - L.length by omega, show 8 - L.length - 1 = 7 - L.length by omega]
    show _ + Xhf [49] * _ = _
    rw [show Xhf [49] = 1 from rfl, Int.one_mul]
   rw [Xf8, Xf8, t1, d1, t2, d2, v1, v2, e0, em, List.getD_cons_zero, List.set_cons_zero]
   refine ⟨rfl, Int.mul_emod_left _ _, Int.mul_nonneg r.1 (Int.pow_nonneg (by decide)), ?_⟩
   have : (Xhf L + 1) * 2 ^ (8 - L.length) ≤ 2 ^ L.length * 2 ^ (8 - L.length) := Int.mul_le_mul_of_nonneg_right (by omega) (Int.pow_nonneg (by decide))
   rw [← Int.pow_add, show L.length + (8 - L.length) = 8 by omega, Int.add_mul, Int.one_mul] at this
   have hp : (1 : Int) ≤ 2 ^ (8 - L.length) := Int.pow_pos (by decide)
   have : (2 : Int) ^ 8 = 256 := by decide
   omega
  ·
   have hsp : L = L.take 8 ++ L.drop 8 := (List.take_append_drop 8 L).symm
   have hl8 : (L.take 8).length = 8 := by rw [List.length_take]; omega
   have hd : (L.drop 8).length = L.length - 8 := by rw [List.length_drop]
   have ih := Yeb m (L.drop 8) (fun x hx => hb x (List.mem_of_mem_drop hx)) (by omega)
   rw [hd] at ih
   have tk : ∀ s : List Int, (L ++ s).take 8 = L.take 8 := fun s => by rw [List.take_append, show 8 - L.length = 0 by omega, List.take_zero, List.append_nil]
   have dr : ∀ s : List Int, (L ++ s).drop 8 = L.drop 8 ++ s := fun s => by rw [List.drop_append, show 8 - L.length = 0 by omega, List.drop_zero]
   rw [Xf8, Xf8, tk, tk, dr, dr, show L.length / 8 = (L.length - 8) / 8 + 1 by omega, List.getD_cons_succ, List.set_cons_succ, show L.length % 8 = (L.length - 8) % 8 by omega, show 8 * (m + 1) - L.length = 8 * m - (L.length - 8) by omega]
   exact ⟨by rw [ih.1], ih.2⟩
theorem Za6 (m : Nat) : Xf8 m (List.replicate (8 * m) 48) = List.replicate m 0 := by
 induction m with
 | zero => rfl
 | succ m ih =>
  rw [Xf8, List.take_replicate, List.drop_replicate, show 8 * (m + 1) - 8 = 8 * m by omega, ih, Yvc, List.replicate_succ]
theorem Za5 (m : Nat) (L : List Int) (h : L.length < 8 * m) : L ++ 48 :: List.replicate (8 * m - L.length - 1) 48 = L ++ List.replicate (8 * m - L.length) 48 := by
 congr 1
 rw [← List.replicate_succ]; congr 1; omega
theorem Yhz (l : List Int) (hl : Xjh l) (hn : l.length ≤ 400000) : Xmh (strOfNums l) = some (strOfNums (Xtz l), true) := by
 have hm' : maxLen = 9223372036854775807 := rfl
 unfold Xmh
 rw [Ybt l hl hn, Xad, Xul, Xay, Xax (by decide), strOfNums_size, Xb2 (by omega), show (l.length : Int) / 8 = ((l.length / 8 : Nat) : Int) by omega, wkA (e := ((l.length / 8 : Nat) : Int)), wkA (e := ((l.length / 8 : Nat) : Int) + 1), rqA,
  show (((l.length / 8 : Nat) : Int) + 1).toNat = l.length / 8 + 1 by omega]
 generalize hm : l.length / 8 + 1 = m
 have key : ∀ (r a : List Int), l = a ++ r → loop (Xhh (strOfNums l)) ((a.length : Int), Xf8 m (a ++ List.replicate (8 * m - a.length) 48)) = some (Xf8 m (l ++ List.replicate (8 * m - l.length) 48)) := by
  intro r
  induction r with
  | nil =>
   intro a ha
   rw [List.append_nil] at ha
   rw [← ha]
   refine Xd8 ?_
   unfold Xhh
   simp only
   rw [strOfNums_size, snA]
  | cons x r ih =>
   intro a ha
   have hlen : a.length < l.length := by rw [ha]; simp
   have hx : l.getD a.length 0 = x := by rw [ha]; exact Xku a x _ r
   have hb : x = 48 ∨ x = 49 := hl x (by rw [ha]; simp)
   have ha8 : a.length < 8 * m := by omega
   have hab : Xjh a := fun y hy => hl y (by rw [ha]; simp [hy])
   obtain ⟨c1, c2, c3, c4⟩ := Yeb m a hab ha8
   have hcl := Xsy m (a ++ List.replicate (8 * m - a.length) 48)
   have hnext := ih (a ++ [x]) (by rw [ha]; simp)
   rw [List.length_append, List.length_singleton] at hnext
   refine lgo (y := (((a.length + 1 : Nat) : Int), Xf8 m (a ++ [x] ++ List.replicate (8 * m - (a.length + 1)) 48))) ?_ hnext
   unfold Xhh
   simp only
   rw [strOfNums_size, syA, Xvt l (Xc8 hl) _ hlen, hx, wkA (e := (a.length : Int) + 1), Xb2 (by omega), Xb1 (by omega), show (a.length : Int) / 8 = ((a.length / 8 : Nat) : Int) by omega, show (a.length : Int) % 8 = ((a.length % 8 : Nat) : Int) by omega,
    wkA (e := ((a.length / 8 : Nat) : Int)), Int.toNat_natCast, Int.toNat_natCast, rqA]
   rw [List.append_assoc, List.singleton_append, Nat.sub_add_eq]
   rcases hb with rfl | rfl
   ·
    rw [Xbh (by decide), Xad, Za5 m a ha8]; rfl
   ·
    rw [Xbt (by decide), Xax (by decide), rqA, rqA, Xax (by decide), rqA, rqA, rqA, Xad, Zii _ _ c3 c4 (by omega) c2, c1]; rfl
 have := key l [] rfl
 rw [List.nil_append, List.length_nil, Nat.sub_zero, Za6] at this
 refine (Xh6 this).trans ?_
 have hl8 : l.length < 8 * m := by omega
 obtain ⟨c1, c2, c3, c4⟩ := Yeb m l hl hl8
 have hcl := Xsy m (l ++ List.replicate (8 * m - l.length) 48)
 rw [Xax (by decide), rqA, Int.toNat_natCast, rqA, Xax (by decide), Xb1 (by omega), rqA, rqA, rqA, show ((l.length : Int) % 8).toNat = l.length % 8 by omega, Zii _ _ c3 c4 (by omega) c2, ← c1]
 unfold Xtz
 rw [hm]
theorem Zd2 (v : List Int) (i : Nat) (out : List Int) (c : List Int) (hc : (v.drop i).take 8 = c) (h8 : c.length = 8) (hb : Xjh c) (hn : v.length ≤ 1000000) (hi : i + 8 ≤ v.length) : loop (Xet v ((i : Int), out)) (0, 0) = some (Xhf c) := by
 have key : ∀ (r a : List Int), c = a ++ r → loop (Xet v ((i : Int), out)) (Xhf a, (a.length : Int)) = some (Xhf c) := by
  intro r
  induction r with
  | nil =>
   intro a ha
   rw [List.append_nil] at ha
   refine Xd8 ?_
   unfold Xet
   simp only
   rw [Xav (by rw [← ha]; omega), ha]
  | cons x r ih =>
   intro a ha
   have hlen : a.length < 8 := by rw [← h8, ha]; simp
   have hx : v.getD (i + a.length) 0 = x := by
    have h1 : c.getD a.length 0 = x := by rw [ha]; exact Xku a x _ r
    rw [← h1, ← hc]
    rw [List.getD_eq_getElem?_getD, List.getD_eq_getElem?_getD, List.getElem?_take_of_lt hlen, List.getElem?_drop]
   have hab : Xjh a := fun y hy => hb y (by rw [ha]; simp [hy])
   have hr := Xjg hab
   have hp : (2 : Int) ^ a.length ≤ 2 ^ 8 := by
    have := Nat.pow_le_pow_right (n := 2) (by omega) (show a.length ≤ 8 by omega)
    exact_mod_cast this
   have h256 : (2 : Int) ^ 8 = 256 := by decide
   have hxb : x = 48 ∨ x = 49 := hb x (by rw [ha]; simp)
   have hnext := ih (a ++ [x]) (by rw [ha]; simp)
   rw [List.length_append, List.length_singleton] at hnext
   refine lgo (y := (Xhf (a ++ [x]), ((a.length + 1 : Nat) : Int))) ?_ hnext
   unfold Xet
   simp only
   rw [syA, wkA (e := (i : Int) + a.length), rqA, rqA, show ((i : Int) + (a.length : Int)).toNat = i + a.length by omega, hx, wkA (e := (a.length : Int) + 1), wkA (e := x), wkA (e := 2 * Xhf a), wkA (e := 2 * Xhf a + x), wkA,
    Xpu, show Xhf [x] = x - 48 by simp [Xhf], show [x].length = 1 from rfl, Int.pow_one]
   congr 4
   omega
 have := key c [] rfl
 exact this
theorem Za4 (v : List Int) (hb : Xjh v) (hn : v.length ≤ 1000000) : ∀ (m i : Nat) (out : List Int), i + 8 * m = v.length → out.length ≤ i → loop (Xgs v) ((i : Int), out) = some (out ++ Xf8 m (v.drop i)) := by
 have hm' : maxLen = 9223372036854775807 := rfl
 intro m
 induction m with
 | zero =>
  intro i out hi _
  refine Xd8 ?_
  unfold Xgs
  simp only
  rw [snA]; simp [Xf8]
 | succ m ih =>
  intro i out hi ho
  have hlen : ((v.drop i).take 8).length = 8 := by rw [List.length_take, List.length_drop]; omega
  have hcb : Xjh ((v.drop i).take 8) := fun x hx => hb x (List.mem_of_mem_drop (List.mem_of_mem_take hx))
  have hr := Xjg hcb
  rw [hlen, show (2 : Int) ^ 8 = 256 by decide] at hr
  refine lgo (y := (((i + 8 : Nat) : Int), out ++ [Xhf ((v.drop i).take 8)])) ?_ ?_
  ·
   unfold Xgs
   simp only
   rw [syA, Zd2 v i out _ rfl hlen hcb hn (by omega), Xad, w8 (by omega) (by omega), Xax (by simp only [List.length_singleton]; omega), wkA]
   rfl
  ·
   rw [ih (i + 8) _ (by omega) (by simp; omega), Xf8, List.drop_drop, List.append_assoc]; rfl
theorem Yjm (l : List Int) (hl : Xjh l) (hn : l.length ≤ 400000) : Xm6 (strOfNums l) = some (strOfNums (Xtz l)) := by
 have hm' : maxLen = 9223372036854775807 := rfl
 unfold Xm6
 rw [strOfNums_size, Xmu l (Xc8 hl), rqA, Xax (by simp only [List.length_singleton]; omega)]
 have key : ∀ (z : Nat) (s : List Int), s.length ≤ 500000 → z < 8 → (s.length + z) % 8 = 0 → loop Xhp s = some (s ++ List.replicate z 48) := by
  intro z
  induction z with
  | zero =>
   intro s hs _ h8
   refine Xd8 ?_
   unfold Xhp
   rw [Xax (by decide), Xb1 (by omega), Xbh (by simp only [bne_eq_false_iff_eq]; omega)]; simp
  | succ z ih =>
   intro s hs hz h8
   refine lgo (y := s ++ [48]) ?_ ?_
   ·
    unfold Xhp
    rw [Xax (by decide), Xb1 (by omega), Xbt (by simp only [bne_iff_ne, ne_eq]; omega), Xax (by simp only [List.length_singleton]; omega)]
   ·
    rw [ih (s ++ [48]) (by simp; omega) (by omega) (by simp; omega), List.append_assoc, List.replicate_succ]; rfl
 have hz : (l ++ [49] ++ List.replicate (8 * (l.length / 8 + 1) - l.length - 1) 48 : List Int).length = 8 * (l.length / 8 + 1) := by simp; omega
 have hvb : Xjh (l ++ [49] ++ List.replicate (8 * (l.length / 8 + 1) - l.length - 1) 48) := Xa5 (Xa5 hl (fun x hx => .inr (List.mem_singleton.1 hx))) (Ykn _)
 rw [key (8 * (l.length / 8 + 1) - l.length - 1) (l ++ [49]) (by simp; omega) (by omega) (by simp; omega), Xad]
 have := Za4 _ hvb (by omega) (l.length / 8 + 1) 0 [] (by rw [hz]; omega) (by simp)
 rw [List.nil_append, List.drop_zero] at this
 rw [show (0 : Int) = ((0 : Nat) : Int) from rfl, this, Xad]
 unfold Xtz
 rw [List.append_assoc, List.singleton_append]
theorem Xp5 (l : List Int) : (Xtz l).length = l.length / 8 + 1 := Xsy _ _
def Xrw (k : Int) : Bool := k == 1 || (k == 5 || (k == 7 || k == 8))
theorem Xsc (k : Int) : Xn3 k = some (Xrw k) := by
 unfold Xn3 Xrw
 simp only [Yc2, Xad]
theorem Xw1 (k : Int) : Xl6 k = some (Xrw k) := by
 unfold Xl6 Xrw
 simp only [Yc2, Xad]
theorem Yck {k : Int} (h : Xrw k = true) : 1 ≤ k ∧ k ≤ 8 := by
 unfold Xrw at h
 simp only [Bool.or_eq_true, beq_iff_eq] at h
 omega
theorem Xsb (k : Int) (l : List Int) (hk : Xrw k = true) (hl : Xjh l) (hn : l.length ≤ 400000) : Xlb k (strOfNums l) = some (strOfNums (k :: Xtz l), true) := by
 have := Yck hk
 have hp := Xp5 l
 unfold Xlb
 rw [Yhz l hl hn, Xad, Xsc, hk]
 simp only [Xay, Xad, Bool.not_true, Xaw]
 rw [w8 (by omega) (by omega), Xax (by simp only [strOfNums_size, List.length_singleton]; omega), Xa3]; rfl
theorem Xsr (k : Int) (l : List Int) (hk : Xrw k = true) (hl : Xjh l) (hn : l.length ≤ 400000) : Xlh k (strOfNums l) = some (strOfNums (k :: Xtz l), true) := by
 have := Yck hk
 have hp := Xp5 l
 unfold Xlh
 rw [Xw1, Xad, hk, Xay, Yu3 l hl hn, Xad, Xad, Bool.not_true, Xaw, Yjm l hl hn, Xad, w8 (by omega) (by omega), Xax (by simp only [strOfNums_size, List.length_singleton]; omega), Xa3]; rfl
def Xrl (b : Bool) : List Int := if b = true then [49] else [48]
theorem Ynn (b : Bool) : Xjh (Xrl b) := by unfold Xrl; split <;> (intro x hx; rw [List.mem_singleton.1 hx]; simp)
theorem Xis (b : Bool) : (Xrl b).length = 1 := by unfold Xrl; split <;> rfl
theorem Xwe (b : Bool) : Xta b = some (strOfNums (Xrl b)) := by cases b <;> rfl
theorem Xrc (b : Bool) : Xl4 b = some (strOfNums (Xrl b)) := by cases b <;> rfl
def Xy1 (p : Par) : List Int := Xvx 6 p.Qp ++ Xrl p.Large ++ Xrl p.Exact ++ Xrl p.Confined
theorem Ycr (p : Par) : Xjh (Xy1 p) := Xa5 (Xa5 (Xa5 (Ybb _ _) (Ynn _)) (Ynn _)) (Ynn _)
theorem Ycs (p : Par) : (Xy1 p).length = 9 := by unfold Xy1; simp only [List.length_append, Xce, Xis]
theorem Xxw {p : Par} (h : Xnp p = true) : 0 ≤ p.Qp ∧ p.Qp ≤ 40 := by
 unfold Xnp at h; rw [Bool.and_eq_true, decide_eq_true_eq] at h; exact h.1
theorem Yp4 (p : Par) (h : Xnp p = true) : Xqk p = some (strOfNums (Xy1 p), true) := by
 have := Xxw h
 unfold Xqk
 rw [Xme, Xad, h, Xbh (by rfl), show (6 : Int) = ((6 : Nat) : Int) from rfl, Xp2 _ 6 (by omega) (by omega) (by omega), Xad, Xwe, Xad, Xax (by simp only [strOfNums_size, Xce, Xis]; omega), Xwe, Xad, Xa3, Xax (by simp only [strOfNums_size, List.length_append, Xce, Xis]; omega), Xwe, Xad, Xa3, Xax (by simp only [strOfNums_size, List.length_append, Xce, Xis]; omega), Xa3]
 rfl
theorem Yry (p : Par) (h : Xnp p = true) : Xrd p = some (strOfNums (Xy1 p)) := by
 have := Xxw h
 unfold Xrd
 rw [show (6 : Int) = ((6 : Nat) : Int) from rfl, Xov _ 6 (by omega) (by omega) (by omega), Xad, Xrc, Xad, Xax (by simp only [strOfNums_size, Xce, Xis]; omega), Xrc, Xad, Xa3, Xax (by simp only [strOfNums_size, List.length_append, Xce, Xis]; omega), Xrc, Xad, Xa3, Xax (by simp only [strOfNums_size, List.length_append, Xce, Xis]; omega), Xa3]
 rfl
def Zao : List Int → List Int
 | [] => []
 | x :: r => ueL x.toNat ++ Zao r
theorem Zap : ∀ l : List Int, Xjh (Zao l)
 | [] => Xt3
 | x :: r => Xa5 (Xhe _) (Zap r)
theorem Zaq : ∀ {l : List Int}, l.all Xek = true → (Zao l).length ≤ 39 * l.length
 | [], _ => by simp [Zao]
 | x :: r, h => by
  rw [List.all_cons, Bool.and_eq_true] at h
  have h1 := Zaq h.2
  have h2 : 1 ≤ x ∧ x ≤ 8 := by simpa [Xek] using h.1
  have := Xc7 x.toNat (by omega)
  rw [Zao, List.length_append, List.length_cons]
  omega
def Xsg (l : List Int) : List Int := ueL l.length ++ Zao l
def Xu8 (s : Seq) : List Int := ueL s.Level.toNat ++ Xvx 4 s.Bits ++ Xsg s.Cols ++ Xsg s.Rows
theorem Ywt (l : List Int) : Xjh (Xsg l) := Xa5 (Xhe _) (Zap _)
theorem Yc3 (s : Seq) : Xjh (Xu8 s) := Xa5 (Xa5 (Xa5 (Xhe _) (Ybb _ _)) (Ywt _)) (Ywt _)
theorem Xti {l : List Int} (h : Xd9 l = true) : (Xsg l).length ≤ 195 := by
 have h1 := Xbo h
 unfold Xd9 at h
 rw [Bool.and_eq_true] at h
 have := Zaq h.2
 have := Xc7 l.length (by omega)
 unfold Xsg; rw [List.length_append]; omega
theorem Xun {s : Seq} (h : Xgo s = true) : 1 ≤ s.Level ∧ s.Level ≤ 3 := by
 unfold Xgo at h
 rw [Bool.and_eq_true, decide_eq_true_eq] at h
 have := h.1
 unfold Xlx at this
 repeat' split at this
 all_goals omega
theorem Yur {s : Seq} (h : Xgo s = true) : (Xu8 s).length ≤ 433 := by
 obtain ⟨h1, h2, _⟩ := Xbi h
 have h3 := Xun h
 have := Xti h1
 have := Xti h2
 have := Xc7 s.Level.toNat (by omega)
 unfold Xu8; simp only [List.length_append, Xce]; omega
theorem Yha (l : List Int) (ha : l.all Xek = true) (h4 : l.length ≤ 4) (f : (ByteArray × Int) → Option (Lp (ByteArray × Int) ByteArray))
  (h : ∀ (i : Nat) (s : List Int) (x : Int), i < l.length → s.length ≤ 1000 → l.getD i 0 = x → f (strOfNums s, (i : Int)) = some (.go (strOfNums (s ++ ueL x.toNat), ((i + 1 : Nat) : Int)))) (h0 : ∀ s, f (s, (l.length : Int)) = some (.done s)) (s : List Int) (hs : s.length ≤ 500) : loop f (strOfNums s, 0) = some (strOfNums (s ++ Zao l)) := by
 have key : ∀ (r a : List Int) (s : List Int), l = a ++ r → s.length + 39 * r.length ≤ 800 → loop f (strOfNums s, (a.length : Int)) = some (strOfNums (s ++ Zao r)) := by
  intro r
  induction r with
  | nil => intro a s ha _; rw [List.append_nil] at ha; rw [← ha, Xch (h0 _), Zao, List.append_nil]
  | cons x r ih =>
   intro a s hl hsl
   have hlen : a.length < l.length := by rw [hl]; simp
   have hx : l.getD a.length 0 = x := by rw [hl]; exact Xku a x _ r
   have hxs : 1 ≤ x ∧ x ≤ 8 := by simpa [Xek] using List.all_eq_true.1 ha x (by rw [hl]; simp)
   have := Xc7 x.toNat (by omega)
   rw [List.length_cons] at hsl
   have hn := ih (a ++ [x]) (s ++ ueL x.toNat) (by rw [hl]; simp) (by rw [List.length_append]; omega)
   rw [List.length_append, List.length_singleton] at hn
   rw [Xde (h a.length s x hlen (by omega) hx), hn, Zao, List.append_assoc]
 exact key l [] s rfl (by omega)
theorem Xwy (l : List Int) (h : Xd9 l = true) : Xl5 l = some (strOfNums (Xsg l)) := by
 have h1 := Xbo h
 have ha : l.all Xek = true := by unfold Xd9 at h; rw [Bool.and_eq_true] at h; exact h.2
 have := Xc7 l.length (by omega)
 unfold Xl5
 rw [Xcx _ (by omega), Xad, Yha l ha h1.2 (Xi7 l) (by
  intro i s x hi hs hx
  have hxs : 1 ≤ x ∧ x ≤ 8 := by rw [Xcd l i hi] at hx; simpa [Xek, hx] using List.all_eq_true.1 ha _ (List.getElem_mem hi)
  have := Xc7 x.toNat (by omega)
  unfold Xi7
  simp only [Int.toNat_natCast, hx]
  rw [syA, rqA, show x = ((x.toNat : Nat) : Int) by omega, Xcx _ (by omega), Xad, Xax (by simp only [strOfNums_size]; omega), wkA, Xa3]
  rfl) (by intro s; unfold Xi7; simp only; rw [snA]) _ (by omega), Xad]
 rfl
theorem Yr0 (s : Seq) (h : Xgo s = true) : Xre s = some (strOfNums (Xu8 s)) := by
 obtain ⟨h1, h2, h3⟩ := Xbi h
 have h4 := Xun h
 have := Xti h1
 have := Xti h2
 have := Xc7 s.Level.toNat (by omega)
 unfold Xre
 rw [show s.Level = ((s.Level.toNat : Nat) : Int) by omega, Xcx _ (by omega), Xad, show (4 : Int) = ((4 : Nat) : Int) from rfl, Xov _ 4 (by omega) (by omega) (by omega), Xad, Xax (by simp only [strOfNums_size, Xce]; omega), Xwy _ h1, Xad, Xa3, Xax (by simp only [strOfNums_size, List.length_append, Xce]; omega), Xwy _ h2, Xad, Xa3, Xax (by simp only [strOfNums_size, List.length_append, Xce]; omega), Xa3]
 rfl
theorem Yqe (s : Seq) (h : Xgo s = true) (hc : s.Cols.length ≤ maxLen) (hr : s.Rows.length ≤ maxLen) : Xqm s = some (strOfNums (Xu8 s), true) := by
 obtain ⟨h1, h2, h3⟩ := Xbi h
 have h4 := Xun h
 have g1 := Xti h1
 have g2 := Xti h2
 have g3 := Xc7 s.Level.toNat (by omega)
 unfold Xqm
 rw [Xjm s hc hr, Xad, h, Xbh (by rfl), show s.Level = ((s.Level.toNat : Nat) : Int) by omega, Xgj _ (by omega), Xad, show (4 : Int) = ((4 : Nat) : Int) from rfl, Xp2 _ 4 (by omega) (by omega) (by omega), Xad, Xax (by simp only [strOfNums_size, Xce]; omega), Xa3]
 have step : ∀ (n : Nat) (l t : List Int), n = 0 ∨ n = 1 → ([s.Cols, s.Rows]).getD n Xg3 = l → Xd9 l = true → t.length ≤ 300 → Xex s (strOfNums t, (n : Int)) = some (.go (strOfNums (t ++ Xsg l), ((n + 1 : Nat) : Int))) := by
  intro n l t hn hl hok ht
  have l4 := Xbo hok
  have ha : l.all Xek = true := by unfold Xd9 at hok; rw [Bool.and_eq_true] at hok; exact hok.2
  have := Xc7 l.length (by omega)
  unfold Xex
  simp only [Int.toNat_natCast, hl, List.length_cons, List.length_nil]
  rw [syA, rqA, rqA, Xgj _ (by omega), Xad, Xax (by simp only [strOfNums_size]; omega), Xa3, Yha l ha l4.2 (Xih s (strOfNums t, (n : Int))) (by
   intro i u x hi hs hx
   have hxs : 1 ≤ x ∧ x ≤ 8 := by rw [Xcd l i hi] at hx; simpa [Xek, hx] using List.all_eq_true.1 ha _ (List.getElem_mem hi)
   have := Xc7 x.toNat (by omega)
   unfold Xih
   simp only [Int.toNat_natCast, hl, hx]
   rw [syA, rqA, show x = ((x.toNat : Nat) : Int) by omega, Xgj _ (by omega), Xad, Xax (by simp only [strOfNums_size]; omega), wkA, Xa3]
   rfl) (by intro u; unfold Xih; simp only [Int.toNat_natCast, hl]; rw [snA]) _ (by rw [List.length_append]; omega), Xad, wkA, List.append_assoc]
  rfl
 have s0 := step 0 s.Cols (ueL s.Level.toNat ++ Xvx 4 s.Bits) (.inl rfl) rfl h1 (by rw [List.length_append, Xce]; omega)
 have s1 := step 1 s.Rows (ueL s.Level.toNat ++ Xvx 4 s.Bits ++ Xsg s.Cols) (.inr rfl) rfl h2 (by simp only [List.length_append, Xce]; omega)
 have s2 : ∀ t, Xex s (t, ((2 : Nat) : Int)) = some (.done t) := by intro t; unfold Xex; simp only; rw [Xav (by simp)]
 have e : loop (Xex s) (strOfNums (ueL s.Level.toNat ++ Xvx 4 s.Bits), ((0 : Nat) : Int)) = some (strOfNums (Xu8 s)) := by
  rw [Xde s0, Xde s1, Xch (s2 _)]; rfl
 exact Xh6 e
def Xod (s : Xbc) : List ByteArray := if Xbz s = true then [strOfNums (7 :: Xtz (Xu8 s.Seq)), strOfNums (8 :: Xtz (Xy1 s.Par))] else []
theorem Xy4 {s : Xbc} (h : Xbz s = true) : Xgo s.Seq = true ∧ Xnp s.Par = true := by
 unfold Xbz at h
 simp only [Bool.and_eq_true, decide_eq_true_eq] at h
 exact ⟨Xxj h.1.1.1.1.1, h.1.1.1.1.2⟩
theorem Ydn (s : Xbc) (hb : (Lit.int .i64 s.Seq.Bits).wf = true) : Xi1 s = some (Xod s) := by
 unfold Xi1 Xod
 rw [Xk3 s hb, Xad, Xul]
 cases h : Xbz s with
 | false => rfl
 | true =>
  obtain ⟨h1, h2⟩ := Xy4 h
  have := Yur h1
  rw [Xay, Yr0 _ h1, Xad, Xsr 7 _ rfl (Yc3 _) (by omega), Xad, Yry _ h2, Xad, Xsr 8 _ rfl (Ycr _) (by rw [Ycs]; omega), Xad]
  rfl
theorem Xrs (s : Xbc) (hc : s.Seq.Cols.length ≤ maxLen) (hr : s.Seq.Rows.length ≤ maxLen) : Xey s = some (Xod s) := by
 unfold Xey Xod
 rw [Xpi s hc hr, Xad, Xul]
 cases h : Xbz s with
 | false => rfl
 | true =>
  obtain ⟨h1, h2⟩ := Xy4 h
  have := Yur h1
  rw [Xay, Yqe _ h1 hc hr, Xad, Yp4 _ h2, Xad, Xsb 7 _ rfl (Yc3 _) (by omega), Xad, Xsb 8 _ rfl (Ycr _) (by rw [Ycs]; omega), Xad]
  rfl
def Ytj (n : Int) : Nat := if n > 0 then (2 * n - 1).toNat else (-2 * n).toNat
theorem Xyi (n : Int) (h : -500000 ≤ n ∧ n ≤ 500000) : Xnu n = some ((Ytj n : Int), true) := by
 unfold Xnu Ytj
 rw [Xaq, Xad, Xul, Xbf h, Ynl, wkA (e := 2 * n), wkA, wkA]
 split
 ·
  rw [Int.toNat_of_nonneg (by omega)]
 ·
  rw [Int.toNat_of_nonneg (by omega)]
theorem Yqz (n : Int) (h : -500000 ≤ n ∧ n ≤ 500000) : Xqy n = some ((Ytj n : Int), true) := by
 unfold Xqy Ytj
 rw [Xaj, Xad, Xul, Xbf h, Ynl, wkA (e := 2 * n), wkA, wkA]
 split
 ·
  rw [Int.toNat_of_nonneg (by omega)]
 ·
  rw [Int.toNat_of_nonneg (by omega)]
theorem Ybd (n : Int) (h : -500000 ≤ n ∧ n ≤ 500000) : Ytj n ≤ 1000000 := by unfold Ytj; split <;> omega
def seL (n : Int) : List Int := ueL (Ytj n)
theorem Xpp (n : Int) (h : -500000 ≤ n ∧ n ≤ 500000) : (seL n).length ≤ 39 := (Xc7 _ (Ybd n h)).1
theorem Xm9 (n : Int) (h : -500000 ≤ n ∧ n ≤ 500000) : Xjy n = some (strOfNums (seL n)) := by
 unfold Xjy
 rw [Yqz n h, Xad, Xcx _ (Ybd n h), Xad]; rfl
theorem Xp0 (n : Int) (h : -500000 ≤ n ∧ n ≤ 500000) : Xlo n = some (strOfNums (seL n), true) := by
 have := Ybd n h
 unfold Xlo
 rw [Xyi n h, Xad, Xul, Xay]
 unfold Xqb
 rw [Xaq, Xad, Xul, syA, Xgj _ this, Xad, Xad]; rfl
def Yw1 (x : Int) : Bool := decide (-5000 ≤ x ∧ x ≤ 5000)
theorem Yug {x : Int} : Yw1 x = true ↔ -5000 ≤ x ∧ x ≤ 5000 := by simp [Yw1]
def nz : List Int → Nat
 | [] => 0
 | x :: r => if x = 0 then nz r else nz r + 1
theorem Ze9 : ∀ l : List Int, nz l ≤ l.length
 | [] => by simp [nz]
 | x :: r => by rw [nz, List.length_cons]; have := Ze9 r; split <;> omega
def Xx9 : Nat → List Int → List Int
 | _, [] => []
 | g, x :: r => if x = 0 then Xx9 (g + 1) r else ueL g ++ seL x ++ Xx9 0 r
def Yak (l : List Int) : List Int := ueL (nz l) ++ Xx9 0 l
theorem Ynj : ∀ (l : List Int) (g : Nat), Xjh (Xx9 g l)
 | [], _ => Xt3
 | x :: r, g => by
  rw [Xx9]
  split
  ·
   exact Ynj r _
  ·
   exact Xa5 (Xa5 (Xhe _) (Xhe _)) (Ynj r _)
theorem Ycz : ∀ (l : List Int) (g : Nat), l.all Yw1 = true → g + l.length ≤ 1000 → (Xx9 g l).length ≤ 78 * l.length
 | [], _, _, _ => by simp [Xx9]
 | x :: r, g, h, hg => by
  rw [List.all_cons, Bool.and_eq_true, Yug] at h
  rw [List.length_cons] at hg ⊢
  rw [Xx9]
  split
  ·
   have := Ycz r (g + 1) h.2 (by omega); omega
  ·
   have := Ycz r 0 h.2 (by omega)
   have a := Xc7 g (by omega)
   have b := Xpp x (by omega)
   simp only [List.length_append]; omega
theorem Xwj (l : List Int) : Xjh (Yak l) := Xa5 (Xhe _) (Ynj _ _)
theorem Xgm (l : List Int) (h : l.all Yw1 = true) (hl : l.length ≤ 64) : (Yak l).length ≤ 39 + 78 * l.length := by
 have := Ycz l 0 h (by omega)
 have := Ze9 l
 have := Xc7 (nz l) (by omega)
 unfold Yak; rw [List.length_append]; omega
theorem Xjc (l : List Int) (h : l.all Yw1 = true) (hl : l.length ≤ 64) : Xfs l = some (strOfNums (Yak l)) := by
 unfold Xfs
 have key : ∀ (r a : List Int) (n g : Nat) (s : List Int), l = a ++ r → n ≤ a.length → g ≤ a.length → s.length ≤ 78 * a.length → loop (Xgu l) ((n : Int), (g : Int), strOfNums s, (a.length : Int)) = some (((n + nz r : Nat) : Int), strOfNums (s ++ Xx9 g r)) := by
  intro r
  induction r with
  | nil =>
   intro a n g s ha _ _ _
   rw [List.append_nil] at ha
   refine Xd8 ?_
   unfold Xgu
   simp only
   rw [Xav (by rw [ha]; omega), nz, Xx9, List.append_nil]; rfl
  | cons x r ih =>
   intro a n g s ha hn hg hs
   have hlen : a.length < l.length := by rw [ha]; simp
   have hx : l.getD a.length 0 = x := by rw [ha]; exact Xku a x _ r
   have hxi : -5000 ≤ x ∧ x ≤ 5000 := Yug.1 (List.all_eq_true.1 h x (by rw [ha]; simp))
   by_cases e : x = 0
   ·
    have hnext := ih (a ++ [x]) n (g + 1) s (by rw [ha]; simp) (by simp; omega) (by simp; omega) (by simp; omega)
    rw [List.length_append, List.length_singleton] at hnext
    rw [nz, Xx9, if_pos e, if_pos e, ← hnext]
    refine Xde ?_
    unfold Xgu
    simp only [Int.toNat_natCast, hx]
    rw [syA, rqA, Xbt (by simpa using e), Xad, wkA, wkA]
    rfl
   ·
    have u1 := Xc7 g (by omega)
    have u2 := Xpp x (by omega)
    have hnext := ih (a ++ [x]) (n + 1) 0 (s ++ ueL g ++ seL x) (by rw [ha]; simp) (by simp; omega) (by omega) (by simp only [List.length_append, List.length_singleton]; omega)
    rw [List.length_append, List.length_singleton] at hnext
    rw [nz, Xx9, if_neg e, if_neg e, show n + (nz r + 1) = n + 1 + nz r by omega, ← List.append_assoc, ← List.append_assoc, ← hnext]
    refine Xde ?_
    unfold Xgu
    simp only [Int.toNat_natCast, hx]
    rw [syA, rqA, Xbh (by simpa using e), Xcx g (by omega), Xad, Xax (by simp only [strOfNums_size]; omega), rqA, Xm9 x (by omega), Xad, Xa3, Xax (by simp only [strOfNums_size, List.length_append]; omega), Xa3, Xad, wkA, wkA]
    rfl
 have := key l [] 0 0 [] rfl (by omega) (by omega) (by simp)
 refine (Xh6 this).trans ?_
 have hz := Ze9 l
 have u := Xc7 (nz l) (by omega)
 have b := Ycz l 0 h (by omega)
 simp only [Nat.zero_add, List.nil_append]
 rw [Xcx _ (by omega), Xad, Xax (by simp only [strOfNums_size]; omega), Xa3]
 rfl
theorem Ygy (l : List Int) (h : l.all Yw1 = true) (hl : l.length ≤ 64) : Xs6 l = some (Yak l) := by
 have hm : maxLen = 9223372036854775807 := rfl
 unfold Xs6
 have k1 : ∀ (r a : List Int) (n : Nat), l = a ++ r → n ≤ a.length → loop (Xls l) ((n : Int), (a.length : Int)) = some ((n + nz r : Nat) : Int) := by
  intro r
  induction r with
  | nil =>
   intro a n ha _
   rw [List.append_nil] at ha
   refine Xd8 ?_
   unfold Xls
   simp only
   rw [Xav (by rw [ha]; omega)]; rfl
  | cons x r ih =>
   intro a n ha hn
   have hlen : a.length < l.length := by rw [ha]; simp
   have hx : l.getD a.length 0 = x := by rw [ha]; exact Xku a x _ r
   by_cases e : x = 0
   ·
    have hnext := ih (a ++ [x]) n (by rw [ha]; simp) (by simp; omega)
    rw [List.length_append, List.length_singleton] at hnext
    rw [nz, if_pos e, ← hnext]
    refine Xde ?_
    unfold Xls
    simp only [Int.toNat_natCast, hx]
    rw [syA, rqA, Xbh (by simpa using e), Xad, wkA]
    rfl
   ·
    have hnext := ih (a ++ [x]) (n + 1) (by rw [ha]; simp) (by simp; omega)
    rw [List.length_append, List.length_singleton] at hnext
    rw [nz, if_neg e, show n + (nz r + 1) = n + 1 + nz r by omega, ← hnext]
    refine Xde ?_
    unfold Xls
    simp only [Int.toNat_natCast, hx]
    rw [syA, rqA, Xbt (by simpa using e), Xad, wkA, wkA]
    rfl
 refine (Xh6 (k1 l [] 0 rfl (by omega))).trans ?_
 have hz := Ze9 l
 have u := Xc7 (nz l) (by omega)
 simp only [Nat.zero_add]
 rw [Xgj _ (by omega), Xad, Xmu _ (Xc8 (Xhe _)), Xax (by simp only [List.length_nil]; omega), List.nil_append]
 have key : ∀ (r a : List Int) (g : Nat) (s : List Int), l = a ++ r → g ≤ a.length → s.length ≤ 39 + 78 * a.length → loop (Xlt l) ((g : Int), (a.length : Int), s) = some (s ++ Xx9 g r) := by
  intro r
  induction r with
  | nil =>
   intro a g s ha _ _
   rw [List.append_nil] at ha
   refine Xd8 ?_
   unfold Xlt
   simp only
   rw [Xav (by rw [ha]; omega), Xx9, List.append_nil]
  | cons x r ih =>
   intro a g s ha hg hs
   have hlen : a.length < l.length := by rw [ha]; simp
   have hx : l.getD a.length 0 = x := by rw [ha]; exact Xku a x _ r
   have hxi : -5000 ≤ x ∧ x ≤ 5000 := Yug.1 (List.all_eq_true.1 h x (by rw [ha]; simp))
   by_cases e : x = 0
   ·
    have hnext := ih (a ++ [x]) (g + 1) s (by rw [ha]; simp) (by simp; omega) (by simp; omega)
    rw [List.length_append, List.length_singleton] at hnext
    rw [Xx9, if_pos e, ← hnext]
    refine Xde ?_
    unfold Xlt
    simp only [Int.toNat_natCast, hx]
    rw [syA, rqA, Xbt (by simpa using e), Xad, wkA, wkA]
    rfl
   ·
    have u1 := Xc7 g (by omega)
    have u2 := Xpp x (by omega)
    have hnext := ih (a ++ [x]) 0 (s ++ ueL g ++ seL x) (by rw [ha]; simp) (by omega) (by simp only [List.length_append, List.length_singleton]; omega)
    rw [List.length_append, List.length_singleton] at hnext
    rw [Xx9, if_neg e, ← List.append_assoc, ← List.append_assoc, ← hnext]
    refine Xde ?_
    unfold Xlt
    simp only [Int.toNat_natCast, hx]
    rw [syA, rqA, Xbh (by simpa using e), Xyi x (by omega), Xad, Xgj g (by omega), Xad, Xmu _ (Xc8 (Xhe _)), rqA, Xgj _ (Ybd x (by omega)), Xad, Xmu _ (Xc8 (Xhe _)), Xax (by rw [List.length_append]; have : (seL x).length = (ueL (Ytj x)).length := rfl; omega), Xad, wkA]
    rfl
 exact Xh6 (key l [] 0 (ueL (nz l)) rfl (by omega) (by simp; omega))
def Ykt (l : List Int) : Bool := decide (l.length = 64) && l.all Yw1
theorem Ykl (p : Int → Bool) (l : List Int) (f : Int → Option (Lp Int (Ou Unit Bool))) (h : ∀ i : Nat, i < l.length → f (i : Int) = sel (!(p (l.getD i 0))) (some (.done (.ret false))) (some (.go ((i + 1 : Nat) : Int)))) (h0 : f (l.length : Int) = some (.done (.out ()))) :
  loop f 0 = some (if l.all p = true then .out () else .ret false) := by
 have key : ∀ (r a : List Int), l = a ++ r → loop f (a.length : Int) = some (if r.all p = true then .out () else .ret false) := by
  intro r
  induction r with
  | nil => intro a ha; rw [List.append_nil] at ha; rw [← ha, Xch h0]; rfl
  | cons x r ih =>
   intro a ha
   have hlen : a.length < l.length := by rw [ha]; simp
   have hx : l.getD a.length 0 = x := by rw [ha]; exact Xku a x _ r
   have hs := h a.length hlen
   rw [hx] at hs
   cases e : p x with
   | true =>
    rw [e] at hs
    have := ih (a ++ [x]) (by rw [ha]; simp)
    rw [List.length_append, List.length_singleton] at this
    rw [Xde hs, this, List.all_cons, e, Bool.true_and]
   | false => rw [e] at hs; rw [Xch hs, List.all_cons, e, Bool.false_and]; rfl
 exact key l [] rfl
theorem Yr1 (l : List Int) : Xb6 l 64 5000 = some (Ykt l) := by
 unfold Xb6 Ykt
 by_cases h : l.length = 64
 ·
  rw [Xbh (by simp only [bne_eq_false_iff_eq]; omega), Ykl Yw1 l (Xel l 64 5000) (by
   intro i hi
   unfold Xel
   rw [syA, rqA, wkA (e := 0 - 5000), Xaj, Xad, wkA, Int.toNat_natCast]
   rfl) (by unfold Xel; rw [snA]), Xad, decide_eq_true h, Bool.true_and]
  cases l.all Yw1 <;> rfl
 ·
  rw [Xbt (by simp only [bne_iff_ne, ne_eq]; omega), decide_eq_false h, Bool.false_and]
theorem Xmn (l : List Int) (n lo hi : Int) (hl : l.length ≤ 9223372036854775806) : Xbp l n lo hi = some (l.all (fun x => decide (lo ≤ x ∧ x ≤ hi)) && ((l.length : Int) == n)) := by
 unfold Xbp
 rw [Ykl (fun x => decide (lo ≤ x ∧ x ≤ hi)) l (Xmo l lo hi) (by
   intro i hi
   unfold Xmo
   rw [syA, rqA, Xaq, Xad, wkA, Int.toNat_natCast]
   rfl) (by unfold Xmo; rw [snA]), Xad]
 cases l.all (fun x => decide (lo ≤ x ∧ x ≤ hi)) <;> rfl
theorem Xs2 (l : List Int) (hl : l.length ≤ 9223372036854775806) : Xfy l = some (Ykt l) := by
 unfold Xfy Ykt
 rw [Xmn l _ _ _ hl, Xad]
 show some (l.all Yw1 && ((l.length : Int) == 64)) = _
 have : ((l.length : Int) == 64) = decide (l.length = 64) := by rw [Bool.eq_iff_iff]; simp only [beq_iff_eq, decide_eq_true_eq]; omega
 rw [this, Bool.and_comm]
theorem Xxu {l : List Int} (h : Ykt l = true) : l.length = 64 ∧ l.all Yw1 = true := by
 unfold Ykt at h; rw [Bool.and_eq_true, decide_eq_true_eq] at h; exact h
def Zd7 (l : List Int) (c : Xf7) : List Int := if (c.Large || c.Exact) = true then Yak l else Yak (l.take 16) ++ Yak ((l.drop 16).take 16) ++ Yak ((l.drop 32).take 16) ++ Yak (l.drop 48)
theorem Xh8 {l : List Int} (h : l.all Yw1 = true) (n : Nat) : (l.take n).all Yw1 = true := List.all_eq_true.2 fun x hx => List.all_eq_true.1 h x (List.mem_of_mem_take hx)
theorem Xh7 {l : List Int} (h : l.all Yw1 = true) (n : Nat) : (l.drop n).all Yw1 = true := List.all_eq_true.2 fun x hx => List.all_eq_true.1 h x (List.mem_of_mem_drop hx)
theorem Yzt (l : List Int) (c : Xf7) : Xjh (Zd7 l c) := by
 unfold Zd7
 split
 ·
  exact Xwj l
 ·
  exact Xa5 (Xa5 (Xa5 (Xwj _) (Xwj _)) (Xwj _)) (Xwj _)
theorem Xxs {l : List Int} {c : Xf7} (h : Ykt l = true) : (Zd7 l c).length ≤ 5148 := by
 obtain ⟨h1, h2⟩ := Xxu h
 unfold Zd7
 split
 ·
  have := Xgm l h2 (by omega); omega
 ·
  have a := Xgm (l.take 16) (Xh8 h2 _) (by rw [List.length_take]; omega)
  have b := Xgm ((l.drop 16).take 16) (Xh8 (Xh7 h2 _) _) (by rw [List.length_take, List.length_drop]; omega)
  have c := Xgm ((l.drop 32).take 16) (Xh8 (Xh7 h2 _) _) (by rw [List.length_take, List.length_drop]; omega)
  have d := Xgm (l.drop 48) (Xh7 h2 _) (by rw [List.length_drop]; omega)
  rw [List.length_take] at a
  rw [List.length_take, List.length_drop] at b c
  rw [List.length_drop] at d
  simp only [List.length_append]; omega
theorem Xzi (l : List Int) (c : Xf7) (h : Ykt l = true) : Xoj l c = some (strOfNums (Zd7 l c)) := by
 obtain ⟨h1, h2⟩ := Xxu h
 unfold Xoj Zd7
 rw [Yc2, Xad]
 by_cases e : (c.Large || c.Exact) = true
 ·
  rw [Xbt e, if_pos e, Xjc l h2 (by omega), Xad]
 ·
  rw [Xbh (by simpa using e), if_neg e]
  have a := Xgm (l.take 16) (Xh8 h2 _) (by rw [List.length_take]; omega)
  have b := Xgm ((l.drop 16).take 16) (Xh8 (Xh7 h2 _) _) (by rw [List.length_take, List.length_drop]; omega)
  have c := Xgm ((l.drop 32).take 16) (Xh8 (Xh7 h2 _) _) (by rw [List.length_take, List.length_drop]; omega)
  have d := Xgm (l.drop 48) (Xh7 h2 _) (by rw [List.length_drop]; omega)
  have s1 := Xjc (l.take 16) (Xh8 h2 _) (by rw [List.length_take]; omega)
  have s2 := Xjc ((l.drop 16).take 16) (Xh8 (Xh7 h2 _) _) (by rw [List.length_take, List.length_drop]; omega)
  have s3 := Xjc ((l.drop 32).take 16) (Xh8 (Xh7 h2 _) _) (by rw [List.length_take, List.length_drop]; omega)
  have s4 := Xjc (l.drop 48) (Xh7 h2 _) (by rw [List.length_drop]; omega)
  rw [List.length_take] at a
  rw [List.length_take, List.length_drop] at b c
  rw [List.length_drop] at d
  rw [show ((16 : Int).toNat - (0 : Int).toNat) = 16 from rfl, show (0 : Int).toNat = 0 from rfl, List.drop_zero, show ((32 : Int).toNat - (16 : Int).toNat) = 16 from rfl, show (16 : Int).toNat = 16 from rfl, show ((48 : Int).toNat - (32 : Int).toNat) = 16 from rfl, show (32 : Int).toNat = 32 from rfl, show (48 : Int).toNat = 48 from rfl, Int.toNat_natCast, Zgv]
  rw [rqA, s1, Xad, rqA, s2, Xad, Xax (by simp only [strOfNums_size]; omega), rqA, s3, Xad, Xa3, Xax (by simp only [strOfNums_size, List.length_append]; omega), rqA, s4, Xad, Xa3, Xax (by simp only [strOfNums_size, List.length_append]; omega), Xa3]
theorem Xs5 (l : List Int) (c : Xf7) (h : Ykt l = true) : Xhw l c = some (Zd7 l c) := by
 have hm : maxLen = 9223372036854775807 := rfl
 obtain ⟨h1, h2⟩ := Xxu h
 unfold Xhw Zd7
 rw [Yc2, Xad]
 by_cases e : (c.Large || c.Exact) = true
 ·
  rw [Xbt e, if_pos e, Ygy l h2 (by omega), Xad]
 ·
  rw [Xbh (by simpa using e), if_neg e]
  have step : ∀ (n : Nat) (s : List Int), n < 4 → s.length ≤ 4000 → Xdc l ((n : Int), s) = some (.go (((n + 1 : Nat) : Int), s ++ Yak ((l.drop (16 * n)).take 16))) := by
   intro n s hn hs
   have g := Xgm ((l.drop (16 * n)).take 16) (Xh8 (Xh7 h2 _) _) (by rw [List.length_take, List.length_drop]; omega)
   rw [List.length_take, List.length_drop] at g
   unfold Xdc
   simp only
   rw [syA, wkA (e := 16 * (n : Int)), wkA (e := 16 * (n : Int) + 16), rqA, show (16 * (n : Int)).toNat = 16 * n by omega, show (16 * (n : Int) + 16).toNat - 16 * n = 16 by omega, Ygy _ (Xh8 (Xh7 h2 _) _) (by rw [List.length_take, List.length_drop]; omega), Xad, rqA, wkA]
   rfl
  have g0 := Xgm ((l.drop (16 * 0)).take 16) (Xh8 (Xh7 h2 _) _) (by rw [List.length_take, List.length_drop]; omega)
  have g1 := Xgm ((l.drop (16 * 1)).take 16) (Xh8 (Xh7 h2 _) _) (by rw [List.length_take, List.length_drop]; omega)
  have g2 := Xgm ((l.drop (16 * 2)).take 16) (Xh8 (Xh7 h2 _) _) (by rw [List.length_take, List.length_drop]; omega)
  rw [List.length_take, List.length_drop] at g0 g1 g2
  have l4 : ∀ s, Xdc l (((4 : Nat) : Int), s) = some (.done s) := by intro s; unfold Xdc; simp only; rw [snA]
  have e : loop (Xdc l) (((0 : Nat) : Int), []) = some ([] ++ Yak ((l.drop (16 * 0)).take 16) ++ Yak ((l.drop (16 * 1)).take 16) ++ Yak ((l.drop (16 * 2)).take 16) ++ Yak ((l.drop (16 * 3)).take 16)) := by
   rw [Xde (step 0 [] (by omega) (by simp)), Xde (step 1 _ (by omega) (by simp only [List.length_append, List.length_nil]; omega)), Xde (step 2 _ (by omega) (by simp only [List.length_append, List.length_nil]; omega)), Xde (step 3 _ (by omega) (by simp only [List.length_append, List.length_nil]; omega)), Xch (l4 _)]
  refine (Xh6 e).trans ?_
  rw [List.nil_append, show 16 * 0 = 0 from rfl, List.drop_zero, show (l.drop (16 * 3)).take 16 = l.drop 48 from List.take_of_length_le (by rw [List.length_drop]; omega)]
def Xj9 (c : Xf7) : Bool := decide (0 ≤ c.Qp ∧ c.Qp ≤ 40) && !(c.Large && c.Exact)
theorem Xf0 (c : Xf7) : Xha c = some (Xj9 c) := by
 unfold Xha Xj9
 rw [Xaj, Xad, Xum, Xdh, Xad]
 cases c.Large <;> cases c.Exact <;> rfl
theorem Xhv (c : Xf7) : Xfu c = some (Xj9 c) := by
 unfold Xfu Xj9
 rw [Xaq, Xad, Xum, Xdh, Xad]
 cases c.Large <;> cases c.Exact <;> rfl
def Xye (s : Xau) : Bool :=
 if s.Kind = 0 then decide (s.Mode = 0 ∧ s.Dx = 0 ∧ s.Dy = 0 ∧ s.Levels.length = 0)
 else if s.Kind = 1 then decide (s.Mode = 0) && (decide (-16 ≤ s.Dx ∧ s.Dx ≤ 16) && (decide (-16 ≤ s.Dy ∧ s.Dy ≤ 16) && Ykt s.Levels))
 else if s.Kind = 2 then decide (0 ≤ s.Mode ∧ s.Mode ≤ 3) && (decide (s.Dx = 0) && (decide (s.Dy = 0) && Ykt s.Levels))
 else false
theorem Ys9 (a b : Int) : (a == b) = decide (a = b) := by rw [Bool.eq_iff_iff]; simp
theorem Yja (s : Xau) : Xm3 s = some (Xye s) := by
 unfold Xm3 Xye
 simp only [Xaj, Yr1, Xad, Xdh, Ys9]
 simp only [Ynl]
 by_cases h0 : s.Kind = 0
 ·
  rw [if_pos h0, if_pos h0]; congr 1; rw [Bool.eq_iff_iff]; simp
 ·
  rw [if_neg h0, if_neg h0]
  by_cases h1 : s.Kind = 1
  ·
   rw [if_pos h1, if_pos h1]
  ·
   rw [if_neg h1, if_neg h1]
   by_cases h2 : s.Kind = 2
   ·
    rw [decide_eq_true h2, Bool.true_and, if_pos h2]
   ·
    rw [decide_eq_false h2, Bool.false_and, if_neg h2]
theorem Xu2 (s : Xau) (hl : s.Levels.length ≤ 9223372036854775806) : Xjn s = some (Xye s) := by
 unfold Xjn Xye
 simp only [Xaq, Xs2 _ hl, Xad, Xdh, Ys9]
 simp only [Ynl]
 by_cases h0 : s.Kind = 0
 ·
  rw [if_pos h0, if_pos h0]; congr 1; rw [Bool.eq_iff_iff]; simp
 ·
  rw [if_neg h0, if_neg h0]
  by_cases h1 : s.Kind = 1
  ·
   rw [if_pos h1, if_pos h1]
  ·
   rw [if_neg h1, if_neg h1]
   by_cases h2 : s.Kind = 2
   ·
    rw [decide_eq_true h2, Bool.true_and, if_pos h2]
   ·
    rw [decide_eq_false h2, Bool.false_and, if_neg h2]
def Xxh (s : Xau) (c : Xf7) : Bool := !c.Key || s.Kind == 2
def sqL (s : Xau) (c : Xf7) : List Int :=
 (if c.Key = true then [] else ueL s.Kind.toNat) ++
 (if s.Kind = 1 then seL s.Dx ++ seL s.Dy ++ Zd7 s.Levels c else if s.Kind = 2 then ueL s.Mode.toNat ++ Zd7 s.Levels c else [])
theorem Xxi {s : Xau} (h : Xye s = true) : 0 ≤ s.Kind ∧ s.Kind ≤ 2 := by
 unfold Xye at h
 repeat' split at h
 all_goals first | omega | simp at h
theorem Yd5 {s : Xau} (h : Xye s = true) (h1 : s.Kind = 1) : (-16 ≤ s.Dx ∧ s.Dx ≤ 16) ∧ (-16 ≤ s.Dy ∧ s.Dy ≤ 16) ∧ Ykt s.Levels = true := by
 unfold Xye at h
 rw [if_neg (by omega), if_pos h1] at h
 simp only [Bool.and_eq_true, decide_eq_true_eq] at h
 exact ⟨h.2.1, h.2.2.1, h.2.2.2⟩
theorem Ykw {s : Xau} (h : Xye s = true) (h1 : s.Kind = 2) : (0 ≤ s.Mode ∧ s.Mode ≤ 3) ∧ Ykt s.Levels = true := by
 unfold Xye at h
 rw [if_neg (by omega), if_neg (by omega), if_pos h1] at h
 simp only [Bool.and_eq_true, decide_eq_true_eq] at h
 exact ⟨h.1, h.2.2.2⟩
theorem Yy0 (s : Xau) (c : Xf7) : Xjh (sqL s c) := by
 unfold sqL
 refine Xa5 ?_ ?_
 ·
  split
  ·
   exact Xt3
  ·
   exact Xhe _
 ·
  split
  ·
   exact Xa5 (Xa5 (Xhe _) (Xhe _)) (Yzt _ _)
  ·
   split
   ·
    exact Xa5 (Xhe _) (Yzt _ _)
   ·
    exact Xt3
theorem Yy1 {s : Xau} {c : Xf7} (h : Xye s = true) : (sqL s c).length ≤ 5265 := by
 have hk := Xxi h
 have u := Xc7 s.Kind.toNat (by omega)
 have e1 : (if c.Key = true then [] else ueL s.Kind.toNat).length ≤ 39 := by split; simp; exact u.1
 unfold sqL
 rw [List.length_append]
 by_cases h1 : s.Kind = 1
 ·
  obtain ⟨a, b, d⟩ := Yd5 h h1
  have x := Xpp s.Dx (by omega)
  have y := Xpp s.Dy (by omega)
  have z := Xxs (c := c) d
  rw [if_pos h1]; simp only [List.length_append]; omega
 ·
  by_cases h2 : s.Kind = 2
  ·
   obtain ⟨a, d⟩ := Ykw h h2
   have x := Xc7 s.Mode.toNat (by omega)
   have z := Xxs (c := c) d
   rw [if_neg h1, if_pos h2]; simp only [List.length_append]; omega
  ·
   rw [if_neg h1, if_neg h2]; simp only [List.length_nil]; omega
theorem Yr7 (s : Xau) (c : Xf7) (h : Xye s = true) : Xrf s c = some (strOfNums (sqL s c)) := by
 have hk := Xxi h
 have u := Xc7 s.Kind.toNat (by omega)
 unfold Xrf
 have e1 : (sel (!c.Key) (bnd (Xcz s.Kind) fun q2 => some q2) (some ⟨#[]⟩)) = some (strOfNums (if c.Key = true then [] else ueL s.Kind.toNat)) := by
  rw [show s.Kind = ((s.Kind.toNat : Nat) : Int) by omega, Xcx _ (by omega), Xad, Int.toNat_natCast]
  cases c.Key <;> rfl
 rw [e1, Xad]
 have e2 : (if c.Key = true then [] else ueL s.Kind.toNat).length ≤ 39 := by split; simp; exact u.1
 unfold sqL
 generalize (if c.Key = true then [] else ueL s.Kind.toNat) = k at e2 ⊢
 by_cases h1 : s.Kind = 1
 ·
  obtain ⟨a, b, d⟩ := Yd5 h h1
  have x := Xpp s.Dx (by omega)
  have y := Xpp s.Dy (by omega)
  have z := Xxs (c := c) d
  rw [if_pos h1, Xbt (by simpa using h1), Xm9 _ (by omega), Xad, Xax (by simp only [strOfNums_size]; omega), Xm9 _ (by omega), Xad, Xa3, Xax (by simp only [strOfNums_size, List.length_append]; omega), Xzi _ c d, Xad, Xa3, Xax (by simp only [strOfNums_size, List.length_append]; omega), Xa3]
  simp only [List.append_assoc]
 ·
  rw [if_neg h1, Xbh (by simpa using h1)]
  by_cases h2 : s.Kind = 2
  ·
   obtain ⟨a, d⟩ := Ykw h h2
   have x := Xc7 s.Mode.toNat (by omega)
   have z := Xxs (c := c) d
   rw [if_pos h2, Xbt (by simpa using h2), show s.Mode = ((s.Mode.toNat : Nat) : Int) by omega, Xcx _ (by omega), Xad, Xax (by simp only [strOfNums_size]; omega), Xzi _ c d, Xad, Xa3, Xax (by simp only [strOfNums_size, List.length_append]; omega), Xa3, Int.toNat_natCast]
   simp only [List.append_assoc]
  ·
   rw [if_neg h2, Xbh (by simpa using h2), List.append_nil]
theorem Ye3 (s : Xau) (c : Xf7) (hl : s.Levels.length ≤ 9223372036854775806) : Xkg s c = some (if (Xye s && (Xj9 c && Xxh s c)) = true then (strOfNums (sqL s c), true) else (⟨#[]⟩, false)) := by
 have hm : maxLen = 9223372036854775807 := rfl
 unfold Xkg Xe0
 rw [Xu2 s hl, Xad, Xhv, Xad, Xum, Xad, Xad]
 by_cases hok : (Xye s && (Xj9 c && Xxh s c)) = true
 ·
  rw [if_pos hok]
  simp only [Bool.and_eq_true] at hok
  obtain ⟨h, hc, hlet⟩ := hok
  have hk := Xxi h
  have u := Xc7 s.Kind.toNat (by omega)
  unfold Xxh at hlet
  rw [h, hc, Xay, Xay, hlet, Xad, Bool.not_true, Xaw]
  have e1 : (sel (!c.Key) (bnd (Xj5 s.Kind) fun q6 => req ((([] : List Int).length + (Xbb q6).length) * 1 ≤ 140737488355328 ∧ ([] : List Int).length + (Xbb q6).length ≤ maxLen) <| some (([] : List Int) ++ (Xbb q6))) (some ([] : List Int))) = some (if c.Key = true then [] else ueL s.Kind.toNat) := by
   rw [show s.Kind = ((s.Kind.toNat : Nat) : Int) by omega, Xgj _ (by omega), Xad, Xmu _ (Xc8 (Xhe _)), Xax (by simp only [List.length_nil]; omega), Int.toNat_natCast]
   cases c.Key <;> rfl
  rw [e1, Xad]
  have e2 : (if c.Key = true then [] else ueL s.Kind.toNat).length ≤ 39 := by split; simp; exact u.1
  unfold sqL
  generalize (if c.Key = true then [] else ueL s.Kind.toNat) = k at e2 ⊢
  by_cases h1 : s.Kind = 1
  ·
   obtain ⟨a, b, d⟩ := Yd5 h h1
   have x := Xpp s.Dx (by omega)
   have y := Xpp s.Dy (by omega)
   have z := Xxs (c := c) d
   rw [if_pos h1, Xbt (by simpa using h1), Xp0 _ (by omega), Xad, Xp0 _ (by omega), Xad]
   simp only
   rw [Xmu (seL s.Dx) (Xc8 (Xhe _)), Xmu (seL s.Dy) (Xc8 (Xhe _)), rqA, Xax (by rw [List.length_append]; omega), Xs5 _ c d, Xad, Xax (by simp only [List.length_append]; omega), Xad]
   simp only [List.append_assoc]
  ·
   rw [if_neg h1, Xbh (by simpa using h1)]
   by_cases h2 : s.Kind = 2
   ·
    obtain ⟨a, d⟩ := Ykw h h2
    have x := Xc7 s.Mode.toNat (by omega)
    have z := Xxs (c := c) d
    rw [if_pos h2, Xbt (by simpa using h2), show s.Mode = ((s.Mode.toNat : Nat) : Int) by omega, Xgj _ (by omega), Xad, Xmu _ (Xc8 (Xhe _)), rqA, Xs5 _ c d, Xad, Xax (by simp only [List.length_append]; omega), Xad, Int.toNat_natCast]
    simp only [List.append_assoc]
   ·
    rw [if_neg h2, Xbh (by simpa using h2), Xad, List.append_nil]
 ·
  rw [if_neg hok]
  unfold Xxh at hok
  cases h1 : Xye s <;> cases h2 : Xj9 c <;> cases h3 : (!c.Key || s.Kind == 2) <;> simp_all [bnd, sel]
def Xnr : List Xau → Xf7 → List Int
 | [], _ => []
 | s :: r, c => sqL s c ++ Xnr r c
def Yu6 (l : List Xau) (c : Xf7) : Bool := l.all fun s => Xye s && (Xj9 c && Xxh s c)
theorem Ysv : ∀ (l : List Xau) (c : Xf7), Xjh (Xnr l c)
 | [], _ => Xt3
 | s :: r, c => Xa5 (Yy0 s c) (Ysv r c)
theorem Ysw : ∀ {l : List Xau} {c : Xf7}, Yu6 l c = true → (Xnr l c).length ≤ 5265 * l.length
 | [], _, _ => by simp [Xnr]
 | s :: r, c, h => by
  unfold Yu6 at h
  rw [List.all_cons, Bool.and_eq_true, Bool.and_eq_true] at h
  have h1 := Yy1 (c := c) h.1.1
  have h2 := Ysw (l := r) (c := c) h.2
  rw [Xnr, List.length_append, List.length_cons]; omega
def Yva (l : List Xau) (c : Xf7) : ByteArray × Bool := if (decide (1 ≤ l.length ∧ l.length ≤ 64) && Yu6 l c) = true then (strOfNums (Xnr l c), true) else (⟨#[]⟩, false)
theorem Ymk (l : List Xau) (c : Xf7) (hs : ∀ s ∈ l, s.Levels.length ≤ 9223372036854775806) : Xlq l c = some (Yva l c) := by
 have hm : maxLen = 9223372036854775807 := rfl
 unfold Xlq Yva
 rw [Xaq, Xad, Xul]
 by_cases hl : 1 ≤ l.length ∧ l.length ≤ 64
 ·
  rw [syA, decide_eq_true hl, Bool.true_and]
  have key : ∀ (r a : List Xau) (t : List Int), l = a ++ r → t.length ≤ 5265 * a.length → loop (Xgg l c) ((a.length : Int), t) = some (if Yu6 r c = true then .out (t ++ Xnr r c) else .ret (⟨#[]⟩, false)) := by
   intro r
   induction r with
   | nil =>
    intro a t ha _
    rw [List.append_nil] at ha
    exact Xd8 (by unfold Xgg; simp only; rw [Xav (by rw [ha]; omega), Xnr, List.append_nil]; rfl)
   | cons s r ih =>
    intro a t ha ht
    have hlen : a.length < l.length := by rw [ha]; simp
    have hx : l.getD a.length Xnt = s := by rw [ha]; exact Xku a s _ r
    have hone : Yu6 (s :: r) c = ((Xye s && (Xj9 c && Xxh s c)) && Yu6 r c) := by unfold Yu6; rw [List.all_cons]
    have hrow := Ye3 s c (hs s (by rw [ha]; simp))
    rw [hone]
    cases e : (Xye s && (Xj9 c && Xxh s c)) with
    | true =>
     rw [e, if_pos rfl] at hrow
     have hok : Xye s = true := by rw [Bool.and_eq_true] at e; exact e.1
     have g := Yy1 (c := c) hok
     have hn := ih (a ++ [s]) (t ++ sqL s c) (by rw [ha]; simp) (by simp only [List.length_append, List.length_singleton]; omega)
     rw [List.length_append, List.length_singleton] at hn
     rw [Bool.true_and, Xnr, ← List.append_assoc, ← hn]
     refine Xde ?_
     unfold Xgg
     simp only [Int.toNat_natCast, hx]
     rw [syA, rqA, show (⟨s.Kind, s.Mode, s.Dx, s.Dy, s.Levels⟩ : Xau) = s from rfl, hrow, Xad, Xul, Xay, Xmu _ (Xc8 (Yy0 _ _)), rqA, wkA]
     rfl
    | false =>
     rw [e, if_neg (by decide)] at hrow
     rw [Bool.false_and, if_neg (by decide)]
     refine Xd8 ?_
     unfold Xgg
     simp only [Int.toNat_natCast, hx]
     rw [syA, rqA, show (⟨s.Kind, s.Mode, s.Dx, s.Dy, s.Levels⟩ : Xau) = s from rfl, hrow, Xad, Xul, Xaw]
  refine (Xh6 (key l [] [] rfl (by simp))).trans ?_
  cases Yu6 l c <;> rfl
 ·
  rw [snA, decide_eq_false hl, Bool.false_and]; rfl
theorem Xrn (b : ByteArray) (i : Int) : 0 ≤ Xno b i ∧ Xno b i ≤ 255 := by
 unfold Xno
 split
 ·
  rename_i h
  have := (b[i.toNat]'h).toNat_lt
  omega
 ·
  omega
theorem Xbq {p : Pic} (h : Xdg p = true) : (1 ≤ p.Wide ∧ p.Wide ≤ 256) ∧ (1 ≤ p.High ∧ p.High ≤ 256) ∧ (p.Dots.size : Int) = p.Wide * p.High := by
 unfold Xdg at h
 simp only [Bool.and_eq_true, decide_eq_true_eq, beq_iff_eq] at h
 exact ⟨h.1, h.2.1, h.2.2⟩
theorem Yct {p : Pic} (h1 : 1 ≤ p.Wide ∧ p.Wide ≤ 256) (h2 : 1 ≤ p.High ∧ p.High ≤ 256) (h3 : (p.Dots.size : Int) = p.Wide * p.High) : Xdg p = true := by
 unfold Xdg
 simp only [Bool.and_eq_true, decide_eq_true_eq, beq_iff_eq]
 exact ⟨h1, h2, h3⟩
def Xt4 (p : Pic) (x y : Int) : Int := Xno p.Dots (Xbl y 0 (p.High - 1) * p.Wide + Xbl x 0 (p.Wide - 1))
theorem Xt5 (p : Pic) (x y : Int) : 0 ≤ Xt4 p x y ∧ Xt4 p x y ≤ 255 := Xrn _ _
theorem Yv0 {p : Pic} (ok : Xdg p = true) (x y : Int) : 0 ≤ Xbl y 0 (p.High - 1) * p.Wide + Xbl x 0 (p.Wide - 1) ∧ Xbl y 0 (p.High - 1) * p.Wide + Xbl x 0 (p.Wide - 1) < p.Dots.size ∧ 0 ≤ Xbl y 0 (p.High - 1) * p.Wide ∧ Xbl y 0 (p.High - 1) * p.Wide ≤ 65536 := by
 obtain ⟨h1, h2, h3⟩ := Xbq ok
 have b1 := Xeq (n := y) (a := 0) (b := p.High - 1) (by omega)
 have b2 := Xeq (n := x) (a := 0) (b := p.Wide - 1) (by omega)
 have m1 := Int.mul_nonneg b1.1 (show 0 ≤ p.Wide by omega)
 have m2 := Int.mul_le_mul_of_nonneg_right b1.2 (show 0 ≤ p.Wide by omega)
 have m3 : (p.High - 1) * p.Wide = p.Wide * p.High - p.Wide := by rw [Int.sub_mul, Int.one_mul, Int.mul_comm]
 have m4 := (Xga h1 h2).2
 omega
theorem Yms {p : Pic} (ok : Xdg p = true) (x y : Int) : Xfm p x y = some (Xt4 p x y) := by
 obtain ⟨h1, h2, h3⟩ := Xbq ok
 unfold Xfm Xt4
 rw [Xid, Xad, Xid, Xad, wkA (e := p.High - 1), wkA (e := p.Wide - 1)]
 obtain ⟨p1, p2, p3, p4⟩ := Yv0 ok x y
 have b2 := Xeq (n := x) (a := 0) (b := p.Wide - 1) (by omega)
 have br := Xrn p.Dots (Xbl y 0 (p.High - 1) * p.Wide + Xbl x 0 (p.Wide - 1))
 rw [wkA (e := Xbl y 0 (p.High - 1) * p.Wide), wkA (e := Xbl y 0 (p.High - 1) * p.Wide + Xbl x 0 (p.Wide - 1)), Xax ⟨p1, p2⟩, wkA]
theorem Xjw {p : Pic} (ok : Xdg p = true) (x y : Int) : Xff p x y = some (Xt4 p x y) := by
 obtain ⟨h1, h2, h3⟩ := Xbq ok
 unfold Xff Xt4
 rw [Xei, Xad, ok, Bool.not_true, Xaw, Xdv, Xad, Xdv, Xad, wkA (e := p.High - 1), wkA (e := p.Wide - 1)]
 obtain ⟨p1, p2, p3, p4⟩ := Yv0 ok x y
 have b2 := Xeq (n := x) (a := 0) (b := p.Wide - 1) (by omega)
 have br := Xrn p.Dots (Xbl y 0 (p.High - 1) * p.Wide + Xbl x 0 (p.Wide - 1))
 rw [wkA (e := Xbl y 0 (p.High - 1) * p.Wide), wkA (e := Xbl y 0 (p.High - 1) * p.Wide + Xbl x 0 (p.Wide - 1)), Xax ⟨p1, p2⟩, wkA]
def Zaz (p : Pic) (x y : Int) (i : Nat) : Int := Xt4 p (x + ((i % 8 : Nat) : Int)) (y + ((i / 8 : Nat) : Int))
def Xsv (p : Pic) (x y : Int) (n : Nat) : List Int := (List.range n).map (Zaz p x y)
theorem Yvv (p : Pic) (x y : Int) (n : Nat) : Xsv p x y (n + 1) = Xsv p x y n ++ [Zaz p x y n] := by simp [Xsv, List.range_succ]
theorem Xzm (p : Pic) (x y : Int) (n : Nat) : (Xsv p x y n).length = n := by simp [Xsv]
def Yx5 (x : Int) : Bool := decide (0 ≤ x ∧ x ≤ 255)
def Xb4 (l : List Int) : Bool := decide (l.length = 64) && l.all Yx5
theorem Xbx {l : List Int} (h : Xb4 l = true) : l.length = 64 ∧ ∀ i : Nat, i < 64 → 0 ≤ l.getD i 0 ∧ l.getD i 0 ≤ 255 := by
 simp only [Xb4, Bool.and_eq_true, decide_eq_true_eq] at h
 refine ⟨h.1, fun i hi => ?_⟩
 have := List.all_eq_true.1 h.2 (l.getD i 0) (by rw [Xcd l i (by omega)]; exact List.getElem_mem _)
 simpa [Yx5] using this
theorem Xmb (p : Pic) (x y : Int) : Xb4 (Xsv p x y 64) = true := by
 simp only [Xb4, Xzm, decide_true, Bool.true_and, List.all_eq_true]
 intro z hz
 obtain ⟨i, _, rfl⟩ := List.mem_map.1 hz
 simp only [Yx5, decide_eq_true_eq]
 exact Xt5 _ _ _
theorem Xiv {p : Pic} (ok : Xdg p = true) (x y : Int) (hx : -1000 ≤ x ∧ x ≤ 1000) (hy : -1000 ≤ y ∧ y ≤ 1000) : Xfn p x y = some (Xsv p x y 64) := by
 have hm : maxLen = 9223372036854775807 := rfl
 unfold Xfn
 rw [Xei, Xad, ok, Xay, Xaj, Xad, syA, Xaj, Xad, Xad, decide_eq_true (by omega), Bool.not_true, Xaw]
 have key : ∀ i : Nat, i ≤ 64 → loop (Xiw p x y) ((i : Int), Xsv p x y i) = some (Xsv p x y 64) := by
  refine Xgb _ ?_ ?_
  ·
   exact Xd8 (by unfold Xiw; rw [Xav (by simp)])
  ·
   intro i hi ih
   refine lgo (y := (((i + 1 : Nat) : Int), Xsv p x y (i + 1))) ?_ ih
   unfold Xiw
   simp only
   rw [syA, rqA, rqA, Xb1 (by omega), Xb2 (by omega), wkA (e := (i : Int) / 8), wkA (e := x + (i : Int) % 8), wkA (e := y + (i : Int) / 8), Xjw ok, Xad, Xax (by rw [Xzm]; simp only [List.length_singleton]; omega), wkA (e := (i : Int) + 1)]
   have e2 : Xt4 p (x + (i : Int) % 8) (y + (i : Int) / 8) = Zaz p x y i := by unfold Zaz; congr 1
   rw [e2, ← Yvv]
   rfl
 have := key 0 (by omega)
 exact (Xh6 this).trans rfl
theorem Xg7 {p : Pic} (ok : Xdg p = true) (x y : Int) (hx : -1000 ≤ x ∧ x ≤ 1000) (hy : -1000 ≤ y ∧ y ≤ 1000) : Xb8 p x y = some (Xsv p x y 64) := by
 have hm : maxLen = 9223372036854775807 := rfl
 unfold Xb8
 rw [rqA]
 have key : ∀ r : Nat, r ≤ 8 → loop (Xfk p x y) ((r : Int), Xsv p x y (8 * r)) = some (Xsv p x y 64) := by
  refine Xgb _ ?_ ?_
  ·
   exact Xd8 (by unfold Xfk; rw [Xav (by simp)])
  ·
   intro r hr ih
   refine lgo (y := (((r + 1 : Nat) : Int), Xsv p x y (8 * (r + 1)))) ?_ ih
   unfold Xfk
   simp only
   have inner : ∀ c : Nat, c ≤ 8 → loop (Xfl p x y ((r : Int), Xsv p x y (8 * r))) ((c : Int), Xsv p x y (8 * r + c)) = some (Xsv p x y (8 * (r + 1))) := by
    refine Xgb _ ?_ ?_
    ·
     exact Xd8 (by unfold Xfl; rw [Xav (by simp)]; rfl)
    ·
     intro c hc ih2
     refine lgo (y := (((c + 1 : Nat) : Int), Xsv p x y (8 * r + (c + 1)))) ?_ ih2
     unfold Xfl
     simp only
     rw [syA, wkA (e := x + (c : Int)), wkA (e := y + (r : Int)), Yms ok, Xad, Xax (by rw [Xzm]; simp only [List.length_singleton]; omega), wkA (e := (c : Int) + 1)]
     have e2 : Xt4 p (x + (c : Int)) (y + (r : Int)) = Zaz p x y (8 * r + c) := by
      unfold Zaz
      rw [show (8 * r + c) % 8 = c by omega, show (8 * r + c) / 8 = r by omega]
     rw [e2, ← Yvv]
     rfl
   have i0 := inner 0 (by omega)
   rw [syA]
   refine (Xh6 i0).trans ?_
   rw [wkA (e := (r : Int) + 1)]
   rfl
 have := key 0 (by omega)
 exact (Xh6 this).trans rfl
def Ygr (x : Int) : Int := if x < 0 then -x else x
def Xqg (a b : List Int) : Nat → Int
 | 0 => 0
 | n + 1 => Xqg a b n + Ygr (a.getD n 0 - b.getD n 0)
theorem Xlk {a b : List Int} (ha : Xb4 a = true) (hb : Xb4 b = true) : ∀ n : Nat, n ≤ 64 → 0 ≤ Xqg a b n ∧ Xqg a b n ≤ 255 * n
 | 0, _ => by simp [Xqg]
 | n + 1, h => by
  have ih := Xlk ha hb n (by omega)
  have p := (Xbx ha).2 n (by omega)
  have q := (Xbx hb).2 n (by omega)
  simp only [Xqg, Ygr]
  split <;> omega
theorem Xuc {a b : List Int} (ha : Xb4 a = true) (hb : Xb4 b = true) : Xru a b = some (Xqg a b 64) := by
 unfold Xru
 have la := (Xbx ha).1
 have lb := (Xbx hb).1
 have key : ∀ i : Nat, i ≤ 64 → loop (Xqp a b) (Xqg a b i, (i : Int)) = some (Xqg a b 64) := by
  refine Xgb _ ?_ ?_
  ·
   exact Xd8 (by unfold Xqp; rw [Xav (by simp only; omega)])
  ·
   intro i hi ih
   refine lgo (y := (Xqg a b (i + 1), ((i + 1 : Nat) : Int))) ?_ ih
   have p := (Xbx ha).2 i hi
   have q := (Xbx hb).2 i hi
   have g := Xlk ha hb i (by omega)
   unfold Xqp Xo4
   simp only [Int.toNat_natCast]
   rw [syA, rqA, rqA, wkA (e := a.getD i 0 - b.getD i 0), wkA (e := 0 - (a.getD i 0 - b.getD i 0)), Xad]
   have e : (if 0 - (a.getD i 0 - b.getD i 0) > a.getD i 0 - b.getD i 0 then 0 - (a.getD i 0 - b.getD i 0) else a.getD i 0 - b.getD i 0) = Ygr (a.getD i 0 - b.getD i 0) := by
    unfold Ygr; split <;> split <;> omega
   have ab : 0 ≤ Ygr (a.getD i 0 - b.getD i 0) ∧ Ygr (a.getD i 0 - b.getD i 0) ≤ 255 := by unfold Ygr; split <;> omega
   rw [e, wkA (e := Xqg a b i + Ygr (a.getD i 0 - b.getD i 0)), wkA (e := (i : Int) + 1)]
   rfl
 exact (Xh6 (key 0 (by omega))).trans rfl
theorem Xil (l : List Int) (hl : l.length ≤ 9223372036854775806) : Xbp l 64 0 255 = some (Xb4 l) := by
 rw [Xmn l _ _ _ hl]
 have : ((l.length : Int) == 64) = decide (l.length = 64) := by rw [Bool.eq_iff_iff]; simp only [beq_iff_eq, decide_eq_true_eq]; omega
 rw [this, Bool.and_comm]
 rfl
def Zbz (d : Int) : Int := ((seL d).length : Int)
theorem Xoo (d : Int) (h : -500000 ≤ d ∧ d ≤ 500000) : Xny d = some (Zbz d) := by
 unfold Xny Zbz
 rw [Xp0 d h, Xad, strOfNums_size]
theorem Xx0 (d : Int) (h : -500000 ≤ d ∧ d ≤ 500000) : 1 ≤ Zbz d ∧ Zbz d ≤ 39 := by
 unfold Zbz seL
 have := Xc7 (Ytj d) (Ybd d h)
 omega
theorem Yo1 (c : Xbs) (n : Int) (hc : Xqf c) (h0 : 0 ≤ n) (h1 : n ≤ 100000) : ∃ s c', Xpa c n = some (s, c') ∧ (s.size : Int) = n ∧ Xqf c' := by
 have hm : maxLen = 9223372036854775807 := rfl
 unfold Xpa
 obtain ⟨z, c0, ez, z0, z1, hz⟩ := Xe6 c hc
 rw [ez, Xad]
 simp only
 obtain ⟨o, h, h2, h3⟩ := Xr1 (f := Xnf n) (fun v => (0 ≤ v.1 ∧ v.1 ≤ 255) ∧ 0 ≤ v.2.1 ∧ v.2.1 ≤ n ∧ Xqf ⟨v.2.2.1, v.2.2.2.1, v.2.2.2.2.1⟩ ∧ (v.2.2.2.2.2.length : Int) = v.2.1) (fun v => (n - v.2.1).toNat) (fun _ o => (o.1.length : Int) = n ∧ Xqf ⟨o.2.1, o.2.2.1, o.2.2.2⟩) (by
  intro ⟨w, i, b, j, h, l⟩ ⟨hw, h1, h2, h3, h4⟩
  unfold Xnf
  simp only at hw h1 h2 h3 h4 ⊢
  by_cases hi : i < n
  ·
   rw [Xbf hi]
   obtain ⟨x, c', ex, x0, x1, _, hx⟩ := Xa7 _ 6 h3
   rw [ex, Xad]
   simp only
   have step : ∃ w' c2, (sel (x == 0) (bnd (Xco c') fun q16 => some (q16.1, q16.2.b_, q16.2.i_, q16.2.h_)) (sel (x == 1) (bnd (Xa9 c' 9) fun q17 => some ((IntKind.wrap .i64 (BitVec.ofInt (IntKind.bits .i64) (Xaa .i64 ((Xaa .i64 (w + q17.1)) + 252)) &&& BitVec.ofInt (IntKind.bits .i64) 255).toNat), q17.2.b_, q17.2.i_, q17.2.h_)) (some (w, c'.b_, c'.i_, c'.h_)))) = some (w', c2.b_, c2.i_, c2.h_) ∧ (0 ≤ w' ∧ w' ≤ 255) ∧ Xqf c2 := by
    cases e0 : (x == 0) with
    | true =>
     obtain ⟨y, c2, ey, y0, y1, hy⟩ := Xe6 c' hx
     rw [Xay, ey, Xad]
     exact ⟨y, c2, rfl, ⟨y0, y1⟩, hy⟩
    | false =>
     rw [Xaw]
     cases e1 : (x == 1) with
     | true =>
      obtain ⟨y, c2, ey, y0, y1, _, hy⟩ := Xa7 c' 9 hx
      rw [Xay, ey, Xad]
      exact ⟨_, c2, rfl, Yk7 _, hy⟩
     | false => rw [Xaw]; exact ⟨w, c', rfl, hw, hx⟩
   obtain ⟨w', c2, es, hw', hc2⟩ := step
   rw [es, Xad, Xax (by rw [hm]; simp only [List.length_singleton]; omega)]
   refine .inr ⟨_, rfl, ?_, ?_, fun _ h => h⟩
   ·
    simp only
    rw [wkA (e := i + 1)]
    exact ⟨hw', by omega, by omega, hc2, by simp; omega⟩
   ·
    simp only; rw [wkA (e := i + 1)]; omega
  ·
   rw [Xav hi]
   exact .inl ⟨_, rfl, by simp only; omega, h3⟩) (z, 0, c0.b_, c0.i_, c0.h_, []) ⟨⟨z0, z1⟩, by simp, h0, hz, by simp⟩
 rw [h, Xad]
 exact ⟨_, _, rfl, by rw [strOfNums_size]; exact h2, h3⟩
theorem Xvg (c : Xbs) (w h : Int) (hc : Xqf c) (hw : 1 ≤ w ∧ w ≤ 256) (hh : 1 ≤ h ∧ h ≤ 256) : ∃ p c', Xj1 c w h = some (p, c') ∧ p.Wide = w ∧ p.High = h ∧ Xdg p = true ∧ Xqf c' := by
 have a := Xga hw hh
 unfold Xj1
 rw [wkA (e := w * h)]
 obtain ⟨s, c', e, hs, hc'⟩ := Yo1 c (w * h) hc (by omega) (by omega)
 rw [e, Xad]
 exact ⟨_, _, rfl, rfl, rfl, Yct hw hh hs, hc'⟩
theorem Ype (c : Xbs) (p : Pic) (hc : Xqf c) (ok : Xdg p = true) : ∃ q c', Xpb c p = some (q, c') ∧ q.Wide = p.Wide ∧ q.High = p.High ∧ Xdg q = true ∧ Xqf c' := by
 have hm : maxLen = 9223372036854775807 := rfl
 obtain ⟨k1, k2, k3⟩ := Xbq ok
 have ar := Xga k1 k2
 unfold Xpb
 obtain ⟨x, c1, e1, x0, x1, _, h1⟩ := Xa7 c 7 hc
 obtain ⟨y, c2, e2, y0, y1, _, h2⟩ := Xa7 c1 5 h1
 obtain ⟨z, c3, e3, h3⟩ := Xm5 c2 3 h2
 have x1' := x1 (by omega)
 have y1' := y1 (by omega)
 rw [e1, Xad]
 simp only
 rw [e2, Xad]
 simp only
 rw [e3, Xad]
 simp only
 rw [wkA (e := x - 3), wkA (e := y - 2)]
 have hv : ∃ a b : Int, (-10 ≤ a ∧ a ≤ 10) ∧ (-10 ≤ b ∧ b ≤ 10) ∧ sel z (some ((0 : Int), (0 : Int), c3.b_, c3.i_, c3.h_)) (some (x - 3, y - 2, c3.b_, c3.i_, c3.h_)) = some (a, b, c3.b_, c3.i_, c3.h_) := by
  cases z with
  | true => exact ⟨0, 0, by omega, by omega, rfl⟩
  | false => exact ⟨x - 3, y - 2, by omega, by omega, rfl⟩
 obtain ⟨a, b, ha, hb, hv⟩ := hv
 rw [hv, Xad]
 obtain ⟨o, h, ho⟩ := Xr1 (f := Xnk p (a, b, c3.b_, c3.i_, c3.h_)) (fun v => 0 ≤ v.1 ∧ v.1 ≤ (p.Dots.size : Int) ∧ (v.2.length : Int) = v.1) (fun v => ((p.Dots.size : Int) - v.1).toNat) (fun _ o => (o.length : Int) = (p.Dots.size : Int)) (by
  intro ⟨i, l⟩ ⟨g1, g2, g3⟩
  unfold Xnk
  simp only at g1 g2 g3 ⊢
  by_cases hi : i < (p.Dots.size : Int)
  ·
   rw [Xbf hi, rqA, rqA, Xjw ok, Xad, Xax (by rw [hm]; simp only [List.length_singleton]; omega), wkA (e := i + 1)]
   exact .inr ⟨_, rfl, ⟨by simp only; omega, by simp only; omega, by simp; omega⟩, by simp only; omega, fun _ h => h⟩
  ·
   rw [Xav hi]
   exact .inl ⟨_, rfl, by omega⟩) (0, []) ⟨by simp, by simp, by simp⟩
 rw [h, Xad]
 obtain ⟨o2, h', g1, g2⟩ := Xr1 (f := Xnl) (fun v => 0 ≤ v.1 ∧ v.1 ≤ 6 ∧ Xqf ⟨v.2.1, v.2.2.1, v.2.2.2.1⟩ ∧ (v.2.2.2.2.length : Int) = p.Dots.size) (fun v => (6 - v.1).toNat) (fun _ o => (o.1.length : Int) = p.Dots.size ∧ Xqf ⟨o.2.1, o.2.2.1, o.2.2.2⟩) (by
  intro ⟨i, b, j, h, l⟩ ⟨g1, g2, g3, g4⟩
  unfold Xnl
  simp only at g1 g2 g3 g4 ⊢
  obtain ⟨x, c', ex, x0, x1, _, hx⟩ := Xa7 _ 6 g3
  have x1' := x1 (by omega)
  rw [ex, Xad]
  simp only
  by_cases hi : i < x
  ·
   obtain ⟨y, c2, ey, y0, y1, _, hy⟩ := Xa7 c' l.length hx
   have y1' := y1 (by omega)
   obtain ⟨z, c3, ez, z0, z1, hz⟩ := Xe6 c2 hy
   rw [Xbf hi, ey, Xad]
   simp only
   rw [ez, Xad]
   simp only
   rw [rqA, rqA, wkA (e := i + 1)]
   exact .inr ⟨_, rfl, ⟨by simp only; omega, by simp only; omega, hz, by simp only [List.length_set]; omega⟩, by simp only; omega, fun _ h => h⟩
  ·
   rw [Xav hi]
   exact .inl ⟨_, rfl, g4, hx⟩) (0, c3.b_, c3.i_, c3.h_, o) ⟨by simp, by simp, h3, by simp only; omega⟩
 rw [h', Xad]
 refine ⟨_, _, rfl, rfl, rfl, Yct k1 k2 ?_, g2⟩
 simp only
 rw [strOfNums_size]; omega
def Xd6 (p : Pic) (x y : Int) : Bool := decide (0 ≤ x ∧ x ≤ p.Wide - 8 ∧ 0 ≤ y ∧ y ≤ p.High - 8)
theorem Ygw {p : Pic} (ok : Xdg p = true) (x y : Int) : Xke p ⟨x, y, 8, 8⟩ = some (Xd6 p x y) := by
 obtain ⟨k1, k2, k3⟩ := Xbq ok
 unfold Xke Xd6
 simp only
 rw [Xaq, Xad, Xaq, Xad, wkA (e := p.Wide - 8), wkA (e := p.High - 8), Xaq, Xad, Xaq, Xad]
 simp only [Xdh, Xad]
 congr 1
 rw [Bool.eq_iff_iff]
 simp only [Bool.and_eq_true, decide_eq_true_eq]
 omega
theorem Xpl {p : Pic} (ok : Xdg p = true) (x y : Int) (hx : x.tmod 8 = 0) (hy : y.tmod 8 = 0) (h : Xd6 p x y = true) : Xca p x y = some true := by
 obtain ⟨k1, k2, k3⟩ := Xbq ok
 unfold Xd6 at h
 rw [decide_eq_true_eq] at h
 unfold Xca
 rw [rqA, hx, rqA, hy, wkA (e := p.Wide - 8), wkA (e := p.High - 8), Xaq, Xad, Xaq, Xad, decide_eq_true (by omega), decide_eq_true (by omega)]
 rfl
def Xor (p : Pic) (w : List Int) (x y dx dy : Int) : Int := Xqg w (Xsv p (x + dx) (y + dy) 64) 64 + Zbz dx + Zbz dy
def BmI (p : Pic) (w : List Int) (x y r : Int) (past : Bool) (b : Int × Int × Int) : Prop :=
 (b = (0, 0, -1) ∧ past = false) ∨
 ((-r ≤ b.1 ∧ b.1 ≤ r) ∧ (-r ≤ b.2.1 ∧ b.2.1 ≤ r) ∧ Xd6 p (x + b.1) (y + b.2.1) = true ∧ b.2.2 = Xor p w x y b.1 b.2.1 ∧ (past = true → b.2.2 ≤ Xor p w x y 0 0))
theorem Xy0 {p : Pic} {w : List Int} (hw : Xb4 w = true) (x y dx dy : Int) (hx : -100 ≤ dx ∧ dx ≤ 100) (hy : -100 ≤ dy ∧ dy ≤ 100) : 2 ≤ Xor p w x y dx dy ∧ Xor p w x y dx dy ≤ 20000 := by
 have g := Xlk hw (Xmb p (x + dx) (y + dy)) 64 (by omega)
 have a := Xx0 dx (by omega)
 have b := Xx0 dy (by omega)
 unfold Xor; omega
theorem Zgr {p : Pic} {w : List Int} {x y r : Int} (ok : Xdg p = true) (hw : Xb4 w = true) (hr : 0 ≤ r ∧ r ≤ 4) (h0 : Xd6 p x y = true) (s : Int × Int × Int × Int) (hs : -r ≤ s.2.2.2 ∧ s.2.2.2 ≤ r) (v : Int × Int × Int × Int) (hv : -r ≤ v.2.2.2 ∧ v.2.2.2 ≤ r)
  (past : Bool) (hi : BmI p w x y r past (v.1, v.2.1, v.2.2.1)) (hp : past = true ↔ (s.2.2.2 > 0 ∨ (s.2.2.2 = 0 ∧ v.2.2.2 > 0))) :
  ∃ b, Xc9 p w x y r s v = some (.go (b.1, b.2.1, b.2.2, v.2.2.2 + 1)) ∧ BmI p w x y r (decide (s.2.2.2 > 0 ∨ (s.2.2.2 = 0 ∧ v.2.2.2 + 1 > 0))) b := by
 obtain ⟨k1, k2, k3⟩ := Xbq ok
 have h0' := h0
 unfold Xd6 at h0'
 rw [decide_eq_true_eq] at h0'
 unfold Xc9
 rw [Xbf hv.2, wkA (e := x + v.2.2.2), wkA (e := y + s.2.2.2), wkA (e := v.2.2.2 + 1), Ygw ok, Xad]
 cases hh : Xd6 p (x + v.2.2.2) (y + s.2.2.2) with
 | false =>
  refine ⟨(v.1, v.2.1, v.2.2.1), rfl, ?_⟩
  have ne : ¬ (s.2.2.2 = 0 ∧ v.2.2.2 = 0) := by
   intro ⟨e1, e2⟩
   rw [e1, e2, Int.add_zero, Int.add_zero, h0] at hh
   cases hh
  rcases hi with ⟨h1, h2⟩ | ⟨h1, h2, h3, h4, h5⟩
  ·
   refine .inl ⟨h1, ?_⟩
   rw [decide_eq_false_iff_not]
   intro h
   have := hp.2 (by omega)
   rw [h2] at this; cases this
  ·
   refine .inr ⟨h1, h2, h3, h4, fun h => h5 (hp.2 ?_)⟩
   rw [decide_eq_true_eq] at h
   omega
 | true =>
  have hh' := hh
  unfold Xd6 at hh'
  rw [decide_eq_true_eq] at hh'
  have hb := Xmb p (x + v.2.2.2) (y + s.2.2.2)
  have g := Xlk hw hb 64 (by omega)
  have z1 := Xx0 v.2.2.2 (by omega)
  have z2 := Xx0 s.2.2.2 (by omega)
  rw [Bool.not_true, Xaw, Xg7 ok _ _ (by omega) (by omega), Xad, Xuc hw hb, Xad, Xoo _ (by omega), Xad, Xoo _ (by omega), Xad, wkA (e := Xqg w (Xsv p (x + v.2.2.2) (y + s.2.2.2) 64) 64 + Zbz v.2.2.2), wkA, Yc2, Xad]
  have mc : Xqg w (Xsv p (x + v.2.2.2) (y + s.2.2.2) 64) 64 + Zbz v.2.2.2 + Zbz s.2.2.2 = Xor p w x y v.2.2.2 s.2.2.2 := rfl
  rw [mc]
  have m1 := Xy0 (p := p) (w := w) hw x y v.2.2.2 s.2.2.2 (by omega) (by omega)
  cases hc : (decide (v.2.2.1 < 0) || decide (Xor p w x y v.2.2.2 s.2.2.2 < v.2.2.1)) with
  | true =>
   refine ⟨(v.2.2.2, s.2.2.2, Xor p w x y v.2.2.2 s.2.2.2), rfl, .inr ⟨hv, hs, hh, rfl, fun h => ?_⟩⟩
   rw [decide_eq_true_eq] at h
   by_cases e0 : s.2.2.2 = 0 ∧ v.2.2.2 = 0
   ·
    rw [e0.1, e0.2]; exact Int.le_refl _
   ·
    have hpast := hp.2 (by omega)
    rcases hi with ⟨h1, h2⟩ | ⟨h1, h2, h3, h4, h5⟩
    ·
     rw [h2] at hpast; cases hpast
    ·
     have h5' := h5 hpast
     simp only at h4 h5' ⊢
     have n1 := Xy0 (p := p) (w := w) hw x y v.1 v.2.1 (by simp only at h1; omega) (by simp only at h2; omega)
     simp only [Bool.or_eq_true, decide_eq_true_eq] at hc
     omega
  | false =>
   refine ⟨(v.1, v.2.1, v.2.2.1), rfl, ?_⟩
   simp only [Bool.or_eq_false_iff, decide_eq_false_iff_not] at hc
   rcases hi with ⟨h1, h2⟩ | ⟨h1, h2, h3, h4, h5⟩
   ·
    simp only [Prod.mk.injEq] at h1
    omega
   ·
    refine .inr ⟨h1, h2, h3, h4, fun h => ?_⟩
    rw [decide_eq_true_eq] at h
    by_cases e0 : s.2.2.2 = 0 ∧ v.2.2.2 = 0
    ·
     have := hc.2
     rw [e0.1, e0.2] at this
     simp only; omega
    ·
     exact h5 (hp.2 (by omega))
theorem Yhf {p : Pic} {w : List Int} {x y r : Int} (ok : Xdg p = true) (hw : Xb4 w = true) (hr : 0 ≤ r ∧ r ≤ 4) (hx : x.tmod 8 = 0) (hy : y.tmod 8 = 0) (h0 : Xd6 p x y = true) :
  ∃ b, Xeb p w x y r = some b ∧ (-r ≤ b.1 ∧ b.1 ≤ r) ∧ (-r ≤ b.2.1 ∧ b.2.1 ≤ r) ∧ Xd6 p (x + b.1) (y + b.2.1) = true ∧ b.2.2 = Xor p w x y b.1 b.2.1 ∧ b.2.2 ≤ Xor p w x y 0 0 := by
 have hwl := (Xbx hw).1
 unfold Xeb
 rw [Xdl, Xad, ok, Xay, Xil w (by omega), Xad, hw, Xay, Xaq, Xad, decide_eq_true (by omega), Xay, Xpl ok x y hx hy h0, Xad, Bool.not_true, Xad, Xaw, wkA (e := 0 - r)]
 obtain ⟨o, h, ho⟩ := Xr1 (f := Xgc p w x y r) (fun s => -r ≤ s.2.2.2 ∧ s.2.2.2 ≤ r + 1 ∧ BmI p w x y r (decide (s.2.2.2 > 0)) (s.1, s.2.1, s.2.2.1)) (fun s => (r + 1 - s.2.2.2).toNat) (fun _ b => BmI p w x y r true b) (by
  intro s ⟨g1, g2, g3⟩
  unfold Xgc
  by_cases hi : s.2.2.2 ≤ r
  ·
   rw [Xbf hi, wkA (e := s.2.2.2 + 1), wkA (e := 0 - r)]
   obtain ⟨o, h, ho⟩ := Xr1 (f := Xc9 p w x y r s) (fun v => -r ≤ v.2.2.2 ∧ v.2.2.2 ≤ r + 1 ∧ BmI p w x y r (decide (s.2.2.2 > 0 ∨ (s.2.2.2 = 0 ∧ v.2.2.2 > 0))) (v.1, v.2.1, v.2.2.1)) (fun v => (r + 1 - v.2.2.2).toNat) (fun _ b => BmI p w x y r (decide (s.2.2.2 + 1 > 0)) b) (by
    intro v ⟨f1, f2, f3⟩
    by_cases hv : v.2.2.2 ≤ r
    ·
     obtain ⟨b, e, hb⟩ := Zgr ok hw hr h0 s ⟨g1, hi⟩ v ⟨f1, hv⟩ _ f3 (by rw [decide_eq_true_eq])
     exact .inr ⟨_, e, ⟨by simp only; omega, by simp only; omega, hb⟩, by simp only; omega, fun _ h => h⟩
    ·
     refine .inl ⟨(v.1, v.2.1, v.2.2.1), ?_, ?_⟩
     ·
      unfold Xc9; rw [Xav hv]
     ·
      have : decide (s.2.2.2 > 0 ∨ (s.2.2.2 = 0 ∧ v.2.2.2 > 0)) = decide (s.2.2.2 + 1 > 0) := by
       rw [decide_eq_decide]; omega
      rw [this] at f3
      exact f3) (s.1, s.2.1, s.2.2.1, 0 - r) ⟨by simp only; omega, by simp only; omega, by
    have : decide (s.2.2.2 > 0 ∨ (s.2.2.2 = 0 ∧ 0 - r > 0)) = decide (s.2.2.2 > 0) := by rw [decide_eq_decide]; omega
    simp only
    rw [this]; exact g3⟩
   rw [h, Xad]
   exact .inr ⟨_, rfl, ⟨by simp only; omega, by simp only; omega, ho⟩, by simp only; omega, fun _ h => h⟩
  ·
   rw [Xav hi]
   refine .inl ⟨_, rfl, ?_⟩
   rw [decide_eq_true (by omega)] at g3
   exact g3) (0, 0, -1, 0 - r) ⟨by simp only; omega, by simp only; omega, .inl ⟨rfl, by simp only [decide_eq_false_iff_not]; omega⟩⟩
 rw [h, Xad]
 rcases ho with ⟨_, h2⟩ | ⟨h1, h2, h3, h4, h5⟩
 ·
  cases h2
 ·
  exact ⟨_, rfl, h1, h2, h3, h4, h5 rfl⟩
theorem Xx2 (s : ByteArray) : strOfNums (Xbb s) = s := by
 apply ByteArray.ext
 apply Array.ext'
 simp only [strOfNums, Xbb, List.map_map]
 conv => rhs; rw [← List.map_id s.data.toList]
 refine List.map_congr_left fun c _ => ?_
 simp
theorem Ysx {a b : ByteArray} : a.toList = b.toList ↔ a = b := by
 constructor
 ·
  intro h
  rw [ByteArray.toList_eq, ByteArray.toList_eq] at h
  exact ByteArray.ext (Array.ext' h)
 ·
  intro h; rw [h]
def inB (B : Int) (l : List Int) : Prop := ∀ x ∈ l, -B ≤ x ∧ x ≤ B
theorem Xrv {B C : Int} {l : List Int} (h : inB B l) (hc : B ≤ C) : inB C l := fun x hx => by have := h x hx; omega
theorem Xn9 {B : Int} {a b : List Int} (ha : inB B a) (hb : inB B b) : inB B (a ++ b) := fun x hx => (List.mem_append.1 hx).elim (ha x) (hb x)
theorem Yaa (B : Int) : inB B [] := fun x hx => by simp at hx
theorem Yt6 {B x : Int} (h : -B ≤ x ∧ x ≤ B) : inB B [x] := fun y hy => by rw [List.mem_singleton.1 hy]; exact h
theorem Yye {B : Int} {l : List Int} (h : inB B l) (i : Nat) {y : Int} (hy : -B ≤ y ∧ y ≤ B) : inB B (l.set i y) := fun x hx => by
 rcases List.mem_or_eq_of_mem_set hx with hx | hx
 ·
  exact h x hx
 ·
  rw [hx]; exact hy
theorem Yyd (n : Nat) {B : Int} (h : 0 ≤ B) : inB B (List.replicate n 0) := fun x hx => by rw [List.eq_of_mem_replicate hx]; omega
theorem Xo6 {B : Int} {l : List Int} (h : inB B l) {i : Nat} (hi : i < l.length) : -B ≤ l.getD i 0 ∧ l.getD i 0 ≤ B := h _ (by rw [Xcd l i hi]; exact List.getElem_mem _)
theorem Yzl {B : Int} {l : List Int} (h : inB B l) (n : Nat) : inB B (l.take n) := fun x hx => h x (List.mem_of_mem_take hx)
theorem Yzj {B : Int} {l : List Int} (h : inB B l) (n : Nat) : inB B (l.drop n) := fun x hx => h x (List.mem_of_mem_drop hx)
theorem Xea {S : Type} {f : Int × S → Option (Lp (Int × S) S)} (n : Nat) (I : Nat → S → Prop) (hs : ∀ (i : Nat) (l : S), i < n → I i l → ∃ l', f ((i : Int), l) = some (.go (((i + 1 : Nat) : Int), l')) ∧ I (i + 1) l') (he : ∀ l, f ((n : Int), l) = some (.done l)) (l0 : S) (h0 : I 0 l0) : ∃ o, loop f (0, l0) = some o ∧ I n o := by
 have key : ∀ i : Nat, i ≤ n → ∀ l, I i l → ∃ o, loop f ((i : Int), l) = some o ∧ I n o := by
  refine Xgb _ ?_ ?_
  ·
   intro l h; exact ⟨l, Xd8 (he l), h⟩
  ·
   intro i hi ih l h
   obtain ⟨l', e, h'⟩ := hs i l hi h
   obtain ⟨o, e2, h2⟩ := ih l' h'
   exact ⟨o, lgo e e2, h2⟩
 exact key 0 (by omega) l0 h0
theorem Xrm {S : Type} {f : S × Int → Option (Lp (S × Int) S)} (n : Nat) (I : Nat → S → Prop) (hs : ∀ (i : Nat) (l : S), i < n → I i l → ∃ l', f (l, (i : Int)) = some (.go (l', ((i + 1 : Nat) : Int))) ∧ I (i + 1) l') (he : ∀ l, f (l, (n : Int)) = some (.done l)) (l0 : S) (h0 : I 0 l0) : ∃ o, loop f (l0, 0) = some o ∧ I n o := by
 have key : ∀ i : Nat, i ≤ n → ∀ l, I i l → ∃ o, loop f (l, (i : Int)) = some o ∧ I n o := by
  refine Xgb _ ?_ ?_
  ·
   intro l h; exact ⟨l, Xd8 (he l), h⟩
  ·
   intro i hi ih l h
   obtain ⟨l', e, h'⟩ := hs i l hi h
   obtain ⟨o, e2, h2⟩ := ih l' h'
   exact ⟨o, lgo e e2, h2⟩
 exact key 0 (by omega) l0 h0
theorem Xft (l : List Int) (i j : Nat) (y : Int) (hi : i < l.length) : (l.set i y).getD j 0 = if i = j then y else l.getD j 0 := by
 rw [List.getD_eq_getElem?_getD, List.getElem?_set, List.getD_eq_getElem?_getD]
 by_cases h : i = j
 ·
  subst h; rw [if_pos rfl, if_pos rfl, if_pos hi]; rfl
 ·
  rw [if_neg h, if_neg h]
theorem Xoq {f : Int × List Int → Option (Lp (Int × List Int) (List Int))} (n : Nat) (P Q : Int → Prop) (hs : ∀ (i : Nat) (l : List Int), i < n → l.length = n → P (l.getD i 0) → ∃ y, f ((i : Int), l) = some (.go (((i + 1 : Nat) : Int), l.set i y)) ∧ Q y) (he : ∀ l, f ((n : Int), l) = some (.done l)) (l0 : List Int) (h0 : l0.length = n) (hb : ∀ x ∈ l0, P x) : ∃ o, loop f (0, l0) = some o ∧ o.length = n ∧ ∀ x ∈ o, Q x := by
 obtain ⟨o, e, h1, h2, _⟩ := Xea (f := f) n (fun i l => l.length = n ∧ (∀ j, j < i → Q (l.getD j 0)) ∧ ∀ j, i ≤ j → j < n → P (l.getD j 0)) (by
  intro i l hi ⟨g1, g2, g3⟩
  obtain ⟨y, e, hy⟩ := hs i l hi g1 (g3 i (Nat.le_refl _) hi)
  refine ⟨_, e, by rw [List.length_set]; exact g1, fun j hj => ?_, fun j hj hj2 => ?_⟩
  ·
   rw [Xft l i j y (by omega)]
   by_cases h : i = j
   ·
    rw [if_pos h]; exact hy
   ·
    rw [if_neg h]; exact g2 j (by omega)
  ·
   rw [Xft l i j y (by omega), if_neg (by omega)]; exact g3 j (by omega) hj2) he l0 ⟨h0, fun j hj => by omega, fun j _ hj => hb _ (by rw [Xcd l0 j (by omega)]; exact List.getElem_mem _)⟩
 refine ⟨o, e, h1, fun x hx => ?_⟩
 obtain ⟨j, hj, rfl⟩ := List.getElem_of_mem hx
 have := h2 j (by omega)
 rwa [Xcd o j hj] at this
theorem Xcy (l : List Int) (n B : Int) (hn : (l.length : Int) = n) (hn2 : n ≤ 1000000) (hB : 0 ≤ B ∧ B ≤ 100000000) (h : inB B l) : Xb6 l n B = some true := by
 unfold Xb6
 rw [Xbh (by simp only [bne_eq_false_iff_eq]; exact hn), Xtl l.length (f := Xel l n B) (by
  intro i hi
  have := Xo6 h hi
  unfold Xel
  rw [syA, rqA, wkA (e := 0 - B), Xaj, Xad, Int.toNat_natCast, decide_eq_true (by omega), Bool.not_true, Xaw, wkA]
  rfl) (by unfold Xel; rw [snA]), Xad]
def Yc0 (n i : Int) (v17 : Int × Int) : Option (Lp (Int × Int) (Ou Unit Int)) :=
 sel (decide (v17.2 ≤ (Xaa .i64 ((Xaa .i64 (2 * n)) - 2)))) (
 bnd (it (Xq3 n i v17) 20 (v17.1, 0)) fun o47 => match o47 with
 | .out v43 => (
 some (.go (v43, Xaa .i64 (v17.2 + 1))))
 | .ret r => some (.done (.ret r))) (
 some (.done (.out ())))
theorem Yxg {n i : Int} {v : Int × Int} {x : Lp (Int × Int) (Ou Unit Int)} (h : Yc0 n i v = some x) : Xm2 n i v = some x := by
 unfold Yc0 at h
 unfold Xm2
 rcases Xkz h with ⟨hb, h⟩ | ⟨hb, h⟩
 ·
  rw [hb, Xay]
  obtain ⟨a, h1, h2⟩ := Xa8 h
  rw [Xj6.2 ⟨20, h1⟩, Xad]
  exact h2
 ·
  rw [hb, Xaw]; exact h
theorem Ze3 {V O : Type} {f g : V → Option (Lp V O)} (hf : ∀ v y, f v = some y → g v = some y) {o : O} : ∀ (k : Nat) (v : V), it f k v = some o → it g k v = some o
 | 0, v, h => by cases h
 | k + 1, v, h => by
  rw [it] at h ⊢
  cases e : f v with
  | none => rw [e] at h; cases h
  | some s =>
   rw [e] at h
   rw [hf v s e]
   cases s with
   | go y => exact Ze3 hf k y h
   | done o' => exact h
def Xhl (n i : Int) : Int := match it (Yc0 n i) 20 (0, 0) with | some (.ret q) => q | _ => -1
theorem Zff : ∀ i : Fin 16, (0 ≤ Xhl 4 (i.val : Int) ∧ Xhl 4 (i.val : Int) < 16) := by decide +kernel
theorem Zfg : ∀ i : Fin 64, (0 ≤ Xhl 8 (i.val : Int) ∧ Xhl 8 (i.val : Int) < 64) := by decide +kernel
theorem Xir (n : Int) (hn : n = 4 ∨ n = 8) (i : Nat) (hi : (i : Int) < n * n) : 0 ≤ Xhl n i ∧ Xhl n i < n * n := by
 rcases hn with rfl | rfl
 ·
  exact Zff ⟨i, by omega⟩
 ·
  exact Zfg ⟨i, by omega⟩
theorem Xh0 (n : Int) (hn : n = 4 ∨ n = 8) (i : Nat) (hi : (i : Int) < n * n) : Xog n i = some (Xhl n i) := by
 have hp := Xir n hn i hi
 unfold Xog
 have hw : Xaa .i64 (n * n) = n * n := by rcases hn with rfl | rfl <;> exact wkA
 have hc : (sel (n != 4) (sel (n != 8) (some true) (sel (decide ((i : Int) < 0)) (some true) (some (decide ((i : Int) ≥ (Xaa .i64 (n * n))))))) (sel (decide ((i : Int) < 0)) (some true) (some (decide ((i : Int) ≥ (Xaa .i64 (n * n))))))) = some false := by
  rw [hw, Xav (show ¬ (i : Int) < 0 by omega), decide_eq_false (show ¬ (i : Int) ≥ n * n by omega)]
  rcases hn with rfl | rfl <;> rfl
 rw [hc, Xad, Xaw]
 unfold Xhl at hp ⊢
 cases e : it (Yc0 n i) 20 (0, 0) with
 | none => rw [e] at hp; simp only at hp; omega
 | some s =>
  rw [e] at hp
  have h := Ze3 (fun v y => Yxg (n := n) (i := i)) 20 _ e
  rw [Xj6.2 ⟨20, h⟩, Xad]
  cases s with
  | out u => simp only at hp; omega
  | ret q => rfl
theorem Xq7 (n : Int) (hn : n = 4 ∨ n = 8) (l : List Int) (B : Int) (hl : (l.length : Int) = n * n) (hb : inB B l) : ∃ o, Xfp n l = some (o, true) ∧ o.length = l.length ∧ inB B o := by
 have hm : maxLen = 9223372036854775807 := rfl
 have hw : Xaa .i64 (n * n) = n * n := by rcases hn with rfl | rfl <;> exact wkA
 have hl2 : l.length ≤ 64 := by rcases hn with rfl | rfl <;> omega
 unfold Xfp
 have hc : (sel (n != 4) (sel (n != 8) (some true) (some ((l.length : Int) != (Xaa .i64 (n * n))))) (some ((l.length : Int) != (Xaa .i64 (n * n))))) = some false := by
  rw [hw, hl, bne_self_eq_false]
  rcases hn with rfl | rfl <;> rfl
 rw [hc, Xad, Xaw]
 obtain ⟨o, e, h1, h2⟩ := Xea (f := Xdz n l) l.length (fun i s => s.length = i ∧ inB B s) (by
  intro i s hi ⟨g1, g2⟩
  have hp := Xir n hn i (by omega)
  have ha := Xo6 hb (i := (Xhl n i).toNat) (by omega)
  unfold Xdz
  simp only
  rw [hw, syA, Xh0 n hn i (by omega), Xad, rqA, Xax (by simp only [List.length_singleton]; omega), wkA]
  exact ⟨_, rfl, by simp; omega, Xn9 g2 (Yt6 ha)⟩) (by intro s; unfold Xdz; simp only; rw [hw, snA]) [] ⟨rfl, Yaa B⟩
 exact ⟨o, (Xh6 e).trans rfl, h1, h2⟩
theorem Xgr (n : Int) (hn : n = 4 ∨ n = 8) (l : List Int) (B : Int) (hB : 0 ≤ B) (hl : (l.length : Int) = n * n) (hb : inB B l) : ∃ o, Xdn n l = some (o, true) ∧ o.length = l.length ∧ inB B o := by
 have hm : maxLen = 9223372036854775807 := rfl
 have hw : Xaa .i64 (n * n) = n * n := by rcases hn with rfl | rfl <;> exact wkA
 have hl2 : l.length ≤ 64 := by rcases hn with rfl | rfl <;> omega
 unfold Xdn
 have hc : (sel (n != 4) (sel (n != 8) (some true) (some ((l.length : Int) != (Xaa .i64 (n * n))))) (some ((l.length : Int) != (Xaa .i64 (n * n))))) = some false := by
  rw [hw, hl, bne_self_eq_false]
  rcases hn with rfl | rfl <;> rfl
 rw [hc, Xad, Xaw, rqA, Int.toNat_natCast]
 obtain ⟨o, e, h1, h2⟩ := Xea (f := Xcn n l) l.length (fun i s => s.length = l.length ∧ inB B s) (by
  intro i s hi ⟨g1, g2⟩
  have hp := Xir n hn i (by omega)
  have ha := Xo6 hb hi
  unfold Xcn
  simp only
  rw [hw, syA, Xh0 n hn i (by omega), Xad, rqA, rqA, rqA, wkA, Int.toNat_natCast]
  exact ⟨_, rfl, by rw [List.length_set]; exact g1, Yye g2 _ ha⟩) (by intro s; unfold Xcn; simp only; rw [hw, snA]) (List.replicate l.length 0) ⟨List.length_replicate, Yyd _ hB⟩
 exact ⟨o, (Xh6 e).trans rfl, h1, h2⟩
def Xkk (u v : Int) : Int := match it Xkm 10 (1, (IntKind.wrap .i64 (BitVec.ofInt (IntKind.bits .i64) u &&& BitVec.ofInt (IntKind.bits .i64) v).toNat)) with | some q => q | none => 7
theorem Zdp : ∀ u v : Fin 8, (-1 ≤ Xkk (u.val : Int) (v.val : Int) ∧ Xkk (u.val : Int) (v.val : Int) ≤ 1) := by decide +kernel
theorem Xzd (u v : Nat) (hu : u < 8) (hv : v < 8) : ∃ s, Xi0 u v = some s ∧ -1 ≤ s ∧ s ≤ 1 := by
 have h := Zdp ⟨u, hu⟩ ⟨v, hv⟩
 simp only at h
 unfold Xi0
 rw [Xaj, Xad, decide_eq_true (by omega), Xay, Xaj, Xad, decide_eq_true (by omega), Bool.not_true, Xad, Xaw]
 unfold Xkk at h
 cases e : it Xkm 10 (1, (IntKind.wrap .i64 (BitVec.ofInt (IntKind.bits .i64) (u : Int) &&& BitVec.ofInt (IntKind.bits .i64) (v : Int)).toNat)) with
 | none => rw [e] at h; simp only at h; omega
 | some q =>
  rw [e] at h
  rw [Xj6.2 ⟨10, e⟩, Xad]
  exact ⟨q, rfl, h⟩
def Xuu (qp : Int) : Int := if qp.tmod 6 = 0 then 10 else if qp.tmod 6 = 1 then 11 else if qp.tmod 6 = 2 then 13 else if qp.tmod 6 = 3 then 14 else if qp.tmod 6 = 4 then 16 else 18
def Xri (qp : Int) : Int := match it (Xkp qp) 10 (Xuu qp, 0) with | some q => q | none => 0
theorem Zdu : ∀ q : Fin 41, (10 ≤ Xri (q.val : Int) ∧ Xri (q.val : Int) ≤ 1152) := by decide +kernel
theorem Xzf (qp : Int) (h0 : 0 ≤ qp ∧ qp ≤ 40) : ∃ s, Xhc qp = some s ∧ 10 ≤ s ∧ s ≤ 1152 := by
 have h := Zdu ⟨qp.toNat, by omega⟩
 simp only at h
 rw [show ((qp.toNat : Nat) : Int) = qp by omega] at h
 unfold Xhc
 rw [Xaj, Xad, decide_eq_true (by omega), Bool.not_true, Xaw, rqA]
 have hb : (sel ((qp.tmod 6) == 0) (some (10 : Int)) (sel ((qp.tmod 6) == 1) (some 11) (sel ((qp.tmod 6) == 2) (some 13) (sel ((qp.tmod 6) == 3) (some 14) (sel ((qp.tmod 6) == 4) (some 16) (some 18)))))) = some (Xuu qp) := by
  unfold Xuu
  simp only [Ynm, beq_iff_eq]
  repeat' split
  all_goals rfl
 rw [hb, Xad]
 unfold Xri at h
 cases e : it (Xkp qp) 10 (Xuu qp, 0) with
 | none => rw [e] at h; simp only at h; omega
 | some q =>
  rw [e] at h
  rw [Xj6.2 ⟨10, e⟩, Xad]
  exact ⟨q, rfl, h⟩
theorem Xsl (p : Int) (h : 0 ≤ p ∧ p ≤ 15) : ∃ k, Xle p = some k ∧ 0 ≤ k ∧ k ≤ 2 := by
 unfold Xle
 rw [Xaj, Xad, decide_eq_true h, Bool.not_true, Xaw, rqA, rqA, rqA, rqA, Xdh, Xad]
 cases ((Xaa .i64 (p.tdiv 4)).tmod 2 == 0 && (p.tmod 4).tmod 2 == 0) with
 | true => exact ⟨0, rfl, by omega, by omega⟩
 | false =>
  rw [Xaw, Xdh, Xad]
  cases ((Xaa .i64 (p.tdiv 4)).tmod 2 == 1 && (p.tmod 4).tmod 2 == 1) with
  | true => exact ⟨1, rfl, by omega, by omega⟩
  | false => exact ⟨2, rfl, by omega, by omega⟩
theorem Xba (k a b c : Int) : ∃ x, Xbe k a b c = some x ∧ (x = a ∨ x = b ∨ x = c) := by
 unfold Xbe
 cases (k == 0) with
 | true => exact ⟨a, rfl, Or.inl rfl⟩
 | false =>
  cases (k == 1) with
  | true => exact ⟨b, rfl, Or.inr (Or.inl rfl)⟩
  | false => exact ⟨c, rfl, Or.inr (Or.inr rfl)⟩
theorem Zbk (qp : Int) (h0 : 0 ≤ qp ∧ qp ≤ 40) (x : Int) (hx : 0 ≤ x ∧ x ≤ 29) : ∃ o, loop (Xe4 qp) (x, 0) = some o ∧ 0 ≤ o ∧ o ≤ 1856 := by
 obtain ⟨o, e, h1, h2⟩ := Xrm (f := Xe4 qp) (qp / 6).toNat (fun i s => 0 ≤ s ∧ s ≤ 29 * 2 ^ i) (by
  intro i s hi ⟨g1, g2⟩
  have h6 : (2 : Int) ^ i ≤ 64 := by
   have : i ≤ 6 := by omega
   obtain rfl | rfl | rfl | rfl | rfl | rfl | rfl : i = 0 ∨ i = 1 ∨ i = 2 ∨ i = 3 ∨ i = 4 ∨ i = 5 ∨ i = 6 := by omega
   all_goals decide
  have h7 : (2 : Int) ^ (i + 1) = 2 * 2 ^ i := by rw [Int.pow_succ, Int.mul_comm]
  unfold Xe4
  simp only
  rw [rqA, Xb2 (by omega), wkA (e := qp / 6), syA, wkA (e := 2 * s), wkA (e := (i : Int) + 1)]
  exact ⟨_, rfl, by omega, by rw [h7]; omega⟩) (by intro s; unfold Xe4; simp only; rw [rqA, Xb2 (by omega), wkA (e := qp / 6), snA]) x ⟨hx.1, by simp; omega⟩
 have h6 : (2 : Int) ^ (qp / 6).toNat ≤ 64 := by
  generalize hi : (qp / 6).toNat = i
  obtain rfl | rfl | rfl | rfl | rfl | rfl | rfl : i = 0 ∨ i = 1 ∨ i = 2 ∨ i = 3 ∨ i = 4 ∨ i = 5 ∨ i = 6 := by omega
  all_goals decide
 exact ⟨o, e, h1, by omega⟩
theorem Yn9 (qp p : Int) (h0 : 0 ≤ qp ∧ qp ≤ 40) (hp : 0 ≤ p ∧ p ≤ 15) : ∃ s, Xiy qp p = some s ∧ 0 ≤ s ∧ s ≤ 1856 := by
 unfold Xiy
 obtain ⟨k, e, k0, k1⟩ := Xsl p hp
 rw [e, Xad, Xaj, Xad, decide_eq_true h0, Xay, decide_eq_false (by omega), Xad, Xaw, rqA]
 obtain ⟨a1, e1, b1⟩ := Xba k 10 16 13
 obtain ⟨a2, e2, b2⟩ := Xba k 11 18 14
 obtain ⟨a3, e3, b3⟩ := Xba k 13 20 16
 obtain ⟨a4, e4, b4⟩ := Xba k 14 23 18
 obtain ⟨a5, e5, b5⟩ := Xba k 16 25 20
 obtain ⟨a6, e6, b6⟩ := Xba k 18 29 23
 rw [e1, e2, e3, e4, e5, e6]
 simp only [Xad, Zad]
 obtain ⟨o, eo, o1, o2⟩ := Zbk qp h0 (sel (qp.tmod 6 == 0) a1 (sel (qp.tmod 6 == 1) a2 (sel (qp.tmod 6 == 2) a3 (sel (qp.tmod 6 == 3) a4 (sel (qp.tmod 6 == 4) a5 (sel (qp.tmod 6 == 5) a6 0)))))) (by
  simp only [Ynm]
  repeat' split
  all_goals omega)
 exact ⟨o, (Xh6 eo).trans rfl, o1, o2⟩
theorem Yod (qp p : Int) (h0 : 0 ≤ qp ∧ qp ≤ 40) (hp : 0 ≤ p ∧ p ≤ 15) : ∃ s, Xiz qp p = some s ∧ 0 ≤ s ∧ s ≤ 13107 := by
 unfold Xiz
 obtain ⟨k, e, k0, k1⟩ := Xsl p hp
 rw [e, Xad, Xaj, Xad, decide_eq_true h0, Xay, decide_eq_false (by omega), Xad, Xaw, rqA]
 obtain ⟨a1, e1, b1⟩ := Xba k 13107 5243 8066
 obtain ⟨a2, e2, b2⟩ := Xba k 11916 4660 7490
 obtain ⟨a3, e3, b3⟩ := Xba k 10082 4194 6554
 obtain ⟨a4, e4, b4⟩ := Xba k 9362 3647 5825
 obtain ⟨a5, e5, b5⟩ := Xba k 8192 3355 5243
 obtain ⟨a6, e6, b6⟩ := Xba k 7282 2893 4559
 rw [e1, e2, e3, e4, e5, e6]
 simp only [Xad, Zad]
 refine ⟨_, rfl, ?_⟩
 simp only [Ynm]
 repeat' split
 all_goals omega
theorem Yz2 {a s B : Int} (ha : -B ≤ a ∧ a ≤ B) (hs : -1 ≤ s ∧ s ≤ 1) : (-B ≤ a * s ∧ a * s ≤ B) ∧ (-B ≤ s * a ∧ s * a ≤ B) := by
 obtain rfl | rfl | rfl : s = -1 ∨ s = 0 ∨ s = 1 := by omega
 all_goals omega
theorem Yr4 (p : List Int) (B : Int) (hB : 0 ≤ B ∧ B ≤ 1000000000000) (hl : p.length = 64) (hb : inB B p) (i v : Nat) (hi : i < 8) (hv : v < 8) : ∃ o, Xli p i v = some o ∧ -(8 * B) ≤ o ∧ o ≤ 8 * B := by
 unfold Xli
 obtain ⟨o, e, h1, h2⟩ := Xrm (f := Xen p i v) 8 (fun k s => -(B * k) ≤ s ∧ s ≤ B * k) (by
  intro k s hk ⟨g1, g2⟩
  obtain ⟨q, eq, q0, q1⟩ := Xzd v k hv hk
  have ha := Xo6 hb (i := 8 * i + k) (by omega)
  have hm := (Yz2 ha ⟨q0, q1⟩).1
  have hk8 : B * k ≤ B * 8 := Int.mul_le_mul_of_nonneg_left (by omega) hB.1
  have hk0 : B * ((k + 1 : Nat) : Int) = B * k + B := by rw [Int.natCast_add, Int.mul_add]; simp
  unfold Xen
  simp only
  rw [syA, wkA (e := 8 * (i : Int)), wkA (e := 8 * (i : Int) + (k : Int)), rqA, eq, Xad, show (8 * (i : Int) + (k : Int)).toNat = 8 * i + k by omega, wkA (e := p.getD (8 * i + k) 0 * q), wkA (e := s + p.getD (8 * i + k) 0 * q), wkA (e := (k : Int) + 1)]
  exact ⟨_, rfl, by rw [hk0]; omega, by rw [hk0]; omega⟩) (by intro s; unfold Xen; rw [Xav (by simp)]) 0 (by simp)
 exact ⟨o, (Xh6 e).trans rfl, by omega, by omega⟩
theorem Xw9 (p : List Int) (B : Int) (hB : 0 ≤ B ∧ B ≤ 10000000000) (hl : p.length = 64) (hb : inB B p) : ∃ o, Xg0 p = some o ∧ o.length = 64 ∧ inB (64 * B) o := by
 have hm : maxLen = 9223372036854775807 := rfl
 unfold Xg0
 obtain ⟨h, eh, hh1, hh2⟩ := Xea (f := Xc4 p) 8 (fun i s => s.length = 8 * i ∧ inB (8 * B) s) (by
  intro i s hi ⟨g1, g2⟩
  obtain ⟨t, et, t1, t2⟩ := Xea (f := Xc5 p ((i : Int), s)) 8 (fun v s => s.length = 8 * i + v ∧ inB (8 * B) s) (by
   intro v s hv ⟨g1, g2⟩
   obtain ⟨r, er, r1, r2⟩ := Yr4 p B ⟨hB.1, by omega⟩ hl hb i v hi hv
   unfold Xc5
   simp only
   rw [syA, er, Xad, Xax (by simp only [List.length_singleton]; omega), wkA (e := (v : Int) + 1)]
   exact ⟨_, rfl, by simp; omega, Xn9 g2 (Yt6 ⟨by omega, r2⟩)⟩) (by intro s; unfold Xc5; rw [Xav (by simp)]) s ⟨by omega, g2⟩
  unfold Xc4
  simp only
  rw [syA, et, Xad, wkA (e := (i : Int) + 1)]
  exact ⟨_, rfl, by omega, t2⟩) (by intro s; unfold Xc4; rw [Xav (by simp)]) [] ⟨rfl, Yaa _⟩
 rw [eh, Xad]
 obtain ⟨o, eo, o1, o2⟩ := Xea (f := Xcp h) 8 (fun i s => s.length = 8 * i ∧ inB (64 * B) s) (by
  intro i s hi ⟨g1, g2⟩
  obtain ⟨t, et, t1, t2⟩ := Xea (f := Xcq h ((i : Int), s)) 8 (fun v s => s.length = 8 * i + v ∧ inB (64 * B) s) (by
   intro v r hv ⟨g1, g2⟩
   obtain ⟨a, ea, a1, a2⟩ := Xrm (f := Xcr h ((i : Int), s) ((v : Int), r)) 8 (fun k s => -(8 * B * k) ≤ s ∧ s ≤ 8 * B * k) (by
    intro k c hk ⟨g1, g2⟩
    obtain ⟨q, eq, q0, q1⟩ := Xzd i k hi hk
    have ha := Xo6 hh2 (i := 8 * k + v) (by omega)
    have hm := (Yz2 ha ⟨q0, q1⟩).2
    have hk8 : 8 * B * k ≤ 8 * B * 8 := Int.mul_le_mul_of_nonneg_left (by omega) (by omega)
    have hk0 : 8 * B * ((k + 1 : Nat) : Int) = 8 * B * k + 8 * B := by rw [Int.natCast_add, Int.mul_add]; simp
    unfold Xcr
    simp only
    rw [syA, eq, Xad, wkA (e := 8 * (k : Int)), wkA (e := 8 * (k : Int) + (v : Int)), rqA, rqA, show (8 * (k : Int) + (v : Int)).toNat = 8 * k + v by omega, wkA (e := q * h.getD (8 * k + v) 0), wkA (e := c + q * h.getD (8 * k + v) 0), wkA (e := (k : Int) + 1)]
    exact ⟨_, rfl, by rw [hk0]; omega, by rw [hk0]; omega⟩) (by intro s; unfold Xcr; rw [Xav (by simp)]) 0 (by simp)
   unfold Xcq
   simp only
   rw [syA, ea, Xad, Xax (by simp only [List.length_singleton]; omega), wkA (e := (v : Int) + 1)]
   exact ⟨_, rfl, by simp; omega, Xn9 g2 (Yt6 ⟨by omega, by omega⟩)⟩) (by intro s; unfold Xcq; rw [Xav (by simp)]) s ⟨by omega, g2⟩
  unfold Xcp
  simp only
  rw [syA, et, Xad, wkA (e := (i : Int) + 1)]
  exact ⟨_, rfl, by omega, t2⟩) (by intro s; unfold Xcp; rw [Xav (by simp)]) [] ⟨rfl, Yaa _⟩
 exact ⟨o, (Xh6 eo).trans rfl, by omega, o2⟩
theorem Xnb (a b : Int) (ha : -1000000000000 ≤ a ∧ a ≤ 1000000000000) (hb : b = 2 ∨ b = 64) : ∃ d, Xc3 a b = some d ∧ b * d ≤ a ∧ a < b * d + b := by
 unfold Xc3
 have h1 : b * (a.tdiv b) + a.tmod b = a := Int.mul_tdiv_add_tmod a b
 have h2 : -b < a.tmod b ∧ a.tmod b < b := by
  have hb0 : 0 < b := by omega
  refine ⟨?_, Int.tmod_lt_of_pos a hb0⟩
  have := Int.lt_tmod_of_pos a hb0
  omega
 rw [rqA, rqA]
 generalize a.tmod b = m at h1 h2
 generalize a.tdiv b = t at h1 h2
 have ht : -1000000000001 ≤ t ∧ t ≤ 1000000000001 := by rcases hb with rfl | rfl <;> omega
 by_cases h : m < 0
 ·
  rw [Xbf h, Xad, wkA (e := t), wkA (e := t - 1)]
  refine ⟨_, rfl, ?_⟩
  rcases hb with rfl | rfl <;> omega
 ·
  rw [Xav h, Xad, wkA (e := t)]
  refine ⟨_, rfl, ?_⟩
  rcases hb with rfl | rfl <;> omega
theorem Ydb (p : List Int) (hl : p.length = 64) (hb : inB 255 p) : ∃ o, Xoe p = some o ∧ o.length = 64 := by
 unfold Xoe
 obtain ⟨o, e, h1, h2⟩ := Xw9 p 255 (by omega) hl hb
 rw [Xcy p 64 1000 (by omega) (by omega) (by omega) (Xrv hb (by omega)), Xad, Bool.not_true, Xaw, e, Xad]
 exact ⟨o, rfl, h1⟩
theorem Yfr (p : List Int) (hl : p.length = 64) (hb : inB 5760000 p) : ∃ o, Xf1 p = some o ∧ o.length = 64 ∧ inB 10000000 o := by
 unfold Xf1
 obtain ⟨o, e, h1, h2⟩ := Xw9 p 5760000 (by omega) hl hb
 rw [Xcy p 64 10000000 (by omega) (by omega) (by omega) (Xrv hb (by omega)), Xad, Bool.not_true, Xaw, e, Xad]
 obtain ⟨r, er, r1, r2⟩ := Xoq (f := Xgp) 64 (fun x => -368640000 ≤ x ∧ x ≤ 368640000) (fun x => -10000000 ≤ x ∧ x ≤ 10000000) (by
  intro i l hi hll hx
  obtain ⟨d, ed, d1, d2⟩ := Xnb (l.getD i 0 + 32) 64 (by omega) (Or.inr rfl)
  unfold Xgp
  simp only [Int.toNat_natCast]
  rw [syA, rqA, rqA, wkA (e := l.getD i 0 + 32), ed, Xad, rqA, rqA, wkA (e := (i : Int) + 1)]
  exact ⟨d, rfl, by omega, by omega⟩) (by intro s; unfold Xgp; rw [Xav (by simp)]) o h1 (fun x hx => by have := h2 x hx; omega)
 exact ⟨r, (Xh6 er).trans rfl, r1, r2⟩
theorem Xne (p : List Int) (B : Int) (hB : 0 ≤ B) (hl : p.length = 16) (hb : inB B p) : ∃ o, Xem p = some o ∧ o.length = 16 ∧ inB B o := by
 unfold Xem
 rw [rqA]
 obtain ⟨o, e, h1, h2⟩ := Xea (f := Xd3 p) 16 (fun i s => s.length = 16 ∧ inB B s) (by
  intro i s hi ⟨g1, g2⟩
  have ha := Xo6 hb (i := i) (by omega)
  unfold Xd3
  simp only
  rw [syA, rqA, rqA, rqA, Xb1 (by omega), Xb2 (by omega), wkA (e := (i : Int) / 4), wkA (e := (i : Int) % 4 * 4), wkA (e := (i : Int) % 4 * 4 + (i : Int) / 4), rqA, rqA, wkA (e := (i : Int) + 1), Int.toNat_natCast]
  exact ⟨_, rfl, by rw [List.length_set]; exact g1, Yye g2 _ ha⟩) (by intro s; unfold Xd3; rw [Xav (by simp)]) (List.replicate (16 : Int).toNat 0) ⟨by simp, Yyd _ hB⟩
 exact ⟨o, (Xh6 e).trans rfl, h1, h2⟩
theorem Yzk {B a b c d : Int} (h1 : -B ≤ a ∧ a ≤ B) (h2 : -B ≤ b ∧ b ≤ B) (h3 : -B ≤ c ∧ c ≤ B) (h4 : -B ≤ d ∧ d ≤ B) : inB B [a, b, c, d] := fun x hx => by
 simp only [List.mem_cons, List.not_mem_nil, or_false] at hx
 rcases hx with rfl | rfl | rfl | rfl
 ·
  exact h1
 ·
  exact h2
 ·
  exact h3
 ·
  exact h4
theorem Xw6 (p : List Int) (B : Int) (hB : 0 ≤ B ∧ B ≤ 1000000000) (hl : p.length = 16) (hb : inB B p) : ∃ o, Xgz p = some o ∧ o.length = 16 ∧ inB (6 * B) o := by
 have hm : maxLen = 9223372036854775807 := rfl
 unfold Xgz
 obtain ⟨o, e, h1, h2⟩ := Xea (f := Xd4 p) 4 (fun i s => s.length = 4 * i ∧ inB (6 * B) s) (by
  intro i s hi ⟨g1, g2⟩
  have a0 := Xo6 hb (i := 4 * i) (by omega)
  have a1 := Xo6 hb (i := 4 * i + 1) (by omega)
  have a2 := Xo6 hb (i := 4 * i + 2) (by omega)
  have a3 := Xo6 hb (i := 4 * i + 3) (by omega)
  unfold Xd4
  simp only
  rw [syA, wkA (e := 4 * (i : Int)), wkA (e := 4 * (i : Int) + 1), wkA (e := 4 * (i : Int) + 2), wkA (e := 4 * (i : Int) + 3), rqA, rqA, rqA, rqA, show (4 * (i : Int)).toNat = 4 * i by omega, show (4 * (i : Int) + 1).toNat = 4 * i + 1 by omega, show (4 * (i : Int) + 2).toNat = 4 * i + 2 by omega, show (4 * (i : Int) + 3).toNat = 4 * i + 3 by omega]
  generalize p.getD (4 * i) 0 = a at *
  generalize p.getD (4 * i + 1) 0 = b at *
  generalize p.getD (4 * i + 2) 0 = c at *
  generalize p.getD (4 * i + 3) 0 = d at *
  rw [wkA (e := (i : Int) + 1)]
  have w1 : Xaa .i64 (Xaa .i64 (Xaa .i64 (a + b) + c) + d) = a + b + c + d := by
   rw [wkA (e := a + b), wkA (e := a + b + c), wkA]
  have w2 : Xaa .i64 (Xaa .i64 (Xaa .i64 (Xaa .i64 (2 * a) + b) - c) - Xaa .i64 (2 * d)) = 2 * a + b - c - 2 * d := by
   rw [wkA (e := 2 * a), wkA (e := 2 * d), wkA (e := 2 * a + b), wkA (e := 2 * a + b - c), wkA]
  have w3 : Xaa .i64 (Xaa .i64 (Xaa .i64 (a - b) - c) + d) = a - b - c + d := by
   rw [wkA (e := a - b), wkA (e := a - b - c), wkA]
  have w4 : Xaa .i64 (Xaa .i64 (Xaa .i64 (a - Xaa .i64 (2 * b)) + Xaa .i64 (2 * c)) - d) = a - 2 * b + 2 * c - d := by
   rw [wkA (e := 2 * b), wkA (e := 2 * c), wkA (e := a - 2 * b), wkA (e := a - 2 * b + 2 * c), wkA]
  rw [w1, w2, w3, w4, Xax (by simp only [List.length_cons, List.length_nil]; omega)]
  exact ⟨_, rfl, by simp; omega, Xn9 g2 (Yzk (by omega) (by omega) (by omega) (by omega))⟩) (by intro s; unfold Xd4; rw [Xav (by simp)]) [] ⟨rfl, Yaa _⟩
 exact ⟨o, (Xh6 e).trans rfl, h1, h2⟩
theorem Xve (p : List Int) (B : Int) (hB : 0 ≤ B ∧ B ≤ 1000000000) (hl : p.length = 16) (hb : inB B p) : ∃ o, Xfr p = some o ∧ o.length = 16 ∧ inB (4 * B + 2) o := by
 have hm : maxLen = 9223372036854775807 := rfl
 unfold Xfr
 obtain ⟨o, e, h1, h2⟩ := Xea (f := Xc2 p) 4 (fun i s => s.length = 4 * i ∧ inB (4 * B + 2) s) (by
  intro i s hi ⟨g1, g2⟩
  have a0 := Xo6 hb (i := 4 * i) (by omega)
  have a1 := Xo6 hb (i := 4 * i + 1) (by omega)
  have a2 := Xo6 hb (i := 4 * i + 2) (by omega)
  have a3 := Xo6 hb (i := 4 * i + 3) (by omega)
  obtain ⟨f, ef, f1, f2⟩ := Xnb (p.getD (4 * i + 1) 0) 2 (by omega) (Or.inl rfl)
  obtain ⟨g, eg, g1', g2'⟩ := Xnb (p.getD (4 * i + 3) 0) 2 (by omega) (Or.inl rfl)
  unfold Xc2
  simp only
  rw [syA, wkA (e := 4 * (i : Int)), wkA (e := 4 * (i : Int) + 1), wkA (e := 4 * (i : Int) + 2), wkA (e := 4 * (i : Int) + 3), rqA, rqA, rqA, rqA, show (4 * (i : Int)).toNat = 4 * i by omega, show (4 * (i : Int) + 1).toNat = 4 * i + 1 by omega, show (4 * (i : Int) + 2).toNat = 4 * i + 2 by omega, show (4 * (i : Int) + 3).toNat = 4 * i + 3 by omega, ef, Xad, eg, Xad]
  generalize p.getD (4 * i) 0 = a at *
  generalize p.getD (4 * i + 1) 0 = b at *
  generalize p.getD (4 * i + 2) 0 = c at *
  generalize p.getD (4 * i + 3) 0 = d at *
  rw [wkA (e := (i : Int) + 1), wkA (e := a + c), wkA (e := a - c), wkA (e := b + g), wkA (e := f - d), wkA (e := a + c + (b + g)), wkA (e := a - c + (f - d)), wkA (e := a - c - (f - d)), wkA (e := a + c - (b + g)), Xax (by simp only [List.length_cons, List.length_nil]; omega)]
  exact ⟨_, rfl, by simp; omega, Xn9 g2 (Yzk (by omega) (by omega) (by omega) (by omega))⟩) (by intro s; unfold Xc2; rw [Xav (by simp)]) [] ⟨rfl, Yaa _⟩
 exact ⟨o, (Xh6 e).trans rfl, h1, h2⟩
theorem Yg7 (p : List Int) (hl : p.length = 16) (hb : inB 255 p) : ∃ o, Xqz p = some o ∧ o.length = 16 ∧ inB 9180 o := by
 unfold Xqz
 obtain ⟨a, ea, a1, a2⟩ := Xw6 p 255 (by omega) hl hb
 obtain ⟨b, eb, b1, b2⟩ := Xne a (6 * 255) (by omega) a1 a2
 obtain ⟨c, ec, c1, c2⟩ := Xw6 b (6 * 255) (by omega) b1 b2
 obtain ⟨d, ed, d1, d2⟩ := Xne c (6 * (6 * 255)) (by omega) c1 c2
 rw [Xcy p 16 1000 (by omega) (by omega) (by omega) (Xrv hb (by omega)), Xad, Bool.not_true, Xaw, ea, Xad, eb, Xad, ec, Xad, ed, Xad]
 exact ⟨d, rfl, d1, d2⟩
theorem Xu9 (p : List Int) (hl : p.length = 16) (hb : inB 10000000 p) : ∃ o, Xhb p = some o ∧ o.length = 16 ∧ inB 10000000 o := by
 unfold Xhb
 obtain ⟨a, ea, a1, a2⟩ := Xve p 10000000 (by omega) hl hb
 obtain ⟨b, eb, b1, b2⟩ := Xne a _ (by omega) a1 a2
 obtain ⟨c, ec, c1, c2⟩ := Xve b _ (by omega) b1 b2
 obtain ⟨d, ed, d1, d2⟩ := Xne c _ (by omega) c1 c2
 rw [Xcy p 16 10000000 (by omega) (by omega) (by omega) hb, Xad, Bool.not_true, Xaw, ea, Xad, eb, Xad, ec, Xad, ed, Xad]
 obtain ⟨r, er, r1, r2⟩ := Xoq (f := Xho) 16 (fun x => -160000010 ≤ x ∧ x ≤ 160000010) (fun x => -10000000 ≤ x ∧ x ≤ 10000000) (by
  intro i l hi hll hx
  obtain ⟨d, ed, d1, d2⟩ := Xnb (l.getD i 0 + 32) 64 (by omega) (Or.inr rfl)
  unfold Xho
  simp only [Int.toNat_natCast]
  rw [syA, rqA, rqA, wkA (e := l.getD i 0 + 32), ed, Xad, rqA, rqA, wkA (e := (i : Int) + 1)]
  exact ⟨d, rfl, by omega, by omega⟩) (by intro s; unfold Xho; rw [Xav (by simp)]) d d1 (fun x hx => by have := d2 x hx; omega)
 exact ⟨r, (Xh6 er).trans rfl, r1, r2⟩
theorem Xpr (x : Int) (h : -1000000000000 ≤ x ∧ x ≤ 1000000000000) : Xej x = some (Ygr x) := by
 unfold Xej Ygr
 by_cases hx : x < 0
 ·
  rw [Xbf hx, if_pos hx, wkA]; congr 1; omega
 ·
  rw [Xav hx, if_neg hx]
theorem Xtv (w x B : Int) (h : 0 ≤ x ∧ x ≤ B) (hB : B ≤ 1000000000) : ∃ o, Xf6 w x = some o ∧ -B ≤ o ∧ o ≤ B := by
 unfold Xf6
 by_cases hx : w < 0
 ·
  rw [Xbf hx, wkA]; exact ⟨_, rfl, by omega, by omega⟩
 ·
  rw [Xav hx]; exact ⟨_, rfl, by omega, by omega⟩
def Zfh (qp : Int) : Int := Xaa .i64 (1 * 2 ^ min (Xaa .u64 (Xaa .i64 (15 + (Xaa .i64 (qp.tdiv 6))))).toNat (IntKind.bits .i64))
theorem Zfi : ∀ q : Fin 41, (0 ≤ Xaa .u64 (Xaa .i64 (15 + (Xaa .i64 ((q.val : Int).tdiv 6)))) ∧ 32768 ≤ Zfh (q.val : Int) ∧ Zfh (q.val : Int) ≤ 2097152) := by decide +kernel
theorem Xr5 (w qp p : Int) (hw : -9180 ≤ w ∧ w ≤ 9180) (h0 : 0 ≤ qp ∧ qp ≤ 40) (hp : 0 ≤ p ∧ p ≤ 15) : ∃ o, Xe5 w qp p = some o ∧ -5000 ≤ o ∧ o ≤ 5000 := by
 have hs := Zfi ⟨qp.toNat, by omega⟩
 simp only at hs
 rw [show ((qp.toNat : Nat) : Int) = qp by omega] at hs
 obtain ⟨s1, s2, s3⟩ := hs
 obtain ⟨s, es, q0, q1⟩ := Yod qp p h0 hp
 unfold Xe5
 have en : Xaa .i64 (1 * 2 ^ min (Xaa .u64 (Xaa .i64 (15 + (Xaa .i64 (qp.tdiv 6))))).toNat (IntKind.bits .i64)) = Zfh qp := rfl
 rw [Xaj, Xad, decide_eq_true (by omega), Xay, Xaj, Xad, decide_eq_true h0, Xay, Xaj, Xad, decide_eq_true hp, Bool.not_true, Xad, Xaw, rqA, Xax s1, Xpr w (by omega), Xad, es, Xad, rqA, en]
 generalize Zfh qp = n at *
 have ha : 0 ≤ Ygr w ∧ Ygr w ≤ 9180 := by unfold Ygr; split <;> omega
 generalize Ygr w = a at *
 have hm : 0 ≤ a * s ∧ a * s ≤ 9180 * 13107 := ⟨Int.mul_nonneg ha.1 q0, Int.mul_le_mul ha.2 q1 q0 (by omega)⟩
 rw [rqA, wkA (e := a * s), Xb2 (a := n) (by omega), wkA (e := n / 3), wkA (e := a * s + n / 3), Xb2 (by omega)]
 have d0 : 0 ≤ (a * s + n / 3) / n := Int.ediv_nonneg (by omega) (by omega)
 have d1 : (a * s + n / 3) / n < 5000 := Int.ediv_lt_of_lt_mul (by omega) (by omega)
 rw [wkA]
 obtain ⟨o, eo, o1, o2⟩ := Xtv w _ 5000 ⟨d0, by omega⟩ (by omega)
 rw [eo, Xad]
 exact ⟨o, rfl, o1, o2⟩
theorem Xr2 (w qp : Int) (h0 : 0 ≤ qp ∧ qp ≤ 40) : ∃ o, Xe3 w qp = some o ∧ -5000 ≤ o ∧ o ≤ 5000 := by
 unfold Xe3
 rw [Xaj, Xad]
 by_cases hw : -20000 ≤ w ∧ w ≤ 20000
 ·
  obtain ⟨s, es, q0, q1⟩ := Xzf qp h0
  rw [decide_eq_true hw, Xay, Xaj, Xad, decide_eq_true h0, Bool.not_true, Xad, Xaw, es, Xad, Xpr w (by omega), Xad]
  have ha : 0 ≤ Ygr w ∧ Ygr w ≤ 20000 := by unfold Ygr; split <;> omega
  generalize Ygr w = a at *
  rw [rqA, rqA, Xb2 (a := s) (by omega), wkA (e := s / 2), wkA (e := a + s / 2), Xb2 (by omega)]
  have d0 : 0 ≤ (a + s / 2) / s := Int.ediv_nonneg (by omega) (by omega)
  have d1 : (a + s / 2) / s < 5000 := Int.ediv_lt_of_lt_mul (by omega) (by omega)
  rw [wkA]
  obtain ⟨o, eo, o1, o2⟩ := Xtv w _ 5000 ⟨d0, by omega⟩ (by omega)
  rw [eo, Xad]
  exact ⟨o, rfl, o1, o2⟩
 ·
  rw [decide_eq_false hw, Xaw, Xad, Xay]
  exact ⟨0, rfl, by omega, by omega⟩
theorem Xts (l qp p : Int) (hl : -5000 ≤ l ∧ l ≤ 5000) (h0 : 0 ≤ qp ∧ qp ≤ 40) (hp : 0 ≤ p ∧ p ≤ 15) : ∃ o, Xf4 l qp p = some o ∧ -10000000 ≤ o ∧ o ≤ 10000000 := by
 unfold Xf4
 obtain ⟨s, es, q0, q1⟩ := Yn9 qp p h0 hp
 rw [Xaj, Xad, decide_eq_true hl, Bool.not_true, Xaw, es, Xad]
 have m1 : l * s ≤ 5000 * s := Int.mul_le_mul_of_nonneg_right hl.2 q0
 have m2 : -5000 * s ≤ l * s := Int.mul_le_mul_of_nonneg_right hl.1 q0
 rw [wkA]
 exact ⟨_, rfl, by omega, by omega⟩
theorem Xtn (l qp : Int) (hl : -5000 ≤ l ∧ l ≤ 5000) (h0 : 0 ≤ qp ∧ qp ≤ 40) : ∃ o, Xf3 l qp = some o ∧ -5760000 ≤ o ∧ o ≤ 5760000 := by
 unfold Xf3
 obtain ⟨s, es, q0, q1⟩ := Xzf qp h0
 rw [Xaj, Xad, decide_eq_true hl, Bool.not_true, Xaw, es, Xad]
 have m1 : l * s ≤ 5000 * s := Int.mul_le_mul_of_nonneg_right hl.2 (by omega)
 have m2 : -5000 * s ≤ l * s := Int.mul_le_mul_of_nonneg_right hl.1 (by omega)
 rw [wkA]
 exact ⟨_, rfl, by omega, by omega⟩
theorem Yyk {l : List Int} (h1 : l.length = 64) (h2 : inB 5000 l) : Ykt l = true := by
 unfold Ykt
 rw [Bool.and_eq_true, decide_eq_true_eq, List.all_eq_true]
 exact ⟨h1, fun x hx => by unfold Yw1; rw [decide_eq_true_eq]; exact h2 x hx⟩
theorem Ym7 {l : List Int} (h : Ykt l = true) : l.length = 64 ∧ inB 5000 l := by
 obtain ⟨h1, h2⟩ := Xxu h
 refine ⟨h1, fun x hx => ?_⟩
 have := List.all_eq_true.1 h2 x hx
 unfold Yw1 at this
 rwa [decide_eq_true_eq] at this
theorem Ya8 {c : Xf7} (h : Xj9 c = true) : 0 ≤ c.Qp ∧ c.Qp ≤ 40 := by
 unfold Xj9 at h
 rw [Bool.and_eq_true, decide_eq_true_eq] at h
 exact h.1
theorem Xr6 (p : List Int) (k : Nat) (hk : k < 4) (B : Int) (hl : p.length = 64) (hb : inB B p) : ∃ o, Xe7 p k = some o ∧ o.length = 16 ∧ inB B o := by
 have hm : maxLen = 9223372036854775807 := rfl
 unfold Xe7
 obtain ⟨o, e, h1, h2⟩ := Xea (f := Xb0 p k) 16 (fun i s => s.length = i ∧ inB B s) (by
  intro i s hi ⟨g1, g2⟩
  have ha := Xo6 hb (i := (8 * ((k : Int) / 2 * 4 + (i : Int) / 4) + (k : Int) % 2 * 4 + (i : Int) % 4).toNat) (by omega)
  unfold Xb0
  simp only
  rw [syA, rqA, rqA, rqA, rqA, Xb2 (a := (k : Int)) (by omega), Xb2 (a := (i : Int)) (by omega), Xb1 (a := (k : Int)) (by omega), Xb1 (a := (i : Int)) (by omega), wkA (e := (k : Int) / 2), wkA (e := (k : Int) / 2 * 4), wkA (e := (i : Int) / 4), wkA (e := (k : Int) / 2 * 4 + (i : Int) / 4), wkA (e := 8 * ((k : Int) / 2 * 4 + (i : Int) / 4)), wkA (e := (k : Int) % 2 * 4), wkA (e := 8 * ((k : Int) / 2 * 4 + (i : Int) / 4) + (k : Int) % 2 * 4), wkA (e := 8 * ((k : Int) / 2 * 4 + (i : Int) / 4) + (k : Int) % 2 * 4 + (i : Int) % 4), rqA, Xax (by simp only [List.length_singleton]; omega), wkA (e := (i : Int) + 1)]
  exact ⟨_, rfl, by simp; omega, Xn9 g2 (Yt6 ha)⟩) (by intro s; unfold Xb0; rw [Xav (by simp)]) [] ⟨rfl, Yaa _⟩
 exact ⟨o, (Xh6 e).trans rfl, h1, h2⟩
theorem Xvb (p : List Int) (c : Xf7) (hc : Xj9 c = true) (hl : p.length = 64) (hb : inB 255 p) : ∃ o, Xcw p c = some (o, true) ∧ Ykt o = true := by
 have hm : maxLen = 9223372036854775807 := rfl
 have hq := Ya8 hc
 unfold Xcw
 rw [Xf0, Xad, hc, Xay, Xcy p 64 255 (by omega) (by omega) (by omega) hb, Xad, Bool.not_true, Xad, Xaw]
 cases hE : c.Exact with
 | true =>
  obtain ⟨o, e, h1, h2⟩ := Xq7 8 (Or.inr rfl) p 255 (by omega) hb
  rw [Xay, e, Xad]
  exact ⟨o, rfl, Yyk (by omega) (Xrv h2 (by omega))⟩
 | false =>
  rw [Xaw]
  cases hL : c.Large with
  | true =>
   obtain ⟨w, ew, w1⟩ := Ydb p hl hb
   obtain ⟨l, el, l1, l2⟩ := Xoq (f := Xb9 c) 64 (fun _ => True) (fun x => -5000 ≤ x ∧ x ≤ 5000) (by
    intro i l hi hll _
    obtain ⟨d, ed, d1, d2⟩ := Xr2 (l.getD i 0) c.Qp hq
    unfold Xb9
    simp only [Int.toNat_natCast]
    rw [syA, rqA, rqA, ed, Xad, rqA, rqA, wkA (e := (i : Int) + 1)]
    exact ⟨d, rfl, d1, d2⟩) (by intro s; unfold Xb9; rw [Xav (by simp)]) w w1 (fun _ _ => trivial)
   obtain ⟨o, e, h1, h2⟩ := Xq7 8 (Or.inr rfl) l 5000 (by omega) l2
   rw [Xay, ew, Xad, el, Xad, e, Xad]
   exact ⟨o, rfl, Yyk (by omega) h2⟩
  | false =>
   obtain ⟨o, eo, o1, o2⟩ := Xea (f := Xdj p c) 4 (fun k s => s.length = 16 * k ∧ inB 5000 s) (by
    intro k s hk ⟨g1, g2⟩
    obtain ⟨a, ea, a1, a2⟩ := Xr6 p k hk 255 hl hb
    obtain ⟨b, eb, b1, b2⟩ := Yg7 a a1 a2
    obtain ⟨l, el, l1, l2⟩ := Xoq (f := Xbv c) 16 (fun x => -9180 ≤ x ∧ x ≤ 9180) (fun x => -5000 ≤ x ∧ x ≤ 5000) (by
     intro i l hi hll hx
     obtain ⟨d, ed, d1, d2⟩ := Xr5 (l.getD i 0) c.Qp i hx hq (by omega)
     unfold Xbv
     simp only [Int.toNat_natCast]
     rw [syA, rqA, rqA, ed, Xad, rqA, rqA, wkA (e := (i : Int) + 1)]
     exact ⟨d, rfl, d1, d2⟩) (by intro s; unfold Xbv; rw [Xav (by simp)]) b b1 b2
    obtain ⟨r, er, r1, r2⟩ := Xq7 4 (Or.inl rfl) l 5000 (by omega) l2
    unfold Xdj
    simp only
    rw [syA, ea, Xad, eb, Xad, el, Xad, er, Xad]
    simp only
    rw [rqA, wkA (e := (k : Int) + 1)]
    exact ⟨_, rfl, by rw [List.length_append]; omega, Xn9 g2 r2⟩) (by intro s; unfold Xdj; rw [Xav (by simp)]) [] ⟨rfl, Yaa _⟩
   rw [Xaw, eo, Xad]
   exact ⟨o, rfl, Yyk (by omega) o2⟩
theorem Xr4 (p : List Int) (c : Xf7) (hc : Xj9 c = true) (hp : Ykt p = true) : ∃ o, Xdy p c = some (o, true) ∧ o.length = 64 ∧ inB 10000000 o := by
 have hm : maxLen = 9223372036854775807 := rfl
 have hq := Ya8 hc
 obtain ⟨hl, hb⟩ := Ym7 hp
 unfold Xdy
 rw [Xf0, Xad, hc, Xay, Xcy p 64 5000 (by omega) (by omega) (by omega) hb, Xad, Bool.not_true, Xad, Xaw]
 cases hE : c.Exact with
 | true =>
  obtain ⟨o, e, h1, h2⟩ := Xgr 8 (Or.inr rfl) p 5000 (by omega) (by omega) hb
  rw [Xay, e, Xad]
  exact ⟨o, rfl, by omega, Xrv h2 (by omega)⟩
 | false =>
  rw [Xaw]
  cases hL : c.Large with
  | true =>
   obtain ⟨w, ew, w1, w2⟩ := Xgr 8 (Or.inr rfl) p 5000 (by omega) (by omega) hb
   obtain ⟨l, el, l1, l2⟩ := Xoq (f := Xbk c) 64 (fun x => -5000 ≤ x ∧ x ≤ 5000) (fun x => -5760000 ≤ x ∧ x ≤ 5760000) (by
    intro i l hi hll hx
    obtain ⟨d, ed, d1, d2⟩ := Xtn (l.getD i 0) c.Qp hx hq
    unfold Xbk
    simp only [Int.toNat_natCast]
    rw [syA, rqA, rqA, ed, Xad, rqA, rqA, wkA (e := (i : Int) + 1)]
    exact ⟨d, rfl, d1, d2⟩) (by intro s; unfold Xbk; rw [Xav (by simp)]) w (by omega) w2
   obtain ⟨o, e, h1, h2⟩ := Yfr l l1 l2
   rw [Xay, ew, Xad, el, Xad, e, Xad]
   exact ⟨o, rfl, h1, h2⟩
  | false =>
   obtain ⟨o, eo, o1, o2⟩ := Xea (f := Xck p c) 4 (fun k s => s.length = 64 ∧ inB 10000000 s) (by
    intro k s hk ⟨g1, g2⟩
    have hcut : ((p.drop (16 * k)).take 16).length = 16 := by rw [List.length_take, List.length_drop]; omega
    obtain ⟨a, ea, a1, a2⟩ := Xgr 4 (Or.inl rfl) ((p.drop (16 * k)).take 16) 5000 (by omega) (by omega) (Yzl (Yzj hb _) _)
    obtain ⟨l, el, l1, l2⟩ := Xoq (f := Xbg c) 16 (fun x => -5000 ≤ x ∧ x ≤ 5000) (fun x => -10000000 ≤ x ∧ x ≤ 10000000) (by
     intro i l hi hll hx
     obtain ⟨d, ed, d1, d2⟩ := Xts (l.getD i 0) c.Qp i hx hq (by omega)
     unfold Xbg
     simp only [Int.toNat_natCast]
     rw [syA, rqA, rqA, ed, Xad, rqA, rqA, wkA (e := (i : Int) + 1)]
     exact ⟨d, rfl, d1, d2⟩) (by intro s; unfold Xbg; rw [Xav (by simp)]) a (by omega) a2
    obtain ⟨b, eb, b1, b2⟩ := Xu9 l l1 l2
    obtain ⟨r, er, r1, r2⟩ := Xea (f := Xbm ((k : Int), s) b) 16 (fun i s => s.length = 64 ∧ inB 10000000 s) (by
     intro i s hi ⟨g1, g2⟩
     have ha := Xo6 b2 (i := i) (by omega)
     unfold Xbm
     simp only
     rw [syA, rqA, rqA, rqA, rqA, rqA, rqA, Xb2 (a := (k : Int)) (by omega), Xb2 (a := (i : Int)) (by omega), Xb1 (a := (k : Int)) (by omega), Xb1 (a := (i : Int)) (by omega), wkA (e := (k : Int) / 2), wkA (e := (k : Int) / 2 * 4), wkA (e := (i : Int) / 4), wkA (e := (k : Int) / 2 * 4 + (i : Int) / 4), wkA (e := 8 * ((k : Int) / 2 * 4 + (i : Int) / 4)), wkA (e := (k : Int) % 2 * 4), wkA (e := 8 * ((k : Int) / 2 * 4 + (i : Int) / 4) + (k : Int) % 2 * 4), wkA (e := 8 * ((k : Int) / 2 * 4 + (i : Int) / 4) + (k : Int) % 2 * 4 + (i : Int) % 4), rqA, rqA, wkA (e := (i : Int) + 1), Int.toNat_natCast]
     exact ⟨_, rfl, by rw [List.length_set]; exact g1, Yye g2 _ ha⟩) (by intro s; unfold Xbm; rw [Xav (by simp)]) s ⟨g1, g2⟩
    unfold Xck
    simp only
    rw [syA, wkA (e := 16 * (k : Int)), wkA (e := 16 * (k : Int) + 16), rqA, show (16 * (k : Int)).toNat = 16 * k by omega, show (16 * (k : Int) + 16).toNat - 16 * k = 16 by omega, ea, Xad, el, Xad, eb, Xad, er, Xad, wkA (e := (k : Int) + 1)]
    exact ⟨_, rfl, r1, r2⟩) (by intro s; unfold Xck; rw [Xav (by simp)]) (List.replicate (64 : Int).toNat 0) ⟨by simp, Yyd _ (by omega)⟩
   rw [Xaw, rqA, eo, Xad]
   exact ⟨o, rfl, o1, o2⟩
theorem Xhs (l : List Int) (h : Xb4 l = true) : Xeo l = some true := by
 obtain ⟨h1, h2⟩ := Xbx h
 unfold Xeo
 rw [Xbh (by simp only [bne_eq_false_iff_eq]; omega), Xtl l.length (f := Xd5 l) (by
  intro i hi
  have := h2 i (by omega)
  unfold Xd5
  rw [syA, rqA, Xaj, Xad, Int.toNat_natCast, decide_eq_true this, Bool.not_true, Xaw, wkA]
  rfl) (by unfold Xd5; rw [snA]), Xad]
theorem Yv1 {l : List Int} (h1 : l.length = 64) (h2 : ∀ x ∈ l, 0 ≤ x ∧ x ≤ 255) : Xb4 l = true := by
 unfold Xb4
 rw [Bool.and_eq_true, decide_eq_true_eq, List.all_eq_true]
 exact ⟨h1, fun x hx => by unfold Yx5; rw [decide_eq_true_eq]; exact h2 x hx⟩
theorem Xy6 (g b : List Int) (hg : Xb4 g = true) (hl : b.length = 64) (hb : inB 10000000 b) : ∃ o, Xix g b = some o ∧ Xb4 o = true := by
 have hm : maxLen = 9223372036854775807 := rfl
 obtain ⟨g1, g2⟩ := Xbx hg
 unfold Xix
 rw [Xhs g hg, Xad, Xay, Xcy b 64 10000000 (by omega) (by omega) (by omega) hb, Xad, Bool.not_true, Xad, Xaw]
 obtain ⟨o, e, h1, h2⟩ := Xea (f := Xf2 g b) 64 (fun i s => s.length = i ∧ ∀ x ∈ s, 0 ≤ x ∧ x ≤ 255) (by
  intro i s hi ⟨k1, k2⟩
  have ha := Xo6 hb (i := i) (by omega)
  have hd := g2 i hi
  have br := Xeq (n := g.getD i 0 + b.getD i 0) (a := 0) (b := 255) (by omega)
  unfold Xf2
  simp only [Int.toNat_natCast]
  rw [syA, rqA, rqA, wkA (e := g.getD i 0 + b.getD i 0), Xdv, Xad, Xax (by simp only [List.length_singleton]; omega), wkA (e := (i : Int) + 1)]
  refine ⟨_, rfl, by simp; omega, fun x hx => ?_⟩
  rcases List.mem_append.1 hx with hx | hx
  ·
   exact k2 x hx
  ·
   rw [List.mem_singleton.1 hx]; exact br) (by intro s; unfold Xf2; rw [Xav (by simp)]) [] ⟨rfl, fun x hx => by simp at hx⟩
 exact ⟨o, (Xh6 e).trans rfl, Yv1 h1 h2⟩
def Xvu (e : Xji) : Prop := (e.Above.length = 0 ∨ e.Above.length = 8) ∧ (e.Left.length = 0 ∨ e.Left.length = 8) ∧ (∀ x ∈ e.Above, 0 ≤ x ∧ x ≤ 255) ∧ (∀ x ∈ e.Left, 0 ≤ x ∧ x ≤ 255) ∧ -1 ≤ e.Corner ∧ e.Corner ≤ 255
theorem Xvh {p : Pic} (ok : Xdg p = true) (x y : Int) : Xh3 p x y 8 8 = some (Xd6 p x y) := by
 obtain ⟨k1, k2, k3⟩ := Xbq ok
 unfold Xh3 Xd6
 rw [Xei, Xad, ok, Xay, Xaj, Xad, Xaj, Xad, wkA (e := p.Wide - 8), wkA (e := p.High - 8), Xaj, Xad, Xaj, Xad]
 simp only [Xdh, Xad]
 congr 1
 rw [Bool.eq_iff_iff]
 simp only [Bool.and_eq_true, decide_eq_true_eq]
 omega
theorem Xht {p : Pic} (ok : Xdg p = true) {x y : Int} (hx : x.tmod 8 = 0) (hy : y.tmod 8 = 0) (h : Xd6 p x y = true) : Xg1 p x y = some true := by
 unfold Xg1
 rw [rqA, hx, rqA, hy, Xvh ok, Xad, h]
 rfl
theorem Xwm {p : Pic} (ok : Xdg p = true) {x y : Int} (hx : x.tmod 8 = 0) (hy : y.tmod 8 = 0) (h : Xd6 p x y = true) : ∃ e, Xfo p x y = some (e, true) ∧ Xvu e := by
 have hm : maxLen = 9223372036854775807 := rfl
 obtain ⟨k1, k2, k3⟩ := Xbq ok
 have h' := h
 unfold Xd6 at h'
 rw [decide_eq_true_eq] at h'
 unfold Xfo
 rw [Xht ok hx hy h, Xad, Bool.not_true, Xaw]
 obtain ⟨o, e, o1, o2, o3, o4, o5, o6⟩ := Xea (f := Xe2 p x y) 8 (fun i s => (y > 0 → s.1.length = i) ∧ (¬ y > 0 → s.1.length = 0) ∧ (x > 0 → s.2.length = i) ∧ (¬ x > 0 → s.2.length = 0) ∧ (∀ z ∈ s.1, 0 ≤ z ∧ z ≤ 255) ∧ (∀ z ∈ s.2, 0 ≤ z ∧ z ≤ 255)) (by
  intro i s hi ⟨g1, g2, g3, g4, g5, g6⟩
  obtain ⟨a, b⟩ := s
  simp only at g1 g2 g3 g4 g5 g6
  have d1 := Xt5 p (x + i) (y - 1)
  have d2 := Xt5 p (x - 1) (y + i)
  have st1 : ∃ a', (sel (decide (y > 0)) (bnd (Xff p (Xaa .i64 (x + (i : Int))) (Xaa .i64 (y - 1))) fun q16 => req ((a.length + ([q16]).length) * 8 ≤ 140737488355328 ∧ a.length + ([q16]).length ≤ maxLen) <| some (a ++ ([q16]))) (some a)) = some a' ∧ (y > 0 → a'.length = i + 1) ∧ (¬ y > 0 → a'.length = 0) ∧ (∀ z ∈ a', 0 ≤ z ∧ z ≤ 255) := by
   by_cases c : y > 0
   ·
    rw [Xbf c, wkA (e := x + (i : Int)), wkA (e := y - 1), Xjw ok, Xad, Xax (by simp only [List.length_singleton]; have := g1 c; omega)]
    refine ⟨_, rfl, fun _ => by simp; exact g1 c, fun hn => absurd c hn, fun z hz => ?_⟩
    rcases List.mem_append.1 hz with hz | hz
    ·
     exact g5 z hz
    ·
     rw [List.mem_singleton.1 hz]; exact d1
   ·
    rw [Xav c]
    exact ⟨_, rfl, fun hn => absurd hn c, fun _ => g2 c, g5⟩
  obtain ⟨a', ea, a1, a2, a3⟩ := st1
  have st2 : ∃ b', (sel (decide (x > 0)) (bnd (Xff p (Xaa .i64 (x - 1)) (Xaa .i64 (y + (i : Int)))) fun q17 => req ((b.length + ([q17]).length) * 8 ≤ 140737488355328 ∧ b.length + ([q17]).length ≤ maxLen) <| some (a', (b ++ ([q17])))) (some (a', b))) = some (a', b') ∧ (x > 0 → b'.length = i + 1) ∧ (¬ x > 0 → b'.length = 0) ∧ (∀ z ∈ b', 0 ≤ z ∧ z ≤ 255) := by
   by_cases c : x > 0
   ·
    rw [Xbf c, wkA (e := y + (i : Int)), wkA (e := x - 1), Xjw ok, Xad, Xax (by simp only [List.length_singleton]; have := g3 c; omega)]
    refine ⟨_, rfl, fun _ => by simp; exact g3 c, fun hn => absurd c hn, fun z hz => ?_⟩
    rcases List.mem_append.1 hz with hz | hz
    ·
     exact g6 z hz
    ·
     rw [List.mem_singleton.1 hz]; exact d2
   ·
    rw [Xav c]
    exact ⟨_, rfl, fun hn => absurd hn c, fun _ => g4 c, g6⟩
  obtain ⟨b', eb, b1, b2, b3⟩ := st2
  unfold Xe2
  simp only
  rw [syA, ea, Xad, eb, Xad, wkA (e := (i : Int) + 1)]
  exact ⟨(a', b'), rfl, a1, a2, b1, b2, a3, b3⟩) (by intro s; unfold Xe2; rw [Xav (by simp)]) ([], []) ⟨fun _ => rfl, fun _ => rfl, fun _ => rfl, fun _ => rfl, fun z hz => by simp at hz, fun z hz => by simp at hz⟩
 rw [e, Xad, Xdh, Xad]
 have d3 := Xt5 p (x - 1) (y - 1)
 have ha : o.1.length = 0 ∨ o.1.length = 8 := by
  by_cases c : y > 0
  ·
   exact Or.inr (o1 c)
  ·
   exact Or.inl (o2 c)
 have hb : o.2.length = 0 ∨ o.2.length = 8 := by
  by_cases c : x > 0
  ·
   exact Or.inr (o3 c)
  ·
   exact Or.inl (o4 c)
 cases hc : (decide (x > 0) && decide (y > 0)) with
 | true =>
  rw [Xay, wkA (e := x - 1), wkA (e := y - 1), Xjw ok, Xad, Xad]
  exact ⟨_, rfl, ha, hb, o5, o6, by simp only; omega, by simp only; omega⟩
 | false =>
  rw [Xaw, Xad]
  exact ⟨_, rfl, ha, hb, o5, o6, by simp only; omega, by simp only; omega⟩
theorem Xvm (l : List Int) (hl : l.length = 0 ∨ l.length = 8) (h : ∀ x ∈ l, 0 ≤ x ∧ x ≤ 255) : Xl7 l = some true := by
 unfold Xl7
 have hc : (sel ((l.length : Int) != 0) (some ((l.length : Int) != 8)) (some false)) = some false := by
  rcases hl with e | e
  ·
   rw [e]; rfl
  ·
   rw [e]; rfl
 rw [hc, Xad, Xaw, Xtl l.length (f := Xjd l) (by
  intro i hi
  have := h (l.getD i 0) (by rw [Xcd l i hi]; exact List.getElem_mem _)
  unfold Xjd
  rw [syA, rqA, Xaj, Xad, Int.toNat_natCast, decide_eq_true this, Bool.not_true, Xaw, wkA]
  rfl) (by unfold Xjd; rw [snA]), Xad]
theorem Xk0 {e : Xji} (h : Xvu e) : Xlz e = some true := by
 obtain ⟨h1, h2, h3, h4, h5, h6⟩ := h
 unfold Xlz
 rw [Xvm _ h1 h3, Xad, Xay, Xvm _ h2 h4, Xad, Xay, Xaj, Xad, decide_eq_true ⟨h5, h6⟩, Xad]
theorem Xty (l : List Int) (k : Nat) (hk : k < 8) (hl : l.length = 0 ∨ l.length = 8) (h : ∀ x ∈ l, 0 ≤ x ∧ x ≤ 255) : ∃ x, Xdp l k = some x ∧ 0 ≤ x ∧ x ≤ 255 := by
 unfold Xdp
 rcases hl with e | e
 ·
  rw [Xbt (by rw [e]; rfl)]; exact ⟨_, rfl, by omega, by omega⟩
 ·
  rw [Xbh (by rw [e]; rfl), rqA, Int.toNat_natCast]
  exact ⟨_, rfl, h _ (by rw [Xcd l k (by omega)]; exact List.getElem_mem _)⟩
theorem Xzg {e : Xji} (h : Xvu e) : ∃ x, Xlj e = some x ∧ 0 ≤ x ∧ x ≤ 255 := by
 obtain ⟨h1, h2, h3, h4, _, _⟩ := h
 unfold Xlj
 rw [wkA (e := (e.Above.length : Int) + (e.Left.length : Int))]
 by_cases hz : (e.Above.length : Int) + (e.Left.length : Int) = 0
 ·
  rw [Xbt (by simpa using hz)]; exact ⟨_, rfl, by omega, by omega⟩
 ·
  rw [Xbh (by simpa using hz), rqA, Xb2 (by omega), wkA (e := ((e.Above.length : Int) + (e.Left.length : Int)) / 2)]
  obtain ⟨a, ea, a1, a2⟩ := Xrm (f := Xh4 e) e.Above.length (fun i s => 0 ≤ s ∧ s ≤ ((e.Above.length : Int) + (e.Left.length : Int)) / 2 + 255 * i) (by
   intro i s hi ⟨g1, g2⟩
   have := h3 (e.Above.getD i 0) (by rw [Xcd _ i hi]; exact List.getElem_mem _)
   unfold Xh4
   simp only [Int.toNat_natCast]
   rw [syA, rqA, wkA (e := s + e.Above.getD i 0), wkA (e := (i : Int) + 1)]
   exact ⟨_, rfl, by omega, by omega⟩) (by intro s; unfold Xh4; rw [Xav (by simp)]) (((e.Above.length : Int) + (e.Left.length : Int)) / 2) ⟨by omega, by omega⟩
  obtain ⟨b, eb, b1, b2⟩ := Xrm (f := Xh5 e) e.Left.length (fun i s => 0 ≤ s ∧ s ≤ ((e.Above.length : Int) + (e.Left.length : Int)) / 2 + 255 * e.Above.length + 255 * i) (by
   intro i s hi ⟨g1, g2⟩
   have := h4 (e.Left.getD i 0) (by rw [Xcd _ i hi]; exact List.getElem_mem _)
   unfold Xh5
   simp only [Int.toNat_natCast]
   rw [syA, rqA, wkA (e := s + e.Left.getD i 0), wkA (e := (i : Int) + 1)]
   exact ⟨_, rfl, by omega, by omega⟩) (by intro s; unfold Xh5; rw [Xav (by simp)]) a ⟨by omega, by omega⟩
  rw [ea, Xad, eb, Xad, Xax hz, Xb2 b1]
  have hn : (e.Above.length : Int) + (e.Left.length : Int) = 8 ∨ (e.Above.length : Int) + (e.Left.length : Int) = 16 := by omega
  have hr : 0 ≤ b / ((e.Above.length : Int) + (e.Left.length : Int)) ∧ b / ((e.Above.length : Int) + (e.Left.length : Int)) ≤ 255 := by
   rcases hn with hn | hn <;> rw [hn] <;> omega
  rw [wkA]
  exact ⟨_, rfl, hr⟩
theorem Xmz (m : Int) (hm0 : 0 ≤ m ∧ m ≤ 3) {e : Xji} (h : Xvu e) : ∃ g, Xdw m e = some g ∧ Xb4 g = true := by
 have hm : maxLen = 9223372036854775807 := rfl
 have h' := h
 obtain ⟨h1, h2, h3, h4, h5, h6⟩ := h'
 obtain ⟨mid, em, m1, m2⟩ := Xzg h
 unfold Xdw
 rw [Xk0 h, Xad, Xay, Xaj, Xad, decide_eq_true hm0, Bool.not_true, Xad, Xaw]
 have hc : ∃ v, sel (decide (e.Corner < 0)) (some (128 : Int)) (some e.Corner) = some v ∧ 0 ≤ v ∧ v ≤ 255 := by
  by_cases c : e.Corner < 0
  ·
   rw [Xbf c]; exact ⟨_, rfl, by omega, by omega⟩
  ·
   rw [Xav c]; exact ⟨_, rfl, by omega, by omega⟩
 obtain ⟨v, ev, v1, v2⟩ := hc
 rw [ev, Xad]
 obtain ⟨o, eo, o1, o2⟩ := Xea (f := Xdx m e v) 64 (fun i s => s.length = i ∧ ∀ x ∈ s, 0 ≤ x ∧ x ≤ 255) (by
  intro i s hi ⟨g1, g2⟩
  obtain ⟨a, ea, a1, a2⟩ := Xty e.Above (i % 8) (by omega) h1 h3
  obtain ⟨b, eb, b1, b2⟩ := Xty e.Left (i / 8) (by omega) h2 h4
  have br := Xeq (n := b + a - v) (a := 0) (b := 255) (by omega)
  have put : ∀ z : Int, 0 ≤ z ∧ z ≤ 255 → (s ++ [z]).length = i + 1 ∧ ∀ x ∈ s ++ [z], 0 ≤ x ∧ x ≤ 255 := by
   intro z hz
   refine ⟨by simp; omega, fun x hx => ?_⟩
   rcases List.mem_append.1 hx with hx | hx
   ·
    exact g2 x hx
   ·
    rw [List.mem_singleton.1 hx]; exact hz
  unfold Xdx
  simp only
  rw [syA, rqA, Xb1 (by omega), show (i : Int) % 8 = ((i % 8 : Nat) : Int) by omega, ea, Xad, rqA, Xb2 (by omega), wkA (e := (i : Int) / 8), show (i : Int) / 8 = ((i / 8 : Nat) : Int) by omega, eb, Xad, wkA (e := (i : Int) + 1), em]
  cases (m == 0) with
  | true =>
   rw [Xay, Xad, Xax (by simp only [List.length_singleton]; omega), Xad]
   exact ⟨_, rfl, put _ ⟨m1, m2⟩⟩
  | false =>
   rw [Xaw]
   cases (m == 1) with
   | true =>
    rw [Xay, Xax (by simp only [List.length_singleton]; omega), Xad]
    exact ⟨_, rfl, put _ ⟨a1, a2⟩⟩
   | false =>
    rw [Xaw]
    cases (m == 2) with
    | true =>
     rw [Xay, Xax (by simp only [List.length_singleton]; omega), Xad]
     exact ⟨_, rfl, put _ ⟨b1, b2⟩⟩
    | false =>
     rw [Xaw, wkA (e := b + a), wkA (e := b + a - v), Xdv, Xad, Xax (by simp only [List.length_singleton]; omega), Xad]
     exact ⟨_, rfl, put _ br⟩) (by intro s; unfold Xdx; rw [Xav (by simp)]) [] ⟨rfl, fun x hx => by simp at hx⟩
 exact ⟨o, (Xh6 eo).trans rfl, Yv1 o1 o2⟩
theorem Yzi {l : List Int} (h : Xb4 l = true) : l.length = 64 ∧ inB 1000 l := by
 simp only [Xb4, Bool.and_eq_true, decide_eq_true_eq] at h
 refine ⟨h.1, fun x hx => ?_⟩
 have := List.all_eq_true.1 h.2 x hx
 simp only [Yx5, decide_eq_true_eq] at this
 omega
theorem Xuo {a b : List Int} (ha : Xb4 a = true) (hb : Xb4 b = true) : Xqe a b = some (Xqg a b 64) := by
 have la := Yzi ha
 have lb := Yzi hb
 unfold Xqe
 rw [Xcy a 64 1000 (by omega) (by omega) (by omega) la.2, Xad, Xay, Xcy b 64 1000 (by omega) (by omega) (by omega) lb.2, Xad, Bool.not_true, Xad, Xaw]
 have key : ∀ i : Nat, i ≤ 64 → loop (Xmy a b) (Xqg a b i, (i : Int)) = some (Xqg a b 64) := by
  refine Xgb _ ?_ ?_
  ·
   exact Xd8 (by unfold Xmy; rw [Xav (by simp)])
  ·
   intro i hi ih
   refine lgo (y := (Xqg a b (i + 1), ((i + 1 : Nat) : Int))) ?_ ih
   have p := (Xbx ha).2 i hi
   have q := (Xbx hb).2 i hi
   have g := Xlk ha hb i (by omega)
   have ab : 0 ≤ Ygr (a.getD i 0 - b.getD i 0) ∧ Ygr (a.getD i 0 - b.getD i 0) ≤ 255 := by unfold Ygr; split <;> omega
   unfold Xmy
   simp only [Int.toNat_natCast]
   rw [syA, rqA, rqA, wkA (e := a.getD i 0 - b.getD i 0), Xpr _ (by omega), Xad, wkA (e := Xqg a b i + Ygr (a.getD i 0 - b.getD i 0)), wkA (e := (i : Int) + 1)]
   rfl
 exact (Xh6 (key 0 (by omega))).trans rfl
theorem Yrm (m : Int) (h : 0 ≤ m ∧ m ≤ 3) : ∃ s, Xi4 m = some s ∧ 0 ≤ s ∧ s ≤ 39 := by
 have := Xc7 m.toNat (by omega)
 unfold Xi4 Xtt
 rw [Xaj, Xad, decide_eq_true (by omega), Bool.not_true, Xaw, show m = ((m.toNat : Nat) : Int) by omega, Xcx _ (by omega), Xad, Xad]
 refine ⟨_, rfl, ?_⟩
 rw [strOfNums_size]; omega
theorem Yfm {w : List Int} (hw : Xb4 w = true) {e : Xji} (h : Xvu e) : ∃ m c, Xfz w e = some (m, c) ∧ 0 ≤ m ∧ m ≤ 3 := by
 unfold Xfz
 rw [Xk0 h, Xad, Xay, Xhs w hw, Xad, Bool.not_true, Xad, Xaw]
 obtain ⟨o, eo, o1, o2⟩ := Xr1 (f := Xdi w e) (fun v => (0 ≤ v.1 ∧ v.1 ≤ 3) ∧ 0 ≤ v.2.2 ∧ v.2.2 ≤ 4) (fun v => (4 - v.2.2).toNat) (fun _ o => 0 ≤ o.1 ∧ o.1 ≤ 3) (by
  intro ⟨m, c, i⟩ ⟨g1, g2, g3⟩
  simp only at g1 g2 g3
  unfold Xdi
  simp only
  by_cases hi : i < 4
  ·
   obtain ⟨g, eg, hg⟩ := Xmz i ⟨g2, by omega⟩ h
   obtain ⟨s, es, s1, s2⟩ := Yrm i ⟨g2, by omega⟩
   rw [Xbf hi, eg, Xad, Xuo hw hg, Xad, es, Xad, Yc2, Xad, wkA (e := i + 1)]
   cases (decide (c < 0) || decide (Xaa IntKind.i64 (Xqg w g 64 + s) < c)) with
   | true => exact .inr ⟨_, rfl, ⟨by simp only; omega, by simp only; omega, by simp only; omega⟩, by simp only; omega, fun _ h => h⟩
   | false => exact .inr ⟨_, rfl, ⟨by simp only; omega, by simp only; omega, by simp only; omega⟩, by simp only; omega, fun _ h => h⟩
  ·
   rw [Xav hi]
   exact .inl ⟨_, rfl, g1⟩) (0, -1, 0) ⟨by simp, by simp, by simp⟩
 exact ⟨o.1, o.2, (Xh6 eo).trans rfl, o1, o2⟩
theorem Xza (d : Int) (h : -500000 ≤ d ∧ d ≤ 500000) : Xoh d = some (Zbz d) := by
 unfold Xoh Xx1 Zbz
 rw [Xaj, Xad, decide_eq_true h, Bool.not_true, Xaw, Xm9 d h, Xad, Xad, strOfNums_size]
theorem Zbr {m : Int} {l : List Int} (hm : 0 ≤ m ∧ m ≤ 3) (hl : Ykt l = true) : Xye ⟨2, m, 0, 0, l⟩ = true := by
 unfold Xye
 simp only
 rw [if_neg (by omega), if_neg (by omega), if_pos trivial, hl, decide_eq_true hm]
 rfl
theorem Zdt {dx dy : Int} {l : List Int} (hx : -16 ≤ dx ∧ dx ≤ 16) (hy : -16 ≤ dy ∧ dy ≤ 16) (hl : Ykt l = true) : Xye ⟨1, 0, dx, dy, l⟩ = true := by
 unfold Xye
 simp only
 rw [if_neg (by omega), if_pos trivial, hl, decide_eq_true hx, decide_eq_true hy]
 rfl
def Ze4 (p q : Pic) : Bool := Xdg p && (Xdg q && ((p.Wide == q.Wide) && (p.High == q.High)))
theorem Xxe (p q : Pic) : Xg2 p q = some (Ze4 p q) := by
 unfold Xg2 Ze4
 rw [Xei, Xad, Xei, Xad]
 simp only [Xdh, Xad]
theorem Yzu {p q : Pic} (h1 : Xdg p = true) (h2 : Xdg q = true) (h3 : q.Wide = p.Wide) (h4 : q.High = p.High) : Ze4 p q = true := by
 unfold Ze4
 simp only [Bool.and_eq_true, beq_iff_eq]
 exact ⟨h1, h2, h3.symm, h4.symm⟩
theorem Xzj {p : Pic} {x y : Int} {d : List Int} (ok : Xdg p = true) (h0 : Xd6 p x y = true) (hd : Xb4 d = true) : ∃ p', Xe8 p x y d = some p' ∧ Xdg p' = true ∧ p'.Wide = p.Wide ∧ p'.High = p.High := by
 have hm : maxLen = 9223372036854775807 := rfl
 obtain ⟨k1, k2, k3⟩ := Xbq ok
 have ar := Xga k1 k2
 unfold Xd6 at h0
 rw [decide_eq_true_eq] at h0
 have hdl := (Xbx hd).1
 have hn := Xdm p.Dots
 unfold Xe8
 rw [rqA]
 obtain ⟨o, e, o1⟩ := Xea (f := Xcs p x y d) 64 (fun _ s => s.length = p.Dots.size) (by
  intro i s hi g1
  have b1 : 0 ≤ (y + (i : Int) / 8) * p.Wide := Int.mul_nonneg (by omega) (by omega)
  have b2 : (y + (i : Int) / 8) * p.Wide ≤ (p.High - 1) * p.Wide := Int.mul_le_mul_of_nonneg_right (by omega) (by omega)
  have b3 : (p.High - 1) * p.Wide = p.Wide * p.High - p.Wide := by rw [Int.sub_mul, Int.one_mul, Int.mul_comm]
  unfold Xcs
  simp only
  rw [syA, rqA, rqA, rqA, Xb2 (by omega), Xb1 (by omega), wkA (e := (i : Int) / 8), wkA (e := y + (i : Int) / 8), wkA (e := (y + (i : Int) / 8) * p.Wide), wkA (e := (y + (i : Int) / 8) * p.Wide + x), wkA (e := (y + (i : Int) / 8) * p.Wide + x + (i : Int) % 8), rqA, rqA, wkA (e := (i : Int) + 1)]
  exact ⟨_, rfl, by rw [List.length_set]; exact g1⟩) (by intro s; unfold Xcs; rw [Xav (by simp)]) (Xbb p.Dots) hn
 refine ⟨_, (Xh6 e).trans rfl, Yct k1 k2 ?_, rfl, rfl⟩
 simp only
 rw [strOfNums_size]; omega
def Xwk (n : Int) : Bool := decide (n.tmod 8 = 0) && decide (8 ≤ n ∧ n ≤ 64)
theorem Xxc (n : Int) : Xl8 n = some (Xwk n) := by
 unfold Xl8 Xwk
 rw [rqA, Xaj, Xad, Xdh, Xad, Ys9]
theorem Ysa (l : List Xau) (c : Xf7) (hs : ∀ s ∈ l, Xye s = true) (hl : l.length ≤ 64) : Xok l c = some (strOfNums (Xnr l c)) := by
 have hm : maxLen = 9223372036854775807 := rfl
 have kr : ∀ (r a : List Xau) (t : List Int), l = a ++ r → t.length ≤ 5265 * a.length → loop (Xks l c) ((a.length : Int), t) = some (t ++ Xnr r c) := by
  intro r
  induction r with
  | nil =>
   intro a t ha _
   rw [List.append_nil] at ha
   exact Xd8 (by unfold Xks; simp only; rw [Xav (by rw [ha]; omega), Xnr, List.append_nil])
  | cons s r ih =>
   intro a t ha ht
   have hlen : a.length < l.length := by rw [ha]; simp
   have hx : l.getD a.length Xnt = s := by rw [ha]; exact Xku a s _ r
   have hok : Xye s = true := hs s (by rw [ha]; simp)
   have g := Yy1 (c := c) hok
   have hn := ih (a ++ [s]) (t ++ sqL s c) (by rw [ha]; simp) (by simp only [List.length_append, List.length_singleton]; omega)
   rw [List.length_append, List.length_singleton] at hn
   rw [Xnr, ← List.append_assoc, ← hn]
   refine Xde ?_
   unfold Xks
   simp only [Int.toNat_natCast, hx]
   rw [syA, rqA, show (⟨s.Kind, s.Mode, s.Dx, s.Dy, s.Levels⟩ : Xau) = s from rfl, Yr7 s c hok, Xad, Xmu _ (Xc8 (Yy0 _ _)), rqA, wkA]
   rfl
 unfold Xok
 exact Xh6 (kr l [] [] rfl (by simp))
theorem Yaz (c : Xbs) (hc : Xqf c) : ∃ p c', Xhq c = some (p, c') ∧ Xnp p = true ∧ Xqf c' := by
 unfold Xhq
 obtain ⟨x, c1, e1, x0, x1, _, h1⟩ := Xa7 c 41 hc
 obtain ⟨b, c2, e2, h2⟩ := Xm5 c1 4 h1
 obtain ⟨y, c3, e3, y0, y1, _, h3⟩ := Xa7 c2 3 h2
 have x1' := x1 (by omega)
 rw [e1, Xad]
 simp only
 rw [e2, Xad]
 simp only
 rw [e3, Xad]
 simp only
 have po : ∀ (l e f : Bool), (l && e) = false → Xnp ⟨x, l, e, f⟩ = true := by
  intro l e f h
  unfold Xnp
  rw [Bool.and_eq_true, decide_eq_true_eq]
  exact ⟨by simp only; omega, by simp only [h]; rfl⟩
 cases (y == 0) with
 | true => exact ⟨_, _, rfl, po _ _ _ rfl, h3⟩
 | false =>
  cases (y == 1) with
  | true => exact ⟨_, _, rfl, po _ _ _ rfl, h3⟩
  | false => exact ⟨_, _, rfl, po _ _ _ rfl, h3⟩
theorem Zc6 : ∀ c r b : Int, (c = 1 ∨ c = 2) → (r = 1 ∨ r = 2) → (b = 3 ∨ b = 4 ∨ b = 5) → Xcc ⟨Xxt [c] [r], b, [c], [r]⟩ = 1 ∧ Xld ⟨Xxt [c] [r], b, [c], [r]⟩ = (8 * c, 8 * r) := by
 intro c r b hc hr hb
 rcases hc with rfl | rfl <;> rcases hr with rfl | rfl <;> rcases hb with rfl | rfl | rfl <;> decide +kernel
theorem Ycp (c r b : Int) (p : Par) (t : Rate) (e n : Int) (hc : c = 1 ∨ c = 2) (hr : r = 1 ∨ r = 2) (hb : b = 3 ∨ b = 4 ∨ b = 5) (hp : Xnp p = true) (ht : Xj4 t = true) (he : 1 ≤ e ∧ e ≤ 5) (hn : 0 ≤ n ∧ n ≤ 2) : Xbz (Xqd c r b p t e n) = true := by
 have hm := (Zc6 c r b hc hr hb).1
 have hpow : (0 : Int) < 2 ^ b.toNat := by rcases hb with rfl | rfl | rfl <;> decide
 unfold Xbz Xqd
 simp only
 rw [decide_eq_true hm, hp, ht, decide_eq_true ⟨by omega, hpow⟩, decide_eq_true (by omega)]
 rfl
theorem Yf1 (c r b : Int) (p : Par) (t : Rate) (e n : Int) (hc : c = 1 ∨ c = 2) (hr : r = 1 ∨ r = 2) (hb : b = 3 ∨ b = 4 ∨ b = 5) (hp : Xnp p = true) (ht : Xj4 t = true) (he : 1 ≤ e ∧ e ≤ 5) (hn : 0 ≤ n ∧ n ≤ 2) : Xkn c r b p t e n = some (Xqd c r b p t e n, true) := by
 have hs := Ycp c r b p t e n hc hr hb hp ht he hn
 have hw : (Lit.int .i64 b).wf = true := by rcases hb with rfl | rfl | rfl <;> decide
 unfold Xkn
 rw [Yi0, Xad]
 have := Xk3 (Xqd c r b p t e n) hw
 unfold Xqd at this hs ⊢
 rw [this, hs, Xad]
 rfl
theorem Yt7 {V O : Type} {f g : V → Option (Lp V O)} (I : V → Prop) (h : ∀ v, I v → f v = g v) (hI : ∀ v v', I v → g v = some (.go v') → I v') : ∀ (k : Nat) (v : V), I v → it f k v = it g k v
 | 0, _, _ => rfl
 | k + 1, v, hv => by
  rw [it, it, h v hv]
  cases e : g v with
  | none => rfl
  | some s =>
   cases s with
   | go y => exact Yt7 I h hI k y (hI v y hv e)
   | done o => rfl
theorem Xoa {V O : Type} {f g : V → Option (Lp V O)} (I : V → Prop) (h : ∀ v, I v → f v = g v) (hI : ∀ v v', I v → g v = some (.go v') → I v') {v : V} (hv : I v) : loop f v = loop g v := by
 apply Option.ext
 intro o
 rw [Xj6, Xj6]
 exact ⟨fun ⟨k, hk⟩ => ⟨k, by rw [← Yt7 I h hI k v hv]; exact hk⟩, fun ⟨k, hk⟩ => ⟨k, by rw [Yt7 I h hI k v hv]; exact hk⟩⟩
theorem Yyj {V O : Type} {f : V → Option (Lp V O)} {v : V} {o : O} (k : Nat) (h : it f k v = some o) : loop f v = some o := Xj6.2 ⟨k, h⟩
theorem Yff {a b : List Int} {n : Nat} (ha : a.length = n) (hb : b.length = n) (h : ∀ i : Nat, i < n → a.getD i 0 = b.getD i 0) : a = b := by
 apply List.ext_getElem (by omega)
 intro i h1 h2
 have := h i (by omega)
 rwa [Xcd a i h1, Xcd b i h2] at this
theorem Xh9 {n : Nat} (g : Nat → Int) {i : Nat} (h : i < n) : ((List.range n).map g).getD i 0 = g i := by
 rw [Xcd _ i (by simpa using h)]; simp
theorem Yy7 {α : Type} {f : Int × List α → Option (Lp (Int × List α) (List α))} (n : Nat) (g : Nat → α) (a : List α) (hs : ∀ i : Nat, i < n → f ((i : Int), a ++ (List.range i).map g) = some (.go (((i + 1 : Nat) : Int), a ++ (List.range i).map g ++ [g i]))) (he : f ((n : Int), a ++ (List.range n).map g) = some (.done (a ++ (List.range n).map g))) : loop f (0, a) = some (a ++ (List.range n).map g) := by
 have key : ∀ i : Nat, i ≤ n → loop f ((i : Int), a ++ (List.range i).map g) = some (a ++ (List.range n).map g) := by
  refine Xgb _ (Xd8 he) ?_
  intro i hi ih
  refine lgo (hs i hi) ?_
  rw [List.append_assoc, show (List.range i).map g ++ [g i] = (List.range (i + 1)).map g by simp [List.range_succ]]
  exact ih
 have := key 0 (by omega)
 simpa using this
theorem Xoy {S : Type} {f : Int × S → Option (Lp (Int × S) S)} (n : Nat) (I : Nat → S → Prop) (hs : ∀ (i : Nat) (l : S), i < n → I i l → ∃ l', f ((i : Int), l) = some (.go (((i + 1 : Nat) : Int), l')) ∧ I (i + 1) l') (he : ∀ l, I n l → f ((n : Int), l) = some (.done l)) (l0 : S) (h0 : I 0 l0) : ∃ o, loop f (0, l0) = some o ∧ I n o := by
 have key : ∀ i : Nat, i ≤ n → ∀ l, I i l → ∃ o, loop f ((i : Int), l) = some o ∧ I n o := by
  refine Xgb _ ?_ ?_
  ·
   intro l h; exact ⟨l, Xd8 (he l h), h⟩
  ·
   intro i hi ih l h
   obtain ⟨l', e, h'⟩ := hs i l hi h
   obtain ⟨o, e2, h2⟩ := ih l' h'
   exact ⟨o, lgo e e2, h2⟩
 exact key 0 (by omega) l0 h0
theorem Zbg {f : Int × List Int → Option (Lp (Int × List Int) (List Int))} (n : Nat) (g : Nat → Int) (l : List Int) (hl : l.length = n) (hs : ∀ (i : Nat) (s : List Int), i < n → s.length = n → s.getD i 0 = l.getD i 0 → f ((i : Int), s) = some (.go (((i + 1 : Nat) : Int), s.set i (g i)))) (he : ∀ s : List Int, s.length = n → f ((n : Int), s) = some (.done s)) : loop f (0, l) = some ((List.range n).map g) := by
 obtain ⟨o, e, h1, h2, _⟩ := Xoy (f := f) n (fun i s => s.length = n ∧ (∀ j, j < i → s.getD j 0 = g j) ∧ ∀ j, i ≤ j → s.getD j 0 = l.getD j 0) (by
  intro i s hi ⟨g1, g2, g3⟩
  refine ⟨_, hs i s hi g1 (g3 i (Nat.le_refl _)), by rw [List.length_set]; exact g1, fun j hj => ?_, fun j hj => ?_⟩
  ·
   rw [Xft s i j _ (by omega)]
   by_cases h : i = j
   ·
    rw [if_pos h, h]
   ·
    rw [if_neg h]; exact g2 j (by omega)
  ·
   rw [Xft s i j _ (by omega), if_neg (by omega)]; exact g3 j (by omega)) (fun s hs => he s hs.1) l ⟨hl, fun j hj => by omega, fun _ _ => rfl⟩
 rw [e]
 congr 1
 exact Yff h1 (by simp) fun i hi => by rw [h2 i hi, Xh9 g hi]
theorem Yx7 : Xqc = Xc3 := rfl
theorem Yri (qp : Int) (h0 : 0 ≤ qp ∧ qp ≤ 40) : Xhc qp = some (Xri qp) := by
 have h := Zdu ⟨qp.toNat, by omega⟩
 simp only at h
 rw [show ((qp.toNat : Nat) : Int) = qp by omega] at h
 unfold Xhc
 rw [Xaj, Xad, decide_eq_true (by omega), Bool.not_true, Xaw, rqA]
 have hb : (sel ((qp.tmod 6) == 0) (some (10 : Int)) (sel ((qp.tmod 6) == 1) (some 11) (sel ((qp.tmod 6) == 2) (some 13) (sel ((qp.tmod 6) == 3) (some 14) (sel ((qp.tmod 6) == 4) (some 16) (some 18)))))) = some (Xuu qp) := by
  unfold Xuu
  simp only [Ynm, beq_iff_eq]
  repeat' split
  all_goals rfl
 rw [hb, Xad]
 unfold Xri at h ⊢
 cases e : it (Xkp qp) 10 (Xuu qp, 0) with
 | none => rw [e] at h; simp only at h; omega
 | some q => rw [Xj6.2 ⟨10, e⟩, Xad]
theorem Yt3 : ∀ q : Fin 41, Xla (q.val : Int) = some (Xri (q.val : Int)) := by decide +kernel
theorem Yqh (qp : Int) (h0 : 0 ≤ qp ∧ qp ≤ 40) : Xla qp = some (Xri qp) := by
 have := Yt3 ⟨qp.toNat, by omega⟩
 simp only at this
 rwa [show ((qp.toNat : Nat) : Int) = qp by omega] at this
theorem Ygq (qp : Int) (h0 : 0 ≤ qp ∧ qp ≤ 40) : Xla qp = Xhc qp := by rw [Yqh qp h0, Yri qp h0]
theorem Xzc (u v : Nat) (hu : u < 8) (hv : v < 8) : Xi0 u v = some (Xkk u v) := by
 have h := Zdp ⟨u, hu⟩ ⟨v, hv⟩
 simp only at h
 unfold Xi0
 rw [Xaj, Xad, decide_eq_true (by omega), Xay, Xaj, Xad, decide_eq_true (by omega), Bool.not_true, Xad, Xaw]
 unfold Xkk at h ⊢
 cases e : it Xkm 10 (1, (IntKind.wrap .i64 (BitVec.ofInt (IntKind.bits .i64) (u : Int) &&& BitVec.ofInt (IntKind.bits .i64) (v : Int)).toNat)) with
 | none => rw [e] at h; simp only at h; omega
 | some q => rw [Xj6.2 ⟨10, e⟩, Xad]
theorem Yty : ∀ u v : Fin 8, Xnz (u.val : Int) (v.val : Int) = some (Xkk (u.val : Int) (v.val : Int)) := by decide +kernel
theorem Ygp (u v : Nat) (hu : u < 8) (hv : v < 8) : Xnz u v = some (Xkk u v) := Yty ⟨u, hu⟩ ⟨v, hv⟩
def Yuq (qp p : Int) : Option Int :=
 bnd (Xle p) fun q1 => bnd (Xbe q1 10 16 13) fun a1 => bnd (Xbe q1 11 18 14) fun a2 => bnd (Xbe q1 13 20 16) fun a3 => bnd (Xbe q1 14 23 18) fun a4 => bnd (Xbe q1 16 25 20) fun a5 => bnd (Xbe q1 18 29 23) fun a6 =>
 it (Xe4 qp) 10 ((sel (qp.tmod 6 == 0) a1 (sel (qp.tmod 6 == 1) a2 (sel (qp.tmod 6 == 2) a3 (sel (qp.tmod 6 == 3) a4 (sel (qp.tmod 6 == 4) a5 (sel (qp.tmod 6 == 5) a6 0)))))), 0)
theorem Zdl : ∀ q : Fin 41, ∀ p : Fin 16, (Yuq (q.val : Int) (p.val : Int)).isSome = true ∧ Xo1 (q.val : Int) (p.val : Int) = Yuq (q.val : Int) (p.val : Int) := by decide +kernel
theorem Ys3 (qp p : Int) (h0 : 0 ≤ qp ∧ qp ≤ 40) (hp : 0 ≤ p ∧ p ≤ 15) : Xo1 qp p = Xiy qp p := by
 have := Zdl ⟨qp.toNat, by omega⟩ ⟨p.toNat, by omega⟩
 simp only at this
 rw [show ((qp.toNat : Nat) : Int) = qp by omega, show ((p.toNat : Nat) : Int) = p by omega] at this
 obtain ⟨h1, h2⟩ := this
 rw [h2]
 cases e : Yuq qp p with
 | none => rw [e] at h1; cases h1
 | some o =>
  unfold Yuq at e
  unfold Xiy
  obtain ⟨k, ek, k0, k1⟩ := Xsl p hp
  rw [ek, Xad] at e ⊢
  rw [Xaj, Xad, decide_eq_true h0, Xay, decide_eq_false (by omega), Xad, Xaw, rqA]
  obtain ⟨a1, e1, b1⟩ := Xba k 10 16 13
  obtain ⟨a2, e2, b2⟩ := Xba k 11 18 14
  obtain ⟨a3, e3, b3⟩ := Xba k 13 20 16
  obtain ⟨a4, e4, b4⟩ := Xba k 14 23 18
  obtain ⟨a5, e5, b5⟩ := Xba k 16 25 20
  obtain ⟨a6, e6, b6⟩ := Xba k 18 29 23
  rw [e1, e2, e3, e4, e5, e6] at e ⊢
  simp only [Xad, Zad] at e ⊢
  rw [Yyj 10 e, Xad]
def Xtk (n : Int) (v16 : Int × List Int) : Option (Lp (Int × List Int) (List Int)) :=
 sel (decide (v16.1 ≤ (Xaa .i64 ((Xaa .i64 (2 * n)) - 2)))) (
 bnd (it (Xmq n v16) 20 (0, v16.2)) fun v42 =>
 some (.go (Xaa .i64 (v16.1 + 1), v42))) (
 some (.done v16.2))
theorem Yxh {n : Int} {v : Int × List Int} {x : Lp (Int × List Int) (List Int)} (h : Xtk n v = some x) : Xia n v = some x := by
 unfold Xtk at h
 unfold Xia
 rcases Xkz h with ⟨hb, h⟩ | ⟨hb, h⟩
 ·
  rw [hb, Xay]
  obtain ⟨a, h1, h2⟩ := Xa8 h
  rw [Xj6.2 ⟨20, h1⟩, Xad]
  exact h2
 ·
  rw [hb, Xaw]; exact h
def Ynk (n : Int) : List Int := (it (Xtk n) 20 (0, [])).getD []
theorem Zhe : (it (Xtk 4) 20 (0, [])).isSome = true ∧ (Ynk 4).length = 16 := by decide +kernel
theorem Zhf : (it (Xtk 8) 20 (0, [])).isSome = true ∧ (Ynk 8).length = 64 := by decide +kernel
theorem Zdm : ∀ i : Fin 16, (Ynk 4).getD i.val 0 = Xhl 4 (i.val : Int) := by decide +kernel
theorem Zdn : ∀ i : Fin 64, (Ynk 8).getD i.val 0 = Xhl 8 (i.val : Int) := by decide +kernel
theorem Xs8 (n : Int) (hn : n = 4 ∨ n = 8) : Xhx n = some (Ynk n) ∧ ((Ynk n).length : Int) = n * n ∧ ∀ i : Nat, (i : Int) < n * n → (Ynk n).getD i 0 = Xhl n i := by
 have h : (it (Xtk n) 20 (0, [])).isSome = true ∧ ((Ynk n).length : Int) = n * n := by
  rcases hn with rfl | rfl
  ·
   have := Zhe; exact ⟨this.1, by omega⟩
  ·
   have := Zhf; exact ⟨this.1, by omega⟩
 refine ⟨?_, h.2, fun i hi => ?_⟩
 ·
  obtain ⟨o, ho⟩ := Option.isSome_iff_exists.1 h.1
  have hl := Yyj 20 (Ze3 (fun v y => Yxh (n := n)) 20 _ ho)
  unfold Xhx
  rw [hl, Xad]
  unfold Ynk; rw [ho]; rfl
 ·
  rcases hn with rfl | rfl
  ·
   exact Zdm ⟨i, by omega⟩
  ·
   exact Zdn ⟨i, by omega⟩
theorem Xvr (n : Int) (hn : n = 4 ∨ n = 8) (l : List Int) (hl : (l.length : Int) = n * n) : Xfx n l = Xdn n l := by
 obtain ⟨e, h1, h2⟩ := Xs8 n hn
 have hw : Xaa .i64 (n * n) = n * n := by rcases hn with rfl | rfl <;> exact wkA
 have hn2 : n * n ≤ 64 := by rcases hn with rfl | rfl <;> omega
 unfold Xfx Xdn
 rw [e]
 have : loop (Xjo l (Ynk n)) (0, List.replicate (l.length : Int).toNat 0) = loop (Xcn n l) (0, List.replicate (l.length : Int).toNat 0) := by
  refine Xoa (fun v => (∃ i : Nat, v.1 = (i : Int) ∧ i ≤ l.length) ∧ v.2.length = l.length) ?_ ?_ ⟨⟨0, rfl, by omega⟩, by simp⟩
  ·
   intro ⟨i, s⟩ ⟨⟨k, ek, hk⟩, hs⟩
   simp only at hs ek
   subst ek
   unfold Xjo Xcn
   simp only [Int.toNat_natCast]
   rw [hw]
   by_cases hi : (k : Int) < n * n
   ·
    have hp := Xir n hn k hi
    have h3 := h2 k hi
    simp only [h3]
    rw [syA, Xbf hi, Xh0 n hn k hi, Xad, rqA, rqA]
   ·
    rw [snA, Xav hi]
  ·
   intro ⟨i, s⟩ v' ⟨⟨k, ek, hk⟩, hs⟩ he
   simp only at hs ek
   subst ek
   unfold Xcn at he
   simp only [Int.toNat_natCast] at he
   rw [hw] at he
   by_cases hi : (k : Int) < n * n
   ·
    have hp := Xir n hn k hi
    rw [Xbf hi, Xh0 n hn k hi, Xad, rqA, rqA, rqA, wkA] at he
    cases he
    exact ⟨⟨k + 1, rfl, by omega⟩, by rw [List.length_set]; exact hs⟩
   ·
    rw [Xav hi] at he; cases he
 simp only [Xad, this]
theorem Xt1 (n : Int) (hn : n = 4 ∨ n = 8) (l : List Int) (hl : (l.length : Int) = n * n) : Xig n l = Xfp n l := by
 have hm : maxLen = 9223372036854775807 := rfl
 obtain ⟨e, h1, h2⟩ := Xs8 n hn
 have hw : Xaa .i64 (n * n) = n * n := by rcases hn with rfl | rfl <;> exact wkA
 have hn2 : n * n ≤ 64 := by rcases hn with rfl | rfl <;> omega
 unfold Xig Xfp
 rw [e]
 have : loop (Xmj l (Ynk n)) (0, ([] : List Int)) = loop (Xdz n l) (0, ([] : List Int)) := by
  refine Xoa (fun v => ∃ i : Nat, v.1 = (i : Int) ∧ i ≤ l.length) ?_ ?_ ⟨0, rfl, by omega⟩
  ·
   intro ⟨i, s⟩ ⟨k, ek, hk⟩
   simp only at ek
   subst ek
   unfold Xmj Xdz
   simp only [Int.toNat_natCast]
   rw [hw]
   by_cases hi : (k : Int) < n * n
   ·
    have hp := Xir n hn k hi
    have h3 := h2 k hi
    simp only [h3]
    rw [syA, Xbf hi, Xh0 n hn k hi, Xad, rqA, rqA]
   ·
    rw [snA, Xav hi]
  ·
   intro ⟨i, s⟩ v' ⟨k, ek, hk⟩ he
   simp only at ek
   subst ek
   unfold Xdz at he
   simp only [Int.toNat_natCast] at he
   rw [hw] at he
   by_cases hi : (k : Int) < n * n
   ·
    have hp := Xir n hn k hi
    rw [Xbf hi, Xh0 n hn k hi, Xad, rqA] at he
    obtain ⟨_, he⟩ := Xa0 he
    rw [wkA] at he
    cases he
    exact ⟨k + 1, rfl, by omega⟩
   ·
    rw [Xav hi] at he; cases he
 simp only [Xad, this]
def Yvg (t : Nat → Int) : Nat → Int
 | 0 => 0
 | k + 1 => Xaa .i64 (Yvg t k + t k)
def Zhb (p : List Int) (i v k : Nat) : Int := Xaa .i64 (Xkk v k * p.getD (8 * i + k) 0)
def Zgu (p : List Int) (u v k : Nat) : Int := Xaa .i64 (Xkk u k * p.getD (8 * k + v) 0)
def Xvz (p : List Int) : List Int := (List.range 64).map fun j => Yvg (Zhb p (j / 8) (j % 8)) 8
def Zbu (p : List Int) : List Int := (List.range 64).map fun j => Yvg (Zgu (Xvz p) (j / 8) (j % 8)) 8
theorem Yv9 (p : List Int) : (Xvz p).length = 64 := by simp [Xvz]
theorem Zdw (p : List Int) : (Zbu p).length = 64 := by simp [Zbu]
end Go.Proofs.YtnhflbeahbcklaaGreat.A.Pure
