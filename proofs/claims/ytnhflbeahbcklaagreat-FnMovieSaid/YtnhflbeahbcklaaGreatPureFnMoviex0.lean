/- The pure statement of the law FnMovie, part 1: over numbers, texts and lists alone, what the law computes is true. Conditions: the sizes of what a machine holds. -/
import Derived.Test.YtnhflbeahbcklaaGreatDFnMovie
namespace Go.Proofs.YtnhflbeahbcklaaGreat.A.Pure
open Go Go.Proofs Go.Proofs.YtnhflbeahbcklaaGreatAL Go.RowKit
set_option linter.unusedVariables false
set_option linter.unusedSimpArgs false
set_option maxHeartbeats 1000000
noncomputable section
def Xiz (p0 : (List Int)) (p1 : Int) (v2 : (Int × Int)) : Option (Lp (Int × Int) Int) :=
 sel (decide (v2.2 < p1)) (
 req (0 ≤ v2.2 ∧ v2.2 < p0.length) <|
 some (.go (Xaa .i64 (v2.1 + (p0.getD v2.2.toNat 0)), Xaa .i64 (v2.2 + 1)))) (
 some (.done v2.1))
def Xrj (p0 : (List Int)) (p1 : Int) : Option Int :=
 bnd (loop (Xiz p0 p1) (0, 0)) fun v4 =>
 some v4
def Xtk (p0 : Seq) (p1 : Int) : Option (Xyz × Bool) :=
 bnd (
 sel (decide (p1 < 0)) (
 some true) (
 bnd (Xkw p0) fun q2 =>
 some (decide (p1 ≥ q2)))) fun v1 =>
 sel v1 (
 some ((⟨0, 0, 0, 0⟩ : Xyz), false)) (
 req ((p0.Cols.length : Int) ≠ 0) <|
 req ((p0.Cols.length : Int) ≠ 0) <|
 bnd (Xrj p0.Cols (p1.tmod (p0.Cols.length : Int))) fun q3 =>
 bnd (Xrj p0.Rows (Xaa .i64 (p1.tdiv (p0.Cols.length : Int)))) fun q4 =>
 req (0 ≤ (p1.tmod (p0.Cols.length : Int)) ∧ (p1.tmod (p0.Cols.length : Int)) < p0.Cols.length) <|
 req (0 ≤ (Xaa .i64 (p1.tdiv (p0.Cols.length : Int))) ∧ (Xaa .i64 (p1.tdiv (p0.Cols.length : Int))) < p0.Rows.length) <|
 some ((⟨Xaa .i64 (8 * q3), Xaa .i64 (8 * q4), Xaa .i64 (8 * (p0.Cols.getD (p1.tmod (p0.Cols.length : Int)).toNat 0)), Xaa .i64 (8 * (p0.Rows.getD (Xaa .i64 (p1.tdiv (p0.Cols.length : Int))).toNat 0))⟩ : Xyz), true))
def Xg9 (p0 : Seq) (p1 : Int) : Option Int :=
 bnd (Xtk p0 p1) fun q1 =>
 req ((8 : Int) ≠ 0) <|
 req ((8 : Int) ≠ 0) <|
 some (Xaa .i64 ((Xaa .i64 (q1.1.Wide.tdiv 8)) * (Xaa .i64 (q1.1.High.tdiv 8))))
def Xmy (p0 : Xeu) : Option Bool :=
 bnd (
 bnd (Xar p0.Qp 0 40) fun q2 =>
 sel q2 (
 sel p0.Large (
 some (!p0.Exact)) (
 some true)) (
 some false)) fun v1 =>
 some v1
def Xfl (p0 : (List Int)) (p1 : Int) (p2 : Int) (v3 : Int) : Option (Lp Int (Ou Unit Bool)) :=
 sel (decide (v3 < p1)) (
 req (0 ≤ v3 ∧ v3 < p0.length) <|
 bnd (Xar (p0.getD v3.toNat 0) (Xaa .i64 (0 - p2)) p2) fun q7 =>
 sel (!q7) (
 some (.done (.ret false))) (
 some (.go (Xaa .i64 (v3 + 1))))) (
 some (.done (.out ())))
def Xcn (p0 : (List Int)) (p1 : Int) (p2 : Int) : Option Bool :=
 sel ((p0.length : Int) != p1) (
 some false) (
 bnd (loop (Xfl p0 p1 p2) 0) fun o8 => match o8 with
| .out v6 => (
 some true)
| .ret r => some r)
def Xtj (p0 : Xam) : Option Bool :=
 sel (p0.Kind == 0) (
 bnd (
 sel (p0.Mode == 0) (
 sel (p0.Dx == 0) (
 sel (p0.Dy == 0) (
 some ((p0.Levels.length : Int) == 0)) (
 some false)) (
 some false)) (
 some false)) fun v1 =>
 some v1) (
 sel (p0.Kind == 1) (
 bnd (
 sel (p0.Mode == 0) (
 bnd (Xar p0.Dx (-16) 16) fun q3 =>
 sel q3 (
 bnd (Xar p0.Dy (-16) 16) fun q4 =>
 sel q4 (
 bnd (Xcn p0.Levels 64 5000) fun q5 =>
 some q5) (
 some false)) (
 some false)) (
 some false)) fun v2 =>
 some v2) (
 sel (p0.Kind == 2) (
 bnd (
 bnd (Xar p0.Mode 0 3) fun q7 =>
 sel q7 (
 sel (p0.Dx == 0) (
 sel (p0.Dy == 0) (
 bnd (Xcn p0.Levels 64 5000) fun q8 =>
 some q8) (
 some false)) (
 some false)) (
 some false)) fun v6 =>
 some v6) (
 some false)))
def Xfn (p0 : Pic) (p1 : Int) (p2 : Int) (p3 : Int) (p4 : Int) : Option Bool :=
 bnd (
 bnd (Xe4 p0) fun q2 =>
 sel q2 (
 bnd (Xar p3 1 p0.Wide) fun q3 =>
 sel q3 (
 bnd (Xar p4 1 p0.High) fun q4 =>
 sel q4 (
 bnd (Xar p1 0 (Xaa .i64 (p0.Wide - p3))) fun q5 =>
 sel q5 (
 bnd (Xar p2 0 (Xaa .i64 (p0.High - p4))) fun q6 =>
 some q6) (
 some false)) (
 some false)) (
 some false)) (
 some false)) fun v1 =>
 some v1
def Xo2 (p0 : Pic) (p1 : Xyz) (v3 : (Int × (List Int))) : Option (Lp (Int × (List Int)) (List Int)) :=
 sel (decide (v3.1 < (Xaa .i64 (p1.Top + p1.High)))) (
 req (0 ≤ (Xaa .i64 ((Xaa .i64 (v3.1 * p0.Wide)) + p1.Left)) ∧ (Xaa .i64 ((Xaa .i64 (v3.1 * p0.Wide)) + p1.Left)) ≤ (Xaa .i64 ((Xaa .i64 ((Xaa .i64 (v3.1 * p0.Wide)) + p1.Left)) + p1.Wide)) ∧ (Xaa .i64 ((Xaa .i64 ((Xaa .i64 (v3.1 * p0.Wide)) + p1.Left)) + p1.Wide)) ≤ (p0.Dots.size : Int)) <|
 req ((v3.2.length + (Xaz (p0.Dots.extract (Xaa .i64 ((Xaa .i64 (v3.1 * p0.Wide)) + p1.Left)).toNat (Xaa .i64 ((Xaa .i64 ((Xaa .i64 (v3.1 * p0.Wide)) + p1.Left)) + p1.Wide)).toNat)).length) * 1 ≤ 140737488355328 ∧ v3.2.length + (Xaz (p0.Dots.extract (Xaa .i64 ((Xaa .i64 (v3.1 * p0.Wide)) + p1.Left)).toNat (Xaa .i64 ((Xaa .i64 ((Xaa .i64 (v3.1 * p0.Wide)) + p1.Left)) + p1.Wide)).toNat)).length ≤ maxLen) <|
 some (.go (Xaa .i64 (v3.1 + 1), (v3.2 ++ (Xaz (p0.Dots.extract (Xaa .i64 ((Xaa .i64 (v3.1 * p0.Wide)) + p1.Left)).toNat (Xaa .i64 ((Xaa .i64 ((Xaa .i64 (v3.1 * p0.Wide)) + p1.Left)) + p1.Wide)).toNat)))))) (
 some (.done v3.2))
def Xlv (p0 : Int) (p1 : Int) (v2 : (Int × (List Int))) : Option (Lp (Int × (List Int)) (List Int)) :=
 sel (decide (v2.1 < p0)) (
 req (0 ≤ v2.1 ∧ v2.1 < v2.2.length) <|
 req (v2.1.toNat < v2.2.length) <|
 some (.go (Xaa .i64 (v2.1 + 1), (v2.2.set v2.1.toNat p1)))) (
 some (.done v2.2))
def Xvb (p0 : Int) (p1 : Int) : Option ByteArray :=
 req (0 ≤ p0 ∧ p0 ≤ p0 ∧ p0 * 1 ≤ 281474976710656) <|
 bnd (loop (Xlv p0 p1) (0, (List.replicate p0.toNat (0 : Int)))) fun v4 =>
 some (strOfNums v4)
def Xkz (p0 : Pic) (p1 : Int) (p2 : Int) : Option Bool :=
 bnd (
 req ((8 : Int) ≠ 0) <|
 sel ((p1.tmod 8) == 0) (
 req ((8 : Int) ≠ 0) <|
 sel ((p2.tmod 8) == 0) (
 bnd (Xfn p0 p1 p2 8 8) fun q2 =>
 some q2) (
 some false)) (
 some false)) fun v1 =>
 some v1
def Xga (p0 : Pic) (p1 : Int) (p2 : Int) (v7 : (Int × (List Int) × (List Int))) : Option (Lp (Int × (List Int) × (List Int)) ((List Int) × (List Int))) :=
 sel (decide (v7.1 < 8)) (
 bnd (
 bnd (
 sel (decide (p2 > 0)) (
 bnd (Xe3 p0 (Xaa .i64 (p1 + v7.1)) (Xaa .i64 (p2 - 1))) fun q16 =>
 req ((v7.2.1.length + ([q16]).length) * 8 ≤ 140737488355328 ∧ v7.2.1.length + ([q16]).length ≤ maxLen) <|
 some (v7.2.1 ++ ([q16]))) (
 some v7.2.1)) fun v15 =>
 sel (decide (p1 > 0)) (
 bnd (Xe3 p0 (Xaa .i64 (p1 - 1)) (Xaa .i64 (p2 + v7.1))) fun q17 =>
 req ((v7.2.2.length + ([q17]).length) * 8 ≤ 140737488355328 ∧ v7.2.2.length + ([q17]).length ≤ maxLen) <|
 some (v15, (v7.2.2 ++ ([q17])))) (
 some (v15, v7.2.2))) fun v14 =>
 some (.go (Xaa .i64 (v7.1 + 1), v14.1, v14.2))) (
 some (.done (v7.2.1, v7.2.2)))
def Xgj (p0 : Pic) (p1 : Int) (p2 : Int) : Option (Xi9 × Bool) :=
 bnd (Xkz p0 p1 p2) fun q1 =>
 sel (!q1) (
 some ((⟨[], [], 0⟩ : Xi9), false)) (
 bnd (loop (Xga p0 p1 p2) (0, [], [])) fun v13 =>
 bnd (
 bnd (
 sel (decide (p1 > 0)) (
 some (decide (p2 > 0))) (
 some false)) fun v20 =>
 sel v20 (
 bnd (Xe3 p0 (Xaa .i64 (p1 - 1)) (Xaa .i64 (p2 - 1))) fun q21 =>
 some q21) (
 some (-1))) fun v19 =>
 some ((⟨v13.1, v13.2, v19⟩ : Xi9), true))
def Xu9 (p0 : Int) (p1 : Int) (v17 : (Int × Int)) (v38 : (Int × Int)) : Option (Lp (Int × Int) (Ou Int Int)) :=
 sel (decide (v38.2 < p0)) (
 Yy2 (fun (v44 : Int) =>
 some (.go (v44, Xaa .i64 (v38.2 + 1)))) fun j36 =>
 bnd (
 req ((2 : Int) ≠ 0) <|
 sel ((v17.2.tmod 2) == 0) (
 some (Xaa .i64 ((Xaa .i64 (p0 - 1)) - v38.2))) (
 some v38.2)) fun v45 =>
 bnd (Xar (Xaa .i64 (v17.2 - v45)) 0 (Xaa .i64 (p0 - 1))) fun q46 =>
 sel (!q46) (
 j36 v38.1) (
 sel (v38.1 == p1) (
 some (.done (.ret (Xaa .i64 ((Xaa .i64 ((Xaa .i64 (p0 * v45)) + v17.2)) - v45))))) (
 j36 (Xaa .i64 (v38.1 + 1))))) (
 some (.done (.out v38.1)))
def Xp3 (p0 : Int) (p1 : Int) (v17 : (Int × Int)) : Option (Lp (Int × Int) (Ou Unit Int)) :=
 sel (decide (v17.2 ≤ (Xaa .i64 ((Xaa .i64 (2 * p0)) - 2)))) (
 bnd (loop (Xu9 p0 p1 v17) (v17.1, 0)) fun o47 => match o47 with
| .out v43 => (
 some (.go (v43, Xaa .i64 (v17.2 + 1))))
| .ret r => some (.done (.ret r))) (
 some (.done (.out ())))
def Xtf (p0 : Int) (p1 : Int) : Option Int :=
 bnd (
 sel (p0 != 4) (
 sel (p0 != 8) (
 some true) (
 sel (decide (p1 < 0)) (
 some true) (
 some (decide (p1 ≥ (Xaa .i64 (p0 * p0))))))) (
 sel (decide (p1 < 0)) (
 some true) (
 some (decide (p1 ≥ (Xaa .i64 (p0 * p0))))))) fun v1 =>
 sel v1 (
 some (-1)) (
 bnd (loop (Xp3 p0 p1) (0, 0)) fun o48 => match o48 with
| .out v33 => (
 some (-1))
| .ret r => some r)
def Xb0 (p0 : Int) (p1 : (List Int)) (v4 : (Int × (List Int))) : Option (Lp (Int × (List Int)) (List Int)) :=
 sel (decide (v4.1 < (Xaa .i64 (p0 * p0)))) (
 bnd (Xtf p0 v4.1) fun q8 =>
 req (0 ≤ v4.1 ∧ v4.1 < p1.length) <|
 req (0 ≤ q8 ∧ q8 < v4.2.length) <|
 req (q8.toNat < v4.2.length) <|
 some (.go (Xaa .i64 (v4.1 + 1), (v4.2.set q8.toNat (p1.getD v4.1.toNat 0))))) (
 some (.done v4.2))
def Xdn (p0 : Int) (p1 : (List Int)) : Option ((List Int) × Bool) :=
 bnd (
 sel (p0 != 4) (
 sel (p0 != 8) (
 some true) (
 some ((p1.length : Int) != (Xaa .i64 (p0 * p0))))) (
 some ((p1.length : Int) != (Xaa .i64 (p0 * p0))))) fun v1 =>
 sel v1 (
 some (([] : List Int), false)) (
 req (0 ≤ (p1.length : Int) ∧ (p1.length : Int) ≤ (p1.length : Int) ∧ (p1.length : Int) * 8 ≤ 281474976710656) <|
 bnd (loop (Xb0 p0 p1) (0, (List.replicate (p1.length : Int).toNat (0 : Int)))) fun v7 =>
 some (v7, true))
def Xnj (p0 : Int) (v4 : (Int × Int)) : Option (Lp (Int × Int) Int) :=
 req ((6 : Int) ≠ 0) <|
 sel (decide (v4.2 < (Xaa .i64 (p0.tdiv 6)))) (
 some (.go (Xaa .i64 (2 * v4.1), Xaa .i64 (v4.2 + 1)))) (
 some (.done v4.1))
def Xkf (p0 : Int) : Option Int :=
 bnd (Xar p0 0 40) fun q1 =>
 sel (!q1) (
 some 0) (
 bnd (
 req ((6 : Int) ≠ 0) <|
 sel ((p0.tmod 6) == 0) (
 some 10) (
 sel ((p0.tmod 6) == 1) (
 some 11) (
 sel ((p0.tmod 6) == 2) (
 some 13) (
 sel ((p0.tmod 6) == 3) (
 some 14) (
 sel ((p0.tmod 6) == 4) (
 some 16) (
 some 18)))))) fun v2 =>
 bnd (loop (Xnj p0) (v2, 0)) fun v6 =>
 some v6)
def Xjo (p0 : Int) (p1 : Int) : Option Int :=
 bnd (Xar p0 (-5000) 5000) fun q1 =>
 sel (!q1) (
 some 0) (
 bnd (Xkf p1) fun q2 =>
 some (Xaa .i64 (p0 * q2)))
def Xnh (v6 : (Int × Int)) : Option (Lp (Int × Int) Int) :=
 sel (decide (v6.2 > 0)) (
 bnd (
 req ((2 : Int) ≠ 0) <|
 sel ((v6.2.tmod 2) == 1) (
 some (Xaa .i64 (0 - v6.1))) (
 some v6.1)) fun v10 =>
 req ((2 : Int) ≠ 0) <|
 some (.go (v10, Xaa .i64 (v6.2.tdiv 2)))) (
 some (.done v6.1))
def Xm0 (p0 : Int) (p1 : Int) : Option Int :=
 bnd (
 bnd (Xar p0 0 7) fun q2 =>
 sel q2 (
 bnd (Xar p1 0 7) fun q3 =>
 some (!q3)) (
 some true)) fun v1 =>
 sel v1 (
 some 0) (
 bnd (loop (Xnh) (1, (IntKind.wrap .i64 (BitVec.ofInt (IntKind.bits .i64) p0 &&& BitVec.ofInt (IntKind.bits .i64) p1).toNat))) fun v9 =>
 some v9)
def Xfm (p0 : (List Int)) (p1 : Int) (p2 : Int) (v3 : (Int × Int)) : Option (Lp (Int × Int) Int) :=
 sel (decide (v3.2 < 8)) (
 req (0 ≤ (Xaa .i64 ((Xaa .i64 (8 * p1)) + v3.2)) ∧ (Xaa .i64 ((Xaa .i64 (8 * p1)) + v3.2)) < p0.length) <|
 bnd (Xm0 p2 v3.2) fun q7 =>
 some (.go (Xaa .i64 (v3.1 + (Xaa .i64 ((p0.getD (Xaa .i64 ((Xaa .i64 (8 * p1)) + v3.2)).toNat 0) * q7))), Xaa .i64 (v3.2 + 1)))) (
 some (.done v3.1))
def Xp6 (p0 : (List Int)) (p1 : Int) (p2 : Int) : Option Int :=
 bnd (loop (Xfm p0 p1 p2) (0, 0)) fun v6 =>
 some v6
def Xd0 (p0 : (List Int)) (v10 : (Int × (List Int))) (v23 : (Int × (List Int))) : Option (Lp (Int × (List Int)) (List Int)) :=
 sel (decide (v23.1 < 8)) (
 bnd (Xp6 p0 v10.1 v23.1) fun q27 =>
 req ((v23.2.length + ([q27]).length) * 8 ≤ 140737488355328 ∧ v23.2.length + ([q27]).length ≤ maxLen) <|
 some (.go (Xaa .i64 (v23.1 + 1), (v23.2 ++ ([q27]))))) (
 some (.done v23.2))
def Xdz (p0 : (List Int)) (v10 : (Int × (List Int))) : Option (Lp (Int × (List Int)) (List Int)) :=
 sel (decide (v10.1 < 8)) (
 bnd (loop (Xd0 p0 v10) (0, v10.2)) fun v26 =>
 some (.go (Xaa .i64 (v10.1 + 1), v26))) (
 some (.done v10.2))
def Xdj (v20 : (List Int)) (v60 : (Int × (List Int))) (v101 : (Int × (List Int))) (v114 : (Int × Int)) : Option (Lp (Int × Int) Int) :=
 sel (decide (v114.2 < 8)) (
 bnd (Xm0 v60.1 v114.2) fun q118 =>
 req (0 ≤ (Xaa .i64 ((Xaa .i64 (8 * v114.2)) + v101.1)) ∧ (Xaa .i64 ((Xaa .i64 (8 * v114.2)) + v101.1)) < v20.length) <|
 req ((Xaa .i64 ((Xaa .i64 (8 * v114.2)) + v101.1)).toNat < v20.length) <|
 some (.go (Xaa .i64 (v114.1 + (Xaa .i64 (q118 * (v20.getD ((Xaa .i64 ((Xaa .i64 (8 * v114.2)) + v101.1)).toNat) 0)))), Xaa .i64 (v114.2 + 1)))) (
 some (.done v114.1))
def Xdi (v20 : (List Int)) (v60 : (Int × (List Int))) (v101 : (Int × (List Int))) : Option (Lp (Int × (List Int)) (List Int)) :=
 sel (decide (v101.1 < 8)) (
 bnd (loop (Xdj v20 v60 v101) (0, 0)) fun v117 =>
 req ((v101.2.length + ([v117]).length) * 8 ≤ 140737488355328 ∧ v101.2.length + ([v117]).length ≤ maxLen) <|
 some (.go (Xaa .i64 (v101.1 + 1), (v101.2 ++ ([v117]))))) (
 some (.done v101.2))
def Xdh (v20 : (List Int)) (v60 : (Int × (List Int))) : Option (Lp (Int × (List Int)) (List Int)) :=
 sel (decide (v60.1 < 8)) (
 bnd (loop (Xdi v20 v60) (0, v60.2)) fun v111 =>
 some (.go (Xaa .i64 (v60.1 + 1), v111))) (
 some (.done v60.2))
def Xky (p0 : (List Int)) : Option (List Int) :=
 bnd (loop (Xdz p0) (0, ([] : List Int))) fun v20 =>
 bnd (loop (Xdh v20) (0, ([] : List Int))) fun v91 =>
 some v91
def Xeb (p0 : Int) (p1 : Int) : Option Int :=
 req (p1 ≠ 0) <|
 bnd (
 req (p1 ≠ 0) <|
 sel (decide ((p0.tmod p1) < 0)) (
 some (Xaa .i64 ((Xaa .i64 (p0.tdiv p1)) - 1))) (
 some (Xaa .i64 (p0.tdiv p1)))) fun v1 =>
 some v1
def Xiy (v5 : (Int × (List Int))) : Option (Lp (Int × (List Int)) (List Int)) :=
 sel (decide (v5.1 < 64)) (
 req (0 ≤ v5.1 ∧ v5.1 < v5.2.length) <|
 req (v5.1.toNat < v5.2.length) <|
 bnd (Xeb (Xaa .i64 ((v5.2.getD v5.1.toNat 0) + 32)) 64) fun q9 =>
 req (0 ≤ v5.1 ∧ v5.1 < v5.2.length) <|
 req (v5.1.toNat < v5.2.length) <|
 some (.go (Xaa .i64 (v5.1 + 1), (v5.2.set v5.1.toNat q9)))) (
 some (.done v5.2))
def Xjn (p0 : (List Int)) : Option (List Int) :=
 bnd (Xcn p0 64 10000000) fun q1 =>
 sel (!q1) (
 some ([] : List Int)) (
 bnd (Xky p0) fun q2 =>
 bnd (loop (Xiy) (0, q2)) fun v8 =>
 some v8)
def Xp1 (p0 : Int) : Option Int :=
 bnd (Xar p0 0 15) fun q1 =>
 sel (!q1) (
 some (-1)) (
 req ((4 : Int) ≠ 0) <|
 req ((2 : Int) ≠ 0) <|
 req ((4 : Int) ≠ 0) <|
 req ((2 : Int) ≠ 0) <|
 bnd (
 sel (((Xaa .i64 (p0.tdiv 4)).tmod 2) == 0) (
 some (((p0.tmod 4).tmod 2) == 0)) (
 some false)) fun v2 =>
 sel v2 (
 some 0) (
 bnd (
 sel (((Xaa .i64 (p0.tdiv 4)).tmod 2) == 1) (
 some (((p0.tmod 4).tmod 2) == 1)) (
 some false)) fun v3 =>
 sel v3 (
 some 1) (
 some 2)))
def Xbg (p0 : Int) (p1 : Int) (p2 : Int) (p3 : Int) : Option Int :=
 sel (p0 == 0) (
 some p1) (
 sel (p0 == 1) (
 some p2) (
 some p3))
def Xgc (p0 : Int) (v12 : (Int × Int)) : Option (Lp (Int × Int) Int) :=
 req ((6 : Int) ≠ 0) <|
 sel (decide (v12.2 < (Xaa .i64 (p0.tdiv 6)))) (
 some (.go (Xaa .i64 (2 * v12.1), Xaa .i64 (v12.2 + 1)))) (
 some (.done v12.1))
def Xn3 (p0 : Int) (p1 : Int) : Option Int :=
 bnd (Xp1 p1) fun q1 =>
 bnd (
 bnd (Xar p0 0 40) fun q3 =>
 sel q3 (
 some (decide (q1 < 0))) (
 some true)) fun v2 =>
 sel v2 (
 some 0) (
 bnd (
 req ((6 : Int) ≠ 0) <|
 sel ((p0.tmod 6) == 0) (
 bnd (Xbg q1 10 16 13) fun q5 =>
 some q5) (
 sel ((p0.tmod 6) == 1) (
 bnd (Xbg q1 11 18 14) fun q6 =>
 some q6) (
 sel ((p0.tmod 6) == 2) (
 bnd (Xbg q1 13 20 16) fun q7 =>
 some q7) (
 sel ((p0.tmod 6) == 3) (
 bnd (Xbg q1 14 23 18) fun q8 =>
 some q8) (
 sel ((p0.tmod 6) == 4) (
 bnd (Xbg q1 16 25 20) fun q9 =>
 some q9) (
 sel ((p0.tmod 6) == 5) (
 bnd (Xbg q1 18 29 23) fun q10 =>
 some q10) (
 some 0))))))) fun v4 =>
 bnd (loop (Xgc p0) (v4, 0)) fun v14 =>
 some v14)
def Xjp (p0 : Int) (p1 : Int) (p2 : Int) : Option Int :=
 bnd (Xar p0 (-5000) 5000) fun q1 =>
 sel (!q1) (
 some 0) (
 bnd (Xn3 p1 p2) fun q2 =>
 some (Xaa .i64 (p0 * q2)))
def Xdy (p0 : (List Int)) (v4 : (Int × (List Int))) : Option (Lp (Int × (List Int)) (List Int)) :=
 sel (decide (v4.1 < 4)) (
 req (0 ≤ (Xaa .i64 (4 * v4.1)) ∧ (Xaa .i64 (4 * v4.1)) < p0.length) <|
 req (0 ≤ (Xaa .i64 ((Xaa .i64 (4 * v4.1)) + 1)) ∧ (Xaa .i64 ((Xaa .i64 (4 * v4.1)) + 1)) < p0.length) <|
 req (0 ≤ (Xaa .i64 ((Xaa .i64 (4 * v4.1)) + 2)) ∧ (Xaa .i64 ((Xaa .i64 (4 * v4.1)) + 2)) < p0.length) <|
 req (0 ≤ (Xaa .i64 ((Xaa .i64 (4 * v4.1)) + 3)) ∧ (Xaa .i64 ((Xaa .i64 (4 * v4.1)) + 3)) < p0.length) <|
 bnd (Xeb (p0.getD (Xaa .i64 ((Xaa .i64 (4 * v4.1)) + 1)).toNat 0) 2) fun q9 =>
 bnd (Xeb (p0.getD (Xaa .i64 ((Xaa .i64 (4 * v4.1)) + 3)).toNat 0) 2) fun q10 =>
 req ((v4.2.length + ([Xaa .i64 ((Xaa .i64 ((p0.getD (Xaa .i64 (4 * v4.1)).toNat 0) + (p0.getD (Xaa .i64 ((Xaa .i64 (4 * v4.1)) + 2)).toNat 0))) + (Xaa .i64 ((p0.getD (Xaa .i64 ((Xaa .i64 (4 * v4.1)) + 1)).toNat 0) + q10))), Xaa .i64 ((Xaa .i64 ((p0.getD (Xaa .i64 (4 * v4.1)).toNat 0) - (p0.getD (Xaa .i64 ((Xaa .i64 (4 * v4.1)) + 2)).toNat 0))) + (Xaa .i64 (q9 - (p0.getD (Xaa .i64 ((Xaa .i64 (4 * v4.1)) + 3)).toNat 0)))), Xaa .i64 ((Xaa .i64 ((p0.getD (Xaa .i64 (4 * v4.1)).toNat 0) - (p0.getD (Xaa .i64 ((Xaa .i64 (4 * v4.1)) + 2)).toNat 0))) - (Xaa .i64 (q9 - (p0.getD (Xaa .i64 ((Xaa .i64 (4 * v4.1)) + 3)).toNat 0)))), Xaa .i64 ((Xaa .i64 ((p0.getD (Xaa .i64 (4 * v4.1)).toNat 0) + (p0.getD (Xaa .i64 ((Xaa .i64 (4 * v4.1)) + 2)).toNat 0))) - (Xaa .i64 ((p0.getD (Xaa .i64 ((Xaa .i64 (4 * v4.1)) + 1)).toNat 0) + q10)))]).length) * 8 ≤ 140737488355328 ∧ v4.2.length + ([Xaa .i64 ((Xaa .i64 ((p0.getD (Xaa .i64 (4 * v4.1)).toNat 0) + (p0.getD (Xaa .i64 ((Xaa .i64 (4 * v4.1)) + 2)).toNat 0))) + (Xaa .i64 ((p0.getD (Xaa .i64 ((Xaa .i64 (4 * v4.1)) + 1)).toNat 0) + q10))), Xaa .i64 ((Xaa .i64 ((p0.getD (Xaa .i64 (4 * v4.1)).toNat 0) - (p0.getD (Xaa .i64 ((Xaa .i64 (4 * v4.1)) + 2)).toNat 0))) + (Xaa .i64 (q9 - (p0.getD (Xaa .i64 ((Xaa .i64 (4 * v4.1)) + 3)).toNat 0)))), Xaa .i64 ((Xaa .i64 ((p0.getD (Xaa .i64 (4 * v4.1)).toNat 0) - (p0.getD (Xaa .i64 ((Xaa .i64 (4 * v4.1)) + 2)).toNat 0))) - (Xaa .i64 (q9 - (p0.getD (Xaa .i64 ((Xaa .i64 (4 * v4.1)) + 3)).toNat 0)))), Xaa .i64 ((Xaa .i64 ((p0.getD (Xaa .i64 (4 * v4.1)).toNat 0) + (p0.getD (Xaa .i64 ((Xaa .i64 (4 * v4.1)) + 2)).toNat 0))) - (Xaa .i64 ((p0.getD (Xaa .i64 ((Xaa .i64 (4 * v4.1)) + 1)).toNat 0) + q10)))]).length ≤ maxLen) <|
 some (.go (Xaa .i64 (v4.1 + 1), (v4.2 ++ ([Xaa .i64 ((Xaa .i64 ((p0.getD (Xaa .i64 (4 * v4.1)).toNat 0) + (p0.getD (Xaa .i64 ((Xaa .i64 (4 * v4.1)) + 2)).toNat 0))) + (Xaa .i64 ((p0.getD (Xaa .i64 ((Xaa .i64 (4 * v4.1)) + 1)).toNat 0) + q10))), Xaa .i64 ((Xaa .i64 ((p0.getD (Xaa .i64 (4 * v4.1)).toNat 0) - (p0.getD (Xaa .i64 ((Xaa .i64 (4 * v4.1)) + 2)).toNat 0))) + (Xaa .i64 (q9 - (p0.getD (Xaa .i64 ((Xaa .i64 (4 * v4.1)) + 3)).toNat 0)))), Xaa .i64 ((Xaa .i64 ((p0.getD (Xaa .i64 (4 * v4.1)).toNat 0) - (p0.getD (Xaa .i64 ((Xaa .i64 (4 * v4.1)) + 2)).toNat 0))) - (Xaa .i64 (q9 - (p0.getD (Xaa .i64 ((Xaa .i64 (4 * v4.1)) + 3)).toNat 0)))), Xaa .i64 ((Xaa .i64 ((p0.getD (Xaa .i64 (4 * v4.1)).toNat 0) + (p0.getD (Xaa .i64 ((Xaa .i64 (4 * v4.1)) + 2)).toNat 0))) - (Xaa .i64 ((p0.getD (Xaa .i64 ((Xaa .i64 (4 * v4.1)) + 1)).toNat 0) + q10)))]))))) (
 some (.done v4.2))
def Xi0 (p0 : (List Int)) : Option (List Int) :=
 bnd (loop (Xdy p0) (0, ([] : List Int))) fun v8 =>
 some v8
def Xer (p0 : (List Int)) (v2 : (Int × (List Int))) : Option (Lp (Int × (List Int)) (List Int)) :=
 sel (decide (v2.1 < 16)) (
 req ((4 : Int) ≠ 0) <|
 req ((4 : Int) ≠ 0) <|
 req (0 ≤ v2.1 ∧ v2.1 < p0.length) <|
 req (0 ≤ (Xaa .i64 ((Xaa .i64 ((v2.1.tmod 4) * 4)) + (Xaa .i64 (v2.1.tdiv 4)))) ∧ (Xaa .i64 ((Xaa .i64 ((v2.1.tmod 4) * 4)) + (Xaa .i64 (v2.1.tdiv 4)))) < v2.2.length) <|
 req ((Xaa .i64 ((Xaa .i64 ((v2.1.tmod 4) * 4)) + (Xaa .i64 (v2.1.tdiv 4)))).toNat < v2.2.length) <|
 some (.go (Xaa .i64 (v2.1 + 1), (v2.2.set ((Xaa .i64 ((Xaa .i64 ((v2.1.tmod 4) * 4)) + (Xaa .i64 (v2.1.tdiv 4)))).toNat) (p0.getD v2.1.toNat 0))))) (
 some (.done v2.2))
def Xgl (p0 : (List Int)) : Option (List Int) :=
 req (0 ≤ (16 : Int) ∧ (16 : Int) ≤ (16 : Int) ∧ (16 : Int) * 8 ≤ 281474976710656) <|
 bnd (loop (Xer p0) (0, (List.replicate (16 : Int).toNat (0 : Int)))) fun v4 =>
 some v4
def Xj3 (v8 : (Int × (List Int))) : Option (Lp (Int × (List Int)) (List Int)) :=
 sel (decide (v8.1 < 16)) (
 req (0 ≤ v8.1 ∧ v8.1 < v8.2.length) <|
 req (v8.1.toNat < v8.2.length) <|
 bnd (Xeb (Xaa .i64 ((v8.2.getD v8.1.toNat 0) + 32)) 64) fun q12 =>
 req (0 ≤ v8.1 ∧ v8.1 < v8.2.length) <|
 req (v8.1.toNat < v8.2.length) <|
 some (.go (Xaa .i64 (v8.1 + 1), (v8.2.set v8.1.toNat q12)))) (
 some (.done v8.2))
def Xls (p0 : (List Int)) : Option (List Int) :=
 bnd (Xcn p0 16 10000000) fun q1 =>
 sel (!q1) (
 some ([] : List Int)) (
 bnd (Xi0 p0) fun q2 =>
 bnd (Xgl q2) fun q3 =>
 bnd (Xi0 q3) fun q4 =>
 bnd (Xgl q4) fun q5 =>
 bnd (loop (Xj3) (0, q5)) fun v11 =>
 some v11)
def Xbs (p1 : Xeu) (v8 : (Int × (List Int))) : Option (Lp (Int × (List Int)) (List Int)) :=
 sel (decide (v8.1 < 64)) (
 req (0 ≤ v8.1 ∧ v8.1 < v8.2.length) <|
 req (v8.1.toNat < v8.2.length) <|
 bnd (Xjo (v8.2.getD v8.1.toNat 0) p1.Qp) fun q12 =>
 req (0 ≤ v8.1 ∧ v8.1 < v8.2.length) <|
 req (v8.1.toNat < v8.2.length) <|
 some (.go (Xaa .i64 (v8.1 + 1), (v8.2.set v8.1.toNat q12)))) (
 some (.done v8.2))
def Xbm (p1 : Xeu) (v52 : (Int × (List Int))) : Option (Lp (Int × (List Int)) (List Int)) :=
 sel (decide (v52.1 < 16)) (
 req (0 ≤ v52.1 ∧ v52.1 < v52.2.length) <|
 req (v52.1.toNat < v52.2.length) <|
 bnd (Xjp (v52.2.getD v52.1.toNat 0) p1.Qp v52.1) fun q56 =>
 req (0 ≤ v52.1 ∧ v52.1 < v52.2.length) <|
 req (v52.1.toNat < v52.2.length) <|
 some (.go (Xaa .i64 (v52.1 + 1), (v52.2.set v52.1.toNat q56)))) (
 some (.done v52.2))
def Xbv (v31 : (Int × (List Int))) (q58 : (List Int)) (v60 : (Int × (List Int))) : Option (Lp (Int × (List Int)) (List Int)) :=
 sel (decide (v60.1 < 16)) (
 req ((2 : Int) ≠ 0) <|
 req ((4 : Int) ≠ 0) <|
 req ((2 : Int) ≠ 0) <|
 req ((4 : Int) ≠ 0) <|
 req (0 ≤ v60.1 ∧ v60.1 < q58.length) <|
 req (v60.1.toNat < q58.length) <|
 req (0 ≤ (Xaa .i64 ((Xaa .i64 ((Xaa .i64 (8 * (Xaa .i64 ((Xaa .i64 ((Xaa .i64 (v31.1.tdiv 2)) * 4)) + (Xaa .i64 (v60.1.tdiv 4)))))) + (Xaa .i64 ((v31.1.tmod 2) * 4)))) + (v60.1.tmod 4))) ∧ (Xaa .i64 ((Xaa .i64 ((Xaa .i64 (8 * (Xaa .i64 ((Xaa .i64 ((Xaa .i64 (v31.1.tdiv 2)) * 4)) + (Xaa .i64 (v60.1.tdiv 4)))))) + (Xaa .i64 ((v31.1.tmod 2) * 4)))) + (v60.1.tmod 4))) < v60.2.length) <|
 req ((Xaa .i64 ((Xaa .i64 ((Xaa .i64 (8 * (Xaa .i64 ((Xaa .i64 ((Xaa .i64 (v31.1.tdiv 2)) * 4)) + (Xaa .i64 (v60.1.tdiv 4)))))) + (Xaa .i64 ((v31.1.tmod 2) * 4)))) + (v60.1.tmod 4))).toNat < v60.2.length) <|
 some (.go (Xaa .i64 (v60.1 + 1), (v60.2.set ((Xaa .i64 ((Xaa .i64 ((Xaa .i64 (8 * (Xaa .i64 ((Xaa .i64 ((Xaa .i64 (v31.1.tdiv 2)) * 4)) + (Xaa .i64 (v60.1.tdiv 4)))))) + (Xaa .i64 ((v31.1.tmod 2) * 4)))) + (v60.1.tmod 4))).toNat) (q58.getD v60.1.toNat 0))))) (
 some (.done v60.2))
def Xdg (p0 : (List Int)) (p1 : Xeu) (v31 : (Int × (List Int))) : Option (Lp (Int × (List Int)) (List Int)) :=
 sel (decide (v31.1 < 4)) (
 req (0 ≤ (Xaa .i64 (16 * v31.1)) ∧ (Xaa .i64 (16 * v31.1)) ≤ (Xaa .i64 ((Xaa .i64 (16 * v31.1)) + 16)) ∧ (Xaa .i64 ((Xaa .i64 (16 * v31.1)) + 16)) ≤ (p0.length : Int)) <|
 bnd (Xdn 4 ((p0.drop (Xaa .i64 (16 * v31.1)).toNat).take ((Xaa .i64 ((Xaa .i64 (16 * v31.1)) + 16)).toNat - (Xaa .i64 (16 * v31.1)).toNat))) fun q49 =>
 bnd (loop (Xbm p1) (0, q49.1)) fun v55 =>
 bnd (Xls v55) fun q58 =>
 bnd (loop (Xbv v31 q58) (0, v31.2)) fun v62 =>
 some (.go (Xaa .i64 (v31.1 + 1), v62))) (
 some (.done v31.2))
def Xcg (p0 : (List Int)) (p1 : Xeu) : Option ((List Int) × Bool) :=
 bnd (
 bnd (Xmy p1) fun q2 =>
 sel q2 (
 bnd (Xcn p0 64 5000) fun q3 =>
 some (!q3)) (
 some true)) fun v1 =>
 sel v1 (
 some (([] : List Int), false)) (
 sel p1.Exact (
 bnd (Xdn 8 p0) fun q4 =>
 some (q4.1, q4.2)) (
 sel p1.Large (
 bnd (Xdn 8 p0) fun q5 =>
 bnd (loop (Xbs p1) (0, q5.1)) fun v11 =>
 bnd (Xjn v11) fun q14 =>
 some (q14, true)) (
 req (0 ≤ (64 : Int) ∧ (64 : Int) ≤ (64 : Int) ∧ (64 : Int) * 8 ≤ 281474976710656) <|
 bnd (loop (Xdg p0 p1) (0, (List.replicate (64 : Int).toNat (0 : Int)))) fun v48 =>
 some (v48, true))))
def Xl3 (p0 : (List Int)) (v4 : Int) : Option (Lp Int (Ou Unit Bool)) :=
 sel (decide (v4 < (p0.length : Int))) (
 req (0 ≤ v4 ∧ v4 < p0.length) <|
 bnd (Xar (p0.getD v4.toNat 0) 0 255) fun q8 =>
 sel (!q8) (
 some (.done (.ret false))) (
 some (.go (Xaa .i64 (v4 + 1))))) (
 some (.done (.out ())))
def Xqz (p0 : (List Int)) : Option Bool :=
 bnd (
 sel ((p0.length : Int) != 0) (
 some ((p0.length : Int) != 8)) (
 some false)) fun v1 =>
 sel v1 (
 some false) (
 bnd (loop (Xl3 p0) 0) fun o9 => match o9 with
| .out v7 => (
 some true)
| .ret r => some r)
def Xqw (p0 : Xi9) : Option Bool :=
 bnd (
 bnd (Xqz p0.Above) fun q2 =>
 sel q2 (
 bnd (Xqz p0.Left) fun q3 =>
 sel q3 (
 bnd (Xar p0.Corner (-1) 255) fun q4 =>
 some q4) (
 some false)) (
 some false)) fun v1 =>
 some v1
def Xfo (p0 : (List Int)) (p1 : Int) : Option Int :=
 sel ((p0.length : Int) == 0) (
 some 128) (
 req (0 ≤ p1 ∧ p1 < p0.length) <|
 some (p0.getD p1.toNat 0))
def Xjt (p0 : Xi9) (v2 : (Int × Int)) : Option (Lp (Int × Int) Int) :=
 sel (decide (v2.2 < (p0.Above.length : Int))) (
 req (0 ≤ v2.2 ∧ v2.2 < p0.Above.length) <|
 some (.go (Xaa .i64 (v2.1 + (p0.Above.getD v2.2.toNat 0)), Xaa .i64 (v2.2 + 1)))) (
 some (.done v2.1))
def Xju (p0 : Xi9) (v7 : (Int × Int)) : Option (Lp (Int × Int) Int) :=
 sel (decide (v7.2 < (p0.Left.length : Int))) (
 req (0 ≤ v7.2 ∧ v7.2 < p0.Left.length) <|
 some (.go (Xaa .i64 (v7.1 + (p0.Left.getD v7.2.toNat 0)), Xaa .i64 (v7.2 + 1)))) (
 some (.done v7.1))
def Xp7 (p0 : Xi9) : Option Int :=
 sel ((Xaa .i64 ((p0.Above.length : Int) + (p0.Left.length : Int))) == 0) (
 some 128) (
 req ((2 : Int) ≠ 0) <|
 bnd (loop (Xjt p0) (Xaa .i64 ((Xaa .i64 ((p0.Above.length : Int) + (p0.Left.length : Int))).tdiv 2), 0)) fun v4 =>
 bnd (loop (Xju p0) (v4, 0)) fun v9 =>
 req ((Xaa .i64 ((p0.Above.length : Int) + (p0.Left.length : Int))) ≠ 0) <|
 some (Xaa .i64 (v9.tdiv (Xaa .i64 ((p0.Above.length : Int) + (p0.Left.length : Int))))))
def Xep (p0 : Int) (p1 : Xi9) (v4 : Int) (v11 : (Int × (List Int))) : Option (Lp (Int × (List Int)) (List Int)) :=
 sel (decide (v11.1 < 64)) (
 bnd (
 req ((8 : Int) ≠ 0) <|
 bnd (Xfo p1.Above (v11.1.tmod 8)) fun q20 =>
 req ((8 : Int) ≠ 0) <|
 bnd (Xfo p1.Left (Xaa .i64 (v11.1.tdiv 8))) fun q21 =>
 sel (p0 == 0) (
 bnd (Xp7 p1) fun q22 =>
 req ((v11.2.length + ([q22]).length) * 8 ≤ 140737488355328 ∧ v11.2.length + ([q22]).length ≤ maxLen) <|
 some (v11.2 ++ ([q22]))) (
 sel (p0 == 1) (
 req ((v11.2.length + ([q20]).length) * 8 ≤ 140737488355328 ∧ v11.2.length + ([q20]).length ≤ maxLen) <|
 some (v11.2 ++ ([q20]))) (
 sel (p0 == 2) (
 req ((v11.2.length + ([q21]).length) * 8 ≤ 140737488355328 ∧ v11.2.length + ([q21]).length ≤ maxLen) <|
 some (v11.2 ++ ([q21]))) (
 bnd (Xff (Xaa .i64 ((Xaa .i64 (q21 + q20)) - v4)) 0 255) fun q23 =>
 req ((v11.2.length + ([q23]).length) * 8 ≤ 140737488355328 ∧ v11.2.length + ([q23]).length ≤ maxLen) <|
 some (v11.2 ++ ([q23])))))) fun v19 =>
 some (.go (Xaa .i64 (v11.1 + 1), v19))) (
 some (.done v11.2))
def Xd9 (p0 : Int) (p1 : Xi9) : Option (List Int) :=
 bnd (
 bnd (Xqw p1) fun q2 =>
 sel q2 (
 bnd (Xar p0 0 3) fun q3 =>
 some (!q3)) (
 some true)) fun v1 =>
 sel v1 (
 some ([] : List Int)) (
 bnd (
 sel (decide (p1.Corner < 0)) (
 some 128) (
 some p1.Corner)) fun v4 =>
 bnd (loop (Xep p0 p1 v4) (0, ([] : List Int))) fun v18 =>
 some v18)
def Xet (p0 : (List Int)) (v3 : Int) : Option (Lp Int (Ou Unit Bool)) :=
 sel (decide (v3 < 64)) (
 req (0 ≤ v3 ∧ v3 < p0.length) <|
 bnd (Xar (p0.getD v3.toNat 0) 0 255) fun q7 =>
 sel (!q7) (
 some (.done (.ret false))) (
 some (.go (Xaa .i64 (v3 + 1))))) (
 some (.done (.out ())))
def Xgm (p0 : (List Int)) : Option Bool :=
 sel ((p0.length : Int) != 64) (
 some false) (
 bnd (loop (Xet p0) 0) fun o8 => match o8 with
| .out v6 => (
 some true)
| .ret r => some r)
def Xdm (p0 : (List Int)) (p1 : (List Int)) (v6 : (Int × (List Int))) : Option (Lp (Int × (List Int)) (List Int)) :=
 sel (decide (v6.1 < 64)) (
 req (0 ≤ v6.1 ∧ v6.1 < p0.length) <|
 req (0 ≤ v6.1 ∧ v6.1 < p1.length) <|
 bnd (Xff (Xaa .i64 ((p0.getD v6.1.toNat 0) + (p1.getD v6.1.toNat 0))) 0 255) fun q10 =>
 req ((v6.2.length + ([q10]).length) * 8 ≤ 140737488355328 ∧ v6.2.length + ([q10]).length ≤ maxLen) <|
 some (.go (Xaa .i64 (v6.1 + 1), (v6.2 ++ ([q10]))))) (
 some (.done v6.2))
def Xid (p0 : (List Int)) (p1 : (List Int)) : Option (List Int) :=
 bnd (
 bnd (Xgm p0) fun q2 =>
 sel q2 (
 bnd (Xcn p1 64 10000000) fun q3 =>
 some (!q3)) (
 some true)) fun v1 =>
 sel v1 (
 some ([] : List Int)) (
 bnd (loop (Xdm p0 p1) (0, ([] : List Int))) fun v9 =>
 some v9)
def Xlr (p0 : Pic) (p1 : Int) (p2 : Int) (v7 : (Int × (List Int))) : Option (Lp (Int × (List Int)) (List Int)) :=
 sel (decide (v7.1 < 64)) (
 req ((8 : Int) ≠ 0) <|
 req ((8 : Int) ≠ 0) <|
 bnd (Xe3 p0 (Xaa .i64 (p1 + (v7.1.tmod 8))) (Xaa .i64 (p2 + (Xaa .i64 (v7.1.tdiv 8))))) fun q11 =>
 req ((v7.2.length + ([q11]).length) * 8 ≤ 140737488355328 ∧ v7.2.length + ([q11]).length ≤ maxLen) <|
 some (.go (Xaa .i64 (v7.1 + 1), (v7.2 ++ ([q11]))))) (
 some (.done v7.2))
def Xkv (p0 : Pic) (p1 : Int) (p2 : Int) : Option (List Int) :=
 bnd (
 bnd (Xe4 p0) fun q2 =>
 sel q2 (
 bnd (Xar p1 (-1000) 1000) fun q3 =>
 sel q3 (
 bnd (Xar p2 (-1000) 1000) fun q4 =>
 some (!q4)) (
 some true)) (
 some true)) fun v1 =>
 sel v1 (
 some ([] : List Int)) (
 bnd (loop (Xlr p0 p1 p2) (0, ([] : List Int))) fun v10 =>
 some v10)
def Xc3 (p0 : Pic) (p1 : Pic) (p2 : Int) (p3 : Int) (p4 : Xeu) (p5 : Int) (p6 : Int) (p7 : Xam) : Option ((List Int) × Bool) :=
 bnd (
 bnd (Xkz p0 p5 p6) fun q2 =>
 sel q2 (
 bnd (Xar p2 0 256) fun q3 =>
 sel q3 (
 bnd (Xar p3 0 256) fun q4 =>
 sel q4 (
 bnd (Xtj p7) fun q5 =>
 sel q5 (
 bnd (Xmy p4) fun q6 =>
 some (!q6)) (
 some true)) (
 some true)) (
 some true)) (
 some true)) fun v1 =>
 sel v1 (
 some (([] : List Int), false)) (
 sel (p7.Kind == 2) (
 bnd (Xgj p0 p5 p6) fun q7 =>
 bnd (Xcg p7.Levels p4) fun q8 =>
 bnd (Xd9 p7.Mode q7.1) fun q9 =>
 bnd (Xid q9 q8.1) fun q10 =>
 some (q10, true)) (
 bnd (
 sel p4.Key (
 some true) (
 bnd (Xe4 p1) fun q12 =>
 some (!q12))) fun v11 =>
 sel v11 (
 some (([] : List Int), false)) (
 bnd (Xkv p1 (Xaa .i64 ((Xaa .i64 (p2 + p5)) + p7.Dx)) (Xaa .i64 ((Xaa .i64 (p3 + p6)) + p7.Dy))) fun q13 =>
 sel (p7.Kind == 0) (
 some (q13, true)) (
 bnd (Xcg p7.Levels p4) fun q14 =>
 bnd (Xid q13 q14.1) fun q15 =>
 some (q15, true)))))
def Xdo (p0 : Pic) (p1 : Int) (p2 : Int) (p3 : (List Int)) (v2 : (Int × (List Int))) : Option (Lp (Int × (List Int)) (List Int)) :=
 sel (decide (v2.1 < 64)) (
 req ((8 : Int) ≠ 0) <|
 req ((8 : Int) ≠ 0) <|
 req (0 ≤ v2.1 ∧ v2.1 < p3.length) <|
 req (0 ≤ (Xaa .i64 ((Xaa .i64 ((Xaa .i64 ((Xaa .i64 (p2 + (Xaa .i64 (v2.1.tdiv 8)))) * p0.Wide)) + p1)) + (v2.1.tmod 8))) ∧ (Xaa .i64 ((Xaa .i64 ((Xaa .i64 ((Xaa .i64 (p2 + (Xaa .i64 (v2.1.tdiv 8)))) * p0.Wide)) + p1)) + (v2.1.tmod 8))) < v2.2.length) <|
 req ((Xaa .i64 ((Xaa .i64 ((Xaa .i64 ((Xaa .i64 (p2 + (Xaa .i64 (v2.1.tdiv 8)))) * p0.Wide)) + p1)) + (v2.1.tmod 8))).toNat < v2.2.length) <|
 some (.go (Xaa .i64 (v2.1 + 1), (v2.2.set ((Xaa .i64 ((Xaa .i64 ((Xaa .i64 ((Xaa .i64 (p2 + (Xaa .i64 (v2.1.tdiv 8)))) * p0.Wide)) + p1)) + (v2.1.tmod 8))).toNat) (Xaa .u8 ((p3.getD v2.1.toNat 0))))))) (
 some (.done v2.2))
def Xgy (p0 : Pic) (p1 : Int) (p2 : Int) (p3 : (List Int)) : Option Pic :=
 req (p0.Dots.size ≤ maxLen) <|
 bnd (loop (Xdo p0 p1 p2 p3) (0, (Xaz p0.Dots))) fun v4 =>
 some (⟨p0.Wide, p0.High, (strOfNums v4)⟩ : Pic)
def Xbk (p0 : Pic) (p1 : Pic) (p2 : Int) (p3 : Int) (v10 : (Int × (List Int))) (v19 : (Int × (List Int))) : Option (Lp (Int × (List Int)) (List Int)) :=
 sel (decide (v19.1 < p1.Wide)) (
 req (0 ≤ (Xaa .i64 ((Xaa .i64 (v10.1 * p1.Wide)) + v19.1)) ∧ (Xaa .i64 ((Xaa .i64 (v10.1 * p1.Wide)) + v19.1)) < p1.Dots.size) <|
 req (0 ≤ (Xaa .i64 ((Xaa .i64 ((Xaa .i64 ((Xaa .i64 (p3 + v10.1)) * p0.Wide)) + p2)) + v19.1)) ∧ (Xaa .i64 ((Xaa .i64 ((Xaa .i64 ((Xaa .i64 (p3 + v10.1)) * p0.Wide)) + p2)) + v19.1)) < v19.2.length) <|
 req ((Xaa .i64 ((Xaa .i64 ((Xaa .i64 ((Xaa .i64 (p3 + v10.1)) * p0.Wide)) + p2)) + v19.1)).toNat < v19.2.length) <|
 some (.go (Xaa .i64 (v19.1 + 1), (v19.2.set ((Xaa .i64 ((Xaa .i64 ((Xaa .i64 ((Xaa .i64 (p3 + v10.1)) * p0.Wide)) + p2)) + v19.1)).toNat) (Xuh p1.Dots (Xaa .i64 ((Xaa .i64 (v10.1 * p1.Wide)) + v19.1))))))) (
 some (.done v19.2))
def Xch (p0 : Pic) (p1 : Pic) (p2 : Int) (p3 : Int) (v10 : (Int × (List Int))) : Option (Lp (Int × (List Int)) (List Int)) :=
 sel (decide (v10.1 < p1.High)) (
 bnd (loop (Xbk p0 p1 p2 p3 v10) (0, v10.2)) fun v21 =>
 some (.go (Xaa .i64 (v10.1 + 1), v21))) (
 some (.done v10.2))
def Xte (p0 : Pic) (p1 : Pic) (p2 : Int) (p3 : Int) : Option (Pic × Bool) :=
 bnd (
 bnd (Xe4 p1) fun q2 =>
 sel q2 (
 bnd (Xfn p0 p2 p3 p1.Wide p1.High) fun q3 =>
 some (!q3)) (
 some true)) fun v1 =>
 sel v1 (
 some (p0, false)) (
 req (p0.Dots.size ≤ maxLen) <|
 bnd (loop (Xch p0 p1 p2 p3) (0, (Xaz p0.Dots))) fun v17 =>
 some ((⟨p0.Wide, p0.High, (strOfNums v17)⟩ : Pic), true))
def Ydz (p0 : Seq) : Option Seq :=
 req ((([] : List Int).length + p0.Cols.length) * 8 ≤ 140737488355328 ∧ ([] : List Int).length + p0.Cols.length ≤ maxLen) <|
 req ((([] : List Int).length + p0.Rows.length) * 8 ≤ 140737488355328 ∧ ([] : List Int).length + p0.Rows.length ≤ maxLen) <|
 some (⟨p0.Level, p0.Bits, (([] : List Int) ++ p0.Cols), (([] : List Int) ++ p0.Rows)⟩ : Seq)
def Xly (v2 : (Int × ByteArray)) : Option (Lp (Int × ByteArray) ByteArray) :=
 sel (decide (v2.1 > 0)) (
 req ((2 : Int) ≠ 0) <|
 req ((strOfNums ([Xaa .u8 (Xaa .i64 (48 + (v2.1.tmod 2)))])).size + v2.2.size ≤ 9223372036854775807) <|
 req ((2 : Int) ≠ 0) <|
 some (.go (Xaa .i64 (v2.1.tdiv 2), ((strOfNums ([Xaa .u8 (Xaa .i64 (48 + (v2.1.tmod 2)))])) ++ v2.2)))) (
 some (.done v2.2))
def Xsj (p0 : Int) : Option ByteArray :=
 bnd (loop (Xly) (Xaa .i64 (p0 + 1), ⟨#[]⟩)) fun v4 =>
 bnd (Xvb (Xaa .i64 ((v4.size : Int) - 1)) 48) fun q6 =>
 req (q6.size + v4.size ≤ 9223372036854775807) <|
 some (q6 ++ v4)
def Xyv (p0 : Int) : Option (Int × Bool) :=
 bnd (Xar p0 (-500000) 500000) fun q1 =>
 sel (!q1) (
 some (0, false)) (
 sel (decide (p0 > 0)) (
 some (Xaa .i64 ((Xaa .i64 (2 * p0)) - 1), true)) (
 some (Xaa .i64 ((-2) * p0), true)))
def Yc5 (p0 : Int) : Option ByteArray :=
 bnd (Xyv p0) fun q1 =>
 bnd (Xsj q1.1) fun q2 =>
 some q2
def Xq1 (p0 : Pic) (p1 : Pic) : Option Bool :=
 bnd (
 bnd (Xe4 p0) fun q2 =>
 sel q2 (
 bnd (Xe4 p1) fun q3 =>
 sel q3 (
 sel (p0.Wide == p1.Wide) (
 some (p0.High == p1.High)) (
 some false)) (
 some false)) (
 some false)) fun v1 =>
 some v1
def Xp8 (p0 : (List Int)) (p1 : (List Int)) (v2 : (Int × (List Int))) : Option (Lp (Int × (List Int)) (List Int)) :=
 sel (decide (v2.1 < 64)) (
 req (0 ≤ v2.1 ∧ v2.1 < p0.length) <|
 req (0 ≤ v2.1 ∧ v2.1 < p1.length) <|
 req ((v2.2.length + ([Xaa .i64 ((p0.getD v2.1.toNat 0) - (p1.getD v2.1.toNat 0))]).length) * 8 ≤ 140737488355328 ∧ v2.2.length + ([Xaa .i64 ((p0.getD v2.1.toNat 0) - (p1.getD v2.1.toNat 0))]).length ≤ maxLen) <|
 some (.go (Xaa .i64 (v2.1 + 1), (v2.2 ++ ([Xaa .i64 ((p0.getD v2.1.toNat 0) - (p1.getD v2.1.toNat 0))]))))) (
 some (.done v2.2))
def Xn6 (p0 : (List Int)) (p1 : (List Int)) : Option (List Int) :=
 bnd (loop (Xp8 p0 p1) (0, ([] : List Int))) fun v4 =>
 some v4
def Xl7 (p0 : (List Int)) (v2 : Int) : Option (Lp Int (Ou Unit Bool)) :=
 sel (decide (v2 < (p0.length : Int))) (
 req (0 ≤ v2 ∧ v2 < p0.length) <|
 sel ((p0.getD v2.toNat 0) != 0) (
 some (.done (.ret false))) (
 some (.go (Xaa .i64 (v2 + 1))))) (
 some (.done (.out ())))
def Xq2 (p0 : (List Int)) : Option Bool :=
 bnd (loop (Xl7 p0) 0) fun o5 => match o5 with
| .out v4 => (
 some true)
| .ret r => some r
def Xgx (p0 : Int) : Option Int :=
 sel (decide (p0 < 0)) (
 some (Xaa .i64 (0 - p0))) (
 some p0)
def Xo3 (p0 : (List Int)) (p1 : (List Int)) (v6 : (Int × Int)) : Option (Lp (Int × Int) Int) :=
 sel (decide (v6.2 < 64)) (
 req (0 ≤ v6.2 ∧ v6.2 < p0.length) <|
 req (0 ≤ v6.2 ∧ v6.2 < p1.length) <|
 bnd (Xgx (Xaa .i64 ((p0.getD v6.2.toNat 0) - (p1.getD v6.2.toNat 0)))) fun q10 =>
 some (.go (Xaa .i64 (v6.1 + q10), Xaa .i64 (v6.2 + 1)))) (
 some (.done v6.1))
def Xv5 (p0 : (List Int)) (p1 : (List Int)) : Option Int :=
 bnd (
 bnd (Xcn p0 64 1000) fun q2 =>
 sel q2 (
 bnd (Xcn p1 64 1000) fun q3 =>
 some (!q3)) (
 some true)) fun v1 =>
 sel v1 (
 some (-1)) (
 bnd (loop (Xo3 p0 p1) (0, 0)) fun v9 =>
 some v9)
def Yc2 (p0 : Int) : Option (ByteArray × Bool) :=
 bnd (Xar p0 0 1000000) fun q1 =>
 sel (!q1) (
 some (⟨#[]⟩, false)) (
 bnd (Xsj p0) fun q2 =>
 some (q2, true))
def Xm2 (p0 : Int) : Option Int :=
 bnd (Yc2 p0) fun q1 =>
 some (q1.1.size : Int)
def Xed (p0 : (List Int)) (p1 : Xi9) (v16 : (Int × Int × Int)) : Option (Lp (Int × Int × Int) (Int × Int)) :=
 sel (decide (v16.2.2 < 4)) (
 bnd (
 bnd (Xd9 v16.2.2 p1) fun q25 =>
 bnd (Xv5 p0 q25) fun q26 =>
 bnd (Xm2 v16.2.2) fun q27 =>
 bnd (
 sel (decide (v16.2.1 < 0)) (
 some true) (
 some (decide ((Xaa .i64 (q26 + q27)) < v16.2.1)))) fun v28 =>
 sel v28 (
 some (v16.2.2, Xaa .i64 (q26 + q27))) (
 some (v16.1, v16.2.1))) fun v24 =>
 some (.go (v24.1, v24.2, Xaa .i64 (v16.2.2 + 1)))) (
 some (.done (v16.1, v16.2.1)))
def Xjl (p0 : (List Int)) (p1 : Xi9) : Option (Int × Int) :=
 bnd (
 bnd (Xqw p1) fun q2 =>
 sel q2 (
 bnd (Xgm p0) fun q3 =>
 some (!q3)) (
 some true)) fun v1 =>
 sel v1 (
 some (0, (-1))) (
 bnd (loop (Xed p0 p1) (0, (-1), 0)) fun v23 =>
 some (v23.1, v23.2))
def Ym3 (p0 : Int) : Option (ByteArray × Bool) :=
 bnd (Xar p0 (-500000) 500000) fun q1 =>
 sel (!q1) (
 some (⟨#[]⟩, false)) (
 bnd (Yc5 p0) fun q2 =>
 some (q2, true))
def Xtg (p0 : Int) : Option Int :=
 bnd (Ym3 p0) fun q1 =>
 some (q1.1.size : Int)
def Xmx (p0 : Pic) (p1 : (List Int)) (p2 : Int) (p3 : Int) (p4 : Int) (v32 : (Int × Int × Int × Int)) (v69 : (Int × Int × Int × Int)) : Option (Lp (Int × Int × Int × Int) (Int × Int × Int)) :=
 sel (decide (v69.2.2.2 ≤ p4)) (
 bnd (
 bnd (Xfn p0 (Xaa .i64 (p2 + v69.2.2.2)) (Xaa .i64 (p3 + v32.2.2.2)) 8 8) fun q80 =>
 sel (!q80) (
 some (v69.1, v69.2.1, v69.2.2.1)) (
 bnd (Xkv p0 (Xaa .i64 (p2 + v69.2.2.2)) (Xaa .i64 (p3 + v32.2.2.2))) fun q81 =>
 bnd (Xv5 p1 q81) fun q82 =>
 bnd (Xtg v69.2.2.2) fun q83 =>
 bnd (Xtg v32.2.2.2) fun q84 =>
 bnd (
 sel (decide (v69.2.2.1 < 0)) (
 some true) (
 some (decide ((Xaa .i64 ((Xaa .i64 (q82 + q83)) + q84)) < v69.2.2.1)))) fun v85 =>
 sel v85 (
 some (v69.2.2.2, v32.2.2.2, Xaa .i64 ((Xaa .i64 (q82 + q83)) + q84))) (
 some (v69.1, v69.2.1, v69.2.2.1)))) fun v79 =>
 some (.go (v79.1, v79.2.1, v79.2.2, Xaa .i64 (v69.2.2.2 + 1)))) (
 some (.done (v69.1, v69.2.1, v69.2.2.1)))
def Xmw (p0 : Pic) (p1 : (List Int)) (p2 : Int) (p3 : Int) (p4 : Int) (v32 : (Int × Int × Int × Int)) : Option (Lp (Int × Int × Int × Int) (Int × Int × Int)) :=
 sel (decide (v32.2.2.2 ≤ p4)) (
 bnd (loop (Xmx p0 p1 p2 p3 p4 v32) (v32.1, v32.2.1, v32.2.2.1, Xaa .i64 (0 - p4))) fun v78 =>
 some (.go (v78.1, v78.2.1, v78.2.2, Xaa .i64 (v32.2.2.2 + 1)))) (
 some (.done (v32.1, v32.2.1, v32.2.2.1)))
def Xo1 (p0 : Pic) (p1 : (List Int)) (p2 : Int) (p3 : Int) (p4 : Int) : Option (Int × Int × Int) :=
 bnd (
 bnd (Xgm p1) fun q2 =>
 sel q2 (
 bnd (Xar p4 0 4) fun q3 =>
 sel q3 (
 bnd (Xkz p0 p2 p3) fun q4 =>
 some (!q4)) (
 some true)) (
 some true)) fun v1 =>
 sel v1 (
 some (0, 0, (-1))) (
 bnd (loop (Xmw p0 p1 p2 p3 p4) (0, 0, (-1), Xaa .i64 (0 - p4))) fun v60 =>
 some (v60.1, v60.2.1, v60.2.2))
def Xci (p0 : Int) (p1 : (List Int)) (v4 : (Int × (List Int))) : Option (Lp (Int × (List Int)) (List Int)) :=
 sel (decide (v4.1 < (Xaa .i64 (p0 * p0)))) (
 bnd (Xtf p0 v4.1) fun q8 =>
 req (0 ≤ q8 ∧ q8 < p1.length) <|
 req ((v4.2.length + ([(p1.getD q8.toNat 0)]).length) * 8 ≤ 140737488355328 ∧ v4.2.length + ([(p1.getD q8.toNat 0)]).length ≤ maxLen) <|
 some (.go (Xaa .i64 (v4.1 + 1), (v4.2 ++ ([(p1.getD q8.toNat 0)]))))) (
 some (.done v4.2))
def Xfg (p0 : Int) (p1 : (List Int)) : Option ((List Int) × Bool) :=
 bnd (
 sel (p0 != 4) (
 sel (p0 != 8) (
 some true) (
 some ((p1.length : Int) != (Xaa .i64 (p0 * p0))))) (
 some ((p1.length : Int) != (Xaa .i64 (p0 * p0))))) fun v1 =>
 sel v1 (
 some (([] : List Int), false)) (
 bnd (loop (Xci p0 p1) (0, ([] : List Int))) fun v7 =>
 some (v7, true))
def Xsd (p0 : (List Int)) : Option (List Int) :=
 bnd (Xcn p0 64 1000) fun q1 =>
 sel (!q1) (
 some ([] : List Int)) (
 bnd (Xky p0) fun q2 =>
 some q2)
def Xjs (p0 : Int) (p1 : Int) : Option Int :=
 sel (decide (p0 < 0)) (
 some (Xaa .i64 (0 - p1))) (
 some p1)
def Xie (p0 : Int) (p1 : Int) : Option Int :=
 bnd (
 bnd (Xar p0 (-20000) 20000) fun q2 =>
 sel q2 (
 bnd (Xar p1 0 40) fun q3 =>
 some (!q3)) (
 some true)) fun v1 =>
 sel v1 (
 some 0) (
 bnd (Xkf p1) fun q4 =>
 bnd (Xgx p0) fun q5 =>
 req ((2 : Int) ≠ 0) <|
 req (q4 ≠ 0) <|
 bnd (Xjs p0 (Xaa .i64 ((Xaa .i64 (q5 + (Xaa .i64 (q4.tdiv 2)))).tdiv q4))) fun q6 =>
 some q6)
def Xce (p0 : (List Int)) (p1 : Int) (v2 : (Int × (List Int))) : Option (Lp (Int × (List Int)) (List Int)) :=
 sel (decide (v2.1 < 16)) (
 req ((2 : Int) ≠ 0) <|
 req ((4 : Int) ≠ 0) <|
 req ((2 : Int) ≠ 0) <|
 req ((4 : Int) ≠ 0) <|
 req (0 ≤ (Xaa .i64 ((Xaa .i64 ((Xaa .i64 (8 * (Xaa .i64 ((Xaa .i64 ((Xaa .i64 (p1.tdiv 2)) * 4)) + (Xaa .i64 (v2.1.tdiv 4)))))) + (Xaa .i64 ((p1.tmod 2) * 4)))) + (v2.1.tmod 4))) ∧ (Xaa .i64 ((Xaa .i64 ((Xaa .i64 (8 * (Xaa .i64 ((Xaa .i64 ((Xaa .i64 (p1.tdiv 2)) * 4)) + (Xaa .i64 (v2.1.tdiv 4)))))) + (Xaa .i64 ((p1.tmod 2) * 4)))) + (v2.1.tmod 4))) < p0.length) <|
 req ((v2.2.length + ([(p0.getD (Xaa .i64 ((Xaa .i64 ((Xaa .i64 (8 * (Xaa .i64 ((Xaa .i64 ((Xaa .i64 (p1.tdiv 2)) * 4)) + (Xaa .i64 (v2.1.tdiv 4)))))) + (Xaa .i64 ((p1.tmod 2) * 4)))) + (v2.1.tmod 4))).toNat 0)]).length) * 8 ≤ 140737488355328 ∧ v2.2.length + ([(p0.getD (Xaa .i64 ((Xaa .i64 ((Xaa .i64 (8 * (Xaa .i64 ((Xaa .i64 ((Xaa .i64 (p1.tdiv 2)) * 4)) + (Xaa .i64 (v2.1.tdiv 4)))))) + (Xaa .i64 ((p1.tmod 2) * 4)))) + (v2.1.tmod 4))).toNat 0)]).length ≤ maxLen) <|
 some (.go (Xaa .i64 (v2.1 + 1), (v2.2 ++ ([(p0.getD (Xaa .i64 ((Xaa .i64 ((Xaa .i64 (8 * (Xaa .i64 ((Xaa .i64 ((Xaa .i64 (p1.tdiv 2)) * 4)) + (Xaa .i64 (v2.1.tdiv 4)))))) + (Xaa .i64 ((p1.tmod 2) * 4)))) + (v2.1.tmod 4))).toNat 0)]))))) (
 some (.done v2.2))
def Xih (p0 : (List Int)) (p1 : Int) : Option (List Int) :=
 bnd (loop (Xce p0 p1) (0, ([] : List Int))) fun v4 =>
 some v4
def Xes (p0 : (List Int)) (v2 : (Int × (List Int))) : Option (Lp (Int × (List Int)) (List Int)) :=
 sel (decide (v2.1 < 4)) (
 req (0 ≤ (Xaa .i64 (4 * v2.1)) ∧ (Xaa .i64 (4 * v2.1)) < p0.length) <|
 req (0 ≤ (Xaa .i64 ((Xaa .i64 (4 * v2.1)) + 1)) ∧ (Xaa .i64 ((Xaa .i64 (4 * v2.1)) + 1)) < p0.length) <|
 req (0 ≤ (Xaa .i64 ((Xaa .i64 (4 * v2.1)) + 2)) ∧ (Xaa .i64 ((Xaa .i64 (4 * v2.1)) + 2)) < p0.length) <|
 req (0 ≤ (Xaa .i64 ((Xaa .i64 (4 * v2.1)) + 3)) ∧ (Xaa .i64 ((Xaa .i64 (4 * v2.1)) + 3)) < p0.length) <|
 req ((v2.2.length + ([Xaa .i64 ((Xaa .i64 ((Xaa .i64 ((p0.getD (Xaa .i64 (4 * v2.1)).toNat 0) + (p0.getD (Xaa .i64 ((Xaa .i64 (4 * v2.1)) + 1)).toNat 0))) + (p0.getD (Xaa .i64 ((Xaa .i64 (4 * v2.1)) + 2)).toNat 0))) + (p0.getD (Xaa .i64 ((Xaa .i64 (4 * v2.1)) + 3)).toNat 0)), Xaa .i64 ((Xaa .i64 ((Xaa .i64 ((Xaa .i64 (2 * (p0.getD (Xaa .i64 (4 * v2.1)).toNat 0))) + (p0.getD (Xaa .i64 ((Xaa .i64 (4 * v2.1)) + 1)).toNat 0))) - (p0.getD (Xaa .i64 ((Xaa .i64 (4 * v2.1)) + 2)).toNat 0))) - (Xaa .i64 (2 * (p0.getD (Xaa .i64 ((Xaa .i64 (4 * v2.1)) + 3)).toNat 0)))), Xaa .i64 ((Xaa .i64 ((Xaa .i64 ((p0.getD (Xaa .i64 (4 * v2.1)).toNat 0) - (p0.getD (Xaa .i64 ((Xaa .i64 (4 * v2.1)) + 1)).toNat 0))) - (p0.getD (Xaa .i64 ((Xaa .i64 (4 * v2.1)) + 2)).toNat 0))) + (p0.getD (Xaa .i64 ((Xaa .i64 (4 * v2.1)) + 3)).toNat 0)), Xaa .i64 ((Xaa .i64 ((Xaa .i64 ((p0.getD (Xaa .i64 (4 * v2.1)).toNat 0) - (Xaa .i64 (2 * (p0.getD (Xaa .i64 ((Xaa .i64 (4 * v2.1)) + 1)).toNat 0))))) + (Xaa .i64 (2 * (p0.getD (Xaa .i64 ((Xaa .i64 (4 * v2.1)) + 2)).toNat 0))))) - (p0.getD (Xaa .i64 ((Xaa .i64 (4 * v2.1)) + 3)).toNat 0))]).length) * 8 ≤ 140737488355328 ∧ v2.2.length + ([Xaa .i64 ((Xaa .i64 ((Xaa .i64 ((p0.getD (Xaa .i64 (4 * v2.1)).toNat 0) + (p0.getD (Xaa .i64 ((Xaa .i64 (4 * v2.1)) + 1)).toNat 0))) + (p0.getD (Xaa .i64 ((Xaa .i64 (4 * v2.1)) + 2)).toNat 0))) + (p0.getD (Xaa .i64 ((Xaa .i64 (4 * v2.1)) + 3)).toNat 0)), Xaa .i64 ((Xaa .i64 ((Xaa .i64 ((Xaa .i64 (2 * (p0.getD (Xaa .i64 (4 * v2.1)).toNat 0))) + (p0.getD (Xaa .i64 ((Xaa .i64 (4 * v2.1)) + 1)).toNat 0))) - (p0.getD (Xaa .i64 ((Xaa .i64 (4 * v2.1)) + 2)).toNat 0))) - (Xaa .i64 (2 * (p0.getD (Xaa .i64 ((Xaa .i64 (4 * v2.1)) + 3)).toNat 0)))), Xaa .i64 ((Xaa .i64 ((Xaa .i64 ((p0.getD (Xaa .i64 (4 * v2.1)).toNat 0) - (p0.getD (Xaa .i64 ((Xaa .i64 (4 * v2.1)) + 1)).toNat 0))) - (p0.getD (Xaa .i64 ((Xaa .i64 (4 * v2.1)) + 2)).toNat 0))) + (p0.getD (Xaa .i64 ((Xaa .i64 (4 * v2.1)) + 3)).toNat 0)), Xaa .i64 ((Xaa .i64 ((Xaa .i64 ((p0.getD (Xaa .i64 (4 * v2.1)).toNat 0) - (Xaa .i64 (2 * (p0.getD (Xaa .i64 ((Xaa .i64 (4 * v2.1)) + 1)).toNat 0))))) + (Xaa .i64 (2 * (p0.getD (Xaa .i64 ((Xaa .i64 (4 * v2.1)) + 2)).toNat 0))))) - (p0.getD (Xaa .i64 ((Xaa .i64 (4 * v2.1)) + 3)).toNat 0))]).length ≤ maxLen) <|
 some (.go (Xaa .i64 (v2.1 + 1), (v2.2 ++ ([Xaa .i64 ((Xaa .i64 ((Xaa .i64 ((p0.getD (Xaa .i64 (4 * v2.1)).toNat 0) + (p0.getD (Xaa .i64 ((Xaa .i64 (4 * v2.1)) + 1)).toNat 0))) + (p0.getD (Xaa .i64 ((Xaa .i64 (4 * v2.1)) + 2)).toNat 0))) + (p0.getD (Xaa .i64 ((Xaa .i64 (4 * v2.1)) + 3)).toNat 0)), Xaa .i64 ((Xaa .i64 ((Xaa .i64 ((Xaa .i64 (2 * (p0.getD (Xaa .i64 (4 * v2.1)).toNat 0))) + (p0.getD (Xaa .i64 ((Xaa .i64 (4 * v2.1)) + 1)).toNat 0))) - (p0.getD (Xaa .i64 ((Xaa .i64 (4 * v2.1)) + 2)).toNat 0))) - (Xaa .i64 (2 * (p0.getD (Xaa .i64 ((Xaa .i64 (4 * v2.1)) + 3)).toNat 0)))), Xaa .i64 ((Xaa .i64 ((Xaa .i64 ((p0.getD (Xaa .i64 (4 * v2.1)).toNat 0) - (p0.getD (Xaa .i64 ((Xaa .i64 (4 * v2.1)) + 1)).toNat 0))) - (p0.getD (Xaa .i64 ((Xaa .i64 (4 * v2.1)) + 2)).toNat 0))) + (p0.getD (Xaa .i64 ((Xaa .i64 (4 * v2.1)) + 3)).toNat 0)), Xaa .i64 ((Xaa .i64 ((Xaa .i64 ((p0.getD (Xaa .i64 (4 * v2.1)).toNat 0) - (Xaa .i64 (2 * (p0.getD (Xaa .i64 ((Xaa .i64 (4 * v2.1)) + 1)).toNat 0))))) + (Xaa .i64 (2 * (p0.getD (Xaa .i64 ((Xaa .i64 (4 * v2.1)) + 2)).toNat 0))))) - (p0.getD (Xaa .i64 ((Xaa .i64 (4 * v2.1)) + 3)).toNat 0))]))))) (
 some (.done v2.2))
def Xkx (p0 : (List Int)) : Option (List Int) :=
 bnd (loop (Xes p0) (0, ([] : List Int))) fun v4 =>
 some v4
def Xu6 (p0 : (List Int)) : Option (List Int) :=
 bnd (Xcn p0 16 1000) fun q1 =>
 sel (!q1) (
 some ([] : List Int)) (
 bnd (Xkx p0) fun q2 =>
 bnd (Xgl q2) fun q3 =>
 bnd (Xkx q3) fun q4 =>
 bnd (Xgl q4) fun q5 =>
 some q5)
def Xn4 (p0 : Int) (p1 : Int) : Option Int :=
 bnd (Xp1 p1) fun q1 =>
 bnd (
 bnd (Xar p0 0 40) fun q3 =>
 sel q3 (
 some (decide (q1 < 0))) (
 some true)) fun v2 =>
 sel v2 (
 some 0) (
 req ((6 : Int) ≠ 0) <|
 sel ((p0.tmod 6) == 0) (
 bnd (Xbg q1 13107 5243 8066) fun q4 =>
 some q4) (
 sel ((p0.tmod 6) == 1) (
 bnd (Xbg q1 11916 4660 7490) fun q5 =>
 some q5) (
 sel ((p0.tmod 6) == 2) (
 bnd (Xbg q1 10082 4194 6554) fun q6 =>
 some q6) (
 sel ((p0.tmod 6) == 3) (
 bnd (Xbg q1 9362 3647 5825) fun q7 =>
 some q7) (
 sel ((p0.tmod 6) == 4) (
 bnd (Xbg q1 8192 3355 5243) fun q8 =>
 some q8) (
 bnd (Xbg q1 7282 2893 4559) fun q9 =>
 some q9))))))
def Xif (p0 : Int) (p1 : Int) (p2 : Int) : Option Int :=
 bnd (
 bnd (Xar p0 (-20000) 20000) fun q2 =>
 sel q2 (
 bnd (Xar p1 0 40) fun q3 =>
 sel q3 (
 bnd (Xar p2 0 15) fun q4 =>
 some (!q4)) (
 some true)) (
 some true)) fun v1 =>
 sel v1 (
 some 0) (
 req ((6 : Int) ≠ 0) <|
 req (0 ≤ (Xaa .u64 (Xaa .i64 (15 + (Xaa .i64 (p1.tdiv 6)))))) <|
 bnd (Xgx p0) fun q5 =>
 bnd (Xn4 p1 p2) fun q6 =>
 req ((3 : Int) ≠ 0) <|
 req ((Xaa .i64 (1 * 2 ^ min (Xaa .u64 (Xaa .i64 (15 + (Xaa .i64 (p1.tdiv 6))))).toNat (IntKind.bits .i64))) ≠ 0) <|
 bnd (Xjs p0 (Xaa .i64 ((Xaa .i64 ((Xaa .i64 (q5 * q6)) + (Xaa .i64 ((Xaa .i64 (1 * 2 ^ min (Xaa .u64 (Xaa .i64 (15 + (Xaa .i64 (p1.tdiv 6))))).toNat (IntKind.bits .i64))).tdiv 3)))).tdiv (Xaa .i64 (1 * 2 ^ min (Xaa .u64 (Xaa .i64 (15 + (Xaa .i64 (p1.tdiv 6))))).toNat (IntKind.bits .i64)))))) fun q7 =>
 some q7)
def Xcj (p1 : Xeu) (v8 : (Int × (List Int))) : Option (Lp (Int × (List Int)) (List Int)) :=
 sel (decide (v8.1 < 64)) (
 req (0 ≤ v8.1 ∧ v8.1 < v8.2.length) <|
 req (v8.1.toNat < v8.2.length) <|
 bnd (Xie (v8.2.getD v8.1.toNat 0) p1.Qp) fun q12 =>
 req (0 ≤ v8.1 ∧ v8.1 < v8.2.length) <|
 req (v8.1.toNat < v8.2.length) <|
 some (.go (Xaa .i64 (v8.1 + 1), (v8.2.set v8.1.toNat q12)))) (
 some (.done v8.2))
def Xcd (p1 : Xeu) (v45 : (Int × (List Int))) : Option (Lp (Int × (List Int)) (List Int)) :=
 sel (decide (v45.1 < 16)) (
 req (0 ≤ v45.1 ∧ v45.1 < v45.2.length) <|
 req (v45.1.toNat < v45.2.length) <|
 bnd (Xif (v45.2.getD v45.1.toNat 0) p1.Qp v45.1) fun q49 =>
 req (0 ≤ v45.1 ∧ v45.1 < v45.2.length) <|
 req (v45.1.toNat < v45.2.length) <|
 some (.go (Xaa .i64 (v45.1 + 1), (v45.2.set v45.1.toNat q49)))) (
 some (.done v45.2))
def Xee (p0 : (List Int)) (p1 : Xeu) (v27 : (Int × (List Int))) : Option (Lp (Int × (List Int)) (List Int)) :=
 sel (decide (v27.1 < 4)) (
 bnd (Xih p0 v27.1) fun q41 =>
 bnd (Xu6 q41) fun q42 =>
 bnd (loop (Xcd p1) (0, q42)) fun v48 =>
 bnd (Xfg 4 v48) fun q51 =>
 req ((v27.2.length + q51.1.length) * 8 ≤ 140737488355328 ∧ v27.2.length + q51.1.length ≤ maxLen) <|
 some (.go (Xaa .i64 (v27.1 + 1), (v27.2 ++ q51.1)))) (
 some (.done v27.2))
def Xc1 (p0 : (List Int)) (p1 : Xeu) : Option ((List Int) × Bool) :=
 bnd (
 bnd (Xmy p1) fun q2 =>
 sel q2 (
 bnd (Xcn p0 64 255) fun q3 =>
 some (!q3)) (
 some true)) fun v1 =>
 sel v1 (
 some (([] : List Int), false)) (
 sel p1.Exact (
 bnd (Xfg 8 p0) fun q4 =>
 some (q4.1, q4.2)) (
 sel p1.Large (
 bnd (Xsd p0) fun q5 =>
 bnd (loop (Xcj p1) (0, q5)) fun v11 =>
 bnd (Xfg 8 v11) fun q14 =>
 some (q14.1, q14.2)) (
 bnd (loop (Xee p0 p1) (0, ([] : List Int))) fun v40 =>
 some (v40, true))))
def Xrk (p0 : Pic) (p1 : Pic) (p2 : (List Int)) (p3 : Int) (p4 : Int) (p5 : Xeu) (p6 : Int) : Option Xam :=
 bnd (
 sel p5.Key (
 some false) (
 bnd (Xkv p1 p3 p4) fun q2 =>
 bnd (Xn6 p2 q2) fun q3 =>
 bnd (Xq2 q3) fun q4 =>
 some q4)) fun v1 =>
 sel v1 (
 some (⟨0, 0, 0, 0, []⟩ : Xam)) (
 bnd (Xgj p0 p3 p4) fun q5 =>
 bnd (Xjl p2 q5.1) fun q6 =>
 Yy2 (fun (v7 : Unit) =>
 bnd (Xd9 q6.1 q5.1) fun q14 =>
 bnd (Xn6 p2 q14) fun q15 =>
 bnd (Xc1 q15 p5) fun q16 =>
 some (⟨2, q6.1, 0, 0, q16.1⟩ : Xam)) fun j1 =>
 sel (!p5.Key) (
 bnd (Xo1 p1 p2 p3 p4 p6) fun q8 =>
 sel (decide (q8.2.2 ≤ q6.2)) (
 bnd (Xkv p1 (Xaa .i64 (p3 + q8.1)) (Xaa .i64 (p4 + q8.2.1))) fun q9 =>
 bnd (Xn6 p2 q9) fun q10 =>
 bnd (Xc1 q10 p5) fun q11 =>
 bnd (
 sel (q8.1 == 0) (
 sel (q8.2.1 == 0) (
 bnd (Xq2 q11.1) fun q13 =>
 some q13) (
 some false)) (
 some false)) fun v12 =>
 sel v12 (
 some (⟨0, 0, 0, 0, []⟩ : Xam)) (
 some (⟨1, 0, q8.1, q8.2.1, q11.1⟩ : Xam))) (
 j1 ())) (
 j1 ()))
def Xni (p0 : Pic) (p1 : Pic) (p2 : (List Int)) (p3 : Int) (p4 : Int) (p5 : Xeu) (p6 : Int) : Option (Xam × (List Int) × Bool) :=
 bnd (
 bnd (Xkz p0 p3 p4) fun q2 =>
 sel q2 (
 bnd (Xgm p2) fun q3 =>
 sel q3 (
 bnd (Xmy p5) fun q4 =>
 sel q4 (
 bnd (Xar p6 0 4) fun q5 =>
 sel q5 (
 sel p5.Key (
 some false) (
 bnd (Xq1 p0 p1) fun q6 =>
 some (!q6))) (
 some true)) (
 some true)) (
 some true)) (
 some true)) fun v1 =>
 sel v1 (
 some ((⟨0, 0, 0, 0, []⟩ : Xam), ([] : List Int), false)) (
 bnd (Xrk p0 p1 p2 p3 p4 p5 p6) fun q7 =>
 bnd (Xc3 p0 p1 0 0 p5 p3 p4 q7) fun q8 =>
 some (q7, q8.1, true))
end
theorem Xab {α β : Type} (a : α) (f : α → Option β) : bnd (some a) f = f a := rfl
theorem Xge {α β : Type} {x : Option α} {a : α} {f : α → Option β} (h : x = some a) : bnd x f = f a := by subst h; rfl
theorem Xat {β : Type} (x y : β) : sel true x y = x := rfl
theorem Xao {β : Type} (x y : β) : sel false x y = y := rfl
theorem Xub {β : Type} (b : Bool) (x y : β) : sel (!b) x y = sel b y x := by cases b <;> rfl
theorem Xdf (b x : Bool) : sel b (some x) (some false) = some (b && x) := by cases b <;> rfl
theorem Ydx (b x : Bool) : sel b (some true) (some x) = some (b || x) := by cases b <;> rfl
theorem Xtc (b x : Bool) : sel b (some x) (some true) = some (!b || x) := by cases b <;> rfl
theorem Yt6 {β : Type} (b : Bool) (x y : β) : sel b (some x) (some y) = some (sel b x y) := by cases b <;> rfl
theorem Yji {β : Type} (b : Bool) (x y : β) : sel b x y = if b = true then x else y := by cases b <;> rfl
theorem Yst {β : Type} (p : Prop) [Decidable p] (x y : β) : sel (decide p) x y = if p then x else y := by
 by_cases h : p <;> simp [h, sel]
theorem Xbp {β : Type} {b : Bool} {x y : β} (h : b = true) : sel b x y = x := by subst h; rfl
theorem Xba {β : Type} {b : Bool} {x y : β} (h : b = false) : sel b x y = y := by subst h; rfl
theorem Xbh {β : Type} {p : Prop} [Decidable p] {x y : β} (h : p) : sel (decide p) x y = x := by simp [h, sel]
theorem Xap {β : Type} {p : Prop} [Decidable p] {x y : β} (h : ¬ p) : sel (decide p) x y = y := by simp [h, sel]
theorem Xa2 {β : Type} {c : Prop} [Decidable c] {k : Option β} (h : c) : req c k = k := if_pos h
theorem wk {e : Int} (h1 : -9223372036854775808 ≤ e) (h2 : e ≤ 9223372036854775807) : Xaa .i64 e = e := by
 show wrap64 e = e
 unfold wrap64; omega
theorem rqA {β : Type} {c : Prop} [Decidable c] {k : Option β} (h : c := by omega) : req c k = k := Xa2 h
theorem syA {β : Type} {c : Prop} [Decidable c] {x y : β} (h : c := by omega) : sel (decide c) x y = x := Xbh h
theorem snA {β : Type} {c : Prop} [Decidable c] {x y : β} (h : ¬ c := by omega) : sel (decide c) x y = y := Xap h
theorem wkA {e : Int} (h1 : -9223372036854775808 ≤ e := by omega) (h2 : e ≤ 9223372036854775807 := by omega) : Xaa .i64 e = e := wk h1 h2
theorem w8 {e : Int} (h1 : 0 ≤ e) (h2 : e ≤ 255) : Xaa .u8 e = e := by
 show IntKind.wrap .u8 e = e
 simp [IntKind.wrap, IntKind.signed, IntKind.bits]; omega
theorem Zec {n : Int} (h : (Lit.int .i64 n).wf = true) : -9223372036854775808 ≤ n ∧ n ≤ 9223372036854775807 := by
 simp [Lit.wf, IntKind.min, IntKind.max, IntKind.signed, IntKind.bits] at h
 omega
theorem Xb2 {a b : Int} (h : 0 ≤ a) : Int.tmod a b = a % b := Int.tmod_eq_emod_of_nonneg h
theorem Xbn {a b : Int} (h : 0 ≤ a) : Int.tdiv a b = a / b := Int.tdiv_eq_ediv_of_nonneg h
theorem Xgp {P : Nat → Prop} (n : Nat) (h0 : P n) (hs : ∀ i, i < n → P (i + 1) → P i) : ∀ i, i ≤ n → P i := by
 intro i hi
 obtain ⟨k, rfl⟩ : ∃ k, n = i + k := ⟨n - i, by omega⟩
 clear hi
 induction k generalizing i with
 | zero => exact h0
 | succ k ih =>
  refine hs i (by omega) ?_
  exact ih (i + 1) (by rw [show i + 1 + k = i + (k + 1) by omega]; exact h0) (fun j hj => hs j (by omega))
theorem lgo {V O : Type} {f : V → Option (Lp V O)} {x y : V} {r : Option O} (h : f x = some (.go y)) (k : loop f y = r) : loop f x = r := by rw [Xcz h]; exact k
theorem Xf9 {V O : Type} {f : V → Option (Lp V O)} {x : V} {o : O} (h : f x = some (.done o)) : loop f x = some o := Xc9 h
theorem Xqt {V O : Type} {f : V → Option (Lp V O)} (I : V → Prop) (m : V → Nat) (Q : V → O → Prop) (h : ∀ v, I v → (∃ o, f v = some (.done o) ∧ Q v o) ∨ ∃ v', f v = some (.go v') ∧ I v' ∧ m v' < m v ∧ ∀ o, Q v' o → Q v o) : ∀ v, I v → ∃ o, loop f v = some o ∧ Q v o := by
 intro v
 generalize hn : m v = n
 induction n using Nat.strongRecOn generalizing v with
 | _ n ih =>
  intro hv
  rcases h v hv with ⟨o, h1, h2⟩ | ⟨v', h1, h2, h3, h4⟩
  ·
   exact ⟨o, Xc9 h1, h2⟩
  ·
   obtain ⟨o, h5, h6⟩ := ih (m v') (by omega) v' rfl h2
   exact ⟨o, by rw [Xcz h1]; exact h5, h4 o h6⟩
theorem Xb4 {α : Type} (l : List α) (i : Nat) (h : i < l.length) (d : α) : l.getD i d = l[i] := by
 simp [List.getD_eq_getElem?_getD, List.getElem?_eq_getElem h]
theorem Xak (a b c : Int) : Xal a b c = some (decide (b ≤ a ∧ a ≤ c)) := by
 unfold Xal
 by_cases h : b ≤ a <;> simp [bnd, sel, h]
theorem Xaj (a b c : Int) : Xar a b c = some (decide (b ≤ a ∧ a ≤ c)) := by
 unfold Xar
 by_cases h : b ≤ a <;> simp [bnd, sel, h]
theorem Ysu {α : Type} (a : List α) (x y : α) (b : List α) : (a ++ x :: b).set a.length y = a ++ y :: b := by
 induction a with
 | nil => rfl
 | cons z a ih => simp only [List.cons_append, List.length_cons, List.set_cons_succ, ih]
theorem Xm6 {α : Type} (a : List α) (x d : α) (b : List α) : (a ++ x :: b).getD a.length d = x := by
 induction a with
 | nil => rfl
 | cons z a ih => simp
theorem Yaz {f : Int → Option (Lp Int (Ou Unit Bool))} (n : Nat) (h : ∀ i : Nat, i < n → f i = some (.go ((i + 1 : Nat) : Int))) (h0 : f n = some (.done (.out ()))) : loop f 0 = some (.out ()) :=
 Xgp (P := fun i => loop f (i : Int) = some (.out ())) n (Xc9 h0) (fun i hi ih => by rw [Xcz (h i hi)]; exact ih) 0 (by omega)
theorem Ygs (y : Int) : 0 ≤ IntKind.wrap .i64 (BitVec.ofInt (IntKind.bits .i64) y &&& BitVec.ofInt (IntKind.bits .i64) 255).toNat ∧ IntKind.wrap .i64 (BitVec.ofInt (IntKind.bits .i64) y &&& BitVec.ofInt (IntKind.bits .i64) 255).toNat ≤ 255 := by
 have h : (BitVec.ofInt (IntKind.bits .i64) y &&& BitVec.ofInt (IntKind.bits .i64) 255).toNat ≤ 255 := by
  rw [BitVec.toNat_and]
  exact Nat.le_trans Nat.and_le_right (by decide)
 generalize (BitVec.ofInt (IntKind.bits .i64) y &&& BitVec.ofInt (IntKind.bits .i64) 255).toNat = n at h ⊢
 rw [← Xq3, wkA]
 omega
def Xpf (c : Xbw) : Prop := c.b_.length ≤ 1048576 ∧ 0 ≤ c.i_
theorem Yma (b : List Int) (hb : b.length ≤ 1048576) : ∃ c, Xp5 b = some c ∧ Xpf c := by
 unfold Xp5
 obtain ⟨o, h, _⟩ := Xqt (f := Xnk b) (fun v => 0 ≤ v.2) (fun v => b.length - v.2.toNat) (fun _ _ => True) (by
  intro ⟨h, i⟩ hi
  unfold Xnk
  simp only [Xdf, Xab] at hi ⊢
  by_cases h1 : i < b.length ∧ i < 4000
  ·
   rw [Xbp (by simp; exact h1), Xa2 ⟨hi, h1.1⟩]
   refine .inr ⟨_, rfl, ?_, ?_, fun _ _ => trivial⟩
   ·
    simp only; rw [wkA]; omega
   ·
    simp only; rw [wkA]; omega
  ·
   rw [Xba (by simp; omega)]
   exact .inl ⟨_, rfl, trivial⟩) (Xaa .i64 (94701 + (b.length : Int)), 0) (by simp)
 rw [h]
 exact ⟨_, rfl, hb, by simp⟩
theorem Xeq (c : Xbw) (hc : Xpf c) : ∃ x c', Xcs c = some (x, c') ∧ 0 ≤ x ∧ x ≤ 255 ∧ Xpf c' := by
 unfold Xcs
 rw [Xa2 (by decide), Xa2 (by decide)]
 obtain ⟨h1, h2⟩ := hc
 by_cases h : c.i_ < c.b_.length
 ·
  rw [Xbh h, Xa2 ⟨h2, h⟩, Xab]
  refine ⟨_, _, rfl, (Ygs _).1, (Ygs _).2, h1, ?_⟩
  simp only; rw [wkA]; omega
 ·
  rw [Xap h, Xab]
  exact ⟨_, _, rfl, (Ygs _).1, (Ygs _).2, h1, h2⟩
theorem Xa5 (c : Xbw) (n : Int) (hc : Xpf c) : ∃ x c', Xa6 c n = some (x, c') ∧ 0 ≤ x ∧ (0 < n → x < n) ∧ (n ≤ 0 → x = 0) ∧ Xpf c' := by
 unfold Xa6
 by_cases h0 : n ≤ 0
 ·
  rw [Xbh h0]; exact ⟨_, _, rfl, by omega, fun h => by omega, fun _ => rfl, hc⟩
 ·
  rw [Xap h0]
  obtain ⟨x, c1, e1, a1, b1, hc1⟩ := Xeq c hc
  by_cases h1 : n ≤ 256
  ·
   rw [Xbh h1, e1, Xab, rqA]
   refine ⟨_, _, rfl, ?_, fun _ => ?_, fun h => by omega, hc1⟩
   ·
    simp only; rw [Xb2 a1]; exact Int.emod_nonneg _ (by omega)
   ·
    simp only; rw [Xb2 a1]; exact Int.emod_lt_of_pos _ (by omega)
  ·
   obtain ⟨y, c2, e2, a2, b2, hc2⟩ := Xeq c1 hc1
   obtain ⟨z, c3, e3, a3, b3, hc3⟩ := Xeq c2 hc2
   obtain ⟨u, c4, e4, a4, b4, hc4⟩ := Xeq c3 hc3
   rw [Xap h1, e1, Xab]
   simp only
   rw [e2, Xab]
   simp only
   rw [e3, Xab]
   simp only
   rw [e4, Xab, rqA]
   simp only
   rw [wkA (e := x * 16777216), wkA (e := y * 65536), wkA (e := z * 256), wkA (e := x * 16777216 + y * 65536), wkA (e := x * 16777216 + y * 65536 + z * 256), wkA, Xb2 (by omega)]
   exact ⟨_, _, rfl, Int.emod_nonneg _ (by omega), fun _ => Int.emod_lt_of_pos _ (by omega), fun h => by omega, hc4⟩
theorem Xlx (c : Xbw) (n : Int) (hc : Xpf c) : ∃ x c', Xgk c n = some (x, c') ∧ Xpf c' := by
 unfold Xgk
 obtain ⟨x, c', e, _, _, _, h⟩ := Xa5 c n hc
 rw [e, Xab]; exact ⟨_, _, rfl, h⟩
theorem Ysj (l : List Int) : Yga l = some (decide ((l.length : Int) > 1048576)) := rfl
def Xbo (n a b : Int) : Int := if b < a ∨ n < a then a else if n > b then b else n
theorem Xhs (n a b : Int) : Xc4 n a b = some (Xbo n a b) := by
 unfold Xc4 Xbo
 congr 1
 repeat' split
 all_goals omega
def Xku (r : Rate) : Bool := decide (0 ≤ r.Qp ∧ r.Qp ≤ 40 ∧ 1 ≤ r.Target ∧ r.Target ≤ 100000 ∧ -8 * r.Target ≤ r.Debt ∧ r.Debt ≤ 8 * r.Target)
theorem Xpc (r : Rate) : Xku r = true ↔ 0 ≤ r.Qp ∧ r.Qp ≤ 40 ∧ 1 ≤ r.Target ∧ r.Target ≤ 100000 ∧ -8 * r.Target ≤ r.Debt ∧ r.Debt ≤ 8 * r.Target := by simp [Xku]
theorem Xq7 (r : Rate) : Xj9 r = some (Xku r) := by
 unfold Xj9 Xku
 simp only [Xak, Xab]
 by_cases h1 : 0 ≤ r.Qp ∧ r.Qp ≤ 40
 ·
  rw [Xbh h1]
  by_cases h2 : 1 ≤ r.Target ∧ r.Target ≤ 100000
  ·
   rw [Xbh h2, wkA, wkA, Xab]
   simp only [h1.1, h1.2, h2.1, h2.2, true_and]
  ·
   rw [Xap h2, Xab]; congr 1; symm; rw [decide_eq_false_iff_not]; exact fun h => h2 ⟨h.2.2.1, h.2.2.2.1⟩
 ·
  rw [Xap h1, Xab]; congr 1; symm; rw [decide_eq_false_iff_not]; exact fun h => h1 ⟨h.1, h.2.1⟩
def Xhl (r : Rate) (n : Int) : Int := Xbo (r.Debt + Xbo n 0 400000 - r.Target) (-8 * r.Target) (8 * r.Target)
def Yav (r : Rate) (n : Int) : Rate :=
 if Xku r = true then ⟨Xbo (if Xhl r n > r.Target then r.Qp + 1 else if Xhl r n < -r.Target then r.Qp - 1 else r.Qp) 0 40, r.Target, Xhl r n⟩ else r
theorem Xfx {n a b : Int} (h : a ≤ b) : a ≤ Xbo n a b ∧ Xbo n a b ≤ b := by
 unfold Xbo
 repeat' split
 all_goals omega
theorem Yel (r : Rate) (n : Int) : Xk7 r n = some (Yav r n) := by
 unfold Xk7 Yav
 rw [Xq7, Xab]
 by_cases h : Xku r = true
 ·
  rw [if_pos h, Xba (by rw [h]; rfl)]
  have h' := (Xpc r).1 h
  have hb := Xfx (n := n) (a := 0) (b := 400000) (by omega)
  simp only [Xhs, Xab]
  rw [wkA (e := r.Debt + Xbo n 0 400000), wkA (e := r.Debt + Xbo n 0 400000 - r.Target), wkA (e := -8 * r.Target), wkA (e := 8 * r.Target)]
  have hd := Xfx (n := r.Debt + Xbo n 0 400000 - r.Target) (a := -8 * r.Target) (b := 8 * r.Target) (by omega)
  have ed : Xbo (r.Debt + Xbo n 0 400000 - r.Target) (-8 * r.Target) (8 * r.Target) = Xhl r n := rfl
  rw [ed]
  have hd' : -8 * r.Target ≤ Xhl r n ∧ Xhl r n ≤ 8 * r.Target := hd
  rw [wkA (e := r.Qp + 1), wkA (e := r.Qp - 1), wkA (e := 0 - r.Target)]
  simp only [Yst]
  by_cases h1 : Xhl r n > r.Target
  ·
   rw [if_pos h1, if_pos h1, Xab]
  ·
   rw [if_neg h1, if_neg h1]
   by_cases h2 : Xhl r n < -r.Target
   ·
    rw [if_pos h2, if_pos (show Xhl r n < 0 - r.Target by omega), Xab]
   ·
    rw [if_neg h2, if_neg (show ¬ Xhl r n < 0 - r.Target by omega), Xab]
 ·
  rw [if_neg h, Xbp (by simpa using h)]
theorem Ysr (r : Rate) (n : Int) (h : Xku r = true) : Xku (Yav r n) = true := by
 unfold Yav
 rw [if_pos h]
 have h' := (Xpc r).1 h
 rw [Xpc]
 have hd : -8 * r.Target ≤ Xhl r n ∧ Xhl r n ≤ 8 * r.Target := Xfx (by omega)
 have hq := Xfx (n := (if Xhl r n > r.Target then r.Qp + 1 else if Xhl r n < -r.Target then r.Qp - 1 else r.Qp)) (a := 0) (b := 40) (by omega)
 simp only
 omega
def Xwl (r : Rate) (key : Bool) : Int := if Xku r = true then (if key = true then Xbo (r.Qp - 2) 0 40 else r.Qp) else 0
theorem Yn2 (r : Rate) (key : Bool) : Xrs r key = some (Xwl r key) := by
 unfold Xrs Xwl
 rw [Xq7, Xab, Xub]
 by_cases h : Xku r = true
 ·
  rw [if_pos h, Xbp h]
  have h' := (Xpc r).1 h
  rw [wkA]
  cases key
  ·
   rfl
  ·
   rw [Xat, if_pos rfl]; congr 1; unfold Xbo; repeat' split
   all_goals omega
 ·
  rw [if_neg h, Xba (by simpa using h)]
theorem Yf3 (c : Xbw) (hc : Xpf c) : ∃ r c', Xl8 c = some (r, c') ∧ Xku r = true ∧ Xpf c' := by
 unfold Xl8
 obtain ⟨x, c1, e1, a1, b1, _, h1⟩ := Xa5 c 2000 hc
 rw [e1, Xab]
 obtain ⟨y, c2, e2, a2, b2, _, h2⟩ := Xa5 c1 41 h1
 simp only
 rw [e2, Xab]
 have b1' := b1 (by omega)
 have b2' := b2 (by omega)
 rw [wkA (e := 1 + x), wkA (e := 16 * (1 + x)), wkA (e := 16 * (1 + x) + 1)]
 obtain ⟨z, c3, e3, a3, b3, _, h3⟩ := Xa5 c2 (16 * (1 + x) + 1) h2
 have b3' := b3 (by omega)
 simp only
 rw [e3, Xab, wkA (e := 8 * (1 + x)), wkA]
 refine ⟨_, _, rfl, ?_, h3⟩
 rw [Xpc]
 simp only
 omega
def cnt (n : Int) : Bool := decide (0 ≤ n ∧ n ≤ 1000000000)
theorem Xeo (n a b : Int) : Xff n a b = some (Xbo n a b) := by
 unfold Xff Xbo
 rw [Ydx, Xab]
 by_cases h : b < a ∨ n < a
 ·
  rw [if_pos h, Xbp (by simpa using h)]
 ·
  rw [if_neg h, Xba (by simp; omega), Yst]; split <;> rfl
def Xew (n : Int) : Bool := decide (1 ≤ n ∧ n ≤ 8)
def Xpz : List Int → Int
 | [] => 0
 | x :: r => x + Xpz r
def Xen (l : List Int) : Bool := decide (1 ≤ l.length ∧ l.length ≤ 4) && l.all Xew
def Yda (l : List Int) : Int := if Xen l = true then Xpz l else 0
theorem Xs4 : ∀ {l : List Int}, l.all Xew = true → (l.length : Int) ≤ Xpz l ∧ Xpz l ≤ 8 * l.length
 | [], _ => by simp [Xpz]
 | x :: r, h => by
  rw [List.all_cons, Bool.and_eq_true] at h
  have := Xs4 h.2
  have hx := h.1
  unfold Xew at hx
  simp only [decide_eq_true_eq] at hx
  rw [Xpz, List.length_cons]
  omega
theorem Yd0 (l : List Int) : 0 ≤ Yda l ∧ Yda l ≤ 32 := by
 unfold Yda
 split
 ·
  rename_i h
  unfold Xen at h
  rw [Bool.and_eq_true, decide_eq_true_eq] at h
  have := Xs4 h.2
  omega
 ·
  omega
theorem Xnm (l : List Int) : Xig l = some (Yda l) := by
 unfold Xig Yda Xen
 rw [Ydx, Xab]
 by_cases h : 1 ≤ l.length ∧ l.length ≤ 4
 ·
  rw [Xba (by simp; omega), decide_eq_true h, Bool.true_and]
  have key : ∀ (r a : List Int) (t : Int), l = a ++ r → 0 ≤ t → t ≤ 8 * a.length → loop (Xhj l) (t, (a.length : Int)) = some (if r.all Xew = true then .out (t + Xpz r) else .ret 0) := by
   intro r
   induction r with
   | nil =>
    intro a t ha h0 h1
    rw [List.append_nil] at ha
    refine Xf9 ?_
    unfold Xhj
    simp only
    rw [Xap (by rw [ha]; omega)]
    simp [Xpz]
   | cons x r ih =>
    intro a t ha h0 h1
    have hlen : a.length < l.length := by rw [ha]; simp
    have hx : l.getD a.length 0 = x := by rw [ha]; exact Xm6 a x _ r
    have hstep : Xhj l (t, (a.length : Int)) = sel (Xew x) (some (.go (Xaa .i64 (t + x), ((a.length + 1 : Nat) : Int)))) (some (.done (.ret 0))) := by
     unfold Xhj
     simp only [Int.toNat_natCast, hx]
     rw [syA, rqA, Xaj, Xab, Xub, rqA, wkA (e := (a.length : Int) + 1)]
     rfl
    cases e : Xew x with
    | true =>
     rw [e] at hstep
     have hx2 := e
     unfold Xew at hx2
     simp only [decide_eq_true_eq] at hx2
     rw [wkA, Xat] at hstep
     have := ih (a ++ [x]) (t + x) (by rw [ha]; simp) (by omega) (by simp; omega)
     rw [List.length_append, List.length_singleton] at this
     rw [Xcz hstep, this, List.all_cons, e, Bool.true_and, Xpz, Int.add_assoc]
    | false =>
     rw [e, Xao] at hstep
     rw [Xc9 hstep, List.all_cons, e, Bool.false_and]; rfl
  have := key l [] 0 rfl (by omega) (by simp)
  simp only [List.length_nil, Int.zero_add] at this
  rw [show (((0 : Int), (0 : Int))) = (0, ((0 : Nat) : Int)) from rfl, this, Xab]
  cases l.all Xew <;> rfl
 ·
  rw [Xbp (by simp; omega), decide_eq_false h, Bool.false_and]; rfl
theorem Xoz (l : List Int) (h : Xen l = true) : Xcp l = some (Xpz l) := by
 unfold Xen at h
 rw [Bool.and_eq_true, decide_eq_true_eq] at h
 unfold Xcp
 have key : ∀ (r a : List Int) (t : Int), l = a ++ r → 0 ≤ t → t ≤ 8 * a.length → loop (Xd4 l) (t, (a.length : Int)) = some (t + Xpz r) := by
  intro r
  induction r with
  | nil =>
   intro a t ha h0 h1
   rw [List.append_nil] at ha
   refine Xf9 ?_
   unfold Xd4
   simp only
   rw [Xap (by rw [ha]; omega)]
   simp [Xpz]
  | cons x r ih =>
   intro a t ha h0 h1
   have hlen : a.length < l.length := by rw [ha]; simp
   have hx : l.getD a.length 0 = x := by rw [ha]; exact Xm6 a x _ r
   have e : Xew x = true := List.all_eq_true.1 h.2 x (by rw [ha]; simp)
   unfold Xew at e
   simp only [decide_eq_true_eq] at e
   have := ih (a ++ [x]) (t + x) (by rw [ha]; simp) (by omega) (by simp; omega)
   rw [List.length_append, List.length_singleton] at this
   rw [Xpz, ← Int.add_assoc, ← this]
   refine Xcz ?_
   unfold Xd4
   simp only [Int.toNat_natCast, hx]
   rw [syA, rqA, wkA (e := (a.length : Int) + 1), wkA]
   rfl
 have := key l [] 0 rfl (by omega) (by simp)
 simp only [List.length_nil, Int.zero_add] at this
 rw [show (((0 : Int), (0 : Int))) = (0, ((0 : Nat) : Int)) from rfl, this, Xab]
def Xp9 (s : Seq) : Int := Yda s.Cols * Yda s.Rows
theorem Xxx (s : Seq) : 0 ≤ Xp9 s ∧ Xp9 s ≤ 1024 := by
 unfold Xp9
 have h1 := Yd0 s.Cols
 have h2 := Yd0 s.Rows
 refine ⟨Int.mul_nonneg h1.1 h2.1, ?_⟩
 calc Yda s.Cols * Yda s.Rows ≤ 32 * Yda s.Rows := Int.mul_le_mul_of_nonneg_right h1.2 h2.1
  _ ≤ 1024 := by omega
theorem Yc1 (s : Seq) : Xjr s = some (Xp9 s) := by
 have h := Xxx s
 unfold Xjr
 rw [Xnm, Xab, Xnm, Xab, wk (by show _ ≤ Xp9 s; omega) (by show Xp9 s ≤ _; omega)]
 rfl
theorem Yvr (s : Seq) (n : Nat) (hn : n = 0 ∨ n = 1) (l : List Int) (hl : ([s.Cols, s.Rows]).getD n Xgn = l) (h4 : l.length ≤ 4) : loop (Xcu s (n : Int)) 0 = some (if l.all Xew = true then .out () else .ret 0) := by
 have key : ∀ (r a : List Int), l = a ++ r → loop (Xcu s (n : Int)) (a.length : Int) = some (if r.all Xew = true then .out () else .ret 0) := by
  intro r
  induction r with
  | nil =>
   intro a ha
   rw [List.append_nil] at ha
   refine Xf9 ?_
   unfold Xcu
   rw [Int.toNat_natCast, hl, Xap (by rw [ha]; omega)]; rfl
  | cons x r ih =>
   intro a ha
   have hlen : a.length < l.length := by rw [ha]; simp
   have hx : l.getD a.length 0 = x := by rw [ha]; exact Xm6 a x _ r
   have hstep : Xcu s (n : Int) (a.length : Int) = sel (Xew x) (some (.go ((a.length + 1 : Nat) : Int))) (some (.done (.ret 0))) := by
    unfold Xcu
    simp only [Int.toNat_natCast, hl, hx]
    rw [syA, rqA, Xak, Xab, Xub, wkA]
    rfl
   cases e : Xew x with
   | true =>
    rw [e, Xat] at hstep
    have := ih (a ++ [x]) (by rw [ha]; simp)
    rw [List.length_append, List.length_singleton] at this
    rw [Xcz hstep, this, List.all_cons, e, Bool.true_and]
   | false => rw [e, Xao] at hstep; rw [Xc9 hstep, List.all_cons, e, Bool.false_and]; rfl
 exact key l [] rfl
theorem Ycc (s : Seq) (h1 : s.Cols.length ≤ maxLen) (h2 : s.Rows.length ≤ maxLen) : Xjh s = some (Xp9 s) := by
 have h := Xxx s
 unfold Xjh
 have step : ∀ (n : Nat) (l : List Int), n = 0 ∨ n = 1 → ([s.Cols, s.Rows]).getD n Xgn = l → Xdv s (n : Int) = sel (Xen l) (some (.go ((n + 1 : Nat) : Int))) (some (.done (.ret 0))) := by
  intro n l hn hl
  unfold Xdv Xen
  rw [Int.toNat_natCast, hl]
  simp only [List.length_cons, List.length_nil]
  rw [syA, rqA, rqA, Xak, Xab, Xub]
  by_cases h4 : 1 ≤ l.length ∧ l.length ≤ 4
  ·
   rw [syA, Yvr s n hn l hl h4.2, Xab, decide_eq_true h4, Bool.true_and, wkA]
   cases l.all Xew <;> rfl
  ·
   rw [snA, decide_eq_false h4, Bool.false_and, Xao]
 have s0 := step 0 s.Cols (.inl rfl) rfl
 have s1 := step 1 s.Rows (.inr rfl) rfl
 have s2 : Xdv s ((2 : Nat) : Int) = some (.done (.out ())) := by unfold Xdv; rw [Xap (by simp)]
 rw [show (0 : Int) = ((0 : Nat) : Int) from rfl]
 unfold Xp9 at h ⊢
 unfold Yda at h ⊢
 cases e0 : Xen s.Cols with
 | false => rw [e0, Xao] at s0; rw [Xc9 s0, Xab]; simp
 | true =>
  rw [e0, Xat] at s0
  rw [Xcz s0]
  cases e1 : Xen s.Rows with
  | false => rw [e1, Xao] at s1; rw [Xc9 s1, Xab]; simp
  | true =>
   rw [e1, Xat] at s1
   rw [Xcz s1, Xc9 s2, Xab]
   simp only
   rw [e0, e1, if_pos rfl, if_pos rfl] at h
   rw [Xoz _ e0, Xab, Xoz _ e1, Xab, wkA]
   simp
def Xks (n : Int) : Int := if n = 1 then 16 else if n = 2 then 64 else if n = 3 then 256 else 0
theorem Xwo (n : Int) : Xgb n = some (Xks n) := by
 unfold Xgb Xks
 simp only [Yji, beq_iff_eq]
 repeat' split
 all_goals rfl
theorem Xwa (n : Int) : Xf0 n = some (Xks n) := by
 unfold Xf0 Xks
 rw [Xak, Xab, Xub]
 by_cases h : 1 ≤ n ∧ n ≤ 3
 ·
  rw [Xbh h, wkA, Xa2 (by simp only [List.length_cons, List.length_nil]; omega), Xa2 (by simp only [List.length_cons, List.length_nil]; omega)]
  rcases (show n = 1 ∨ n = 2 ∨ n = 3 by omega) with rfl | rfl | rfl <;> rfl
 ·
  rw [Xap h, if_neg (by omega), if_neg (by omega), if_neg (by omega)]
def Xfs (s : Seq) : Bool := decide (1 ≤ Xp9 s ∧ Xp9 s ≤ Xks s.Level) && decide (3 ≤ s.Bits ∧ s.Bits ≤ 8)
theorem Xti (s : Seq) : Xmz s = some (Xfs s) := by
 unfold Xmz Xfs
 simp only [Yc1, Xwo, Xaj, Xab, Xdf]
theorem Xgt (s : Seq) (h1 : s.Cols.length ≤ maxLen) (h2 : s.Rows.length ≤ maxLen) : Xf2 s = some (Xfs s) := by
 unfold Xf2 Xfs
 simp only [Ycc s h1 h2, Xwa, Xak, Xab, Xdf]
theorem Xbe {s : Seq} (h : Xfs s = true) : Xen s.Cols = true ∧ Xen s.Rows = true ∧ 3 ≤ s.Bits ∧ s.Bits ≤ 8 := by
 unfold Xfs at h
 rw [Bool.and_eq_true, decide_eq_true_eq, decide_eq_true_eq] at h
 obtain ⟨⟨h1, _⟩, h3⟩ := h
 unfold Xp9 Yda at h1
 refine ⟨?_, ?_, h3⟩
 ·
  refine Classical.byContradiction fun e => ?_
  rw [if_neg e, Int.zero_mul] at h1; omega
 ·
  refine Classical.byContradiction fun e => ?_
  rw [if_neg e, Int.mul_zero] at h1; omega
def Xvw (c r : List Int) : Int := if Xfs ⟨1, 3, c, r⟩ = true then 1 else if Xfs ⟨2, 3, c, r⟩ = true then 2 else if Xfs ⟨3, 3, c, r⟩ = true then 3 else 0
theorem Yu9 (c r : List Int) (f : Int → Option (Lp Int (Ou Unit Int))) (h : ∀ n : Int, n ≤ 3 → 1 ≤ n → f n = sel (Xfs ⟨n, 3, c, r⟩) (some (.done (.ret n))) (some (.go (n + 1)))) (h4 : f 4 = some (.done (.out ()))) :
  (bnd (loop f 1) fun o => match o with | .out _ => some 0 | .ret r => some r) = some (Xvw c r) := by
 have h1 := h 1 (by omega) (by omega)
 have h2 := h 2 (by omega) (by omega)
 have h3 := h 3 (by omega) (by omega)
 unfold Xvw
 cases e1 : Xfs ⟨1, 3, c, r⟩ with
 | true => rw [e1, Xat] at h1; rw [Xc9 h1]; rfl
 | false =>
  rw [e1, Xao] at h1
  rw [Xcz h1]
  cases e2 : Xfs ⟨2, 3, c, r⟩ with
  | true => rw [e2, Xat] at h2; rw [show (1 : Int) + 1 = 2 from rfl, Xc9 h2]; rfl
  | false =>
   rw [e2, Xao] at h2
   rw [show (1 : Int) + 1 = 2 from rfl, Xcz h2]
   cases e3 : Xfs ⟨3, 3, c, r⟩ with
   | true => rw [e3, Xat] at h3; rw [show (2 : Int) + 1 = 3 from rfl, Xc9 h3]; rfl
   | false =>
    rw [e3, Xao] at h3
    rw [show (2 : Int) + 1 = 3 from rfl, Xcz h3, show (3 : Int) + 1 = 4 from rfl, Xc9 h4]; rfl
theorem Yfo (c r : List Int) : Xlt c r = some (Xvw c r) := by
 unfold Xlt
 refine Yu9 c r _ (fun n h1 h2 => ?_) ?_
 ·
  unfold Xj4
  rw [Xbh h1, Xti, Xab, wkA]
 ·
  unfold Xj4; rw [snA]
def Xb7 (s : Seq) : Int := if Xfs s = true then (s.Cols.length : Int) * s.Rows.length else 0
theorem Xbl {l : List Int} (h : Xen l = true) : 1 ≤ l.length ∧ l.length ≤ 4 := by
 unfold Xen at h; rw [Bool.and_eq_true, decide_eq_true_eq] at h; exact h.1
theorem Xyy {s : Seq} (h : Xfs s = true) : 1 ≤ (s.Cols.length : Int) * s.Rows.length ∧ (s.Cols.length : Int) * s.Rows.length ≤ 16 := by
 obtain ⟨h1, h2, _⟩ := Xbe h
 have a := Xbl h1
 have b := Xbl h2
 have e : ∀ x y : Nat, 1 ≤ x → x ≤ 4 → 1 ≤ y → y ≤ 4 → 1 ≤ x * y ∧ x * y ≤ 16 := by
  intro x y h1 h2 h3 h4
  rcases (show x = 1 ∨ x = 2 ∨ x = 3 ∨ x = 4 by omega) with rfl | rfl | rfl | rfl <;> omega
 have := e _ _ a.1 a.2 b.1 b.2
 rw [← Int.natCast_mul]; omega
theorem Xva (s : Seq) : Xkw s = some (Xb7 s) := by
 unfold Xkw Xb7
 rw [Xti, Xab, Xub]
 cases h : Xfs s with
 | false => rfl
 | true => have := Xyy h; rw [Xat, wkA, if_pos rfl]
theorem Xh1 (s : Seq) (h1 : s.Cols.length ≤ maxLen) (h2 : s.Rows.length ≤ maxLen) : Xfc s = some (Xb7 s) := by
 unfold Xfc Xb7
 rw [Xgt s h1 h2, Xab, Xub]
 cases h : Xfs s with
 | false => rfl
 | true => have := Xyy h; rw [Xat, wkA, if_pos rfl]
def Xke (s : Seq) : Int × Int := if Xfs s = true then (8 * Xpz s.Cols, 8 * Xpz s.Rows) else (0, 0)
theorem Ycm {l : List Int} (h : Xen l = true) : 1 ≤ Xpz l ∧ Xpz l ≤ 32 := by
 unfold Xen at h
 rw [Bool.and_eq_true, decide_eq_true_eq] at h
 have := Xs4 h.2
 omega
theorem Xxs (s : Seq) : Xm1 s = some (Xke s) := by
 unfold Xm1 Xke
 rw [Xti, Xab, Xub]
 cases h : Xfs s with
 | false => rfl
 | true =>
  obtain ⟨h1, h2, _⟩ := Xbe h
  have a := Ycm h1
  have b := Ycm h2
  rw [Xat, Xnm, Xab, Xnm, Xab, if_pos rfl]
  unfold Yda
  rw [if_pos h1, if_pos h2, wkA, wkA]
theorem Xxa (s : Seq) (h1 : s.Cols.length ≤ maxLen) (h2 : s.Rows.length ≤ maxLen) : Xka s = some (Xke s) := by
 unfold Xka Xke
 rw [Xgt s h1 h2, Xab, Xub]
 cases h : Xfs s with
 | false => rfl
 | true =>
  obtain ⟨h1, h2, _⟩ := Xbe h
  have a := Ycm h1
  have b := Ycm h2
  rw [Xat, Xoz _ h1, Xab, Xoz _ h2, Xab, if_pos rfl, wkA, wkA]
def Xlm (p : Par) : Bool := decide (0 ≤ p.Qp ∧ p.Qp ≤ 40) && !(p.Large && p.Exact)
theorem Ypd (p : Par) : Xsh p = some (Xlm p) := by
 unfold Xsh Xlm
 rw [Xaj, Xab, Xtc, Xdf, Xab]
 cases p.Large <;> cases p.Exact <;> rfl
theorem Xin (p : Par) : Xhc p = some (Xlm p) := by
 unfold Xhc Xlm
 rw [Xak, Xab, Xtc, Xdf, Xab]
 cases p.Large <;> cases p.Exact <;> rfl
def Xbx (p : Pic) : Bool := decide (1 ≤ p.Wide ∧ p.Wide ≤ 256) && (decide (1 ≤ p.High ∧ p.High ≤ 256) && ((p.Dots.size : Int) == p.Wide * p.High))
theorem Xda {w h : Int} (h1 : 1 ≤ w ∧ w ≤ 256) (h2 : 1 ≤ h ∧ h ≤ 256) : 1 ≤ w * h ∧ w * h ≤ 65536 := by
 have a : w * 1 ≤ w * h := Int.mul_le_mul_of_nonneg_left h2.1 (by omega)
 have b : w * h ≤ 256 * h := Int.mul_le_mul_of_nonneg_right h1.2 (by omega)
 omega
theorem Xc2 (p : Pic) : Xe4 p = some (Xbx p) := by
 unfold Xe4 Xbx
 simp only [Xaj, Xab, Xdf]
 by_cases h1 : 1 ≤ p.Wide ∧ p.Wide ≤ 256
 ·
  by_cases h2 : 1 ≤ p.High ∧ p.High ≤ 256
  ·
   have := Xda h1 h2
   rw [wkA]
  ·
   rw [decide_eq_false h2, Bool.false_and, Bool.false_and]
 ·
  rw [decide_eq_false h1, Bool.false_and, Bool.false_and]
theorem Xbj (p : Pic) : Xbt p = some (Xbx p) := by
 unfold Xbt Xbx
 simp only [Xak, Xab, Xdf]
 by_cases h1 : 1 ≤ p.Wide ∧ p.Wide ≤ 256
 ·
  by_cases h2 : 1 ≤ p.High ∧ p.High ≤ 256
  ·
   have := Xda h1 h2
   rw [wkA]
  ·
   rw [decide_eq_false h2, Bool.false_and, Bool.false_and]
 ·
  rw [decide_eq_false h1, Bool.false_and, Bool.false_and]
def Xja (p : Pic) (s : Seq) : Bool := Xbx p && ((p.Wide == (Xke s).1) && (p.High == (Xke s).2))
theorem Xuv (p : Pic) (s : Seq) (h1 : s.Cols.length ≤ maxLen) (h2 : s.Rows.length ≤ maxLen) : Xnw p s = some (Xja p s) := by
 unfold Xnw Xja
 simp only [Xxa s h1 h2, Xbj, Xab, Xdf]
theorem Yl1 (r : Rate) : Xp2 r = some (Xku r) := by
 unfold Xp2 Xku
 simp only [Xaj, Xab]
 by_cases h1 : 0 ≤ r.Qp ∧ r.Qp ≤ 40
 ·
  rw [Xbh h1]
  by_cases h2 : 1 ≤ r.Target ∧ r.Target ≤ 100000
  ·
   rw [Xbh h2, wkA, wkA, Xab]
   simp only [h1.1, h1.2, h2.1, h2.2, true_and]
  ·
   rw [Xap h2, Xab]; congr 1; symm; rw [decide_eq_false_iff_not]; exact fun h => h2 ⟨h.2.2.1, h.2.2.2.1⟩
 ·
  rw [Xap h1, Xab]; congr 1; symm; rw [decide_eq_false_iff_not]; exact fun h => h1 ⟨h.1, h.2.1⟩
def Xb3 (s : Xbb) : Bool :=
 decide (Xb7 s.Seq = 1) && Xlm s.Par && Xku s.Rate && decide (0 ≤ s.Frame ∧ s.Frame < 2 ^ s.Seq.Bits.toNat) && decide ((1 ≤ s.Every ∧ s.Every ≤ 1000) ∧ (0 ≤ s.Since ∧ s.Since ≤ 1000) ∧ (0 ≤ s.Reach ∧ s.Reach ≤ 4)) &&
 (if s.Has = true then Xja s.Ref s.Seq else decide (s.Ref.Wide = 0 ∧ s.Ref.High = 0 ∧ s.Ref.Dots.size = 0))
theorem Ys7 {b : Int} (h : 3 ≤ b ∧ b ≤ 8) : (2 : Int) ^ min b.toNat (IntKind.bits .i64) = 2 ^ b.toNat ∧ (8 : Int) ≤ 2 ^ b.toNat ∧ (2 : Int) ^ b.toNat ≤ 256 := by
 rcases (show b = 3 ∨ b = 4 ∨ b = 5 ∨ b = 6 ∨ b = 7 ∨ b = 8 by omega) with rfl | rfl | rfl | rfl | rfl | rfl <;> decide
theorem Xvj {s : Seq} (h : Xb7 s = 1) : Xfs s = true := by
 unfold Xb7 at h
 refine Classical.byContradiction fun e => ?_
 rw [if_neg e] at h; cases h
theorem Yxt (b : ByteArray) : (b.toList == (⟨#[]⟩ : ByteArray).toList) = decide (b.size = 0) := by
 rw [ByteArray.toList_eq, ByteArray.toList_eq, Bool.eq_iff_iff]
 obtain ⟨⟨l⟩⟩ := b
 show (l == []) = true ↔ decide (l.length = 0) = true
 cases l <;> simp
theorem Yfr (s : Xbb) (hb : (Lit.int .i64 s.Seq.Bits).wf = true) : Xlu s = some (Xb3 s) := by
 have hb' := Zec hb
 unfold Xlu Xb3
 rw [Xva, Xab]
 by_cases h1 : Xb7 s.Seq = 1
 ·
  have hs := (Xbe (Xvj h1)).2.2
  have hp := Ys7 hs
  have e64 : Xaa .u64 s.Seq.Bits = s.Seq.Bits := by
   show IntKind.wrap .u64 s.Seq.Bits = _
   simp [IntKind.wrap, IntKind.signed, IntKind.bits]; omega
  rw [Xba (by simp [h1]), e64, rqA, hp.1, wkA, Ypd, Xab, Yl1, Xab, Ydx, Xtc, Xtc, Xab]
  simp only [Xaj, Xab, Xtc]
  rw [decide_eq_true h1, Bool.true_and]
  cases hpar : Xlm s.Par with
  | false => rfl
  | true =>
   cases hr : Xku s.Rate with
   | false => rfl
   | true =>
    by_cases hf : 0 ≤ s.Frame ∧ s.Frame < 2 ^ s.Seq.Bits.toNat
    ·
     rw [Xba (by simp; omega), decide_eq_true hf]
     by_cases h3 : (1 ≤ s.Every ∧ s.Every ≤ 1000) ∧ (0 ≤ s.Since ∧ s.Since ≤ 1000) ∧ (0 ≤ s.Reach ∧ s.Reach ≤ 4)
     ·
      rw [Xba (by simp; omega), decide_eq_true h3, Xxs, Xab]
      cases s.Has with
      | true =>
       rw [Xat]
       simp only [Xc2, Xab, Xdf, Xja]
       rfl
      | false =>
       rw [Xao]
       simp only [Xab, Xdf]
       congr 1
       rw [Bool.eq_iff_iff]; simp
     ·
      rw [Xbp (by simp; omega), decide_eq_false h3]; simp
    ·
     rw [Xbp (by simp; omega), decide_eq_false hf]; simp
 ·
  rw [Xbp (by simpa using h1), Xab, Xat, decide_eq_false h1]; simp
theorem Xjx (s : Xbb) (h1 : s.Seq.Cols.length ≤ maxLen) (h2 : s.Seq.Rows.length ≤ maxLen) : Xfb s = some (Xb3 s) := by
 unfold Xfb Xb3
 rw [Xh1 _ h1 h2, Xab]
 by_cases ht : Xb7 s.Seq = 1
 ·
  have hs := (Xbe (Xvj ht)).2.2
  have hp := Ys7 hs
  rw [Xba (by simp [ht]), rqA, hp.1, wkA (e := 1 * 2 ^ s.Seq.Bits.toNat), wkA, Xin, Xab, Xq7, Xab]
  simp only [Xak, Xab, Xtc]
  rw [decide_eq_true ht, Bool.true_and]
  cases hpar : Xlm s.Par with
  | false => rfl
  | true =>
   cases hr : Xku s.Rate with
   | false => rfl
   | true =>
    by_cases hf : 0 ≤ s.Frame ∧ s.Frame < 2 ^ s.Seq.Bits.toNat
    ·
     rw [decide_eq_true hf]
     by_cases h3 : (1 ≤ s.Every ∧ s.Every ≤ 1000) ∧ (0 ≤ s.Since ∧ s.Since ≤ 1000) ∧ (0 ≤ s.Reach ∧ s.Reach ≤ 4)
     ·
      rw [Xba (by simp; omega), decide_eq_true h3, Xuv _ _ h1 h2, Xab, Yxt]
      cases s.Has with
      | true => rfl
      | false =>
       rw [Xao]
       congr 1
       rw [Bool.eq_iff_iff]; simp
     ·
      rw [Xbp (by simp; omega), decide_eq_false h3]; simp
    ·
     rw [Xbp (by simp; omega), decide_eq_false hf]; simp
 ·
  rw [Xbp (by simpa using ht), Xab, Xat, decide_eq_false ht]; simp
def Xpb (c r b : Int) (p : Par) (t : Rate) (e n : Int) : Xbb := ⟨⟨Xvw [c] [r], b, [c], [r]⟩, p, t, 0, 0, e, n, false, ⟨0, 0, ⟨#[]⟩⟩⟩
theorem Xef (a b : List Int) : strOfNums a ++ strOfNums b = strOfNums (a ++ b) := by
 unfold strOfNums
 rw [List.map_append]
 apply ByteArray.ext
 simp
theorem Zbj : (⟨#[]⟩ : ByteArray) = strOfNums [] := rfl
def Yki (l : List Int) : Prop := ∀ x ∈ l, 0 ≤ x ∧ x ≤ 255
theorem Xqu (l : List Int) (h : Yki l) : Xaz (strOfNums l) = l := by
 unfold Xaz
 rw [strOfNums_data, List.map_map]
 have : ∀ x ∈ l, ((fun b : UInt8 => (b.toNat : Int)) ∘ fun n : Int => UInt8.ofNat n.toNat) x = x := by
  intro x hx
  have := h x hx
  simp only [Function.comp_apply, UInt8.toNat_ofNat']
  omega
 rw [List.map_congr_left this, List.map_id']
theorem Xwu (l : List Int) (h : Yki l) (i : Nat) (hi : i < l.length) : Xuh (strOfNums l) (i : Int) = l.getD i 0 := by
 unfold Xuh
 rw [dif_pos (by rw [Int.toNat_natCast, strOfNums_size]; exact hi)]
 have hx := h l[i] (List.getElem_mem hi)
 rw [Xb4 l i hi]
 show ((((l.map fun n => UInt8.ofNat n.toNat).toArray)[(i : Int).toNat]'(by simpa using hi)).toNat : Int) = _
 simp only [Int.toNat_natCast, List.getElem_toArray, List.getElem_map, UInt8.toNat_ofNat']
 omega
theorem Zdh (y : Int) : IntKind.wrap .i64 (BitVec.ofInt (IntKind.bits .i64) y &&& BitVec.ofInt (IntKind.bits .i64) 1).toNat = y % 2 := by
 have h : (BitVec.ofInt 64 y &&& BitVec.ofInt 64 1).toNat = (y % 2).toNat := by
  rw [BitVec.toNat_and]
  have e1 : (BitVec.ofInt 64 1).toNat = 1 := by decide
  rw [e1, Nat.and_one_is_mod, BitVec.toNat_ofInt]
  omega
 show IntKind.wrap .i64 ((BitVec.ofInt 64 y &&& BitVec.ofInt 64 1).toNat : Int) = _
 rw [h, ← Xq3, wkA]
 omega
def Xvq : Nat → Int → List Int
 | 0, _ => []
 | w + 1, n => Xvq w (n / 2) ++ [48 + n % 2]
theorem Xc8 : ∀ (w : Nat) (n : Int), (Xvq w n).length = w
 | 0, _ => rfl
 | w + 1, n => by rw [Xvq, List.length_append, Xc8 w]; rfl
def Xoo (l : List Int) : Prop := ∀ x ∈ l, x = 48 ∨ x = 49
theorem Xa8 {a b : List Int} (ha : Xoo a) (hb : Xoo b) : Xoo (a ++ b) := fun x hx => (List.mem_append.1 hx).elim (ha x) (hb x)
theorem Ynl (n : Nat) : Xoo (List.replicate n 48) := fun x hx => .inl (List.eq_of_mem_replicate hx)
theorem Xfw {l : List Int} (h : Xoo l) : Yki l := fun x hx => by rcases h x hx with e | e <;> omega
theorem Xsr : Xoo [] := fun x hx => by simp at hx
theorem Yf8 : ∀ (w : Nat) (n : Int), Xoo (Xvq w n)
 | 0, _ => Xsr
 | w + 1, n => Xa8 (Yf8 w (n / 2)) (fun x hx => by rw [List.mem_singleton.1 hx]; omega)
theorem Yvk (w : Nat) : ∀ (k : Nat) (n : Int) (s : List Int), 0 ≤ n → n ≤ 9223372036854775807 → k + s.length ≤ 100000 → loop Xli (n, (k : Int) - 1, List.replicate k 0 ++ s) = some (Xvq k n ++ s) := by
 intro k
 induction k with
 | zero =>
  intro n s h0 h1 hl
  refine Xf9 ?_
  unfold Xli
  simp only
  rw [snA]
  simp [Xvq]
 | succ k ih =>
  intro n s h0 h1 hl
  have e1 : List.replicate (k + 1) (0 : Int) ++ s = List.replicate k 0 ++ 0 :: s := by rw [List.replicate_succ', List.append_assoc]; rfl
  have e2 := Ysu (List.replicate k (0 : Int)) 0 (48 + n % 2) s
  rw [List.length_replicate] at e2
  refine lgo (y := (n / 2, (k : Int) - 1, List.replicate k 0 ++ (48 + n % 2) :: s)) ?_ ?_
  ·
   unfold Xli
   have e3 : (((k + 1 : Nat) : Int) - 1).toNat = k := by omega
   simp only [e1, e3]
   rw [syA, Xa2 (by simp; omega), Xa2 (by simp), Xa2 (by decide), Zdh, wkA (e := 48 + n % 2), w8 (by omega) (by omega), e2, wkA]
   rw [show ((k + 1 : Nat) : Int) - 1 - 1 = (k : Int) - 1 by omega]
   rfl
  ·
   rw [ih (n / 2) ((48 + n % 2) :: s) (by omega) (by omega) (by simp; omega), Xvq, List.append_assoc]; rfl
theorem Xoy (n : Int) (w : Nat) (h0 : 0 ≤ n) (h1 : n ≤ 9223372036854775807) (hw : w ≤ 1000) : Xkr n (w : Int) = some (strOfNums (Xvq w n)) := by
 unfold Xkr
 rw [rqA, wkA, Int.toNat_natCast]
 have := Yvk w w n [] h0 h1 (by simp; omega)
 rw [List.append_nil, List.append_nil] at this
 rw [this, Xab]
def Xui (m : Nat) : Nat := if h : m = 0 then 0 else Xui (m / 2) + 1
termination_by m
decreasing_by omega
def Ypr (m : Nat) : List Int := if h : m = 0 then [] else Ypr (m / 2) ++ [48 + ((m % 2 : Nat) : Int)]
termination_by m
decreasing_by omega
theorem Ynk (m : Nat) : (Ypr m).length = Xui m := by
 induction m using Nat.strongRecOn with
 | _ m ih =>
  rw [Ypr, Xui]
  by_cases h : m = 0
  ·
   rw [dif_pos h, dif_pos h]; rfl
  ·
   rw [dif_neg h, dif_neg h, List.length_append, ih (m / 2) (by omega)]; rfl
theorem Yns {m j : Nat} (h : m < 2 ^ j) : Xui m ≤ j := by
 induction j generalizing m with
 | zero => rw [Xui, dif_pos (by simp at h; omega)]; omega
 | succ j ih =>
  rw [Xui]
  split
  ·
   omega
  ·
   have := ih (m := m / 2) (by rw [Nat.pow_succ] at h; omega)
   omega
theorem Yf7 {m : Nat} (h : 0 < m) : 1 ≤ Xui m := by rw [Xui, dif_neg (by omega)]; omega
theorem Yyl (m : Nat) : Xoo (Ypr m) := by
 induction m using Nat.strongRecOn with
 | _ m ih =>
  rw [Ypr]
  by_cases h : m = 0
  ·
   rw [dif_pos h]; exact Xsr
  ·
   rw [dif_neg h]; exact Xa8 (ih (m / 2) (by omega)) (fun x hx => by rw [List.mem_singleton.1 hx]; omega)
theorem Yyv (z m : Nat) : Xvq (Xui m + z) m = List.replicate z 48 ++ Ypr m := by
 induction m using Nat.strongRecOn with
 | _ m ih =>
  rw [Ypr, Xui]
  by_cases h : m = 0
  ·
   rw [dif_pos h, dif_pos h, h, List.append_nil, Nat.zero_add]
   clear ih h
   induction z with
   | zero => rfl
   | succ z iz => rw [Xvq, show ((0 : Nat) : Int) / 2 = ((0 : Nat) : Int) from rfl, iz, List.replicate_succ']; rfl
  ·
   rw [dif_neg h, dif_neg h, show Xui (m / 2) + 1 + z = Xui (m / 2) + z + 1 by omega, Xvq, show (m : Int) / 2 = ((m / 2 : Nat) : Int) by omega, ih (m / 2) (by omega), List.append_assoc, show (m : Int) % 2 = ((m % 2 : Nat) : Int) by omega]
def ueL (n : Nat) : List Int := List.replicate (Xui (n + 1) - 1) 48 ++ Ypr (n + 1)
theorem Xgz (n : Nat) : Xoo (ueL n) := Xa8 (Ynl _) (Yyl _)
theorem Xfq (n : Nat) (h : n ≤ 1000000) : (ueL n).length ≤ 39 ∧ 1 ≤ (ueL n).length := by
 unfold ueL
 rw [List.length_append, List.length_replicate, Ynk]
 have := Yns (m := n + 1) (j := 20) (by omega)
 have := Yf7 (m := n + 1) (by omega)
 omega
theorem Ykl : ∀ (m : Nat) (k : Int), 0 ≤ k → k ≤ 1000 → m ≤ 9223372036854775807 → loop Xdc ((m : Int), k) = some (k + Xui m) := by
 have main : ∀ (j m : Nat) (k : Int), m < 2 ^ j → j ≤ 63 → 0 ≤ k → k + j ≤ 2000 → loop Xdc ((m : Int), k) = some (k + Xui m) := by
  intro j
  induction j with
  | zero =>
   intro m k hm _ _ _
   have : m = 0 := by simp at hm; omega
   subst this
   refine Xf9 ?_
   unfold Xdc
   simp only
   rw [snA, Xui, dif_pos rfl]; simp
  | succ j ih =>
   intro m k hm hj h0 h1
   by_cases h : m = 0
   ·
    subst h
    refine Xf9 ?_
    unfold Xdc
    simp only
    rw [snA, Xui, dif_pos rfl]; simp
   ·
    refine lgo (y := (((m / 2 : Nat) : Int), k + 1)) ?_ ?_
    ·
     unfold Xdc
     simp only
     rw [syA, Xa2 (by decide), wkA]
     show some (Lp.go ((m : Int) / 2, k + 1)) = _
     congr 3
    ·
     rw [ih (m / 2) (k + 1) (by rw [Nat.pow_succ] at hm; omega) (by omega) (by omega) (by omega), Xui.eq_def m, dif_neg h]
     congr 1; omega
 intro m k h0 h1 hm
 exact main 63 m k (by omega) (by omega) h0 (by omega)
theorem Xf8 (n : Nat) (h : n ≤ 1000000) : Xi4 (n : Int) = some (strOfNums (ueL n)) := by
 unfold Xi4 Xna
 rw [wkA (e := (n : Int) + 1)]
 have := Ykl (n + 1) 0 (by omega) (by omega) (by omega)
 rw [show ((n + 1 : Nat) : Int) = (n : Int) + 1 by omega, Int.zero_add] at this
 rw [this, Xab, Xab]
 have h1 := Yns (m := n + 1) (j := 20) (by omega)
 have h2 := Yf7 (m := n + 1) (by omega)
 rw [wkA (e := 2 * (Xui (n + 1) : Int)), wkA, show 2 * (Xui (n + 1) : Int) - 1 = ((Xui (n + 1) + (Xui (n + 1) - 1) : Nat) : Int) by omega, Xoy _ _ (by omega) (by omega) (by omega), Xab,
  show (n : Int) + 1 = ((n + 1 : Nat) : Int) by omega, Yyv]
 rfl
theorem Yju (n : Nat) (x : Int) (h : n ≤ 1000000000) : Xvb (n : Int) x = some (strOfNums (List.replicate n x)) := by
 unfold Xvb
 rw [rqA, Int.toNat_natCast]
 have key : ∀ (k a : Nat), k + a = n → loop (Xlv (n : Int) x) ((a : Int), List.replicate a x ++ List.replicate k 0) = some (List.replicate n x) := by
  intro k
  induction k with
  | zero =>
   intro a ha
   refine Xf9 ?_
   unfold Xlv
   simp only
   rw [snA]
   simp; omega
  | succ k ih =>
   intro a ha
   have e2 := Ysu (List.replicate a x) 0 x (List.replicate k 0)
   rw [List.length_replicate] at e2
   refine lgo (y := (((a + 1 : Nat) : Int), List.replicate (a + 1) x ++ List.replicate k 0)) ?_ (ih (a + 1) (by omega))
   unfold Xlv
   simp only [List.replicate_succ (n := k), Int.toNat_natCast]
   rw [syA, Xa2 (by simp; omega), Xa2 (by simp), e2, wkA, List.replicate_succ' (n := a), List.append_assoc]
   rfl
 have := key n 0 rfl
 rw [List.replicate_zero, List.nil_append] at this
 exact Xge this
theorem Xtl (n : Nat) (h : n ≤ 1000000) : Xsj (n : Int) = some (strOfNums (ueL n)) := by
 have main : ∀ (j m : Nat) (s : List Int), m < 2 ^ j → j ≤ 63 → s.length + j ≤ 1000 → loop Xly ((m : Int), strOfNums s) = some (strOfNums (Ypr m ++ s)) := by
  intro j
  induction j with
  | zero =>
   intro m s hm _ _
   have : m = 0 := by simp at hm; omega
   subst this
   refine Xf9 ?_
   unfold Xly
   simp only
   rw [snA, Ypr, dif_pos rfl]; rfl
  | succ j ih =>
   intro m s hm hj hl
   by_cases h : m = 0
   ·
    subst h
    refine Xf9 ?_
    unfold Xly
    simp only
    rw [snA, Ypr, dif_pos rfl]; rfl
   ·
    have hlt : (m : Int) < 2 ^ (j + 1) := by exact_mod_cast hm
    have hle : (2 : Int) ^ (j + 1) ≤ 2 ^ 63 := by
     have := Nat.pow_le_pow_right (n := 2) (by omega) hj
     exact_mod_cast this
    have hbd : (m : Int) < 9223372036854775808 := Int.lt_of_lt_of_le hlt (by simpa using hle)
    refine lgo (y := (((m / 2 : Nat) : Int), strOfNums ((48 + ((m % 2 : Nat) : Int)) :: s))) ?_ ?_
    ·
     unfold Xly
     simp only
     rw [syA, Xa2 (by decide), Xb2 (by omega), Xbn (by omega), wkA (e := 48 + (m : Int) % 2), w8 (by omega) (by omega), Xa2 (by simp only [strOfNums_size, List.length_singleton]; omega), Xa2 (by decide), wkA, Xef]
     congr 3
    ·
     rw [ih (m / 2) _ (by rw [Nat.pow_succ] at hm; omega) (by omega) (by simp; omega)]
     conv => rhs; rw [Ypr, dif_neg h]
     rw [List.append_assoc]; rfl
 unfold Xsj
 have h1 := Yns (m := n + 1) (j := 20) (by omega)
 have h2 := Yf7 (m := n + 1) (by omega)
 rw [wkA (e := (n : Int) + 1), Zbj, show (n : Int) + 1 = ((n + 1 : Nat) : Int) by omega, main 63 (n + 1) [] (by omega) (by omega) (by simp), Xab, List.append_nil, strOfNums_size, Ynk, wkA, show (Xui (n + 1) : Int) - 1 = ((Xui (n + 1) - 1 : Nat) : Int) by omega, Yju _ _ (by omega), Xab,
  Xa2 (by simp only [strOfNums_size, List.length_replicate]; omega), Xef]
 rfl
theorem Yyn (x : Int) (h : x = 48 ∨ x = 49) : ((x != 48) && (x != 49)) = false := by rcases h with rfl | rfl <;> rfl
theorem Yze (l : List Int) (hl : Xoo l) (hn : l.length ≤ 9223372036854775806) (f : Int → Option (Lp Int (Ou Unit Bool)))
  (h : ∀ i : Nat, i < l.length → f (i : Int) = sel (((l.getD i 0) != 48) && ((l.getD i 0) != 49)) (some (.done (.ret false))) (some (.go ((i + 1 : Nat) : Int)))) (h0 : f (l.length : Int) = some (.done (.out ()))) : loop f 0 = some (.out ()) :=
 Yaz l.length (fun i hi => by rw [h i hi, Yyn _ (by rw [Xb4 l i hi]; exact hl _ (List.getElem_mem hi)), Xao]) h0
theorem Xzu (l : List Int) (hl : Xoo l) (hn : l.length ≤ 400000) : Xo7 (strOfNums l) = some true := by
 unfold Xo7
 rw [strOfNums_size, snA, Yze l hl (by omega) (Xk9 (strOfNums l)) (fun i hi => by
  unfold Xk9
  rw [strOfNums_size, Xwu l (Xfw hl) i hi, syA, rqA, rqA, Xdf, Xab, wkA]; rfl) (by
  unfold Xk9; rw [strOfNums_size, snA])]
 rfl
def Xqb (l : List Int) : Int := l.foldl (fun x b => 2 * x + b - 48) 0
def Xg1 : Nat → List Int → List Int
 | 0, _ => []
 | n + 1, l => Xqb (l.take 8) :: Xg1 n (l.drop 8)
theorem Xro : ∀ (n : Nat) (l : List Int), (Xg1 n l).length = n
 | 0, _ => rfl
 | n + 1, l => by rw [Xg1, List.length_cons, Xro n]
def Xwk (l : List Int) : List Int := Xg1 (l.length / 8 + 1) (l ++ 49 :: List.replicate (8 * (l.length / 8 + 1) - l.length - 1) 48)
theorem Zbx (l : List Int) : ∀ x : Int, l.foldl (fun x b => 2 * x + b - 48) x = x * 2 ^ l.length + Xqb l := by
 induction l with
 | nil => intro x; simp [Xqb]
 | cons b l ih =>
  intro x
  unfold Xqb
  rw [List.foldl_cons, List.foldl_cons, ih, ih (2 * 0 + b - 48), List.length_cons, Int.pow_succ]
  have e1 : (2 * x + b - 48) * 2 ^ l.length = 2 * (x * 2 ^ l.length) + (b - 48) * 2 ^ l.length := by
   rw [show 2 * x + b - 48 = 2 * x + (b - 48) by omega, Int.add_mul, Int.mul_assoc]
  have e2 : x * (2 ^ l.length * 2) = 2 * (x * 2 ^ l.length) := by rw [← Int.mul_assoc, Int.mul_comm]
  rw [e1, e2, show (2 : Int) * 0 + b - 48 = b - 48 by omega]
  omega
theorem Xrl (a b : List Int) : Xqb (a ++ b) = Xqb a * 2 ^ b.length + Xqb b := by
 show (a ++ b).foldl _ 0 = _
 rw [List.foldl_append]
 exact Zbx b (Xqb a)
theorem Ypm (z : Nat) : Xqb (List.replicate z 48) = 0 := by
 induction z with
 | zero => rfl
 | succ z ih => rw [List.replicate_succ', Xrl, ih]; rfl
theorem Ya9 {l : List Int} (h : Xoo l) : 0 ≤ Xqb l ∧ Xqb l < 2 ^ l.length := by
 induction l with
 | nil => simp [Xqb]
 | cons b l ih =>
  have h1 := ih (fun x hx => h x (by simp [hx]))
  have h2 := h b (by simp)
  rw [show b :: l = [b] ++ l from rfl, Xrl, List.length_append, Int.pow_add, show Xqb [b] = b - 48 by simp [Xqb]]
  have : (2 : Int) ^ [b].length = 2 := rfl
  rw [this]
  rcases h2 with rfl | rfl <;> omega
theorem Zci : ∀ (x : Fin 256) (k : Fin 8), x.val % 2 ^ (8 - k.val) = 0 → (BitVec.ofNat 8 x.val ||| BitVec.ofNat 8 (128 / 2 ^ k.val)).toNat = x.val + 2 ^ (7 - k.val) := by decide +kernel
theorem Zck (x : Int) (k : Nat) (h0 : 0 ≤ x) (h1 : x ≤ 255) (hk : k < 8) (hx : x % 2 ^ (8 - k) = 0) : IntKind.wrap .u8 (BitVec.ofInt (IntKind.bits .u8) x ||| BitVec.ofInt (IntKind.bits .u8) ((128 : Int) / 2 ^ min k (IntKind.bits .u8))).toNat = x + 2 ^ (7 - k) := by
 obtain ⟨n, rfl⟩ : ∃ n : Nat, x = n := ⟨x.toNat, by omega⟩
 have hm : min k (IntKind.bits .u8) = k := by show min k 8 = k; omega
 have hn : n % 2 ^ (8 - k) = 0 := by exact_mod_cast hx
 have := Zci ⟨n, by omega⟩ ⟨k, hk⟩ hn
 simp only at this
 rw [hm]
 have e1 : BitVec.ofInt 8 ((128 : Int) / 2 ^ k) = BitVec.ofNat 8 (128 / 2 ^ k) := by
  rw [show ((128 : Int) / 2 ^ k) = ((128 / 2 ^ k : Nat) : Int) by push_cast; rfl, BitVec.ofInt_natCast]
 have e2 : BitVec.ofInt 8 (n : Int) = BitVec.ofNat 8 n := BitVec.ofInt_natCast ..
 show IntKind.wrap .u8 ((BitVec.ofInt 8 (n : Int) ||| BitVec.ofInt 8 ((128 : Int) / 2 ^ k)).toNat : Int) = _
 rw [e1, e2, this, ← Xq3]
 have hp : n + 2 ^ (7 - k) ≤ 255 := by
  have : n + 2 ^ (7 - k) < 256 := by rw [← this]; exact (BitVec.ofNat 8 n ||| BitVec.ofNat 8 (128 / 2 ^ k)).isLt
  omega
 rw [w8 (by omega) (by omega)]
 push_cast; rfl
theorem Ybf : ∀ (m : Nat) (L : List Int), Xoo L → L.length < 8 * m → Xg1 m (L ++ 49 :: List.replicate (8 * m - L.length - 1) 48) = (Xg1 m (L ++ List.replicate (8 * m - L.length) 48)).set (L.length / 8) ((Xg1 m (L ++ List.replicate (8 * m - L.length) 48)).getD (L.length / 8) 0 + 2 ^ (7 - L.length % 8)) ∧
  (Xg1 m (L ++ List.replicate (8 * m - L.length) 48)).getD (L.length / 8) 0 % 2 ^ (8 - L.length % 8) = 0 ∧ 0 ≤ (Xg1 m (L ++ List.replicate (8 * m - L.length) 48)).getD (L.length / 8) 0 ∧ (Xg1 m (L ++ List.replicate (8 * m - L.length) 48)).getD (L.length / 8) 0 ≤ 255
 | 0, L, _, h => by omega
 | m + 1, L, hb, h => by
  by_cases h8 : L.length < 8
  ·
   have e0 : L.length / 8 = 0 := by omega
   have em : L.length % 8 = L.length := by omega
   have t1 : (L ++ List.replicate (8 * (m + 1) - L.length) 48).take 8 = L ++ List.replicate (8 - L.length) 48 := by
    rw [List.take_append, List.take_of_length_le (by omega), List.take_replicate]; congr 2; omega
   have d1 : (L ++ List.replicate (8 * (m + 1) - L.length) 48).drop 8 = List.replicate (8 * m) (48 : Int) := by
    rw [List.drop_append, List.drop_eq_nil_of_le (by omega), List.nil_append, List.drop_replicate]; congr 1; omega
   have t2 : (L ++ 49 :: List.replicate (8 * (m + 1) - L.length - 1) 48).take 8 = L ++ 49 :: List.replicate (8 - L.length - 1) 48 := by
    rw [List.take_append, List.take_of_length_le (by omega), show 8 - L.length = (8 - L.length - 1) + 1 by omega, List.take_succ_cons, List.take_replicate]; congr 3; omega
   have d2 : (L ++ 49 :: List.replicate (8 * (m + 1) - L.length - 1) 48).drop 8 = List.replicate (8 * m) (48 : Int) := by
    rw [List.drop_append, List.drop_eq_nil_of_le (by omega), List.nil_append, show 8 - L.length = (8 - L.length - 1) + 1 by omega, List.drop_succ_cons, List.drop_replicate]; congr 1; omega
   have r := Ya9 hb
   have v1 : Xqb (L ++ List.replicate (8 - L.length) 48) = Xqb L * 2 ^ (8 - L.length) := by rw [Xrl, Ypm, List.length_replicate, Int.add_zero]
   have v2 : Xqb (L ++ 49 :: List.replicate (8 - L.length - 1) 48) = Xqb L * 2 ^ (8 - L.length) + 2 ^ (7 - L.length) := by
    rw [Xrl, show (49 : Int) :: List.replicate (8 - L.length - 1) 48 = [49] ++ List.replicate (8 - L.length - 1) 48 from rfl, Xrl, Ypm, Int.add_zero, List.length_append, List.length_replicate, show [(49 : Int)].length = 1 from rfl, show 1 + (8 - L.length - 1) = 8 - L.length by omega, show 8 - L.length - 1 = 7 - L.length by omega]
    show _ + Xqb [49] * _ = _
    rw [show Xqb [49] = 1 from rfl, Int.one_mul]
   rw [Xg1, Xg1, t1, d1, t2, d2, v1, v2, e0, em, List.getD_cons_zero, List.set_cons_zero]
   refine ⟨rfl, Int.mul_emod_left _ _, Int.mul_nonneg r.1 (Int.pow_nonneg (by decide)), ?_⟩
   have : (Xqb L + 1) * 2 ^ (8 - L.length) ≤ 2 ^ L.length * 2 ^ (8 - L.length) := Int.mul_le_mul_of_nonneg_right (by omega) (Int.pow_nonneg (by decide))
   rw [← Int.pow_add, show L.length + (8 - L.length) = 8 by omega, Int.add_mul, Int.one_mul] at this
   have hp : (1 : Int) ≤ 2 ^ (8 - L.length) := Int.pow_pos (by decide)
   have : (2 : Int) ^ 8 = 256 := by decide
   omega
  ·
   have hsp : L = L.take 8 ++ L.drop 8 := (List.take_append_drop 8 L).symm
   have hl8 : (L.take 8).length = 8 := by rw [List.length_take]; omega
   have hd : (L.drop 8).length = L.length - 8 := by rw [List.length_drop]
   have ih := Ybf m (L.drop 8) (fun x hx => hb x (List.mem_of_mem_drop hx)) (by omega)
   rw [hd] at ih
   have tk : ∀ s : List Int, (L ++ s).take 8 = L.take 8 := fun s => by rw [List.take_append, show 8 - L.length = 0 by omega, List.take_zero, List.append_nil]
   have dr : ∀ s : List Int, (L ++ s).drop 8 = L.drop 8 ++ s := fun s => by rw [List.drop_append, show 8 - L.length = 0 by omega, List.drop_zero]
   rw [Xg1, Xg1, tk, tk, dr, dr, show L.length / 8 = (L.length - 8) / 8 + 1 by omega, List.getD_cons_succ, List.set_cons_succ, show L.length % 8 = (L.length - 8) % 8 by omega, show 8 * (m + 1) - L.length = 8 * m - (L.length - 8) by omega]
   exact ⟨by rw [ih.1], ih.2⟩
theorem Yuw (m : Nat) : Xg1 m (List.replicate (8 * m) 48) = List.replicate m 0 := by
 induction m with
 | zero => rfl
 | succ m ih =>
  rw [Xg1, List.take_replicate, List.drop_replicate, show 8 * (m + 1) - 8 = 8 * m by omega, ih, Ypm, List.replicate_succ]
theorem Yuv (m : Nat) (L : List Int) (h : L.length < 8 * m) : L ++ 48 :: List.replicate (8 * m - L.length - 1) 48 = L ++ List.replicate (8 * m - L.length) 48 := by
 congr 1
 rw [← List.replicate_succ]; congr 1; omega
theorem Yet (l : List Int) (hl : Xoo l) (hn : l.length ≤ 400000) : Xk8 (strOfNums l) = some (strOfNums (Xwk l), true) := by
 have hm' : maxLen = 9223372036854775807 := rfl
 unfold Xk8
 rw [Xzu l hl hn, Xab, Xub, Xat, Xa2 (by decide), strOfNums_size, Xbn (by omega), show (l.length : Int) / 8 = ((l.length / 8 : Nat) : Int) by omega, wkA (e := ((l.length / 8 : Nat) : Int)), wkA (e := ((l.length / 8 : Nat) : Int) + 1), rqA,
  show (((l.length / 8 : Nat) : Int) + 1).toNat = l.length / 8 + 1 by omega]
 generalize hm : l.length / 8 + 1 = m
 have key : ∀ (r a : List Int), l = a ++ r → loop (Xg4 (strOfNums l)) ((a.length : Int), Xg1 m (a ++ List.replicate (8 * m - a.length) 48)) = some (Xg1 m (l ++ List.replicate (8 * m - l.length) 48)) := by
  intro r
  induction r with
  | nil =>
   intro a ha
   rw [List.append_nil] at ha
   rw [← ha]
   refine Xf9 ?_
   unfold Xg4
   simp only
   rw [strOfNums_size, snA]
  | cons x r ih =>
   intro a ha
   have hlen : a.length < l.length := by rw [ha]; simp
   have hx : l.getD a.length 0 = x := by rw [ha]; exact Xm6 a x _ r
   have hb : x = 48 ∨ x = 49 := hl x (by rw [ha]; simp)
   have ha8 : a.length < 8 * m := by omega
   have hab : Xoo a := fun y hy => hl y (by rw [ha]; simp [hy])
   obtain ⟨c1, c2, c3, c4⟩ := Ybf m a hab ha8
   have hcl := Xro m (a ++ List.replicate (8 * m - a.length) 48)
   have hnext := ih (a ++ [x]) (by rw [ha]; simp)
   rw [List.length_append, List.length_singleton] at hnext
   refine lgo (y := (((a.length + 1 : Nat) : Int), Xg1 m (a ++ [x] ++ List.replicate (8 * m - (a.length + 1)) 48))) ?_ hnext
   unfold Xg4
   simp only
   rw [strOfNums_size, syA, Xwu l (Xfw hl) _ hlen, hx, wkA (e := (a.length : Int) + 1), Xbn (by omega), Xb2 (by omega), show (a.length : Int) / 8 = ((a.length / 8 : Nat) : Int) by omega, show (a.length : Int) % 8 = ((a.length % 8 : Nat) : Int) by omega,
    wkA (e := ((a.length / 8 : Nat) : Int)), Int.toNat_natCast, Int.toNat_natCast, rqA]
   rw [List.append_assoc, List.singleton_append, Nat.sub_add_eq]
   rcases hb with rfl | rfl
   ·
    rw [Xba (by decide), Xab, Yuv m a ha8]; rfl
   ·
    rw [Xbp (by decide), Xa2 (by decide), rqA, rqA, Xa2 (by decide), rqA, rqA, rqA, Xab, Zck _ _ c3 c4 (by omega) c2, c1]; rfl
 have := key l [] rfl
 rw [List.nil_append, List.length_nil, Nat.sub_zero, Yuw] at this
 refine (Xge this).trans ?_
 have hl8 : l.length < 8 * m := by omega
 obtain ⟨c1, c2, c3, c4⟩ := Ybf m l hl hl8
 have hcl := Xro m (l ++ List.replicate (8 * m - l.length) 48)
 rw [Xa2 (by decide), rqA, Int.toNat_natCast, rqA, Xa2 (by decide), Xb2 (by omega), rqA, rqA, rqA, show ((l.length : Int) % 8).toNat = l.length % 8 by omega, Zck _ _ c3 c4 (by omega) c2, ← c1]
 unfold Xwk
 rw [hm]
theorem Xs9 (l : List Int) : (Xwk l).length = l.length / 8 + 1 := Xro _ _
def Yal (k : Int) : Bool := k == 1 || (k == 5 || (k == 7 || k == 8))
theorem Xxf (k : Int) : Xmo k = some (Yal k) := by
 unfold Xmo Yal
 simp only [Ydx, Xab]
theorem Yi0 {k : Int} (h : Yal k = true) : 1 ≤ k ∧ k ≤ 8 := by
 unfold Yal at h
 simp only [Bool.or_eq_true, beq_iff_eq] at h
 omega
theorem Xq9 (k : Int) (l : List Int) (hk : Yal k = true) (hl : Xoo l) (hn : l.length ≤ 400000) : Xkc k (strOfNums l) = some (strOfNums (k :: Xwk l), true) := by
 have := Yi0 hk
 have hp := Xs9 l
 unfold Xkc
 rw [Yet l hl hn, Xab, Xxf, hk]
 simp only [Xat, Xab, Bool.not_true, Xao]
 rw [w8 (by omega) (by omega), Xa2 (by simp only [strOfNums_size, List.length_singleton]; omega), Xef]; rfl
def Xrh (b : Bool) : List Int := if b = true then [49] else [48]
theorem Yjj (b : Bool) : Xoo (Xrh b) := by unfold Xrh; split <;> (intro x hx; rw [List.mem_singleton.1 hx]; simp)
theorem Xn2 (b : Bool) : (Xrh b).length = 1 := by unfold Xrh; split <;> rfl
theorem Xuz (b : Bool) : Xr7 b = some (strOfNums (Xrh b)) := by cases b <;> rfl
def Yge (p : Par) : List Int := Xvq 6 p.Qp ++ Xrh p.Large ++ Xrh p.Exact ++ Xrh p.Confined
theorem Yoy (p : Par) : Xoo (Yge p) := Xa8 (Xa8 (Xa8 (Yf8 _ _) (Yjj _)) (Yjj _)) (Yjj _)
theorem Ygf (p : Par) : (Yge p).length = 9 := by unfold Yge; simp only [List.length_append, Xc8, Xn2]
theorem Yas {p : Par} (h : Xlm p = true) : 0 ≤ p.Qp ∧ p.Qp ≤ 40 := by
 unfold Xlm at h; rw [Bool.and_eq_true, decide_eq_true_eq] at h; exact h.1
theorem Ykz (p : Par) (h : Xlm p = true) : Xpn p = some (strOfNums (Yge p), true) := by
 have := Yas h
 unfold Xpn
 rw [Xin, Xab, h, Xba (by rfl), show (6 : Int) = ((6 : Nat) : Int) from rfl, Xoy _ 6 (by omega) (by omega) (by omega), Xab, Xuz, Xab, Xa2 (by simp only [strOfNums_size, Xc8, Xn2]; omega), Xuz, Xab, Xef, Xa2 (by simp only [strOfNums_size, List.length_append, Xc8, Xn2]; omega), Xuz, Xab, Xef, Xa2 (by simp only [strOfNums_size, List.length_append, Xc8, Xn2]; omega), Xef]
 rfl
def Yuh : List Int → List Int
 | [] => []
 | x :: r => ueL x.toNat ++ Yuh r
theorem Yui : ∀ l : List Int, Xoo (Yuh l)
 | [] => Xsr
 | x :: r => Xa8 (Xgz _) (Yui r)
theorem Yuj : ∀ {l : List Int}, l.all Xew = true → (Yuh l).length ≤ 39 * l.length
 | [], _ => by simp [Yuh]
 | x :: r, h => by
  rw [List.all_cons, Bool.and_eq_true] at h
  have h1 := Yuj h.2
  have h2 : 1 ≤ x ∧ x ≤ 8 := by simpa [Xew] using h.1
  have := Xfq x.toNat (by omega)
  rw [Yuh, List.length_append, List.length_cons]
  omega
def Xsa (l : List Int) : List Int := ueL l.length ++ Yuh l
def Yba (s : Seq) : List Int := ueL s.Level.toNat ++ Xvq 4 s.Bits ++ Xsa s.Cols ++ Xsa s.Rows
theorem Yqz (l : List Int) : Xoo (Xsa l) := Xa8 (Xgz _) (Yui _)
theorem Yo6 (s : Seq) : Xoo (Yba s) := Xa8 (Xa8 (Xa8 (Xgz _) (Yf8 _ _)) (Yqz _)) (Yqz _)
theorem Yap {l : List Int} (h : Xen l = true) : (Xsa l).length ≤ 195 := by
 have h1 := Xbl h
 unfold Xen at h
 rw [Bool.and_eq_true] at h
 have := Yuj h.2
 have := Xfq l.length (by omega)
 unfold Xsa; rw [List.length_append]; omega
theorem Xyt {s : Seq} (h : Xfs s = true) : 1 ≤ s.Level ∧ s.Level ≤ 3 := by
 unfold Xfs at h
 rw [Bool.and_eq_true, decide_eq_true_eq] at h
 have := h.1
 unfold Xks at this
 repeat' split at this
 all_goals omega
theorem Yt7 {s : Seq} (h : Xfs s = true) : (Yba s).length ≤ 433 := by
 obtain ⟨h1, h2, _⟩ := Xbe h
 have h3 := Xyt h
 have := Yap h1
 have := Yap h2
 have := Xfq s.Level.toNat (by omega)
 unfold Yba; simp only [List.length_append, Xc8]; omega
theorem Yru (l : List Int) (ha : l.all Xew = true) (h4 : l.length ≤ 4) (f : (ByteArray × Int) → Option (Lp (ByteArray × Int) ByteArray))
  (h : ∀ (i : Nat) (s : List Int) (x : Int), i < l.length → s.length ≤ 1000 → l.getD i 0 = x → f (strOfNums s, (i : Int)) = some (.go (strOfNums (s ++ ueL x.toNat), ((i + 1 : Nat) : Int)))) (h0 : ∀ s, f (s, (l.length : Int)) = some (.done s)) (s : List Int) (hs : s.length ≤ 500) : loop f (strOfNums s, 0) = some (strOfNums (s ++ Yuh l)) := by
 have key : ∀ (r a : List Int) (s : List Int), l = a ++ r → s.length + 39 * r.length ≤ 800 → loop f (strOfNums s, (a.length : Int)) = some (strOfNums (s ++ Yuh r)) := by
  intro r
  induction r with
  | nil => intro a s ha _; rw [List.append_nil] at ha; rw [← ha, Xc9 (h0 _), Yuh, List.append_nil]
  | cons x r ih =>
   intro a s hl hsl
   have hlen : a.length < l.length := by rw [hl]; simp
   have hx : l.getD a.length 0 = x := by rw [hl]; exact Xm6 a x _ r
   have hxs : 1 ≤ x ∧ x ≤ 8 := by simpa [Xew] using List.all_eq_true.1 ha x (by rw [hl]; simp)
   have := Xfq x.toNat (by omega)
   rw [List.length_cons] at hsl
   have hn := ih (a ++ [x]) (s ++ ueL x.toNat) (by rw [hl]; simp) (by rw [List.length_append]; omega)
   rw [List.length_append, List.length_singleton] at hn
   rw [Xcz (h a.length s x hlen (by omega) hx), hn, Yuh, List.append_assoc]
 exact key l [] s rfl (by omega)
theorem Yla (s : Seq) (h : Xfs s = true) (hc : s.Cols.length ≤ maxLen) (hr : s.Rows.length ≤ maxLen) : Xpp s = some (strOfNums (Yba s), true) := by
 obtain ⟨h1, h2, h3⟩ := Xbe h
 have h4 := Xyt h
 have g1 := Yap h1
 have g2 := Yap h2
 have g3 := Xfq s.Level.toNat (by omega)
 unfold Xpp
 rw [Xgt s hc hr, Xab, h, Xba (by rfl), show s.Level = ((s.Level.toNat : Nat) : Int) by omega, Xf8 _ (by omega), Xab, show (4 : Int) = ((4 : Nat) : Int) from rfl, Xoy _ 4 (by omega) (by omega) (by omega), Xab, Xa2 (by simp only [strOfNums_size, Xc8]; omega), Xef]
 have step : ∀ (n : Nat) (l t : List Int), n = 0 ∨ n = 1 → ([s.Cols, s.Rows]).getD n Xgn = l → Xen l = true → t.length ≤ 300 → Xek s (strOfNums t, (n : Int)) = some (.go (strOfNums (t ++ Xsa l), ((n + 1 : Nat) : Int))) := by
  intro n l t hn hl hok ht
  have l4 := Xbl hok
  have ha : l.all Xew = true := by unfold Xen at hok; rw [Bool.and_eq_true] at hok; exact hok.2
  have := Xfq l.length (by omega)
  unfold Xek
  simp only [Int.toNat_natCast, hl, List.length_cons, List.length_nil]
  rw [syA, rqA, rqA, Xf8 _ (by omega), Xab, Xa2 (by simp only [strOfNums_size]; omega), Xef, Yru l ha l4.2 (Xhw s (strOfNums t, (n : Int))) (by
   intro i u x hi hs hx
   have hxs : 1 ≤ x ∧ x ≤ 8 := by rw [Xb4 l i hi] at hx; simpa [Xew, hx] using List.all_eq_true.1 ha _ (List.getElem_mem hi)
   have := Xfq x.toNat (by omega)
   unfold Xhw
   simp only [Int.toNat_natCast, hl, hx]
   rw [syA, rqA, show x = ((x.toNat : Nat) : Int) by omega, Xf8 _ (by omega), Xab, Xa2 (by simp only [strOfNums_size]; omega), wkA, Xef]
   rfl) (by intro u; unfold Xhw; simp only [Int.toNat_natCast, hl]; rw [snA]) _ (by rw [List.length_append]; omega), Xab, wkA, List.append_assoc]
  rfl
 have s0 := step 0 s.Cols (ueL s.Level.toNat ++ Xvq 4 s.Bits) (.inl rfl) rfl h1 (by rw [List.length_append, Xc8]; omega)
 have s1 := step 1 s.Rows (ueL s.Level.toNat ++ Xvq 4 s.Bits ++ Xsa s.Cols) (.inr rfl) rfl h2 (by simp only [List.length_append, Xc8]; omega)
 have s2 : ∀ t, Xek s (t, ((2 : Nat) : Int)) = some (.done t) := by intro t; unfold Xek; simp only; rw [Xap (by simp)]
 have e : loop (Xek s) (strOfNums (ueL s.Level.toNat ++ Xvq 4 s.Bits), ((0 : Nat) : Int)) = some (strOfNums (Yba s)) := by
  rw [Xcz s0, Xcz s1, Xc9 (s2 _)]; rfl
 exact Xge e
def Xv4 (s : Xbb) : List ByteArray := if Xb3 s = true then [strOfNums (7 :: Xwk (Yba s.Seq)), strOfNums (8 :: Xwk (Yge s.Par))] else []
theorem Yls {s : Xbb} (h : Xb3 s = true) : Xfs s.Seq = true ∧ Xlm s.Par = true := by
 unfold Xb3 at h
 simp only [Bool.and_eq_true, decide_eq_true_eq] at h
 exact ⟨Xvj h.1.1.1.1.1, h.1.1.1.1.2⟩
theorem Xzz (s : Xbb) (hc : s.Seq.Cols.length ≤ maxLen) (hr : s.Seq.Rows.length ≤ maxLen) : Xhy s = some (Xv4 s) := by
 unfold Xhy Xv4
 rw [Xjx s hc hr, Xab, Xub]
 cases h : Xb3 s with
 | false => rfl
 | true =>
  obtain ⟨h1, h2⟩ := Yls h
  have := Yt7 h1
  rw [Xat, Yla _ h1 hc hr, Xab, Ykz _ h2, Xab, Xq9 7 _ rfl (Yo6 _) (by omega), Xab, Xq9 8 _ rfl (Yoy _) (by rw [Ygf]; omega), Xab]
  rfl
def Ygz (n : Int) : Nat := if n > 0 then (2 * n - 1).toNat else (-2 * n).toNat
theorem Xwx (n : Int) (h : -500000 ≤ n ∧ n ≤ 500000) : Xmc n = some ((Ygz n : Int), true) := by
 unfold Xmc Ygz
 rw [Xak, Xab, Xub, Xbh h, Yst, wkA (e := 2 * n), wkA, wkA]
 split
 ·
  rw [Int.toNat_of_nonneg (by omega)]
 ·
  rw [Int.toNat_of_nonneg (by omega)]
theorem Ylv (n : Int) (h : -500000 ≤ n ∧ n ≤ 500000) : Xyv n = some ((Ygz n : Int), true) := by
 unfold Xyv Ygz
 rw [Xaj, Xab, Xub, Xbh h, Yst, wkA (e := 2 * n), wkA, wkA]
 split
 ·
  rw [Int.toNat_of_nonneg (by omega)]
 ·
  rw [Int.toNat_of_nonneg (by omega)]
theorem Xvr (n : Int) (h : -500000 ≤ n ∧ n ≤ 500000) : Ygz n ≤ 1000000 := by unfold Ygz; split <;> omega
def seL (n : Int) : List Int := ueL (Ygz n)
theorem Xtb (n : Int) (h : -500000 ≤ n ∧ n ≤ 500000) : (seL n).length ≤ 39 := (Xfq _ (Xvr n h)).1
theorem Ype (n : Int) (h : -500000 ≤ n ∧ n ≤ 500000) : Yc5 n = some (strOfNums (seL n)) := by
 unfold Yc5
 rw [Ylv n h, Xab, Xtl _ (Xvr n h), Xab]; rfl
theorem Xov (n : Int) (h : -500000 ≤ n ∧ n ≤ 500000) : Xkj n = some (strOfNums (seL n), true) := by
 have := Xvr n h
 unfold Xkj
 rw [Xwx n h, Xab, Xub, Xat]
 unfold Xo8
 rw [Xak, Xab, Xub, syA, Xf8 _ this, Xab, Xab]; rfl
def Ypt (x : Int) : Bool := decide (-5000 ≤ x ∧ x ≤ 5000)
theorem Yot {x : Int} : Ypt x = true ↔ -5000 ≤ x ∧ x ≤ 5000 := by simp [Ypt]
def nz : List Int → Nat
 | [] => 0
 | x :: r => if x = 0 then nz r else nz r + 1
theorem Yxe : ∀ l : List Int, nz l ≤ l.length
 | [] => by simp [nz]
 | x :: r => by rw [nz, List.length_cons]; have := Yxe r; split <;> omega
def Xo0 : Nat → List Int → List Int
 | _, [] => []
 | g, x :: r => if x = 0 then Xo0 (g + 1) r else ueL g ++ seL x ++ Xo0 0 r
def Xi6 (l : List Int) : List Int := ueL (nz l) ++ Xo0 0 l
theorem Yjf : ∀ (l : List Int) (g : Nat), Xoo (Xo0 g l)
 | [], _ => Xsr
 | x :: r, g => by
  rw [Xo0]
  split
  ·
   exact Yjf r _
  ·
   exact Xa8 (Xa8 (Xgz _) (Xgz _)) (Yjf r _)
theorem Yjg : ∀ (l : List Int) (g : Nat), l.all Ypt = true → g + l.length ≤ 1000 → (Xo0 g l).length ≤ 78 * l.length
 | [], _, _, _ => by simp [Xo0]
 | x :: r, g, h, hg => by
  rw [List.all_cons, Bool.and_eq_true, Yot] at h
  rw [List.length_cons] at hg ⊢
  rw [Xo0]
  split
  ·
   have := Yjg r (g + 1) h.2 (by omega); omega
  ·
   have := Yjg r 0 h.2 (by omega)
   have a := Xfq g (by omega)
   have b := Xtb x (by omega)
   simp only [List.length_append]; omega
theorem Xu4 (l : List Int) : Xoo (Xi6 l) := Xa8 (Xgz _) (Yjf _ _)
theorem Xlo (l : List Int) (h : l.all Ypt = true) (hl : l.length ≤ 64) : (Xi6 l).length ≤ 39 + 78 * l.length := by
 have := Yjg l 0 h (by omega)
 have := Yxe l
 have := Xfq (nz l) (by omega)
 unfold Xi6; rw [List.length_append]; omega
theorem Ydn (l : List Int) (h : l.all Ypt = true) (hl : l.length ≤ 64) : Xr2 l = some (Xi6 l) := by
 have hm : maxLen = 9223372036854775807 := rfl
 unfold Xr2
 have k1 : ∀ (r a : List Int) (n : Nat), l = a ++ r → n ≤ a.length → loop (Xko l) ((n : Int), (a.length : Int)) = some ((n + nz r : Nat) : Int) := by
  intro r
  induction r with
  | nil =>
   intro a n ha _
   rw [List.append_nil] at ha
   refine Xf9 ?_
   unfold Xko
   simp only
   rw [Xap (by rw [ha]; omega)]; rfl
  | cons x r ih =>
   intro a n ha hn
   have hlen : a.length < l.length := by rw [ha]; simp
   have hx : l.getD a.length 0 = x := by rw [ha]; exact Xm6 a x _ r
   by_cases e : x = 0
   ·
    have hnext := ih (a ++ [x]) n (by rw [ha]; simp) (by simp; omega)
    rw [List.length_append, List.length_singleton] at hnext
    rw [nz, if_pos e, ← hnext]
    refine Xcz ?_
    unfold Xko
    simp only [Int.toNat_natCast, hx]
    rw [syA, rqA, Xba (by simpa using e), Xab, wkA]
    rfl
   ·
    have hnext := ih (a ++ [x]) (n + 1) (by rw [ha]; simp) (by simp; omega)
    rw [List.length_append, List.length_singleton] at hnext
    rw [nz, if_neg e, show n + (nz r + 1) = n + 1 + nz r by omega, ← hnext]
    refine Xcz ?_
    unfold Xko
    simp only [Int.toNat_natCast, hx]
    rw [syA, rqA, Xbp (by simpa using e), Xab, wkA, wkA]
    rfl
 refine (Xge (k1 l [] 0 rfl (by omega))).trans ?_
 have hz := Yxe l
 have u := Xfq (nz l) (by omega)
 simp only [Nat.zero_add]
 rw [Xf8 _ (by omega), Xab, Xqu _ (Xfw (Xgz _)), Xa2 (by simp only [List.length_nil]; omega), List.nil_append]
 have key : ∀ (r a : List Int) (g : Nat) (s : List Int), l = a ++ r → g ≤ a.length → s.length ≤ 39 + 78 * a.length → loop (Xkp l) ((g : Int), (a.length : Int), s) = some (s ++ Xo0 g r) := by
  intro r
  induction r with
  | nil =>
   intro a g s ha _ _
   rw [List.append_nil] at ha
   refine Xf9 ?_
   unfold Xkp
   simp only
   rw [Xap (by rw [ha]; omega), Xo0, List.append_nil]
  | cons x r ih =>
   intro a g s ha hg hs
   have hlen : a.length < l.length := by rw [ha]; simp
   have hx : l.getD a.length 0 = x := by rw [ha]; exact Xm6 a x _ r
   have hxi : -5000 ≤ x ∧ x ≤ 5000 := Yot.1 (List.all_eq_true.1 h x (by rw [ha]; simp))
   by_cases e : x = 0
   ·
    have hnext := ih (a ++ [x]) (g + 1) s (by rw [ha]; simp) (by simp; omega) (by simp; omega)
    rw [List.length_append, List.length_singleton] at hnext
    rw [Xo0, if_pos e, ← hnext]
    refine Xcz ?_
    unfold Xkp
    simp only [Int.toNat_natCast, hx]
    rw [syA, rqA, Xbp (by simpa using e), Xab, wkA, wkA]
    rfl
   ·
    have u1 := Xfq g (by omega)
    have u2 := Xtb x (by omega)
    have hnext := ih (a ++ [x]) 0 (s ++ ueL g ++ seL x) (by rw [ha]; simp) (by omega) (by simp only [List.length_append, List.length_singleton]; omega)
    rw [List.length_append, List.length_singleton] at hnext
    rw [Xo0, if_neg e, ← List.append_assoc, ← List.append_assoc, ← hnext]
    refine Xcz ?_
    unfold Xkp
    simp only [Int.toNat_natCast, hx]
    rw [syA, rqA, Xba (by simpa using e), Xwx x (by omega), Xab, Xf8 g (by omega), Xab, Xqu _ (Xfw (Xgz _)), rqA, Xf8 _ (Xvr x (by omega)), Xab, Xqu _ (Xfw (Xgz _)), Xa2 (by rw [List.length_append]; have : (seL x).length = (ueL (Ygz x)).length := rfl; omega), Xab, wkA]
    rfl
 exact Xge (key l [] 0 (ueL (nz l)) rfl (by omega) (by simp; omega))
def Yfh (l : List Int) : Bool := decide (l.length = 64) && l.all Ypt
theorem Yf4 (p : Int → Bool) (l : List Int) (f : Int → Option (Lp Int (Ou Unit Bool))) (h : ∀ i : Nat, i < l.length → f (i : Int) = sel (!(p (l.getD i 0))) (some (.done (.ret false))) (some (.go ((i + 1 : Nat) : Int)))) (h0 : f (l.length : Int) = some (.done (.out ()))) :
  loop f 0 = some (if l.all p = true then .out () else .ret false) := by
 have key : ∀ (r a : List Int), l = a ++ r → loop f (a.length : Int) = some (if r.all p = true then .out () else .ret false) := by
  intro r
  induction r with
  | nil => intro a ha; rw [List.append_nil] at ha; rw [← ha, Xc9 h0]; rfl
  | cons x r ih =>
   intro a ha
   have hlen : a.length < l.length := by rw [ha]; simp
   have hx : l.getD a.length 0 = x := by rw [ha]; exact Xm6 a x _ r
   have hs := h a.length hlen
   rw [hx] at hs
   cases e : p x with
   | true =>
    rw [e] at hs
    have := ih (a ++ [x]) (by rw [ha]; simp)
    rw [List.length_append, List.length_singleton] at this
    rw [Xcz hs, this, List.all_cons, e, Bool.true_and]
   | false => rw [e] at hs; rw [Xc9 hs, List.all_cons, e, Bool.false_and]; rfl
 exact key l [] rfl
theorem Ymb (l : List Int) : Xcn l 64 5000 = some (Yfh l) := by
 unfold Xcn Yfh
 by_cases h : l.length = 64
 ·
  rw [Xba (by simp only [bne_eq_false_iff_eq]; omega), Yf4 Ypt l (Xfl l 64 5000) (by
   intro i hi
   unfold Xfl
   rw [syA, rqA, wkA (e := 0 - 5000), Xaj, Xab, wkA, Int.toNat_natCast]
   rfl) (by unfold Xfl; rw [snA]), Xab, decide_eq_true h, Bool.true_and]
  cases l.all Ypt <;> rfl
 ·
  rw [Xbp (by simp only [bne_iff_ne, ne_eq]; omega), decide_eq_false h, Bool.false_and]
theorem Xld (l : List Int) (n lo hi : Int) (hl : l.length ≤ 9223372036854775806) : Xbu l n lo hi = some (l.all (fun x => decide (lo ≤ x ∧ x ≤ hi)) && ((l.length : Int) == n)) := by
 unfold Xbu
 rw [Yf4 (fun x => decide (lo ≤ x ∧ x ≤ hi)) l (Xle l lo hi) (by
   intro i hi
   unfold Xle
   rw [syA, rqA, Xak, Xab, wkA, Int.toNat_natCast]
   rfl) (by unfold Xle; rw [snA]), Xab]
 cases l.all (fun x => decide (lo ≤ x ∧ x ≤ hi)) <;> rfl
theorem Xry (l : List Int) (hl : l.length ≤ 9223372036854775806) : Xfk l = some (Yfh l) := by
 unfold Xfk Yfh
 rw [Xld l _ _ _ hl, Xab]
 show some (l.all Ypt && ((l.length : Int) == 64)) = _
 have : ((l.length : Int) == 64) = decide (l.length = 64) := by rw [Bool.eq_iff_iff]; simp only [beq_iff_eq, decide_eq_true_eq]; omega
 rw [this, Bool.and_comm]
theorem Xpa {l : List Int} (h : Yfh l = true) : l.length = 64 ∧ l.all Ypt = true := by
 unfold Yfh at h; rw [Bool.and_eq_true, decide_eq_true_eq] at h; exact h
def Yps (l : List Int) (c : Xeu) : List Int := if (c.Large || c.Exact) = true then Xi6 l else Xi6 (l.take 16) ++ Xi6 ((l.drop 16).take 16) ++ Xi6 ((l.drop 32).take 16) ++ Xi6 (l.drop 48)
theorem Xk2 {l : List Int} (h : l.all Ypt = true) (n : Nat) : (l.take n).all Ypt = true := List.all_eq_true.2 fun x hx => List.all_eq_true.1 h x (List.mem_of_mem_take hx)
theorem Xk1 {l : List Int} (h : l.all Ypt = true) (n : Nat) : (l.drop n).all Ypt = true := List.all_eq_true.2 fun x hx => List.all_eq_true.1 h x (List.mem_of_mem_drop hx)
theorem Ytq (l : List Int) (c : Xeu) : Xoo (Yps l c) := by
 unfold Yps
 split
 ·
  exact Xu4 l
 ·
  exact Xa8 (Xa8 (Xa8 (Xu4 _) (Xu4 _)) (Xu4 _)) (Xu4 _)
theorem Ygb {l : List Int} {c : Xeu} (h : Yfh l = true) : (Yps l c).length ≤ 5148 := by
 obtain ⟨h1, h2⟩ := Xpa h
 unfold Yps
 split
 ·
  have := Xlo l h2 (by omega); omega
 ·
  have a := Xlo (l.take 16) (Xk2 h2 _) (by rw [List.length_take]; omega)
  have b := Xlo ((l.drop 16).take 16) (Xk2 (Xk1 h2 _) _) (by rw [List.length_take, List.length_drop]; omega)
  have c := Xlo ((l.drop 32).take 16) (Xk2 (Xk1 h2 _) _) (by rw [List.length_take, List.length_drop]; omega)
  have d := Xlo (l.drop 48) (Xk1 h2 _) (by rw [List.length_drop]; omega)
  rw [List.length_take] at a
  rw [List.length_take, List.length_drop] at b c
  rw [List.length_drop] at d
  simp only [List.length_append]; omega
theorem Xr1 (l : List Int) (c : Xeu) (h : Yfh l = true) : Xhe l c = some (Yps l c) := by
 have hm : maxLen = 9223372036854775807 := rfl
 obtain ⟨h1, h2⟩ := Xpa h
 unfold Xhe Yps
 rw [Ydx, Xab]
 by_cases e : (c.Large || c.Exact) = true
 ·
  rw [Xbp e, if_pos e, Ydn l h2 (by omega), Xab]
 ·
  rw [Xba (by simpa using e), if_neg e]
  have step : ∀ (n : Nat) (s : List Int), n < 4 → s.length ≤ 4000 → Xdd l ((n : Int), s) = some (.go (((n + 1 : Nat) : Int), s ++ Xi6 ((l.drop (16 * n)).take 16))) := by
   intro n s hn hs
   have g := Xlo ((l.drop (16 * n)).take 16) (Xk2 (Xk1 h2 _) _) (by rw [List.length_take, List.length_drop]; omega)
   rw [List.length_take, List.length_drop] at g
   unfold Xdd
   simp only
   rw [syA, wkA (e := 16 * (n : Int)), wkA (e := 16 * (n : Int) + 16), rqA, show (16 * (n : Int)).toNat = 16 * n by omega, show (16 * (n : Int) + 16).toNat - 16 * n = 16 by omega, Ydn _ (Xk2 (Xk1 h2 _) _) (by rw [List.length_take, List.length_drop]; omega), Xab, rqA, wkA]
   rfl
  have g0 := Xlo ((l.drop (16 * 0)).take 16) (Xk2 (Xk1 h2 _) _) (by rw [List.length_take, List.length_drop]; omega)
  have g1 := Xlo ((l.drop (16 * 1)).take 16) (Xk2 (Xk1 h2 _) _) (by rw [List.length_take, List.length_drop]; omega)
  have g2 := Xlo ((l.drop (16 * 2)).take 16) (Xk2 (Xk1 h2 _) _) (by rw [List.length_take, List.length_drop]; omega)
  rw [List.length_take, List.length_drop] at g0 g1 g2
  have l4 : ∀ s, Xdd l (((4 : Nat) : Int), s) = some (.done s) := by intro s; unfold Xdd; simp only; rw [snA]
  have e : loop (Xdd l) (((0 : Nat) : Int), []) = some ([] ++ Xi6 ((l.drop (16 * 0)).take 16) ++ Xi6 ((l.drop (16 * 1)).take 16) ++ Xi6 ((l.drop (16 * 2)).take 16) ++ Xi6 ((l.drop (16 * 3)).take 16)) := by
   rw [Xcz (step 0 [] (by omega) (by simp)), Xcz (step 1 _ (by omega) (by simp only [List.length_append, List.length_nil]; omega)), Xcz (step 2 _ (by omega) (by simp only [List.length_append, List.length_nil]; omega)), Xcz (step 3 _ (by omega) (by simp only [List.length_append, List.length_nil]; omega)), Xc9 (l4 _)]
  refine (Xge e).trans ?_
  rw [List.nil_append, show 16 * 0 = 0 from rfl, List.drop_zero, show (l.drop (16 * 3)).take 16 = l.drop 48 from List.take_of_length_le (by rw [List.length_drop]; omega)]
def Xho (c : Xeu) : Bool := decide (0 ≤ c.Qp ∧ c.Qp ≤ 40) && !(c.Large && c.Exact)
theorem Xdl (c : Xeu) : Xmy c = some (Xho c) := by
 unfold Xmy Xho
 rw [Xaj, Xab, Xtc, Xdf, Xab]
 cases c.Large <;> cases c.Exact <;> rfl
theorem Xdk (c : Xeu) : Xdw c = some (Xho c) := by
 unfold Xdw Xho
 rw [Xak, Xab, Xtc, Xdf, Xab]
 cases c.Large <;> cases c.Exact <;> rfl
def Xuc (s : Xam) : Bool :=
 if s.Kind = 0 then decide (s.Mode = 0 ∧ s.Dx = 0 ∧ s.Dy = 0 ∧ s.Levels.length = 0)
 else if s.Kind = 1 then decide (s.Mode = 0) && (decide (-16 ≤ s.Dx ∧ s.Dx ≤ 16) && (decide (-16 ≤ s.Dy ∧ s.Dy ≤ 16) && Yfh s.Levels))
 else if s.Kind = 2 then decide (0 ≤ s.Mode ∧ s.Mode ≤ 3) && (decide (s.Dx = 0) && (decide (s.Dy = 0) && Yfh s.Levels))
 else false
theorem Yr5 (a b : Int) : (a == b) = decide (a = b) := by rw [Bool.eq_iff_iff]; simp
theorem Xt1 (s : Xam) : Xtj s = some (Xuc s) := by
 unfold Xtj Xuc
 simp only [Xaj, Ymb, Xab, Xdf, Yr5]
 simp only [Yst]
 by_cases h0 : s.Kind = 0
 ·
  rw [if_pos h0, if_pos h0]; congr 1; rw [Bool.eq_iff_iff]; simp
 ·
  rw [if_neg h0, if_neg h0]
  by_cases h1 : s.Kind = 1
  ·
   rw [if_pos h1, if_pos h1]
  ·
   rw [if_neg h1, if_neg h1]
   by_cases h2 : s.Kind = 2
   ·
    rw [decide_eq_true h2, Bool.true_and, if_pos h2]
   ·
    rw [decide_eq_false h2, Bool.false_and, if_neg h2]
theorem Xoe (s : Xam) (hl : s.Levels.length ≤ 9223372036854775806) : Xgu s = some (Xuc s) := by
 unfold Xgu Xuc
 simp only [Xak, Xry _ hl, Xab, Xdf, Yr5]
 simp only [Yst]
 by_cases h0 : s.Kind = 0
 ·
  rw [if_pos h0, if_pos h0]; congr 1; rw [Bool.eq_iff_iff]; simp
 ·
  rw [if_neg h0, if_neg h0]
  by_cases h1 : s.Kind = 1
  ·
   rw [if_pos h1, if_pos h1]
  ·
   rw [if_neg h1, if_neg h1]
   by_cases h2 : s.Kind = 2
   ·
    rw [decide_eq_true h2, Bool.true_and, if_pos h2]
   ·
    rw [decide_eq_false h2, Bool.false_and, if_neg h2]
def Xqg (s : Xam) (c : Xeu) : Bool := !c.Key || s.Kind == 2
def sqL (s : Xam) (c : Xeu) : List Int :=
 (if c.Key = true then [] else ueL s.Kind.toNat) ++
 (if s.Kind = 1 then seL s.Dx ++ seL s.Dy ++ Yps s.Levels c else if s.Kind = 2 then ueL s.Mode.toNat ++ Yps s.Levels c else [])
theorem Xsn {s : Xam} (h : Xuc s = true) : 0 ≤ s.Kind ∧ s.Kind ≤ 2 := by
 unfold Xuc at h
 repeat' split at h
 all_goals first | omega | simp at h
theorem Xtm {s : Xam} (h : Xuc s = true) (h1 : s.Kind = 1) : (-16 ≤ s.Dx ∧ s.Dx ≤ 16) ∧ (-16 ≤ s.Dy ∧ s.Dy ≤ 16) ∧ Yfh s.Levels = true := by
 unfold Xuc at h
 rw [if_neg (by omega), if_pos h1] at h
 simp only [Bool.and_eq_true, decide_eq_true_eq] at h
 exact ⟨h.2.1, h.2.2.1, h.2.2.2⟩
theorem Xv6 {s : Xam} (h : Xuc s = true) (h1 : s.Kind = 2) : (0 ≤ s.Mode ∧ s.Mode ≤ 3) ∧ Yfh s.Levels = true := by
 unfold Xuc at h
 rw [if_neg (by omega), if_neg (by omega), if_pos h1] at h
 simp only [Bool.and_eq_true, decide_eq_true_eq] at h
 exact ⟨h.1, h.2.2.2⟩
theorem Yxw (s : Xam) (c : Xeu) : Xoo (sqL s c) := by
 unfold sqL
 refine Xa8 ?_ ?_
 ·
  split
  ·
   exact Xsr
  ·
   exact Xgz _
 ·
  split
  ·
   exact Xa8 (Xa8 (Xgz _) (Xgz _)) (Ytq _ _)
  ·
   split
   ·
    exact Xa8 (Xgz _) (Ytq _ _)
   ·
    exact Xsr
theorem Yxx {s : Xam} {c : Xeu} (h : Xuc s = true) : (sqL s c).length ≤ 5265 := by
 have hk := Xsn h
 have u := Xfq s.Kind.toNat (by omega)
 have e1 : (if c.Key = true then [] else ueL s.Kind.toNat).length ≤ 39 := by split; simp; exact u.1
 unfold sqL
 rw [List.length_append]
 by_cases h1 : s.Kind = 1
 ·
  obtain ⟨a, b, d⟩ := Xtm h h1
  have x := Xtb s.Dx (by omega)
  have y := Xtb s.Dy (by omega)
  have z := Ygb (c := c) d
  rw [if_pos h1]; simp only [List.length_append]; omega
 ·
  by_cases h2 : s.Kind = 2
  ·
   obtain ⟨a, d⟩ := Xv6 h h2
   have x := Xfq s.Mode.toNat (by omega)
   have z := Ygb (c := c) d
   rw [if_neg h1, if_pos h2]; simp only [List.length_append]; omega
  ·
   rw [if_neg h1, if_neg h2]; simp only [List.length_nil]; omega
theorem Yca (s : Xam) (c : Xeu) (hl : s.Levels.length ≤ 9223372036854775806) : Xjg s c = some (if (Xuc s && (Xho c && Xqg s c)) = true then (strOfNums (sqL s c), true) else (⟨#[]⟩, false)) := by
 have hm : maxLen = 9223372036854775807 := rfl
 unfold Xjg Xel
 rw [Xoe s hl, Xab, Xdk, Xab, Xtc, Xab, Xab]
 by_cases hok : (Xuc s && (Xho c && Xqg s c)) = true
 ·
  rw [if_pos hok]
  simp only [Bool.and_eq_true] at hok
  obtain ⟨h, hc, hlet⟩ := hok
  have hk := Xsn h
  have u := Xfq s.Kind.toNat (by omega)
  unfold Xqg at hlet
  rw [h, hc, Xat, Xat, hlet, Xab, Bool.not_true, Xao]
  have e1 : (sel (!c.Key) (bnd (Xi4 s.Kind) fun q6 => req ((([] : List Int).length + (Xaz q6).length) * 1 ≤ 140737488355328 ∧ ([] : List Int).length + (Xaz q6).length ≤ maxLen) <| some (([] : List Int) ++ (Xaz q6))) (some ([] : List Int))) = some (if c.Key = true then [] else ueL s.Kind.toNat) := by
   rw [show s.Kind = ((s.Kind.toNat : Nat) : Int) by omega, Xf8 _ (by omega), Xab, Xqu _ (Xfw (Xgz _)), Xa2 (by simp only [List.length_nil]; omega), Int.toNat_natCast]
   cases c.Key <;> rfl
  rw [e1, Xab]
  have e2 : (if c.Key = true then [] else ueL s.Kind.toNat).length ≤ 39 := by split; simp; exact u.1
  unfold sqL
  generalize (if c.Key = true then [] else ueL s.Kind.toNat) = k at e2 ⊢
  by_cases h1 : s.Kind = 1
  ·
   obtain ⟨a, b, d⟩ := Xtm h h1
   have x := Xtb s.Dx (by omega)
   have y := Xtb s.Dy (by omega)
   have z := Ygb (c := c) d
   rw [if_pos h1, Xbp (by simpa using h1), Xov _ (by omega), Xab, Xov _ (by omega), Xab]
   simp only
   rw [Xqu (seL s.Dx) (Xfw (Xgz _)), Xqu (seL s.Dy) (Xfw (Xgz _)), rqA, Xa2 (by rw [List.length_append]; omega), Xr1 _ c d, Xab, Xa2 (by simp only [List.length_append]; omega), Xab]
   simp only [List.append_assoc]
  ·
   rw [if_neg h1, Xba (by simpa using h1)]
   by_cases h2 : s.Kind = 2
   ·
    obtain ⟨a, d⟩ := Xv6 h h2
    have x := Xfq s.Mode.toNat (by omega)
    have z := Ygb (c := c) d
    rw [if_pos h2, Xbp (by simpa using h2), show s.Mode = ((s.Mode.toNat : Nat) : Int) by omega, Xf8 _ (by omega), Xab, Xqu _ (Xfw (Xgz _)), rqA, Xr1 _ c d, Xab, Xa2 (by simp only [List.length_append]; omega), Xab, Int.toNat_natCast]
    simp only [List.append_assoc]
   ·
    rw [if_neg h2, Xba (by simpa using h2), Xab, List.append_nil]
 ·
  rw [if_neg hok]
  unfold Xqg at hok
  cases h1 : Xuc s <;> cases h2 : Xho c <;> cases h3 : (!c.Key || s.Kind == 2) <;> simp_all [bnd, sel]
def Xn8 : List Xam → Xeu → List Int
 | [], _ => []
 | s :: r, c => sqL s c ++ Xn8 r c
def Yme (l : List Xam) (c : Xeu) : Bool := l.all fun s => Xuc s && (Xho c && Xqg s c)
theorem Ym6 : ∀ (l : List Xam) (c : Xeu), Xoo (Xn8 l c)
 | [], _ => Xsr
 | s :: r, c => Xa8 (Yxw s c) (Ym6 r c)
theorem Ym7 : ∀ {l : List Xam} {c : Xeu}, Yme l c = true → (Xn8 l c).length ≤ 5265 * l.length
 | [], _, _ => by simp [Xn8]
 | s :: r, c, h => by
  unfold Yme at h
  rw [List.all_cons, Bool.and_eq_true, Bool.and_eq_true] at h
  have h1 := Yxx (c := c) h.1.1
  have h2 := Ym7 (l := r) (c := c) h.2
  rw [Xn8, List.length_append, List.length_cons]; omega
def Ypk (l : List Xam) (c : Xeu) : ByteArray × Bool := if (decide (1 ≤ l.length ∧ l.length ≤ 64) && Yme l c) = true then (strOfNums (Xn8 l c), true) else (⟨#[]⟩, false)
theorem Yid (l : List Xam) (c : Xeu) (hs : ∀ s ∈ l, s.Levels.length ≤ 9223372036854775806) : Xkl l c = some (Ypk l c) := by
 have hm : maxLen = 9223372036854775807 := rfl
 unfold Xkl Ypk
 rw [Xak, Xab, Xub]
 by_cases hl : 1 ≤ l.length ∧ l.length ≤ 64
 ·
  rw [syA, decide_eq_true hl, Bool.true_and]
  have key : ∀ (r a : List Xam) (t : List Int), l = a ++ r → t.length ≤ 5265 * a.length → loop (Xf3 l c) ((a.length : Int), t) = some (if Yme r c = true then .out (t ++ Xn8 r c) else .ret (⟨#[]⟩, false)) := by
   intro r
   induction r with
   | nil =>
    intro a t ha _
    rw [List.append_nil] at ha
    exact Xf9 (by unfold Xf3; simp only; rw [Xap (by rw [ha]; omega), Xn8, List.append_nil]; rfl)
   | cons s r ih =>
    intro a t ha ht
    have hlen : a.length < l.length := by rw [ha]; simp
    have hx : l.getD a.length Xgo = s := by rw [ha]; exact Xm6 a s _ r
    have hone : Yme (s :: r) c = ((Xuc s && (Xho c && Xqg s c)) && Yme r c) := by unfold Yme; rw [List.all_cons]
    have hrow := Yca s c (hs s (by rw [ha]; simp))
    rw [hone]
    cases e : (Xuc s && (Xho c && Xqg s c)) with
    | true =>
     rw [e, if_pos rfl] at hrow
     have hok : Xuc s = true := by rw [Bool.and_eq_true] at e; exact e.1
     have g := Yxx (c := c) hok
     have hn := ih (a ++ [s]) (t ++ sqL s c) (by rw [ha]; simp) (by simp only [List.length_append, List.length_singleton]; omega)
     rw [List.length_append, List.length_singleton] at hn
     rw [Bool.true_and, Xn8, ← List.append_assoc, ← hn]
     refine Xcz ?_
     unfold Xf3
     simp only [Int.toNat_natCast, hx]
     rw [syA, rqA, show (⟨s.Kind, s.Mode, s.Dx, s.Dy, s.Levels⟩ : Xam) = s from rfl, hrow, Xab, Xub, Xat, Xqu _ (Xfw (Yxw _ _)), rqA, wkA]
     rfl
    | false =>
     rw [e, if_neg (by decide)] at hrow
     rw [Bool.false_and, if_neg (by decide)]
     refine Xf9 ?_
     unfold Xf3
     simp only [Int.toNat_natCast, hx]
     rw [syA, rqA, show (⟨s.Kind, s.Mode, s.Dx, s.Dy, s.Levels⟩ : Xam) = s from rfl, hrow, Xab, Xub, Xao]
  refine (Xge (key l [] [] rfl (by simp))).trans ?_
  cases Yme l c <;> rfl
 ·
  rw [snA, decide_eq_false hl, Bool.false_and]; rfl
theorem Xy5 (b : ByteArray) (i : Int) : 0 ≤ Xuh b i ∧ Xuh b i ≤ 255 := by
 unfold Xuh
 split
 ·
  rename_i h
  have := (b[i.toNat]'h).toNat_lt
  omega
 ·
  omega
theorem Xay {p : Pic} (h : Xbx p = true) : (1 ≤ p.Wide ∧ p.Wide ≤ 256) ∧ (1 ≤ p.High ∧ p.High ≤ 256) ∧ (p.Dots.size : Int) = p.Wide * p.High := by
 unfold Xbx at h
 simp only [Bool.and_eq_true, decide_eq_true_eq, beq_iff_eq] at h
 exact ⟨h.1, h.2.1, h.2.2⟩
theorem Xvy {p : Pic} (h1 : 1 ≤ p.Wide ∧ p.Wide ≤ 256) (h2 : 1 ≤ p.High ∧ p.High ≤ 256) (h3 : (p.Dots.size : Int) = p.Wide * p.High) : Xbx p = true := by
 unfold Xbx
 simp only [Bool.and_eq_true, decide_eq_true_eq, beq_iff_eq]
 exact ⟨h1, h2, h3⟩
def Xqe (p : Pic) (x y : Int) : Int := Xuh p.Dots (Xbo y 0 (p.High - 1) * p.Wide + Xbo x 0 (p.Wide - 1))
theorem Xss (p : Pic) (x y : Int) : 0 ≤ Xqe p x y ∧ Xqe p x y ≤ 255 := Xy5 _ _
theorem Yp9 {p : Pic} (ok : Xbx p = true) (x y : Int) : 0 ≤ Xbo y 0 (p.High - 1) * p.Wide + Xbo x 0 (p.Wide - 1) ∧ Xbo y 0 (p.High - 1) * p.Wide + Xbo x 0 (p.Wide - 1) < p.Dots.size ∧ 0 ≤ Xbo y 0 (p.High - 1) * p.Wide ∧ Xbo y 0 (p.High - 1) * p.Wide ≤ 65536 := by
 obtain ⟨h1, h2, h3⟩ := Xay ok
 have b1 := Xfx (n := y) (a := 0) (b := p.High - 1) (by omega)
 have b2 := Xfx (n := x) (a := 0) (b := p.Wide - 1) (by omega)
 have m1 := Int.mul_nonneg b1.1 (show 0 ≤ p.Wide by omega)
 have m2 := Int.mul_le_mul_of_nonneg_right b1.2 (show 0 ≤ p.Wide by omega)
 have m3 : (p.High - 1) * p.Wide = p.Wide * p.High - p.Wide := by rw [Int.sub_mul, Int.one_mul, Int.mul_comm]
 have m4 := (Xda h1 h2).2
 omega
theorem Yik {p : Pic} (ok : Xbx p = true) (x y : Int) : Xfa p x y = some (Xqe p x y) := by
 obtain ⟨h1, h2, h3⟩ := Xay ok
 unfold Xfa Xqe
 rw [Xhs, Xab, Xhs, Xab, wkA (e := p.High - 1), wkA (e := p.Wide - 1)]
 obtain ⟨p1, p2, p3, p4⟩ := Yp9 ok x y
 have b2 := Xfx (n := x) (a := 0) (b := p.Wide - 1) (by omega)
 have br := Xy5 p.Dots (Xbo y 0 (p.High - 1) * p.Wide + Xbo x 0 (p.Wide - 1))
 rw [wkA (e := Xbo y 0 (p.High - 1) * p.Wide), wkA (e := Xbo y 0 (p.High - 1) * p.Wide + Xbo x 0 (p.Wide - 1)), Xa2 ⟨p1, p2⟩, wkA]
theorem Xiw {p : Pic} (ok : Xbx p = true) (x y : Int) : Xe3 p x y = some (Xqe p x y) := by
 obtain ⟨h1, h2, h3⟩ := Xay ok
 unfold Xe3 Xqe
 rw [Xc2, Xab, ok, Bool.not_true, Xao, Xeo, Xab, Xeo, Xab, wkA (e := p.High - 1), wkA (e := p.Wide - 1)]
 obtain ⟨p1, p2, p3, p4⟩ := Yp9 ok x y
 have b2 := Xfx (n := x) (a := 0) (b := p.Wide - 1) (by omega)
 have br := Xy5 p.Dots (Xbo y 0 (p.High - 1) * p.Wide + Xbo x 0 (p.Wide - 1))
 rw [wkA (e := Xbo y 0 (p.High - 1) * p.Wide), wkA (e := Xbo y 0 (p.High - 1) * p.Wide + Xbo x 0 (p.Wide - 1)), Xa2 ⟨p1, p2⟩, wkA]
def Yur (p : Pic) (x y : Int) (i : Nat) : Int := Xqe p (x + ((i % 8 : Nat) : Int)) (y + ((i / 8 : Nat) : Int))
def Xqi (p : Pic) (x y : Int) (n : Nat) : List Int := (List.range n).map (Yur p x y)
theorem Yp2 (p : Pic) (x y : Int) (n : Nat) : Xqi p x y (n + 1) = Xqi p x y n ++ [Yur p x y n] := by simp [Xqi, List.range_succ]
theorem Xpe (p : Pic) (x y : Int) (n : Nat) : (Xqi p x y n).length = n := by simp [Xqi]
def Yr9 (x : Int) : Bool := decide (0 ≤ x ∧ x ≤ 255)
def Xby (l : List Int) : Bool := decide (l.length = 64) && l.all Yr9
theorem Xbr {l : List Int} (h : Xby l = true) : l.length = 64 ∧ ∀ i : Nat, i < 64 → 0 ≤ l.getD i 0 ∧ l.getD i 0 ≤ 255 := by
 simp only [Xby, Bool.and_eq_true, decide_eq_true_eq] at h
 refine ⟨h.1, fun i hi => ?_⟩
 have := List.all_eq_true.1 h.2 (l.getD i 0) (by rw [Xb4 l i (by omega)]; exact List.getElem_mem _)
 simpa [Yr9] using this
theorem Xg0 (p : Pic) (x y : Int) : Xby (Xqi p x y 64) = true := by
 simp only [Xby, Xpe, decide_true, Bool.true_and, List.all_eq_true]
 intro z hz
 obtain ⟨i, _, rfl⟩ := List.mem_map.1 hz
 simp only [Yr9, decide_eq_true_eq]
 exact Xss _ _ _
theorem Xib {p : Pic} (ok : Xbx p = true) (x y : Int) (hx : -1000 ≤ x ∧ x ≤ 1000) (hy : -1000 ≤ y ∧ y ≤ 1000) : Xkv p x y = some (Xqi p x y 64) := by
 have hm : maxLen = 9223372036854775807 := rfl
 unfold Xkv
 rw [Xc2, Xab, ok, Xat, Xaj, Xab, syA, Xaj, Xab, Xab, decide_eq_true (by omega), Bool.not_true, Xao]
 have key : ∀ i : Nat, i ≤ 64 → loop (Xlr p x y) ((i : Int), Xqi p x y i) = some (Xqi p x y 64) := by
  refine Xgp _ ?_ ?_
  ·
   exact Xf9 (by unfold Xlr; rw [Xap (by simp)])
  ·
   intro i hi ih
   refine lgo (y := (((i + 1 : Nat) : Int), Xqi p x y (i + 1))) ?_ ih
   unfold Xlr
   simp only
   rw [syA, rqA, rqA, Xb2 (by omega), Xbn (by omega), wkA (e := (i : Int) / 8), wkA (e := x + (i : Int) % 8), wkA (e := y + (i : Int) / 8), Xiw ok, Xab, Xa2 (by rw [Xpe]; simp only [List.length_singleton]; omega), wkA (e := (i : Int) + 1)]
   have e2 : Xqe p (x + (i : Int) % 8) (y + (i : Int) / 8) = Yur p x y i := by unfold Yur; congr 1
   rw [e2, ← Yp2]
   rfl
 have := key 0 (by omega)
 exact (Xge this).trans rfl
theorem Xgv {p : Pic} (ok : Xbx p = true) (x y : Int) (hx : -1000 ≤ x ∧ x ≤ 1000) (hy : -1000 ≤ y ∧ y ≤ 1000) : Xb8 p x y = some (Xqi p x y 64) := by
 have hm : maxLen = 9223372036854775807 := rfl
 unfold Xb8
 rw [rqA]
 have key : ∀ r : Nat, r ≤ 8 → loop (Xe8 p x y) ((r : Int), Xqi p x y (8 * r)) = some (Xqi p x y 64) := by
  refine Xgp _ ?_ ?_
  ·
   exact Xf9 (by unfold Xe8; rw [Xap (by simp)])
  ·
   intro r hr ih
   refine lgo (y := (((r + 1 : Nat) : Int), Xqi p x y (8 * (r + 1)))) ?_ ih
   unfold Xe8
   simp only
   have inner : ∀ c : Nat, c ≤ 8 → loop (Xe9 p x y ((r : Int), Xqi p x y (8 * r))) ((c : Int), Xqi p x y (8 * r + c)) = some (Xqi p x y (8 * (r + 1))) := by
    refine Xgp _ ?_ ?_
    ·
     exact Xf9 (by unfold Xe9; rw [Xap (by simp)]; rfl)
    ·
     intro c hc ih2
     refine lgo (y := (((c + 1 : Nat) : Int), Xqi p x y (8 * r + (c + 1)))) ?_ ih2
     unfold Xe9
     simp only
     rw [syA, wkA (e := x + (c : Int)), wkA (e := y + (r : Int)), Yik ok, Xab, Xa2 (by rw [Xpe]; simp only [List.length_singleton]; omega), wkA (e := (c : Int) + 1)]
     have e2 : Xqe p (x + (c : Int)) (y + (r : Int)) = Yur p x y (8 * r + c) := by
      unfold Yur
      rw [show (8 * r + c) % 8 = c by omega, show (8 * r + c) / 8 = r by omega]
     rw [e2, ← Yp2]
     rfl
   have i0 := inner 0 (by omega)
   rw [syA]
   refine (Xge i0).trans ?_
   rw [wkA (e := (r : Int) + 1)]
   rfl
 have := key 0 (by omega)
 exact (Xge this).trans rfl
def Ydh (x : Int) : Int := if x < 0 then -x else x
def Xpi (a b : List Int) : Nat → Int
 | 0 => 0
 | n + 1 => Xpi a b n + Ydh (a.getD n 0 - b.getD n 0)
theorem Xkg {a b : List Int} (ha : Xby a = true) (hb : Xby b = true) : ∀ n : Nat, n ≤ 64 → 0 ≤ Xpi a b n ∧ Xpi a b n ≤ 255 * n
 | 0, _ => by simp [Xpi]
 | n + 1, h => by
  have ih := Xkg ha hb n (by omega)
  have p := (Xbr ha).2 n (by omega)
  have q := (Xbr hb).2 n (by omega)
  simp only [Xpi, Ydh]
  split <;> omega
theorem Xsz {a b : List Int} (ha : Xby a = true) (hb : Xby b = true) : Xqp a b = some (Xpi a b 64) := by
 unfold Xqp
 have la := (Xbr ha).1
 have lb := (Xbr hb).1
 have key : ∀ i : Nat, i ≤ 64 → loop (Xps a b) (Xpi a b i, (i : Int)) = some (Xpi a b 64) := by
  refine Xgp _ ?_ ?_
  ·
   exact Xf9 (by unfold Xps; rw [Xap (by simp only; omega)])
  ·
   intro i hi ih
   refine lgo (y := (Xpi a b (i + 1), ((i + 1 : Nat) : Int))) ?_ ih
   have p := (Xbr ha).2 i hi
   have q := (Xbr hb).2 i hi
   have g := Xkg ha hb i (by omega)
   unfold Xps Xny
   simp only [Int.toNat_natCast]
   rw [syA, rqA, rqA, wkA (e := a.getD i 0 - b.getD i 0), wkA (e := 0 - (a.getD i 0 - b.getD i 0)), Xab]
   have e : (if 0 - (a.getD i 0 - b.getD i 0) > a.getD i 0 - b.getD i 0 then 0 - (a.getD i 0 - b.getD i 0) else a.getD i 0 - b.getD i 0) = Ydh (a.getD i 0 - b.getD i 0) := by
    unfold Ydh; split <;> split <;> omega
   have ab : 0 ≤ Ydh (a.getD i 0 - b.getD i 0) ∧ Ydh (a.getD i 0 - b.getD i 0) ≤ 255 := by unfold Ydh; split <;> omega
   rw [e, wkA (e := Xpi a b i + Ydh (a.getD i 0 - b.getD i 0)), wkA (e := (i : Int) + 1)]
   rfl
 exact (Xge (key 0 (by omega))).trans rfl
theorem Xh2 (l : List Int) (hl : l.length ≤ 9223372036854775806) : Xbu l 64 0 255 = some (Xby l) := by
 rw [Xld l _ _ _ hl]
 have : ((l.length : Int) == 64) = decide (l.length = 64) := by rw [Bool.eq_iff_iff]; simp only [beq_iff_eq, decide_eq_true_eq]; omega
 rw [this, Bool.and_comm]
 rfl
def Yvv (d : Int) : Int := ((seL d).length : Int)
theorem Xm9 (d : Int) (h : -500000 ≤ d ∧ d ≤ 500000) : Xmj d = some (Yvv d) := by
 unfold Xmj Yvv
 rw [Xov d h, Xab, strOfNums_size]
theorem Xv3 (d : Int) (h : -500000 ≤ d ∧ d ≤ 500000) : 1 ≤ Yvv d ∧ Yvv d ≤ 39 := by
 unfold Yvv seL
 have := Xfq (Ygz d) (Xvr d h)
 omega
theorem Yjy (c : Xbw) (n : Int) (hc : Xpf c) (h0 : 0 ≤ n) (h1 : n ≤ 100000) : ∃ s c', Xn5 c n = some (s, c') ∧ (s.size : Int) = n ∧ Xpf c' := by
 have hm : maxLen = 9223372036854775807 := rfl
 unfold Xn5
 obtain ⟨z, c0, ez, z0, z1, hz⟩ := Xeq c hc
 rw [ez, Xab]
 simp only
 obtain ⟨o, h, h2, h3⟩ := Xqt (f := Xl2 n) (fun v => (0 ≤ v.1 ∧ v.1 ≤ 255) ∧ 0 ≤ v.2.1 ∧ v.2.1 ≤ n ∧ Xpf ⟨v.2.2.1, v.2.2.2.1, v.2.2.2.2.1⟩ ∧ (v.2.2.2.2.2.length : Int) = v.2.1) (fun v => (n - v.2.1).toNat) (fun _ o => (o.1.length : Int) = n ∧ Xpf ⟨o.2.1, o.2.2.1, o.2.2.2⟩) (by
  intro ⟨w, i, b, j, h, l⟩ ⟨hw, h1, h2, h3, h4⟩
  unfold Xl2
  simp only at hw h1 h2 h3 h4 ⊢
  by_cases hi : i < n
  ·
   rw [Xbh hi]
   obtain ⟨x, c', ex, x0, x1, _, hx⟩ := Xa5 _ 6 h3
   rw [ex, Xab]
   simp only
   have step : ∃ w' c2, (sel (x == 0) (bnd (Xcs c') fun q16 => some (q16.1, q16.2.b_, q16.2.i_, q16.2.h_)) (sel (x == 1) (bnd (Xa6 c' 9) fun q17 => some ((IntKind.wrap .i64 (BitVec.ofInt (IntKind.bits .i64) (Xaa .i64 ((Xaa .i64 (w + q17.1)) + 252)) &&& BitVec.ofInt (IntKind.bits .i64) 255).toNat), q17.2.b_, q17.2.i_, q17.2.h_)) (some (w, c'.b_, c'.i_, c'.h_)))) = some (w', c2.b_, c2.i_, c2.h_) ∧ (0 ≤ w' ∧ w' ≤ 255) ∧ Xpf c2 := by
    cases e0 : (x == 0) with
    | true =>
     obtain ⟨y, c2, ey, y0, y1, hy⟩ := Xeq c' hx
     rw [Xat, ey, Xab]
     exact ⟨y, c2, rfl, ⟨y0, y1⟩, hy⟩
    | false =>
     rw [Xao]
     cases e1 : (x == 1) with
     | true =>
      obtain ⟨y, c2, ey, y0, y1, _, hy⟩ := Xa5 c' 9 hx
      rw [Xat, ey, Xab]
      exact ⟨_, c2, rfl, Ygs _, hy⟩
     | false => rw [Xao]; exact ⟨w, c', rfl, hw, hx⟩
   obtain ⟨w', c2, es, hw', hc2⟩ := step
   rw [es, Xab, Xa2 (by rw [hm]; simp only [List.length_singleton]; omega)]
   refine .inr ⟨_, rfl, ?_, ?_, fun _ h => h⟩
   ·
    simp only
    rw [wkA (e := i + 1)]
    exact ⟨hw', by omega, by omega, hc2, by simp; omega⟩
   ·
    simp only; rw [wkA (e := i + 1)]; omega
  ·
   rw [Xap hi]
   exact .inl ⟨_, rfl, by simp only; omega, h3⟩) (z, 0, c0.b_, c0.i_, c0.h_, []) ⟨⟨z0, z1⟩, by simp, h0, hz, by simp⟩
 rw [h, Xab]
 exact ⟨_, _, rfl, by rw [strOfNums_size]; exact h2, h3⟩
theorem Xt5 (c : Xbw) (w h : Int) (hc : Xpf c) (hw : 1 ≤ w ∧ w ≤ 256) (hh : 1 ≤ h ∧ h ≤ 256) : ∃ p c', Xi1 c w h = some (p, c') ∧ p.Wide = w ∧ p.High = h ∧ Xbx p = true ∧ Xpf c' := by
 have a := Xda hw hh
 unfold Xi1
 rw [wkA (e := w * h)]
 obtain ⟨s, c', e, hs, hc'⟩ := Yjy c (w * h) hc (by omega) (by omega)
 rw [e, Xab]
 exact ⟨_, _, rfl, rfl, rfl, Xvy hw hh hs, hc'⟩
theorem Yj2 (c : Xbw) (p : Pic) (hc : Xpf c) (ok : Xbx p = true) : ∃ q c', Xn7 c p = some (q, c') ∧ q.Wide = p.Wide ∧ q.High = p.High ∧ Xbx q = true ∧ Xpf c' := by
 have hm : maxLen = 9223372036854775807 := rfl
 obtain ⟨k1, k2, k3⟩ := Xay ok
 have ar := Xda k1 k2
 unfold Xn7
 obtain ⟨x, c1, e1, x0, x1, _, h1⟩ := Xa5 c 7 hc
 obtain ⟨y, c2, e2, y0, y1, _, h2⟩ := Xa5 c1 5 h1
 obtain ⟨z, c3, e3, h3⟩ := Xlx c2 3 h2
 have x1' := x1 (by omega)
 have y1' := y1 (by omega)
 rw [e1, Xab]
 simp only
 rw [e2, Xab]
 simp only
 rw [e3, Xab]
 simp only
 rw [wkA (e := x - 3), wkA (e := y - 2)]
 have hv : ∃ a b : Int, (-10 ≤ a ∧ a ≤ 10) ∧ (-10 ≤ b ∧ b ≤ 10) ∧ sel z (some ((0 : Int), (0 : Int), c3.b_, c3.i_, c3.h_)) (some (x - 3, y - 2, c3.b_, c3.i_, c3.h_)) = some (a, b, c3.b_, c3.i_, c3.h_) := by
  cases z with
  | true => exact ⟨0, 0, by omega, by omega, rfl⟩
  | false => exact ⟨x - 3, y - 2, by omega, by omega, rfl⟩
 obtain ⟨a, b, ha, hb, hv⟩ := hv
 rw [hv, Xab]
 obtain ⟨o, h, ho⟩ := Xqt (f := Xl5 p (a, b, c3.b_, c3.i_, c3.h_)) (fun v => 0 ≤ v.1 ∧ v.1 ≤ (p.Dots.size : Int) ∧ (v.2.length : Int) = v.1) (fun v => ((p.Dots.size : Int) - v.1).toNat) (fun _ o => (o.length : Int) = (p.Dots.size : Int)) (by
  intro ⟨i, l⟩ ⟨g1, g2, g3⟩
  unfold Xl5
  simp only at g1 g2 g3 ⊢
  by_cases hi : i < (p.Dots.size : Int)
  ·
   rw [Xbh hi, rqA, rqA, Xiw ok, Xab, Xa2 (by rw [hm]; simp only [List.length_singleton]; omega), wkA (e := i + 1)]
   exact .inr ⟨_, rfl, ⟨by simp only; omega, by simp only; omega, by simp; omega⟩, by simp only; omega, fun _ h => h⟩
  ·
   rw [Xap hi]
   exact .inl ⟨_, rfl, by omega⟩) (0, []) ⟨by simp, by simp, by simp⟩
 rw [h, Xab]
 obtain ⟨o2, h', g1, g2⟩ := Xqt (f := Xl6) (fun v => 0 ≤ v.1 ∧ v.1 ≤ 6 ∧ Xpf ⟨v.2.1, v.2.2.1, v.2.2.2.1⟩ ∧ (v.2.2.2.2.length : Int) = p.Dots.size) (fun v => (6 - v.1).toNat) (fun _ o => (o.1.length : Int) = p.Dots.size ∧ Xpf ⟨o.2.1, o.2.2.1, o.2.2.2⟩) (by
  intro ⟨i, b, j, h, l⟩ ⟨g1, g2, g3, g4⟩
  unfold Xl6
  simp only at g1 g2 g3 g4 ⊢
  obtain ⟨x, c', ex, x0, x1, _, hx⟩ := Xa5 _ 6 g3
  have x1' := x1 (by omega)
  rw [ex, Xab]
  simp only
  by_cases hi : i < x
  ·
   obtain ⟨y, c2, ey, y0, y1, _, hy⟩ := Xa5 c' l.length hx
   have y1' := y1 (by omega)
   obtain ⟨z, c3, ez, z0, z1, hz⟩ := Xeq c2 hy
   rw [Xbh hi, ey, Xab]
   simp only
   rw [ez, Xab]
   simp only
   rw [rqA, rqA, wkA (e := i + 1)]
   exact .inr ⟨_, rfl, ⟨by simp only; omega, by simp only; omega, hz, by simp only [List.length_set]; omega⟩, by simp only; omega, fun _ h => h⟩
  ·
   rw [Xap hi]
   exact .inl ⟨_, rfl, g4, hx⟩) (0, c3.b_, c3.i_, c3.h_, o) ⟨by simp, by simp, h3, by simp only; omega⟩
 rw [h', Xab]
 refine ⟨_, _, rfl, rfl, rfl, Xvy k1 k2 ?_, g2⟩
 simp only
 rw [strOfNums_size]; omega
def Xdr (p : Pic) (x y : Int) : Bool := decide (0 ≤ x ∧ x ≤ p.Wide - 8 ∧ 0 ≤ y ∧ y ≤ p.High - 8)
theorem Ydl {p : Pic} (ok : Xbx p = true) (x y : Int) : Xb9 p ⟨x, y, 8, 8⟩ = some (Xdr p x y) := by
 obtain ⟨k1, k2, k3⟩ := Xay ok
 unfold Xb9 Xdr
 simp only
 rw [Xak, Xab, Xak, Xab, wkA (e := p.Wide - 8), wkA (e := p.High - 8), Xak, Xab, Xak, Xab]
 simp only [Xdf, Xab]
 congr 1
 rw [Bool.eq_iff_iff]
 simp only [Bool.and_eq_true, decide_eq_true_eq]
 omega
theorem Xoh {p : Pic} (ok : Xbx p = true) (x y : Int) (hx : x.tmod 8 = 0) (hy : y.tmod 8 = 0) (h : Xdr p x y = true) : Xca p x y = some true := by
 obtain ⟨k1, k2, k3⟩ := Xay ok
 unfold Xdr at h
 rw [decide_eq_true_eq] at h
 unfold Xca
 rw [rqA, hx, rqA, hy, wkA (e := p.Wide - 8), wkA (e := p.High - 8), Xak, Xab, Xak, Xab, decide_eq_true (by omega), decide_eq_true (by omega)]
 rfl
def Xne (p : Pic) (w : List Int) (x y dx dy : Int) : Int := Xpi w (Xqi p (x + dx) (y + dy) 64) 64 + Yvv dx + Yvv dy
def BmI (p : Pic) (w : List Int) (x y r : Int) (past : Bool) (b : Int × Int × Int) : Prop :=
 (b = (0, 0, -1) ∧ past = false) ∨
 ((-r ≤ b.1 ∧ b.1 ≤ r) ∧ (-r ≤ b.2.1 ∧ b.2.1 ≤ r) ∧ Xdr p (x + b.1) (y + b.2.1) = true ∧ b.2.2 = Xne p w x y b.1 b.2.1 ∧ (past = true → b.2.2 ≤ Xne p w x y 0 0))
theorem Xxi {p : Pic} {w : List Int} (hw : Xby w = true) (x y dx dy : Int) (hx : -100 ≤ dx ∧ dx ≤ 100) (hy : -100 ≤ dy ∧ dy ≤ 100) : 2 ≤ Xne p w x y dx dy ∧ Xne p w x y dx dy ≤ 20000 := by
 have g := Xkg hw (Xg0 p (x + dx) (y + dy)) 64 (by omega)
 have a := Xv3 dx (by omega)
 have b := Xv3 dy (by omega)
 unfold Xne; omega
theorem Zat {p : Pic} {w : List Int} {x y r : Int} (ok : Xbx p = true) (hw : Xby w = true) (hr : 0 ≤ r ∧ r ≤ 4) (h0 : Xdr p x y = true) (s : Int × Int × Int × Int) (hs : -r ≤ s.2.2.2 ∧ s.2.2.2 ≤ r) (v : Int × Int × Int × Int) (hv : -r ≤ v.2.2.2 ∧ v.2.2.2 ≤ r)
  (past : Bool) (hi : BmI p w x y r past (v.1, v.2.1, v.2.2.1)) (hp : past = true ↔ (s.2.2.2 > 0 ∨ (s.2.2.2 = 0 ∧ v.2.2.2 > 0))) :
  ∃ b, Xdb p w x y r s v = some (.go (b.1, b.2.1, b.2.2, v.2.2.2 + 1)) ∧ BmI p w x y r (decide (s.2.2.2 > 0 ∨ (s.2.2.2 = 0 ∧ v.2.2.2 + 1 > 0))) b := by
 obtain ⟨k1, k2, k3⟩ := Xay ok
 have h0' := h0
 unfold Xdr at h0'
 rw [decide_eq_true_eq] at h0'
 unfold Xdb
 rw [Xbh hv.2, wkA (e := x + v.2.2.2), wkA (e := y + s.2.2.2), wkA (e := v.2.2.2 + 1), Ydl ok, Xab]
 cases hh : Xdr p (x + v.2.2.2) (y + s.2.2.2) with
 | false =>
  refine ⟨(v.1, v.2.1, v.2.2.1), rfl, ?_⟩
  have ne : ¬ (s.2.2.2 = 0 ∧ v.2.2.2 = 0) := by
   intro ⟨e1, e2⟩
   rw [e1, e2, Int.add_zero, Int.add_zero, h0] at hh
   cases hh
  rcases hi with ⟨h1, h2⟩ | ⟨h1, h2, h3, h4, h5⟩
  ·
   refine .inl ⟨h1, ?_⟩
   rw [decide_eq_false_iff_not]
   intro h
   have := hp.2 (by omega)
   rw [h2] at this; cases this
  ·
   refine .inr ⟨h1, h2, h3, h4, fun h => h5 (hp.2 ?_)⟩
   rw [decide_eq_true_eq] at h
   omega
 | true =>
  have hh' := hh
  unfold Xdr at hh'
  rw [decide_eq_true_eq] at hh'
  have hb := Xg0 p (x + v.2.2.2) (y + s.2.2.2)
  have g := Xkg hw hb 64 (by omega)
  have z1 := Xv3 v.2.2.2 (by omega)
  have z2 := Xv3 s.2.2.2 (by omega)
  rw [Bool.not_true, Xao, Xgv ok _ _ (by omega) (by omega), Xab, Xsz hw hb, Xab, Xm9 _ (by omega), Xab, Xm9 _ (by omega), Xab, wkA (e := Xpi w (Xqi p (x + v.2.2.2) (y + s.2.2.2) 64) 64 + Yvv v.2.2.2), wkA, Ydx, Xab]
  have mc : Xpi w (Xqi p (x + v.2.2.2) (y + s.2.2.2) 64) 64 + Yvv v.2.2.2 + Yvv s.2.2.2 = Xne p w x y v.2.2.2 s.2.2.2 := rfl
  rw [mc]
  have m1 := Xxi (p := p) (w := w) hw x y v.2.2.2 s.2.2.2 (by omega) (by omega)
  cases hc : (decide (v.2.2.1 < 0) || decide (Xne p w x y v.2.2.2 s.2.2.2 < v.2.2.1)) with
  | true =>
   refine ⟨(v.2.2.2, s.2.2.2, Xne p w x y v.2.2.2 s.2.2.2), rfl, .inr ⟨hv, hs, hh, rfl, fun h => ?_⟩⟩
   rw [decide_eq_true_eq] at h
   by_cases e0 : s.2.2.2 = 0 ∧ v.2.2.2 = 0
   ·
    rw [e0.1, e0.2]; exact Int.le_refl _
   ·
    have hpast := hp.2 (by omega)
    rcases hi with ⟨h1, h2⟩ | ⟨h1, h2, h3, h4, h5⟩
    ·
     rw [h2] at hpast; cases hpast
    ·
     have h5' := h5 hpast
     simp only at h4 h5' ⊢
     have n1 := Xxi (p := p) (w := w) hw x y v.1 v.2.1 (by simp only at h1; omega) (by simp only at h2; omega)
     simp only [Bool.or_eq_true, decide_eq_true_eq] at hc
     omega
  | false =>
   refine ⟨(v.1, v.2.1, v.2.2.1), rfl, ?_⟩
   simp only [Bool.or_eq_false_iff, decide_eq_false_iff_not] at hc
   rcases hi with ⟨h1, h2⟩ | ⟨h1, h2, h3, h4, h5⟩
   ·
    simp only [Prod.mk.injEq] at h1
    omega
   ·
    refine .inr ⟨h1, h2, h3, h4, fun h => ?_⟩
    rw [decide_eq_true_eq] at h
    by_cases e0 : s.2.2.2 = 0 ∧ v.2.2.2 = 0
    ·
     have := hc.2
     rw [e0.1, e0.2] at this
     simp only; omega
    ·
     exact h5 (hp.2 (by omega))
theorem Yd5 {p : Pic} {w : List Int} {x y r : Int} (ok : Xbx p = true) (hw : Xby w = true) (hr : 0 ≤ r ∧ r ≤ 4) (hx : x.tmod 8 = 0) (hy : y.tmod 8 = 0) (h0 : Xdr p x y = true) :
  ∃ b, Xd2 p w x y r = some b ∧ (-r ≤ b.1 ∧ b.1 ≤ r) ∧ (-r ≤ b.2.1 ∧ b.2.1 ≤ r) ∧ Xdr p (x + b.1) (y + b.2.1) = true ∧ b.2.2 = Xne p w x y b.1 b.2.1 ∧ b.2.2 ≤ Xne p w x y 0 0 := by
 have hwl := (Xbr hw).1
 unfold Xd2
 rw [Xbj, Xab, ok, Xat, Xh2 w (by omega), Xab, hw, Xat, Xak, Xab, decide_eq_true (by omega), Xat, Xoh ok x y hx hy h0, Xab, Bool.not_true, Xab, Xao, wkA (e := 0 - r)]
 obtain ⟨o, h, ho⟩ := Xqt (f := Xfy p w x y r) (fun s => -r ≤ s.2.2.2 ∧ s.2.2.2 ≤ r + 1 ∧ BmI p w x y r (decide (s.2.2.2 > 0)) (s.1, s.2.1, s.2.2.1)) (fun s => (r + 1 - s.2.2.2).toNat) (fun _ b => BmI p w x y r true b) (by
  intro s ⟨g1, g2, g3⟩
  unfold Xfy
  by_cases hi : s.2.2.2 ≤ r
  ·
   rw [Xbh hi, wkA (e := s.2.2.2 + 1), wkA (e := 0 - r)]
   obtain ⟨o, h, ho⟩ := Xqt (f := Xdb p w x y r s) (fun v => -r ≤ v.2.2.2 ∧ v.2.2.2 ≤ r + 1 ∧ BmI p w x y r (decide (s.2.2.2 > 0 ∨ (s.2.2.2 = 0 ∧ v.2.2.2 > 0))) (v.1, v.2.1, v.2.2.1)) (fun v => (r + 1 - v.2.2.2).toNat) (fun _ b => BmI p w x y r (decide (s.2.2.2 + 1 > 0)) b) (by
    intro v ⟨f1, f2, f3⟩
    by_cases hv : v.2.2.2 ≤ r
    ·
     obtain ⟨b, e, hb⟩ := Zat ok hw hr h0 s ⟨g1, hi⟩ v ⟨f1, hv⟩ _ f3 (by rw [decide_eq_true_eq])
     exact .inr ⟨_, e, ⟨by simp only; omega, by simp only; omega, hb⟩, by simp only; omega, fun _ h => h⟩
    ·
     refine .inl ⟨(v.1, v.2.1, v.2.2.1), ?_, ?_⟩
     ·
      unfold Xdb; rw [Xap hv]
     ·
      have : decide (s.2.2.2 > 0 ∨ (s.2.2.2 = 0 ∧ v.2.2.2 > 0)) = decide (s.2.2.2 + 1 > 0) := by
       rw [decide_eq_decide]; omega
      rw [this] at f3
      exact f3) (s.1, s.2.1, s.2.2.1, 0 - r) ⟨by simp only; omega, by simp only; omega, by
    have : decide (s.2.2.2 > 0 ∨ (s.2.2.2 = 0 ∧ 0 - r > 0)) = decide (s.2.2.2 > 0) := by rw [decide_eq_decide]; omega
    simp only
    rw [this]; exact g3⟩
   rw [h, Xab]
   exact .inr ⟨_, rfl, ⟨by simp only; omega, by simp only; omega, ho⟩, by simp only; omega, fun _ h => h⟩
  ·
   rw [Xap hi]
   refine .inl ⟨_, rfl, ?_⟩
   rw [decide_eq_true (by omega)] at g3
   exact g3) (0, 0, -1, 0 - r) ⟨by simp only; omega, by simp only; omega, .inl ⟨rfl, by simp only [decide_eq_false_iff_not]; omega⟩⟩
 rw [h, Xab]
 rcases ho with ⟨_, h2⟩ | ⟨h1, h2, h3, h4, h5⟩
 ·
  cases h2
 ·
  exact ⟨_, rfl, h1, h2, h3, h4, h5 rfl⟩
theorem Xso (s : ByteArray) : strOfNums (Xaz s) = s := by
 apply ByteArray.ext
 apply Array.ext'
 simp only [strOfNums, Xaz, List.map_map]
 conv => rhs; rw [← List.map_id s.data.toList]
 refine List.map_congr_left fun c _ => ?_
 simp
theorem Ym8 {a b : ByteArray} : a.toList = b.toList ↔ a = b := by
 constructor
 ·
  intro h
  rw [ByteArray.toList_eq, ByteArray.toList_eq] at h
  exact ByteArray.ext (Array.ext' h)
 ·
  intro h; rw [h]
def inB (B : Int) (l : List Int) : Prop := ∀ x ∈ l, -B ≤ x ∧ x ≤ B
theorem Xqq {B C : Int} {l : List Int} (h : inB B l) (hc : B ≤ C) : inB C l := fun x hx => by have := h x hx; omega
theorem Xms {B : Int} {a b : List Int} (ha : inB B a) (hb : inB B b) : inB B (a ++ b) := fun x hx => (List.mem_append.1 hx).elim (ha x) (hb x)
theorem Xyp (B : Int) : inB B [] := fun x hx => by simp at hx
theorem Yoi {B x : Int} (h : -B ≤ x ∧ x ≤ B) : inB B [x] := fun y hy => by rw [List.mem_singleton.1 hy]; exact h
theorem Ysg {B : Int} {l : List Int} (h : inB B l) (i : Nat) {y : Int} (hy : -B ≤ y ∧ y ≤ B) : inB B (l.set i y) := fun x hx => by
 rcases List.mem_or_eq_of_mem_set hx with hx | hx
 ·
  exact h x hx
 ·
  rw [hx]; exact hy
theorem Ysf (n : Nat) {B : Int} (h : 0 ≤ B) : inB B (List.replicate n 0) := fun x hx => by rw [List.eq_of_mem_replicate hx]; omega
theorem Xma {B : Int} {l : List Int} (h : inB B l) {i : Nat} (hi : i < l.length) : -B ≤ l.getD i 0 ∧ l.getD i 0 ≤ B := h _ (by rw [Xb4 l i hi]; exact List.getElem_mem _)
theorem Ytk {B : Int} {l : List Int} (h : inB B l) (n : Nat) : inB B (l.take n) := fun x hx => h x (List.mem_of_mem_take hx)
theorem Yti {B : Int} {l : List Int} (h : inB B l) (n : Nat) : inB B (l.drop n) := fun x hx => h x (List.mem_of_mem_drop hx)
theorem Xd6 {S : Type} {f : Int × S → Option (Lp (Int × S) S)} (n : Nat) (I : Nat → S → Prop) (hs : ∀ (i : Nat) (l : S), i < n → I i l → ∃ l', f ((i : Int), l) = some (.go (((i + 1 : Nat) : Int), l')) ∧ I (i + 1) l') (he : ∀ l, f ((n : Int), l) = some (.done l)) (l0 : S) (h0 : I 0 l0) : ∃ o, loop f (0, l0) = some o ∧ I n o := by
 have key : ∀ i : Nat, i ≤ n → ∀ l, I i l → ∃ o, loop f ((i : Int), l) = some o ∧ I n o := by
  refine Xgp _ ?_ ?_
  ·
   intro l h; exact ⟨l, Xf9 (he l), h⟩
  ·
   intro i hi ih l h
   obtain ⟨l', e, h'⟩ := hs i l hi h
   obtain ⟨o, e2, h2⟩ := ih l' h'
   exact ⟨o, lgo e e2, h2⟩
 exact key 0 (by omega) l0 h0
end Go.Proofs.YtnhflbeahbcklaaGreat.A.Pure
