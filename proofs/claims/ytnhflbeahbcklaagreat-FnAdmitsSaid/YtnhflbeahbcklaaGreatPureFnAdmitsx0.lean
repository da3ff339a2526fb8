/- The pure statement of the law FnAdmits, part 1: over numbers, texts and lists alone, what the law computes is true. Conditions: the sizes of what a machine holds. -/
import Derived.Test.YtnhflbeahbcklaaGreatDFnAdmits
namespace Go.Proofs.YtnhflbeahbcklaaGreat.A.Pure
open Go Go.Proofs Go.Proofs.YtnhflbeahbcklaaGreatAL Go.RowKit
set_option linter.unusedVariables false
set_option linter.unusedSimpArgs false
set_option maxHeartbeats 1000000
noncomputable section
def Xiy (p0 : (List Int)) (p1 : Int) (v2 : (Int × Int)) : Option (Lp (Int × Int) Int) :=
 sel (decide (v2.2 < p1)) (
 req (0 ≤ v2.2 ∧ v2.2 < p0.length) <|
 some (.go (Xaa .i64 (v2.1 + (p0.getD v2.2.toNat 0)), Xaa .i64 (v2.2 + 1)))) (
 some (.done v2.1))
def Xq8 (p0 : (List Int)) (p1 : Int) : Option Int :=
 bnd (loop (Xiy p0 p1) (0, 0)) fun v4 =>
 some v4
def Xtd (p0 : Seq) (p1 : Int) : Option (Xyw × Bool) :=
 bnd (
 sel (decide (p1 < 0)) (
 some true) (
 bnd (Xkw p0) fun q2 =>
 some (decide (p1 ≥ q2)))) fun v1 =>
 sel v1 (
 some ((⟨0, 0, 0, 0⟩ : Xyw), false)) (
 req ((p0.Cols.length : Int) ≠ 0) <|
 req ((p0.Cols.length : Int) ≠ 0) <|
 bnd (Xq8 p0.Cols (p1.tmod (p0.Cols.length : Int))) fun q3 =>
 bnd (Xq8 p0.Rows (Xaa .i64 (p1.tdiv (p0.Cols.length : Int)))) fun q4 =>
 req (0 ≤ (p1.tmod (p0.Cols.length : Int)) ∧ (p1.tmod (p0.Cols.length : Int)) < p0.Cols.length) <|
 req (0 ≤ (Xaa .i64 (p1.tdiv (p0.Cols.length : Int))) ∧ (Xaa .i64 (p1.tdiv (p0.Cols.length : Int))) < p0.Rows.length) <|
 some ((⟨Xaa .i64 (8 * q3), Xaa .i64 (8 * q4), Xaa .i64 (8 * (p0.Cols.getD (p1.tmod (p0.Cols.length : Int)).toNat 0)), Xaa .i64 (8 * (p0.Rows.getD (Xaa .i64 (p1.tdiv (p0.Cols.length : Int))).toNat 0))⟩ : Xyw), true))
def Xgx (p0 : Seq) (p1 : Int) : Option Int :=
 bnd (Xtd p0 p1) fun q1 =>
 req ((8 : Int) ≠ 0) <|
 req ((8 : Int) ≠ 0) <|
 some (Xaa .i64 ((Xaa .i64 (q1.1.Wide.tdiv 8)) * (Xaa .i64 (q1.1.High.tdiv 8))))
def Xm4 (p0 : Xer) : Option Bool :=
 bnd (
 bnd (Xan p0.Qp 0 40) fun q2 =>
 sel q2 (
 sel p0.Large (
 some (!p0.Exact)) (
 some true)) (
 some false)) fun v1 =>
 some v1
def Xfe (p0 : (List Int)) (p1 : Int) (p2 : Int) (v3 : Int) : Option (Lp Int (Ou Unit Bool)) :=
 sel (decide (v3 < p1)) (
 req (0 ≤ v3 ∧ v3 < p0.length) <|
 bnd (Xan (p0.getD v3.toNat 0) (Xaa .i64 (0 - p2)) p2) fun q7 =>
 sel (!q7) (
 some (.done (.ret false))) (
 some (.go (Xaa .i64 (v3 + 1))))) (
 some (.done (.out ())))
def Xck (p0 : (List Int)) (p1 : Int) (p2 : Int) : Option Bool :=
 sel ((p0.length : Int) != p1) (
 some false) (
 bnd (loop (Xfe p0 p1 p2) 0) fun o8 => match o8 with
| .out v6 => (
 some true)
| .ret r => some r)
def Xtc (p0 : Xam) : Option Bool :=
 sel (p0.Kind == 0) (
 bnd (
 sel (p0.Mode == 0) (
 sel (p0.Dx == 0) (
 sel (p0.Dy == 0) (
 some ((p0.Levels.length : Int) == 0)) (
 some false)) (
 some false)) (
 some false)) fun v1 =>
 some v1) (
 sel (p0.Kind == 1) (
 bnd (
 sel (p0.Mode == 0) (
 bnd (Xan p0.Dx (-16) 16) fun q3 =>
 sel q3 (
 bnd (Xan p0.Dy (-16) 16) fun q4 =>
 sel q4 (
 bnd (Xck p0.Levels 64 5000) fun q5 =>
 some q5) (
 some false)) (
 some false)) (
 some false)) fun v2 =>
 some v2) (
 sel (p0.Kind == 2) (
 bnd (
 bnd (Xan p0.Mode 0 3) fun q7 =>
 sel q7 (
 sel (p0.Dx == 0) (
 sel (p0.Dy == 0) (
 bnd (Xck p0.Levels 64 5000) fun q8 =>
 some q8) (
 some false)) (
 some false)) (
 some false)) fun v6 =>
 some v6) (
 some false)))
def Xnt (p0 : Pic) (p1 : Int) (p2 : Int) (p3 : Int) (p4 : Int) : Option Bool :=
 bnd (
 bnd (Xf0 p0) fun q2 =>
 sel q2 (
 bnd (Xan p3 1 p0.Wide) fun q3 =>
 sel q3 (
 bnd (Xan p4 1 p0.High) fun q4 =>
 sel q4 (
 bnd (Xan p1 0 (Xaa .i64 (p0.Wide - p3))) fun q5 =>
 sel q5 (
 bnd (Xan p2 0 (Xaa .i64 (p0.High - p4))) fun q6 =>
 some q6) (
 some false)) (
 some false)) (
 some false)) (
 some false)) fun v1 =>
 some v1
def Xo9 (p0 : Pic) (p1 : Xyw) (v3 : (Int × (List Int))) : Option (Lp (Int × (List Int)) (List Int)) :=
 sel (decide (v3.1 < (Xaa .i64 (p1.Top + p1.High)))) (
 req (0 ≤ (Xaa .i64 ((Xaa .i64 (v3.1 * p0.Wide)) + p1.Left)) ∧ (Xaa .i64 ((Xaa .i64 (v3.1 * p0.Wide)) + p1.Left)) ≤ (Xaa .i64 ((Xaa .i64 ((Xaa .i64 (v3.1 * p0.Wide)) + p1.Left)) + p1.Wide)) ∧ (Xaa .i64 ((Xaa .i64 ((Xaa .i64 (v3.1 * p0.Wide)) + p1.Left)) + p1.Wide)) ≤ (p0.Dots.size : Int)) <|
 req ((v3.2.length + (Xa6 (p0.Dots.extract (Xaa .i64 ((Xaa .i64 (v3.1 * p0.Wide)) + p1.Left)).toNat (Xaa .i64 ((Xaa .i64 ((Xaa .i64 (v3.1 * p0.Wide)) + p1.Left)) + p1.Wide)).toNat)).length) * 1 ≤ 140737488355328 ∧ v3.2.length + (Xa6 (p0.Dots.extract (Xaa .i64 ((Xaa .i64 (v3.1 * p0.Wide)) + p1.Left)).toNat (Xaa .i64 ((Xaa .i64 ((Xaa .i64 (v3.1 * p0.Wide)) + p1.Left)) + p1.Wide)).toNat)).length ≤ maxLen) <|
 some (.go (Xaa .i64 (v3.1 + 1), (v3.2 ++ (Xa6 (p0.Dots.extract (Xaa .i64 ((Xaa .i64 (v3.1 * p0.Wide)) + p1.Left)).toNat (Xaa .i64 ((Xaa .i64 ((Xaa .i64 (v3.1 * p0.Wide)) + p1.Left)) + p1.Wide)).toNat)))))) (
 some (.done v3.2))
def Xly (p0 : Int) (p1 : Int) (v2 : (Int × (List Int))) : Option (Lp (Int × (List Int)) (List Int)) :=
 sel (decide (v2.1 < p0)) (
 req (0 ≤ v2.1 ∧ v2.1 < v2.2.length) <|
 req (v2.1.toNat < v2.2.length) <|
 some (.go (Xaa .i64 (v2.1 + 1), (v2.2.set v2.1.toNat p1)))) (
 some (.done v2.2))
def Xu4 (p0 : Int) (p1 : Int) : Option ByteArray :=
 req (0 ≤ p0 ∧ p0 ≤ p0 ∧ p0 * 1 ≤ 281474976710656) <|
 bnd (loop (Xly p0 p1) (0, (List.replicate p0.toNat (0 : Int)))) fun v4 =>
 some (strOfNums v4)
def Xkz (p0 : Pic) (p1 : Int) (p2 : Int) : Option Bool :=
 bnd (
 req ((8 : Int) ≠ 0) <|
 sel ((p1.tmod 8) == 0) (
 req ((8 : Int) ≠ 0) <|
 sel ((p2.tmod 8) == 0) (
 bnd (Xnt p0 p1 p2 8 8) fun q2 =>
 some q2) (
 some false)) (
 some false)) fun v1 =>
 some v1
def Xfx (p0 : Pic) (p1 : Int) (p2 : Int) (v7 : (Int × (List Int) × (List Int))) : Option (Lp (Int × (List Int) × (List Int)) ((List Int) × (List Int))) :=
 sel (decide (v7.1 < 8)) (
 bnd (
 bnd (
 sel (decide (p2 > 0)) (
 bnd (Xey p0 (Xaa .i64 (p1 + v7.1)) (Xaa .i64 (p2 - 1))) fun q16 =>
 req ((v7.2.1.length + ([q16]).length) * 8 ≤ 140737488355328 ∧ v7.2.1.length + ([q16]).length ≤ maxLen) <|
 some (v7.2.1 ++ ([q16]))) (
 some v7.2.1)) fun v15 =>
 sel (decide (p1 > 0)) (
 bnd (Xey p0 (Xaa .i64 (p1 - 1)) (Xaa .i64 (p2 + v7.1))) fun q17 =>
 req ((v7.2.2.length + ([q17]).length) * 8 ≤ 140737488355328 ∧ v7.2.2.length + ([q17]).length ≤ maxLen) <|
 some (v15, (v7.2.2 ++ ([q17])))) (
 some (v15, v7.2.2))) fun v14 =>
 some (.go (Xaa .i64 (v7.1 + 1), v14.1, v14.2))) (
 some (.done (v7.2.1, v7.2.2)))
def Xie (p0 : Pic) (p1 : Int) (p2 : Int) : Option (Xi8 × Bool) :=
 bnd (Xkz p0 p1 p2) fun q1 =>
 sel (!q1) (
 some ((⟨[], [], 0⟩ : Xi8), false)) (
 bnd (loop (Xfx p0 p1 p2) (0, [], [])) fun v13 =>
 bnd (
 bnd (
 sel (decide (p1 > 0)) (
 some (decide (p2 > 0))) (
 some false)) fun v20 =>
 sel v20 (
 bnd (Xey p0 (Xaa .i64 (p1 - 1)) (Xaa .i64 (p2 - 1))) fun q21 =>
 some q21) (
 some (-1))) fun v19 =>
 some ((⟨v13.1, v13.2, v19⟩ : Xi8), true))
def Xu2 (p0 : Int) (p1 : Int) (v17 : (Int × Int)) (v38 : (Int × Int)) : Option (Lp (Int × Int) (Ou Int Int)) :=
 sel (decide (v38.2 < p0)) (
 Yqv (fun (v44 : Int) =>
 some (.go (v44, Xaa .i64 (v38.2 + 1)))) fun j36 =>
 bnd (
 req ((2 : Int) ≠ 0) <|
 sel ((v17.2.tmod 2) == 0) (
 some (Xaa .i64 ((Xaa .i64 (p0 - 1)) - v38.2))) (
 some v38.2)) fun v45 =>
 bnd (Xan (Xaa .i64 (v17.2 - v45)) 0 (Xaa .i64 (p0 - 1))) fun q46 =>
 sel (!q46) (
 j36 v38.1) (
 sel (v38.1 == p1) (
 some (.done (.ret (Xaa .i64 ((Xaa .i64 ((Xaa .i64 (p0 * v45)) + v17.2)) - v45))))) (
 j36 (Xaa .i64 (v38.1 + 1))))) (
 some (.done (.out v38.1)))
def Xp4 (p0 : Int) (p1 : Int) (v17 : (Int × Int)) : Option (Lp (Int × Int) (Ou Unit Int)) :=
 sel (decide (v17.2 ≤ (Xaa .i64 ((Xaa .i64 (2 * p0)) - 2)))) (
 bnd (loop (Xu2 p0 p1 v17) (v17.1, 0)) fun o47 => match o47 with
| .out v43 => (
 some (.go (v43, Xaa .i64 (v17.2 + 1))))
| .ret r => some (.done (.ret r))) (
 some (.done (.out ())))
def Xs8 (p0 : Int) (p1 : Int) : Option Int :=
 bnd (
 sel (p0 != 4) (
 sel (p0 != 8) (
 some true) (
 sel (decide (p1 < 0)) (
 some true) (
 some (decide (p1 ≥ (Xaa .i64 (p0 * p0))))))) (
 sel (decide (p1 < 0)) (
 some true) (
 some (decide (p1 ≥ (Xaa .i64 (p0 * p0))))))) fun v1 =>
 sel v1 (
 some (-1)) (
 bnd (loop (Xp4 p0 p1) (0, 0)) fun o48 => match o48 with
| .out v33 => (
 some (-1))
| .ret r => some r)
def Xc9 (p0 : Int) (p1 : (List Int)) (v4 : (Int × (List Int))) : Option (Lp (Int × (List Int)) (List Int)) :=
 sel (decide (v4.1 < (Xaa .i64 (p0 * p0)))) (
 bnd (Xs8 p0 v4.1) fun q8 =>
 req (0 ≤ v4.1 ∧ v4.1 < p1.length) <|
 req (0 ≤ q8 ∧ q8 < v4.2.length) <|
 req (q8.toNat < v4.2.length) <|
 some (.go (Xaa .i64 (v4.1 + 1), (v4.2.set q8.toNat (p1.getD v4.1.toNat 0))))) (
 some (.done v4.2))
def Xfd (p0 : Int) (p1 : (List Int)) : Option ((List Int) × Bool) :=
 bnd (
 sel (p0 != 4) (
 sel (p0 != 8) (
 some true) (
 some ((p1.length : Int) != (Xaa .i64 (p0 * p0))))) (
 some ((p1.length : Int) != (Xaa .i64 (p0 * p0))))) fun v1 =>
 sel v1 (
 some (([] : List Int), false)) (
 req (0 ≤ (p1.length : Int) ∧ (p1.length : Int) ≤ (p1.length : Int) ∧ (p1.length : Int) * 8 ≤ 281474976710656) <|
 bnd (loop (Xc9 p0 p1) (0, (List.replicate (p1.length : Int).toNat (0 : Int)))) fun v7 =>
 some (v7, true))
def Xnp (p0 : Int) (v4 : (Int × Int)) : Option (Lp (Int × Int) Int) :=
 req ((6 : Int) ≠ 0) <|
 sel (decide (v4.2 < (Xaa .i64 (p0.tdiv 6)))) (
 some (.go (Xaa .i64 (2 * v4.1), Xaa .i64 (v4.2 + 1)))) (
 some (.done v4.1))
def Xkb (p0 : Int) : Option Int :=
 bnd (Xan p0 0 40) fun q1 =>
 sel (!q1) (
 some 0) (
 bnd (
 req ((6 : Int) ≠ 0) <|
 sel ((p0.tmod 6) == 0) (
 some 10) (
 sel ((p0.tmod 6) == 1) (
 some 11) (
 sel ((p0.tmod 6) == 2) (
 some 13) (
 sel ((p0.tmod 6) == 3) (
 some 14) (
 sel ((p0.tmod 6) == 4) (
 some 16) (
 some 18)))))) fun v2 =>
 bnd (loop (Xnp p0) (v2, 0)) fun v6 =>
 some v6)
def Xjn (p0 : Int) (p1 : Int) : Option Int :=
 bnd (Xan p0 (-5000) 5000) fun q1 =>
 sel (!q1) (
 some 0) (
 bnd (Xkb p1) fun q2 =>
 some (Xaa .i64 (p0 * q2)))
def Xnn (v6 : (Int × Int)) : Option (Lp (Int × Int) Int) :=
 sel (decide (v6.2 > 0)) (
 bnd (
 req ((2 : Int) ≠ 0) <|
 sel ((v6.2.tmod 2) == 1) (
 some (Xaa .i64 (0 - v6.1))) (
 some v6.1)) fun v10 =>
 req ((2 : Int) ≠ 0) <|
 some (.go (v10, Xaa .i64 (v6.2.tdiv 2)))) (
 some (.done v6.1))
def Xm7 (p0 : Int) (p1 : Int) : Option Int :=
 bnd (
 bnd (Xan p0 0 7) fun q2 =>
 sel q2 (
 bnd (Xan p1 0 7) fun q3 =>
 some (!q3)) (
 some true)) fun v1 =>
 sel v1 (
 some 0) (
 bnd (loop (Xnn) (1, (IntKind.wrap .i64 (BitVec.ofInt (IntKind.bits .i64) p0 &&& BitVec.ofInt (IntKind.bits .i64) p1).toNat))) fun v9 =>
 some v9)
def Xff (p0 : (List Int)) (p1 : Int) (p2 : Int) (v3 : (Int × Int)) : Option (Lp (Int × Int) Int) :=
 sel (decide (v3.2 < 8)) (
 req (0 ≤ (Xaa .i64 ((Xaa .i64 (8 * p1)) + v3.2)) ∧ (Xaa .i64 ((Xaa .i64 (8 * p1)) + v3.2)) < p0.length) <|
 bnd (Xm7 p2 v3.2) fun q7 =>
 some (.go (Xaa .i64 (v3.1 + (Xaa .i64 ((p0.getD (Xaa .i64 ((Xaa .i64 (8 * p1)) + v3.2)).toNat 0) * q7))), Xaa .i64 (v3.2 + 1)))) (
 some (.done v3.1))
def Xp6 (p0 : (List Int)) (p1 : Int) (p2 : Int) : Option Int :=
 bnd (loop (Xff p0 p1 p2) (0, 0)) fun v6 =>
 some v6
def Xdr (p0 : (List Int)) (v10 : (Int × (List Int))) (v23 : (Int × (List Int))) : Option (Lp (Int × (List Int)) (List Int)) :=
 sel (decide (v23.1 < 8)) (
 bnd (Xp6 p0 v10.1 v23.1) fun q27 =>
 req ((v23.2.length + ([q27]).length) * 8 ≤ 140737488355328 ∧ v23.2.length + ([q27]).length ≤ maxLen) <|
 some (.go (Xaa .i64 (v23.1 + 1), (v23.2 ++ ([q27]))))) (
 some (.done v23.2))
def Xdq (p0 : (List Int)) (v10 : (Int × (List Int))) : Option (Lp (Int × (List Int)) (List Int)) :=
 sel (decide (v10.1 < 8)) (
 bnd (loop (Xdr p0 v10) (0, v10.2)) fun v26 =>
 some (.go (Xaa .i64 (v10.1 + 1), v26))) (
 some (.done v10.2))
def Xdc (v20 : (List Int)) (v60 : (Int × (List Int))) (v101 : (Int × (List Int))) (v114 : (Int × Int)) : Option (Lp (Int × Int) Int) :=
 sel (decide (v114.2 < 8)) (
 bnd (Xm7 v60.1 v114.2) fun q118 =>
 req (0 ≤ (Xaa .i64 ((Xaa .i64 (8 * v114.2)) + v101.1)) ∧ (Xaa .i64 ((Xaa .i64 (8 * v114.2)) + v101.1)) < v20.length) <|
 req ((Xaa .i64 ((Xaa .i64 (8 * v114.2)) + v101.1)).toNat < v20.length) <|
 some (.go (Xaa .i64 (v114.1 + (Xaa .i64 (q118 * (v20.getD ((Xaa .i64 ((Xaa .i64 (8 * v114.2)) + v101.1)).toNat) 0)))), Xaa .i64 (v114.2 + 1)))) (
 some (.done v114.1))
def Xdb (v20 : (List Int)) (v60 : (Int × (List Int))) (v101 : (Int × (List Int))) : Option (Lp (Int × (List Int)) (List Int)) :=
 sel (decide (v101.1 < 8)) (
 bnd (loop (Xdc v20 v60 v101) (0, 0)) fun v117 =>
 req ((v101.2.length + ([v117]).length) * 8 ≤ 140737488355328 ∧ v101.2.length + ([v117]).length ≤ maxLen) <|
 some (.go (Xaa .i64 (v101.1 + 1), (v101.2 ++ ([v117]))))) (
 some (.done v101.2))
def Xda (v20 : (List Int)) (v60 : (Int × (List Int))) : Option (Lp (Int × (List Int)) (List Int)) :=
 sel (decide (v60.1 < 8)) (
 bnd (loop (Xdb v20 v60) (0, v60.2)) fun v111 =>
 some (.go (Xaa .i64 (v60.1 + 1), v111))) (
 some (.done v60.2))
def Xky (p0 : (List Int)) : Option (List Int) :=
 bnd (loop (Xdq p0) (0, ([] : List Int))) fun v20 =>
 bnd (loop (Xda v20) (0, ([] : List Int))) fun v91 =>
 some v91
def Xd5 (p0 : Int) (p1 : Int) : Option Int :=
 req (p1 ≠ 0) <|
 bnd (
 req (p1 ≠ 0) <|
 sel (decide ((p0.tmod p1) < 0)) (
 some (Xaa .i64 ((Xaa .i64 (p0.tdiv p1)) - 1))) (
 some (Xaa .i64 (p0.tdiv p1)))) fun v1 =>
 some v1
def Xix (v5 : (Int × (List Int))) : Option (Lp (Int × (List Int)) (List Int)) :=
 sel (decide (v5.1 < 64)) (
 req (0 ≤ v5.1 ∧ v5.1 < v5.2.length) <|
 req (v5.1.toNat < v5.2.length) <|
 bnd (Xd5 (Xaa .i64 ((v5.2.getD v5.1.toNat 0) + 32)) 64) fun q9 =>
 req (0 ≤ v5.1 ∧ v5.1 < v5.2.length) <|
 req (v5.1.toNat < v5.2.length) <|
 some (.go (Xaa .i64 (v5.1 + 1), (v5.2.set v5.1.toNat q9)))) (
 some (.done v5.2))
def Xjm (p0 : (List Int)) : Option (List Int) :=
 bnd (Xck p0 64 10000000) fun q1 =>
 sel (!q1) (
 some ([] : List Int)) (
 bnd (Xky p0) fun q2 =>
 bnd (loop (Xix) (0, q2)) fun v8 =>
 some v8)
def Xp2 (p0 : Int) : Option Int :=
 bnd (Xan p0 0 15) fun q1 =>
 sel (!q1) (
 some (-1)) (
 req ((4 : Int) ≠ 0) <|
 req ((2 : Int) ≠ 0) <|
 req ((4 : Int) ≠ 0) <|
 req ((2 : Int) ≠ 0) <|
 bnd (
 sel (((Xaa .i64 (p0.tdiv 4)).tmod 2) == 0) (
 some (((p0.tmod 4).tmod 2) == 0)) (
 some false)) fun v2 =>
 sel v2 (
 some 0) (
 bnd (
 sel (((Xaa .i64 (p0.tdiv 4)).tmod 2) == 1) (
 some (((p0.tmod 4).tmod 2) == 1)) (
 some false)) fun v3 =>
 sel v3 (
 some 1) (
 some 2)))
def Xbe (p0 : Int) (p1 : Int) (p2 : Int) (p3 : Int) : Option Int :=
 sel (p0 == 0) (
 some p1) (
 sel (p0 == 1) (
 some p2) (
 some p3))
def Xf1 (p0 : Int) (v12 : (Int × Int)) : Option (Lp (Int × Int) Int) :=
 req ((6 : Int) ≠ 0) <|
 sel (decide (v12.2 < (Xaa .i64 (p0.tdiv 6)))) (
 some (.go (Xaa .i64 (2 * v12.1), Xaa .i64 (v12.2 + 1)))) (
 some (.done v12.1))
def Xn9 (p0 : Int) (p1 : Int) : Option Int :=
 bnd (Xp2 p1) fun q1 =>
 bnd (
 bnd (Xan p0 0 40) fun q3 =>
 sel q3 (
 some (decide (q1 < 0))) (
 some true)) fun v2 =>
 sel v2 (
 some 0) (
 bnd (
 req ((6 : Int) ≠ 0) <|
 sel ((p0.tmod 6) == 0) (
 bnd (Xbe q1 10 16 13) fun q5 =>
 some q5) (
 sel ((p0.tmod 6) == 1) (
 bnd (Xbe q1 11 18 14) fun q6 =>
 some q6) (
 sel ((p0.tmod 6) == 2) (
 bnd (Xbe q1 13 20 16) fun q7 =>
 some q7) (
 sel ((p0.tmod 6) == 3) (
 bnd (Xbe q1 14 23 18) fun q8 =>
 some q8) (
 sel ((p0.tmod 6) == 4) (
 bnd (Xbe q1 16 25 20) fun q9 =>
 some q9) (
 sel ((p0.tmod 6) == 5) (
 bnd (Xbe q1 18 29 23) fun q10 =>
 some q10) (
 some 0))))))) fun v4 =>
 bnd (loop (Xf1 p0) (v4, 0)) fun v14 =>
 some v14)
def Xjo (p0 : Int) (p1 : Int) (p2 : Int) : Option Int :=
 bnd (Xan p0 (-5000) 5000) fun q1 =>
 sel (!q1) (
 some 0) (
 bnd (Xn9 p1 p2) fun q2 =>
 some (Xaa .i64 (p0 * q2)))
def Xdp (p0 : (List Int)) (v4 : (Int × (List Int))) : Option (Lp (Int × (List Int)) (List Int)) :=
 sel (decide (v4.1 < 4)) (
 req (0 ≤ (Xaa .i64 (4 * v4.1)) ∧ (Xaa .i64 (4 * v4.1)) < p0.length) <|
 req (0 ≤ (Xaa .i64 ((Xaa .i64 (4 * v4.1)) + 1)) ∧ (Xaa .i64 ((Xaa .i64 (4 * v4.1)) + 1)) < p0.length) <|
 req (0 ≤ (Xaa .i64 ((Xaa .i64 (4 * v4.1)) + 2)) ∧ (Xaa .i64 ((Xaa .i64 (4 * v4.1)) + 2)) < p0.length) <|
 req (0 ≤ (Xaa .i64 ((Xaa .i64 (4 * v4.1)) + 3)) ∧ (Xaa .i64 ((Xaa .i64 (4 * v4.1)) + 3)) < p0.length) <|
 bnd (Xd5 (p0.getD (Xaa .i64 ((Xaa .i64 (4 * v4.1)) + 1)).toNat 0) 2) fun q9 =>
 bnd (Xd5 (p0.getD (Xaa .i64 ((Xaa .i64 (4 * v4.1)) + 3)).toNat 0) 2) fun q10 =>
 req ((v4.2.length + ([Xaa .i64 ((Xaa .i64 ((p0.getD (Xaa .i64 (4 * v4.1)).toNat 0) + (p0.getD (Xaa .i64 ((Xaa .i64 (4 * v4.1)) + 2)).toNat 0))) + (Xaa .i64 ((p0.getD (Xaa .i64 ((Xaa .i64 (4 * v4.1)) + 1)).toNat 0) + q10))), Xaa .i64 ((Xaa .i64 ((p0.getD (Xaa .i64 (4 * v4.1)).toNat 0) - (p0.getD (Xaa .i64 ((Xaa .i64 (4 * v4.1)) + 2)).toNat 0))) + (Xaa .i64 (q9 - (p0.getD (Xaa .i64 ((Xaa .i64 (4 * v4.1)) + 3)).toNat 0)))), Xaa .i64 ((Xaa .i64 ((p0.getD (Xaa .i64 (4 * v4.1)).toNat 0) - (p0.getD (Xaa .i64 ((Xaa .i64 (4 * v4.1)) + 2)).toNat 0))) - (Xaa .i64 (q9 - (p0.getD (Xaa .i64 ((Xaa .i64 (4 * v4.1)) + 3)).toNat 0)))), Xaa .i64 ((Xaa .i64 ((p0.getD (Xaa .i64 (4 * v4.1)).toNat 0) + (p0.getD (Xaa .i64 ((Xaa .i64 (4 * v4.1)) + 2)).toNat 0))) - (Xaa .i64 ((p0.getD (Xaa .i64 ((Xaa .i64 (4 * v4.1)) + 1)).toNat 0) + q10)))]).length) * 8 ≤ 140737488355328 ∧ v4.2.length + ([Xaa .i64 ((Xaa .i64 ((p0.getD (Xaa .i64 (4 * v4.1)).toNat 0) + (p0.getD (Xaa .i64 ((Xaa .i64 (4 * v4.1)) + 2)).toNat 0))) + (Xaa .i64 ((p0.getD (Xaa .i64 ((Xaa .i64 (4 * v4.1)) + 1)).toNat 0) + q10))), Xaa .i64 ((Xaa .i64 ((p0.getD (Xaa .i64 (4 * v4.1)).toNat 0) - (p0.getD (Xaa .i64 ((Xaa .i64 (4 * v4.1)) + 2)).toNat 0))) + (Xaa .i64 (q9 - (p0.getD (Xaa .i64 ((Xaa .i64 (4 * v4.1)) + 3)).toNat 0)))), Xaa .i64 ((Xaa .i64 ((p0.getD (Xaa .i64 (4 * v4.1)).toNat 0) - (p0.getD (Xaa .i64 ((Xaa .i64 (4 * v4.1)) + 2)).toNat 0))) - (Xaa .i64 (q9 - (p0.getD (Xaa .i64 ((Xaa .i64 (4 * v4.1)) + 3)).toNat 0)))), Xaa .i64 ((Xaa .i64 ((p0.getD (Xaa .i64 (4 * v4.1)).toNat 0) + (p0.getD (Xaa .i64 ((Xaa .i64 (4 * v4.1)) + 2)).toNat 0))) - (Xaa .i64 ((p0.getD (Xaa .i64 ((Xaa .i64 (4 * v4.1)) + 1)).toNat 0) + q10)))]).length ≤ maxLen) <|
 some (.go (Xaa .i64 (v4.1 + 1), (v4.2 ++ ([Xaa .i64 ((Xaa .i64 ((p0.getD (Xaa .i64 (4 * v4.1)).toNat 0) + (p0.getD (Xaa .i64 ((Xaa .i64 (4 * v4.1)) + 2)).toNat 0))) + (Xaa .i64 ((p0.getD (Xaa .i64 ((Xaa .i64 (4 * v4.1)) + 1)).toNat 0) + q10))), Xaa .i64 ((Xaa .i64 ((p0.getD (Xaa .i64 (4 * v4.1)).toNat 0) - (p0.getD (Xaa .i64 ((Xaa .i64 (4 * v4.1)) + 2)).toNat 0))) + (Xaa .i64 (q9 - (p0.getD (Xaa .i64 ((Xaa .i64 (4 * v4.1)) + 3)).toNat 0)))), Xaa .i64 ((Xaa .i64 ((p0.getD (Xaa .i64 (4 * v4.1)).toNat 0) - (p0.getD (Xaa .i64 ((Xaa .i64 (4 * v4.1)) + 2)).toNat 0))) - (Xaa .i64 (q9 - (p0.getD (Xaa .i64 ((Xaa .i64 (4 * v4.1)) + 3)).toNat 0)))), Xaa .i64 ((Xaa .i64 ((p0.getD (Xaa .i64 (4 * v4.1)).toNat 0) + (p0.getD (Xaa .i64 ((Xaa .i64 (4 * v4.1)) + 2)).toNat 0))) - (Xaa .i64 ((p0.getD (Xaa .i64 ((Xaa .i64 (4 * v4.1)) + 1)).toNat 0) + q10)))]))))) (
 some (.done v4.2))
def Xiz (p0 : (List Int)) : Option (List Int) :=
 bnd (loop (Xdp p0) (0, ([] : List Int))) fun v8 =>
 some v8
def Xek (p0 : (List Int)) (v2 : (Int × (List Int))) : Option (Lp (Int × (List Int)) (List Int)) :=
 sel (decide (v2.1 < 16)) (
 req ((4 : Int) ≠ 0) <|
 req ((4 : Int) ≠ 0) <|
 req (0 ≤ v2.1 ∧ v2.1 < p0.length) <|
 req (0 ≤ (Xaa .i64 ((Xaa .i64 ((v2.1.tmod 4) * 4)) + (Xaa .i64 (v2.1.tdiv 4)))) ∧ (Xaa .i64 ((Xaa .i64 ((v2.1.tmod 4) * 4)) + (Xaa .i64 (v2.1.tdiv 4)))) < v2.2.length) <|
 req ((Xaa .i64 ((Xaa .i64 ((v2.1.tmod 4) * 4)) + (Xaa .i64 (v2.1.tdiv 4)))).toNat < v2.2.length) <|
 some (.go (Xaa .i64 (v2.1 + 1), (v2.2.set ((Xaa .i64 ((Xaa .i64 ((v2.1.tmod 4) * 4)) + (Xaa .i64 (v2.1.tdiv 4)))).toNat) (p0.getD v2.1.toNat 0))))) (
 some (.done v2.2))
def Xf9 (p0 : (List Int)) : Option (List Int) :=
 req (0 ≤ (16 : Int) ∧ (16 : Int) ≤ (16 : Int) ∧ (16 : Int) * 8 ≤ 281474976710656) <|
 bnd (loop (Xek p0) (0, (List.replicate (16 : Int).toNat (0 : Int)))) fun v4 =>
 some v4
def Xj0 (v8 : (Int × (List Int))) : Option (Lp (Int × (List Int)) (List Int)) :=
 sel (decide (v8.1 < 16)) (
 req (0 ≤ v8.1 ∧ v8.1 < v8.2.length) <|
 req (v8.1.toNat < v8.2.length) <|
 bnd (Xd5 (Xaa .i64 ((v8.2.getD v8.1.toNat 0) + 32)) 64) fun q12 =>
 req (0 ≤ v8.1 ∧ v8.1 < v8.2.length) <|
 req (v8.1.toNat < v8.2.length) <|
 some (.go (Xaa .i64 (v8.1 + 1), (v8.2.set v8.1.toNat q12)))) (
 some (.done v8.2))
def Xlu (p0 : (List Int)) : Option (List Int) :=
 bnd (Xck p0 16 10000000) fun q1 =>
 sel (!q1) (
 some ([] : List Int)) (
 bnd (Xiz p0) fun q2 =>
 bnd (Xf9 q2) fun q3 =>
 bnd (Xiz q3) fun q4 =>
 bnd (Xf9 q4) fun q5 =>
 bnd (loop (Xj0) (0, q5)) fun v11 =>
 some v11)
def Xbj (p1 : Xer) (v8 : (Int × (List Int))) : Option (Lp (Int × (List Int)) (List Int)) :=
 sel (decide (v8.1 < 64)) (
 req (0 ≤ v8.1 ∧ v8.1 < v8.2.length) <|
 req (v8.1.toNat < v8.2.length) <|
 bnd (Xjn (v8.2.getD v8.1.toNat 0) p1.Qp) fun q12 =>
 req (0 ≤ v8.1 ∧ v8.1 < v8.2.length) <|
 req (v8.1.toNat < v8.2.length) <|
 some (.go (Xaa .i64 (v8.1 + 1), (v8.2.set v8.1.toNat q12)))) (
 some (.done v8.2))
def Xbh (p1 : Xer) (v52 : (Int × (List Int))) : Option (Lp (Int × (List Int)) (List Int)) :=
 sel (decide (v52.1 < 16)) (
 req (0 ≤ v52.1 ∧ v52.1 < v52.2.length) <|
 req (v52.1.toNat < v52.2.length) <|
 bnd (Xjo (v52.2.getD v52.1.toNat 0) p1.Qp v52.1) fun q56 =>
 req (0 ≤ v52.1 ∧ v52.1 < v52.2.length) <|
 req (v52.1.toNat < v52.2.length) <|
 some (.go (Xaa .i64 (v52.1 + 1), (v52.2.set v52.1.toNat q56)))) (
 some (.done v52.2))
def Xbn (v31 : (Int × (List Int))) (q58 : (List Int)) (v60 : (Int × (List Int))) : Option (Lp (Int × (List Int)) (List Int)) :=
 sel (decide (v60.1 < 16)) (
 req ((2 : Int) ≠ 0) <|
 req ((4 : Int) ≠ 0) <|
 req ((2 : Int) ≠ 0) <|
 req ((4 : Int) ≠ 0) <|
 req (0 ≤ v60.1 ∧ v60.1 < q58.length) <|
 req (v60.1.toNat < q58.length) <|
 req (0 ≤ (Xaa .i64 ((Xaa .i64 ((Xaa .i64 (8 * (Xaa .i64 ((Xaa .i64 ((Xaa .i64 (v31.1.tdiv 2)) * 4)) + (Xaa .i64 (v60.1.tdiv 4)))))) + (Xaa .i64 ((v31.1.tmod 2) * 4)))) + (v60.1.tmod 4))) ∧ (Xaa .i64 ((Xaa .i64 ((Xaa .i64 (8 * (Xaa .i64 ((Xaa .i64 ((Xaa .i64 (v31.1.tdiv 2)) * 4)) + (Xaa .i64 (v60.1.tdiv 4)))))) + (Xaa .i64 ((v31.1.tmod 2) * 4)))) + (v60.1.tmod 4))) < v60.2.length) <|
 req ((Xaa .i64 ((Xaa .i64 ((Xaa .i64 (8 * (Xaa .i64 ((Xaa .i64 ((Xaa .i64 (v31.1.tdiv 2)) * 4)) + (Xaa .i64 (v60.1.tdiv 4)))))) + (Xaa .i64 ((v31.1.tmod 2) * 4)))) + (v60.1.tmod 4))).toNat < v60.2.length) <|
 some (.go (Xaa .i64 (v60.1 + 1), (v60.2.set ((Xaa .i64 ((Xaa .i64 ((Xaa .i64 (8 * (Xaa .i64 ((Xaa .i64 ((Xaa .i64 (v31.1.tdiv 2)) * 4)) + (Xaa .i64 (v60.1.tdiv 4)))))) + (Xaa .i64 ((v31.1.tmod 2) * 4)))) + (v60.1.tmod 4))).toNat) (q58.getD v60.1.toNat 0))))) (
 some (.done v60.2))
def Xc8 (p0 : (List Int)) (p1 : Xer) (v31 : (Int × (List Int))) : Option (Lp (Int × (List Int)) (List Int)) :=
 sel (decide (v31.1 < 4)) (
 req (0 ≤ (Xaa .i64 (16 * v31.1)) ∧ (Xaa .i64 (16 * v31.1)) ≤ (Xaa .i64 ((Xaa .i64 (16 * v31.1)) + 16)) ∧ (Xaa .i64 ((Xaa .i64 (16 * v31.1)) + 16)) ≤ (p0.length : Int)) <|
 bnd (Xfd 4 ((p0.drop (Xaa .i64 (16 * v31.1)).toNat).take ((Xaa .i64 ((Xaa .i64 (16 * v31.1)) + 16)).toNat - (Xaa .i64 (16 * v31.1)).toNat))) fun q49 =>
 bnd (loop (Xbh p1) (0, q49.1)) fun v55 =>
 bnd (Xlu v55) fun q58 =>
 bnd (loop (Xbn v31 q58) (0, v31.2)) fun v62 =>
 some (.go (Xaa .i64 (v31.1 + 1), v62))) (
 some (.done v31.2))
def Xfz (p0 : (List Int)) (p1 : Xer) : Option ((List Int) × Bool) :=
 bnd (
 bnd (Xm4 p1) fun q2 =>
 sel q2 (
 bnd (Xck p0 64 5000) fun q3 =>
 some (!q3)) (
 some true)) fun v1 =>
 sel v1 (
 some (([] : List Int), false)) (
 sel p1.Exact (
 bnd (Xfd 8 p0) fun q4 =>
 some (q4.1, q4.2)) (
 sel p1.Large (
 bnd (Xfd 8 p0) fun q5 =>
 bnd (loop (Xbj p1) (0, q5.1)) fun v11 =>
 bnd (Xjm v11) fun q14 =>
 some (q14, true)) (
 req (0 ≤ (64 : Int) ∧ (64 : Int) ≤ (64 : Int) ∧ (64 : Int) * 8 ≤ 281474976710656) <|
 bnd (loop (Xc8 p0 p1) (0, (List.replicate (64 : Int).toNat (0 : Int)))) fun v48 =>
 some (v48, true))))
def Xl6 (p0 : (List Int)) (v4 : Int) : Option (Lp Int (Ou Unit Bool)) :=
 sel (decide (v4 < (p0.length : Int))) (
 req (0 ≤ v4 ∧ v4 < p0.length) <|
 bnd (Xan (p0.getD v4.toNat 0) 0 255) fun q8 =>
 sel (!q8) (
 some (.done (.ret false))) (
 some (.go (Xaa .i64 (v4 + 1))))) (
 some (.done (.out ())))
def Xqs (p0 : (List Int)) : Option Bool :=
 bnd (
 sel ((p0.length : Int) != 0) (
 some ((p0.length : Int) != 8)) (
 some false)) fun v1 =>
 sel v1 (
 some false) (
 bnd (loop (Xl6 p0) 0) fun o9 => match o9 with
| .out v7 => (
 some true)
| .ret r => some r)
def Xqo (p0 : Xi8) : Option Bool :=
 bnd (
 bnd (Xqs p0.Above) fun q2 =>
 sel q2 (
 bnd (Xqs p0.Left) fun q3 =>
 sel q3 (
 bnd (Xan p0.Corner (-1) 255) fun q4 =>
 some q4) (
 some false)) (
 some false)) fun v1 =>
 some v1
def Xfg (p0 : (List Int)) (p1 : Int) : Option Int :=
 sel ((p0.length : Int) == 0) (
 some 128) (
 req (0 ≤ p1 ∧ p1 < p0.length) <|
 some (p0.getD p1.toNat 0))
def Xjs (p0 : Xi8) (v2 : (Int × Int)) : Option (Lp (Int × Int) Int) :=
 sel (decide (v2.2 < (p0.Above.length : Int))) (
 req (0 ≤ v2.2 ∧ v2.2 < p0.Above.length) <|
 some (.go (Xaa .i64 (v2.1 + (p0.Above.getD v2.2.toNat 0)), Xaa .i64 (v2.2 + 1)))) (
 some (.done v2.1))
def Xjt (p0 : Xi8) (v7 : (Int × Int)) : Option (Lp (Int × Int) Int) :=
 sel (decide (v7.2 < (p0.Left.length : Int))) (
 req (0 ≤ v7.2 ∧ v7.2 < p0.Left.length) <|
 some (.go (Xaa .i64 (v7.1 + (p0.Left.getD v7.2.toNat 0)), Xaa .i64 (v7.2 + 1)))) (
 some (.done v7.1))
def Xp7 (p0 : Xi8) : Option Int :=
 sel ((Xaa .i64 ((p0.Above.length : Int) + (p0.Left.length : Int))) == 0) (
 some 128) (
 req ((2 : Int) ≠ 0) <|
 bnd (loop (Xjs p0) (Xaa .i64 ((Xaa .i64 ((p0.Above.length : Int) + (p0.Left.length : Int))).tdiv 2), 0)) fun v4 =>
 bnd (loop (Xjt p0) (v4, 0)) fun v9 =>
 req ((Xaa .i64 ((p0.Above.length : Int) + (p0.Left.length : Int))) ≠ 0) <|
 some (Xaa .i64 (v9.tdiv (Xaa .i64 ((p0.Above.length : Int) + (p0.Left.length : Int))))))
def Xei (p0 : Int) (p1 : Xi8) (v4 : Int) (v11 : (Int × (List Int))) : Option (Lp (Int × (List Int)) (List Int)) :=
 sel (decide (v11.1 < 64)) (
 bnd (
 req ((8 : Int) ≠ 0) <|
 bnd (Xfg p1.Above (v11.1.tmod 8)) fun q20 =>
 req ((8 : Int) ≠ 0) <|
 bnd (Xfg p1.Left (Xaa .i64 (v11.1.tdiv 8))) fun q21 =>
 sel (p0 == 0) (
 bnd (Xp7 p1) fun q22 =>
 req ((v11.2.length + ([q22]).length) * 8 ≤ 140737488355328 ∧ v11.2.length + ([q22]).length ≤ maxLen) <|
 some (v11.2 ++ ([q22]))) (
 sel (p0 == 1) (
 req ((v11.2.length + ([q20]).length) * 8 ≤ 140737488355328 ∧ v11.2.length + ([q20]).length ≤ maxLen) <|
 some (v11.2 ++ ([q20]))) (
 sel (p0 == 2) (
 req ((v11.2.length + ([q21]).length) * 8 ≤ 140737488355328 ∧ v11.2.length + ([q21]).length ≤ maxLen) <|
 some (v11.2 ++ ([q21]))) (
 bnd (Xe5 (Xaa .i64 ((Xaa .i64 (q21 + q20)) - v4)) 0 255) fun q23 =>
 req ((v11.2.length + ([q23]).length) * 8 ≤ 140737488355328 ∧ v11.2.length + ([q23]).length ≤ maxLen) <|
 some (v11.2 ++ ([q23])))))) fun v19 =>
 some (.go (Xaa .i64 (v11.1 + 1), v19))) (
 some (.done v11.2))
def Xe6 (p0 : Int) (p1 : Xi8) : Option (List Int) :=
 bnd (
 bnd (Xqo p1) fun q2 =>
 sel q2 (
 bnd (Xan p0 0 3) fun q3 =>
 some (!q3)) (
 some true)) fun v1 =>
 sel v1 (
 some ([] : List Int)) (
 bnd (
 sel (decide (p1.Corner < 0)) (
 some 128) (
 some p1.Corner)) fun v4 =>
 bnd (loop (Xei p0 p1 v4) (0, ([] : List Int))) fun v18 =>
 some v18)
def Xem (p0 : (List Int)) (v3 : Int) : Option (Lp Int (Ou Unit Bool)) :=
 sel (decide (v3 < 64)) (
 req (0 ≤ v3 ∧ v3 < p0.length) <|
 bnd (Xan (p0.getD v3.toNat 0) 0 255) fun q7 =>
 sel (!q7) (
 some (.done (.ret false))) (
 some (.go (Xaa .i64 (v3 + 1))))) (
 some (.done (.out ())))
def Xga (p0 : (List Int)) : Option Bool :=
 sel ((p0.length : Int) != 64) (
 some false) (
 bnd (loop (Xem p0) 0) fun o8 => match o8 with
| .out v6 => (
 some true)
| .ret r => some r)
def Xhb (p0 : (List Int)) (p1 : (List Int)) (v6 : (Int × (List Int))) : Option (Lp (Int × (List Int)) (List Int)) :=
 sel (decide (v6.1 < 64)) (
 req (0 ≤ v6.1 ∧ v6.1 < p0.length) <|
 req (0 ≤ v6.1 ∧ v6.1 < p1.length) <|
 bnd (Xe5 (Xaa .i64 ((p0.getD v6.1.toNat 0) + (p1.getD v6.1.toNat 0))) 0 255) fun q10 =>
 req ((v6.2.length + ([q10]).length) * 8 ≤ 140737488355328 ∧ v6.2.length + ([q10]).length ≤ maxLen) <|
 some (.go (Xaa .i64 (v6.1 + 1), (v6.2 ++ ([q10]))))) (
 some (.done v6.2))
def Xm5 (p0 : (List Int)) (p1 : (List Int)) : Option (List Int) :=
 bnd (
 bnd (Xga p0) fun q2 =>
 sel q2 (
 bnd (Xck p1 64 10000000) fun q3 =>
 some (!q3)) (
 some true)) fun v1 =>
 sel v1 (
 some ([] : List Int)) (
 bnd (loop (Xhb p0 p1) (0, ([] : List Int))) fun v9 =>
 some v9)
def Xlt (p0 : Pic) (p1 : Int) (p2 : Int) (v7 : (Int × (List Int))) : Option (Lp (Int × (List Int)) (List Int)) :=
 sel (decide (v7.1 < 64)) (
 req ((8 : Int) ≠ 0) <|
 req ((8 : Int) ≠ 0) <|
 bnd (Xey p0 (Xaa .i64 (p1 + (v7.1.tmod 8))) (Xaa .i64 (p2 + (Xaa .i64 (v7.1.tdiv 8))))) fun q11 =>
 req ((v7.2.length + ([q11]).length) * 8 ≤ 140737488355328 ∧ v7.2.length + ([q11]).length ≤ maxLen) <|
 some (.go (Xaa .i64 (v7.1 + 1), (v7.2 ++ ([q11]))))) (
 some (.done v7.2))
def Xkv (p0 : Pic) (p1 : Int) (p2 : Int) : Option (List Int) :=
 bnd (
 bnd (Xf0 p0) fun q2 =>
 sel q2 (
 bnd (Xan p1 (-1000) 1000) fun q3 =>
 sel q3 (
 bnd (Xan p2 (-1000) 1000) fun q4 =>
 some (!q4)) (
 some true)) (
 some true)) fun v1 =>
 sel v1 (
 some ([] : List Int)) (
 bnd (loop (Xlt p0 p1 p2) (0, ([] : List Int))) fun v10 =>
 some v10)
def Xf2 (p0 : Pic) (p1 : Pic) (p2 : Int) (p3 : Int) (p4 : Xer) (p5 : Int) (p6 : Int) (p7 : Xam) : Option ((List Int) × Bool) :=
 bnd (
 bnd (Xkz p0 p5 p6) fun q2 =>
 sel q2 (
 bnd (Xan p2 0 256) fun q3 =>
 sel q3 (
 bnd (Xan p3 0 256) fun q4 =>
 sel q4 (
 bnd (Xtc p7) fun q5 =>
 sel q5 (
 bnd (Xm4 p4) fun q6 =>
 some (!q6)) (
 some true)) (
 some true)) (
 some true)) (
 some true)) fun v1 =>
 sel v1 (
 some (([] : List Int), false)) (
 sel (p7.Kind == 2) (
 bnd (Xie p0 p5 p6) fun q7 =>
 bnd (Xfz p7.Levels p4) fun q8 =>
 bnd (Xe6 p7.Mode q7.1) fun q9 =>
 bnd (Xm5 q9 q8.1) fun q10 =>
 some (q10, true)) (
 bnd (
 sel p4.Key (
 some true) (
 bnd (Xf0 p1) fun q12 =>
 some (!q12))) fun v11 =>
 sel v11 (
 some (([] : List Int), false)) (
 bnd (Xkv p1 (Xaa .i64 ((Xaa .i64 (p2 + p5)) + p7.Dx)) (Xaa .i64 ((Xaa .i64 (p3 + p6)) + p7.Dy))) fun q13 =>
 sel (p7.Kind == 0) (
 some (q13, true)) (
 bnd (Xfz p7.Levels p4) fun q14 =>
 bnd (Xm5 q13 q14.1) fun q15 =>
 some (q15, true)))))
def Xdf (p0 : Pic) (p1 : Int) (p2 : Int) (p3 : (List Int)) (v2 : (Int × (List Int))) : Option (Lp (Int × (List Int)) (List Int)) :=
 sel (decide (v2.1 < 64)) (
 req ((8 : Int) ≠ 0) <|
 req ((8 : Int) ≠ 0) <|
 req (0 ≤ v2.1 ∧ v2.1 < p3.length) <|
 req (0 ≤ (Xaa .i64 ((Xaa .i64 ((Xaa .i64 ((Xaa .i64 (p2 + (Xaa .i64 (v2.1.tdiv 8)))) * p0.Wide)) + p1)) + (v2.1.tmod 8))) ∧ (Xaa .i64 ((Xaa .i64 ((Xaa .i64 ((Xaa .i64 (p2 + (Xaa .i64 (v2.1.tdiv 8)))) * p0.Wide)) + p1)) + (v2.1.tmod 8))) < v2.2.length) <|
 req ((Xaa .i64 ((Xaa .i64 ((Xaa .i64 ((Xaa .i64 (p2 + (Xaa .i64 (v2.1.tdiv 8)))) * p0.Wide)) + p1)) + (v2.1.tmod 8))).toNat < v2.2.length) <|
 some (.go (Xaa .i64 (v2.1 + 1), (v2.2.set ((Xaa .i64 ((Xaa .i64 ((Xaa .i64 ((Xaa .i64 (p2 + (Xaa .i64 (v2.1.tdiv 8)))) * p0.Wide)) + p1)) + (v2.1.tmod 8))).toNat) (Xaa .u8 ((p3.getD v2.1.toNat 0))))))) (
 some (.done v2.2))
def Xgn (p0 : Pic) (p1 : Int) (p2 : Int) (p3 : (List Int)) : Option Pic :=
 req (p0.Dots.size ≤ maxLen) <|
 bnd (loop (Xdf p0 p1 p2 p3) (0, (Xa6 p0.Dots))) fun v4 =>
 some (⟨p0.Wide, p0.High, (strOfNums v4)⟩ : Pic)
def Yeb (p0 : Seq) : Option Seq :=
 req ((([] : List Int).length + p0.Cols.length) * 8 ≤ 140737488355328 ∧ ([] : List Int).length + p0.Cols.length ≤ maxLen) <|
 req ((([] : List Int).length + p0.Rows.length) * 8 ≤ 140737488355328 ∧ ([] : List Int).length + p0.Rows.length ≤ maxLen) <|
 some (⟨p0.Level, p0.Bits, (([] : List Int) ++ p0.Cols), (([] : List Int) ++ p0.Rows)⟩ : Seq)
def Xl1 (v2 : (Int × ByteArray)) : Option (Lp (Int × ByteArray) ByteArray) :=
 sel (decide (v2.1 > 0)) (
 req ((2 : Int) ≠ 0) <|
 req ((strOfNums ([Xaa .u8 (Xaa .i64 (48 + (v2.1.tmod 2)))])).size + v2.2.size ≤ 9223372036854775807) <|
 req ((2 : Int) ≠ 0) <|
 some (.go (Xaa .i64 (v2.1.tdiv 2), ((strOfNums ([Xaa .u8 (Xaa .i64 (48 + (v2.1.tmod 2)))])) ++ v2.2)))) (
 some (.done v2.2))
def Xse (p0 : Int) : Option ByteArray :=
 bnd (loop (Xl1) (Xaa .i64 (p0 + 1), ⟨#[]⟩)) fun v4 =>
 bnd (Xu4 (Xaa .i64 ((v4.size : Int) - 1)) 48) fun q6 =>
 req (q6.size + v4.size ≤ 9223372036854775807) <|
 some (q6 ++ v4)
def Xys (p0 : Int) : Option (Int × Bool) :=
 bnd (Xan p0 (-500000) 500000) fun q1 =>
 sel (!q1) (
 some (0, false)) (
 sel (decide (p0 > 0)) (
 some (Xaa .i64 ((Xaa .i64 (2 * p0)) - 1), true)) (
 some (Xaa .i64 ((-2) * p0), true)))
def Yde (p0 : Int) : Option ByteArray :=
 bnd (Xys p0) fun q1 =>
 bnd (Xse q1.1) fun q2 =>
 some q2
def Xqu (p0 : Pic) (p1 : Pic) : Option Bool :=
 bnd (
 bnd (Xf0 p0) fun q2 =>
 sel q2 (
 bnd (Xf0 p1) fun q3 =>
 sel q3 (
 sel (p0.Wide == p1.Wide) (
 some (p0.High == p1.High)) (
 some false)) (
 some false)) (
 some false)) fun v1 =>
 some v1
def Xp8 (p0 : (List Int)) (p1 : (List Int)) (v2 : (Int × (List Int))) : Option (Lp (Int × (List Int)) (List Int)) :=
 sel (decide (v2.1 < 64)) (
 req (0 ≤ v2.1 ∧ v2.1 < p0.length) <|
 req (0 ≤ v2.1 ∧ v2.1 < p1.length) <|
 req ((v2.2.length + ([Xaa .i64 ((p0.getD v2.1.toNat 0) - (p1.getD v2.1.toNat 0))]).length) * 8 ≤ 140737488355328 ∧ v2.2.length + ([Xaa .i64 ((p0.getD v2.1.toNat 0) - (p1.getD v2.1.toNat 0))]).length ≤ maxLen) <|
 some (.go (Xaa .i64 (v2.1 + 1), (v2.2 ++ ([Xaa .i64 ((p0.getD v2.1.toNat 0) - (p1.getD v2.1.toNat 0))]))))) (
 some (.done v2.2))
def Xoc (p0 : (List Int)) (p1 : (List Int)) : Option (List Int) :=
 bnd (loop (Xp8 p0 p1) (0, ([] : List Int))) fun v4 =>
 some v4
def Xma (p0 : (List Int)) (v2 : Int) : Option (Lp Int (Ou Unit Bool)) :=
 sel (decide (v2 < (p0.length : Int))) (
 req (0 ≤ v2 ∧ v2 < p0.length) <|
 sel ((p0.getD v2.toNat 0) != 0) (
 some (.done (.ret false))) (
 some (.go (Xaa .i64 (v2 + 1))))) (
 some (.done (.out ())))
def Xqv (p0 : (List Int)) : Option Bool :=
 bnd (loop (Xma p0) 0) fun o5 => match o5 with
| .out v4 => (
 some true)
| .ret r => some r
def Xgm (p0 : Int) : Option Int :=
 sel (decide (p0 < 0)) (
 some (Xaa .i64 (0 - p0))) (
 some p0)
def Xpa (p0 : (List Int)) (p1 : (List Int)) (v6 : (Int × Int)) : Option (Lp (Int × Int) Int) :=
 sel (decide (v6.2 < 64)) (
 req (0 ≤ v6.2 ∧ v6.2 < p0.length) <|
 req (0 ≤ v6.2 ∧ v6.2 < p1.length) <|
 bnd (Xgm (Xaa .i64 ((p0.getD v6.2.toNat 0) - (p1.getD v6.2.toNat 0)))) fun q10 =>
 some (.go (Xaa .i64 (v6.1 + q10), Xaa .i64 (v6.2 + 1)))) (
 some (.done v6.1))
def Xv0 (p0 : (List Int)) (p1 : (List Int)) : Option Int :=
 bnd (
 bnd (Xck p0 64 1000) fun q2 =>
 sel q2 (
 bnd (Xck p1 64 1000) fun q3 =>
 some (!q3)) (
 some true)) fun v1 =>
 sel v1 (
 some (-1)) (
 bnd (loop (Xpa p0 p1) (0, 0)) fun v9 =>
 some v9)
def Ydb (p0 : Int) : Option (ByteArray × Bool) :=
 bnd (Xan p0 0 1000000) fun q1 =>
 sel (!q1) (
 some (⟨#[]⟩, false)) (
 bnd (Xse p0) fun q2 =>
 some (q2, true))
def Xm9 (p0 : Int) : Option Int :=
 bnd (Ydb p0) fun q1 =>
 some (q1.1.size : Int)
def Xd8 (p0 : (List Int)) (p1 : Xi8) (v16 : (Int × Int × Int)) : Option (Lp (Int × Int × Int) (Int × Int)) :=
 sel (decide (v16.2.2 < 4)) (
 bnd (
 bnd (Xe6 v16.2.2 p1) fun q25 =>
 bnd (Xv0 p0 q25) fun q26 =>
 bnd (Xm9 v16.2.2) fun q27 =>
 bnd (
 sel (decide (v16.2.1 < 0)) (
 some true) (
 some (decide ((Xaa .i64 (q26 + q27)) < v16.2.1)))) fun v28 =>
 sel v28 (
 some (v16.2.2, Xaa .i64 (q26 + q27))) (
 some (v16.1, v16.2.1))) fun v24 =>
 some (.go (v24.1, v24.2, Xaa .i64 (v16.2.2 + 1)))) (
 some (.done (v16.1, v16.2.1)))
def Xjk (p0 : (List Int)) (p1 : Xi8) : Option (Int × Int) :=
 bnd (
 bnd (Xqo p1) fun q2 =>
 sel q2 (
 bnd (Xga p0) fun q3 =>
 some (!q3)) (
 some true)) fun v1 =>
 sel v1 (
 some (0, (-1))) (
 bnd (loop (Xd8 p0 p1) (0, (-1), 0)) fun v23 =>
 some (v23.1, v23.2))
def Ym4 (p0 : Int) : Option (ByteArray × Bool) :=
 bnd (Xan p0 (-500000) 500000) fun q1 =>
 sel (!q1) (
 some (⟨#[]⟩, false)) (
 bnd (Yde p0) fun q2 =>
 some (q2, true))
def Xs9 (p0 : Int) : Option Int :=
 bnd (Ym4 p0) fun q1 =>
 some (q1.1.size : Int)
def Xm3 (p0 : Pic) (p1 : (List Int)) (p2 : Int) (p3 : Int) (p4 : Int) (v32 : (Int × Int × Int × Int)) (v69 : (Int × Int × Int × Int)) : Option (Lp (Int × Int × Int × Int) (Int × Int × Int)) :=
 sel (decide (v69.2.2.2 ≤ p4)) (
 bnd (
 bnd (Xnt p0 (Xaa .i64 (p2 + v69.2.2.2)) (Xaa .i64 (p3 + v32.2.2.2)) 8 8) fun q80 =>
 sel (!q80) (
 some (v69.1, v69.2.1, v69.2.2.1)) (
 bnd (Xkv p0 (Xaa .i64 (p2 + v69.2.2.2)) (Xaa .i64 (p3 + v32.2.2.2))) fun q81 =>
 bnd (Xv0 p1 q81) fun q82 =>
 bnd (Xs9 v69.2.2.2) fun q83 =>
 bnd (Xs9 v32.2.2.2) fun q84 =>
 bnd (
 sel (decide (v69.2.2.1 < 0)) (
 some true) (
 some (decide ((Xaa .i64 ((Xaa .i64 (q82 + q83)) + q84)) < v69.2.2.1)))) fun v85 =>
 sel v85 (
 some (v69.2.2.2, v32.2.2.2, Xaa .i64 ((Xaa .i64 (q82 + q83)) + q84))) (
 some (v69.1, v69.2.1, v69.2.2.1)))) fun v79 =>
 some (.go (v79.1, v79.2.1, v79.2.2, Xaa .i64 (v69.2.2.2 + 1)))) (
 some (.done (v69.1, v69.2.1, v69.2.2.1)))
def Xm2 (p0 : Pic) (p1 : (List Int)) (p2 : Int) (p3 : Int) (p4 : Int) (v32 : (Int × Int × Int × Int)) : Option (Lp (Int × Int × Int × Int) (Int × Int × Int)) :=
 sel (decide (v32.2.2.2 ≤ p4)) (
 bnd (loop (Xm3 p0 p1 p2 p3 p4 v32) (v32.1, v32.2.1, v32.2.2.1, Xaa .i64 (0 - p4))) fun v78 =>
 some (.go (v78.1, v78.2.1, v78.2.2, Xaa .i64 (v32.2.2.2 + 1)))) (
 some (.done (v32.1, v32.2.1, v32.2.2.1)))
def Xo8 (p0 : Pic) (p1 : (List Int)) (p2 : Int) (p3 : Int) (p4 : Int) : Option (Int × Int × Int) :=
 bnd (
 bnd (Xga p1) fun q2 =>
 sel q2 (
 bnd (Xan p4 0 4) fun q3 =>
 sel q3 (
 bnd (Xkz p0 p2 p3) fun q4 =>
 some (!q4)) (
 some true)) (
 some true)) fun v1 =>
 sel v1 (
 some (0, 0, (-1))) (
 bnd (loop (Xm2 p0 p1 p2 p3 p4) (0, 0, (-1), Xaa .i64 (0 - p4))) fun v60 =>
 some (v60.1, v60.2.1, v60.2.2))
def Xej (p0 : Int) (p1 : (List Int)) (v4 : (Int × (List Int))) : Option (Lp (Int × (List Int)) (List Int)) :=
 sel (decide (v4.1 < (Xaa .i64 (p0 * p0)))) (
 bnd (Xs8 p0 v4.1) fun q8 =>
 req (0 ≤ q8 ∧ q8 < p1.length) <|
 req ((v4.2.length + ([(p1.getD q8.toNat 0)]).length) * 8 ≤ 140737488355328 ∧ v4.2.length + ([(p1.getD q8.toNat 0)]).length ≤ maxLen) <|
 some (.go (Xaa .i64 (v4.1 + 1), (v4.2 ++ ([(p1.getD q8.toNat 0)]))))) (
 some (.done v4.2))
def Xig (p0 : Int) (p1 : (List Int)) : Option ((List Int) × Bool) :=
 bnd (
 sel (p0 != 4) (
 sel (p0 != 8) (
 some true) (
 some ((p1.length : Int) != (Xaa .i64 (p0 * p0))))) (
 some ((p1.length : Int) != (Xaa .i64 (p0 * p0))))) fun v1 =>
 sel v1 (
 some (([] : List Int), false)) (
 bnd (loop (Xej p0 p1) (0, ([] : List Int))) fun v7 =>
 some (v7, true))
def Xr8 (p0 : (List Int)) : Option (List Int) :=
 bnd (Xck p0 64 1000) fun q1 =>
 sel (!q1) (
 some ([] : List Int)) (
 bnd (Xky p0) fun q2 =>
 some q2)
def Xjr (p0 : Int) (p1 : Int) : Option Int :=
 sel (decide (p0 < 0)) (
 some (Xaa .i64 (0 - p1))) (
 some p1)
def Xif (p0 : Int) (p1 : Int) : Option Int :=
 bnd (
 bnd (Xan p0 (-20000) 20000) fun q2 =>
 sel q2 (
 bnd (Xan p1 0 40) fun q3 =>
 some (!q3)) (
 some true)) fun v1 =>
 sel v1 (
 some 0) (
 bnd (Xkb p1) fun q4 =>
 bnd (Xgm p0) fun q5 =>
 req ((2 : Int) ≠ 0) <|
 req (q4 ≠ 0) <|
 bnd (Xjr p0 (Xaa .i64 ((Xaa .i64 (q5 + (Xaa .i64 (q4.tdiv 2)))).tdiv q4))) fun q6 =>
 some q6)
def Xcb (p0 : (List Int)) (p1 : Int) (v2 : (Int × (List Int))) : Option (Lp (Int × (List Int)) (List Int)) :=
 sel (decide (v2.1 < 16)) (
 req ((2 : Int) ≠ 0) <|
 req ((4 : Int) ≠ 0) <|
 req ((2 : Int) ≠ 0) <|
 req ((4 : Int) ≠ 0) <|
 req (0 ≤ (Xaa .i64 ((Xaa .i64 ((Xaa .i64 (8 * (Xaa .i64 ((Xaa .i64 ((Xaa .i64 (p1.tdiv 2)) * 4)) + (Xaa .i64 (v2.1.tdiv 4)))))) + (Xaa .i64 ((p1.tmod 2) * 4)))) + (v2.1.tmod 4))) ∧ (Xaa .i64 ((Xaa .i64 ((Xaa .i64 (8 * (Xaa .i64 ((Xaa .i64 ((Xaa .i64 (p1.tdiv 2)) * 4)) + (Xaa .i64 (v2.1.tdiv 4)))))) + (Xaa .i64 ((p1.tmod 2) * 4)))) + (v2.1.tmod 4))) < p0.length) <|
 req ((v2.2.length + ([(p0.getD (Xaa .i64 ((Xaa .i64 ((Xaa .i64 (8 * (Xaa .i64 ((Xaa .i64 ((Xaa .i64 (p1.tdiv 2)) * 4)) + (Xaa .i64 (v2.1.tdiv 4)))))) + (Xaa .i64 ((p1.tmod 2) * 4)))) + (v2.1.tmod 4))).toNat 0)]).length) * 8 ≤ 140737488355328 ∧ v2.2.length + ([(p0.getD (Xaa .i64 ((Xaa .i64 ((Xaa .i64 (8 * (Xaa .i64 ((Xaa .i64 ((Xaa .i64 (p1.tdiv 2)) * 4)) + (Xaa .i64 (v2.1.tdiv 4)))))) + (Xaa .i64 ((p1.tmod 2) * 4)))) + (v2.1.tmod 4))).toNat 0)]).length ≤ maxLen) <|
 some (.go (Xaa .i64 (v2.1 + 1), (v2.2 ++ ([(p0.getD (Xaa .i64 ((Xaa .i64 ((Xaa .i64 (8 * (Xaa .i64 ((Xaa .i64 ((Xaa .i64 (p1.tdiv 2)) * 4)) + (Xaa .i64 (v2.1.tdiv 4)))))) + (Xaa .i64 ((p1.tmod 2) * 4)))) + (v2.1.tmod 4))).toNat 0)]))))) (
 some (.done v2.2))
def Xij (p0 : (List Int)) (p1 : Int) : Option (List Int) :=
 bnd (loop (Xcb p0 p1) (0, ([] : List Int))) fun v4 =>
 some v4
def Xel (p0 : (List Int)) (v2 : (Int × (List Int))) : Option (Lp (Int × (List Int)) (List Int)) :=
 sel (decide (v2.1 < 4)) (
 req (0 ≤ (Xaa .i64 (4 * v2.1)) ∧ (Xaa .i64 (4 * v2.1)) < p0.length) <|
 req (0 ≤ (Xaa .i64 ((Xaa .i64 (4 * v2.1)) + 1)) ∧ (Xaa .i64 ((Xaa .i64 (4 * v2.1)) + 1)) < p0.length) <|
 req (0 ≤ (Xaa .i64 ((Xaa .i64 (4 * v2.1)) + 2)) ∧ (Xaa .i64 ((Xaa .i64 (4 * v2.1)) + 2)) < p0.length) <|
 req (0 ≤ (Xaa .i64 ((Xaa .i64 (4 * v2.1)) + 3)) ∧ (Xaa .i64 ((Xaa .i64 (4 * v2.1)) + 3)) < p0.length) <|
 req ((v2.2.length + ([Xaa .i64 ((Xaa .i64 ((Xaa .i64 ((p0.getD (Xaa .i64 (4 * v2.1)).toNat 0) + (p0.getD (Xaa .i64 ((Xaa .i64 (4 * v2.1)) + 1)).toNat 0))) + (p0.getD (Xaa .i64 ((Xaa .i64 (4 * v2.1)) + 2)).toNat 0))) + (p0.getD (Xaa .i64 ((Xaa .i64 (4 * v2.1)) + 3)).toNat 0)), Xaa .i64 ((Xaa .i64 ((Xaa .i64 ((Xaa .i64 (2 * (p0.getD (Xaa .i64 (4 * v2.1)).toNat 0))) + (p0.getD (Xaa .i64 ((Xaa .i64 (4 * v2.1)) + 1)).toNat 0))) - (p0.getD (Xaa .i64 ((Xaa .i64 (4 * v2.1)) + 2)).toNat 0))) - (Xaa .i64 (2 * (p0.getD (Xaa .i64 ((Xaa .i64 (4 * v2.1)) + 3)).toNat 0)))), Xaa .i64 ((Xaa .i64 ((Xaa .i64 ((p0.getD (Xaa .i64 (4 * v2.1)).toNat 0) - (p0.getD (Xaa .i64 ((Xaa .i64 (4 * v2.1)) + 1)).toNat 0))) - (p0.getD (Xaa .i64 ((Xaa .i64 (4 * v2.1)) + 2)).toNat 0))) + (p0.getD (Xaa .i64 ((Xaa .i64 (4 * v2.1)) + 3)).toNat 0)), Xaa .i64 ((Xaa .i64 ((Xaa .i64 ((p0.getD (Xaa .i64 (4 * v2.1)).toNat 0) - (Xaa .i64 (2 * (p0.getD (Xaa .i64 ((Xaa .i64 (4 * v2.1)) + 1)).toNat 0))))) + (Xaa .i64 (2 * (p0.getD (Xaa .i64 ((Xaa .i64 (4 * v2.1)) + 2)).toNat 0))))) - (p0.getD (Xaa .i64 ((Xaa .i64 (4 * v2.1)) + 3)).toNat 0))]).length) * 8 ≤ 140737488355328 ∧ v2.2.length + ([Xaa .i64 ((Xaa .i64 ((Xaa .i64 ((p0.getD (Xaa .i64 (4 * v2.1)).toNat 0) + (p0.getD (Xaa .i64 ((Xaa .i64 (4 * v2.1)) + 1)).toNat 0))) + (p0.getD (Xaa .i64 ((Xaa .i64 (4 * v2.1)) + 2)).toNat 0))) + (p0.getD (Xaa .i64 ((Xaa .i64 (4 * v2.1)) + 3)).toNat 0)), Xaa .i64 ((Xaa .i64 ((Xaa .i64 ((Xaa .i64 (2 * (p0.getD (Xaa .i64 (4 * v2.1)).toNat 0))) + (p0.getD (Xaa .i64 ((Xaa .i64 (4 * v2.1)) + 1)).toNat 0))) - (p0.getD (Xaa .i64 ((Xaa .i64 (4 * v2.1)) + 2)).toNat 0))) - (Xaa .i64 (2 * (p0.getD (Xaa .i64 ((Xaa .i64 (4 * v2.1)) + 3)).toNat 0)))), Xaa .i64 ((Xaa .i64 ((Xaa .i64 ((p0.getD (Xaa .i64 (4 * v2.1)).toNat 0) - (p0.getD (Xaa .i64 ((Xaa .i64 (4 * v2.1)) + 1)).toNat 0))) - (p0.getD (Xaa .i64 ((Xaa .i64 (4 * v2.1)) + 2)).toNat 0))) + (p0.getD (Xaa .i64 ((Xaa .i64 (4 * v2.1)) + 3)).toNat 0)), Xaa .i64 ((Xaa .i64 ((Xaa .i64 ((p0.getD (Xaa .i64 (4 * v2.1)).toNat 0) - (Xaa .i64 (2 * (p0.getD (Xaa .i64 ((Xaa .i64 (4 * v2.1)) + 1)).toNat 0))))) + (Xaa .i64 (2 * (p0.getD (Xaa .i64 ((Xaa .i64 (4 * v2.1)) + 2)).toNat 0))))) - (p0.getD (Xaa .i64 ((Xaa .i64 (4 * v2.1)) + 3)).toNat 0))]).length ≤ maxLen) <|
 some (.go (Xaa .i64 (v2.1 + 1), (v2.2 ++ ([Xaa .i64 ((Xaa .i64 ((Xaa .i64 ((p0.getD (Xaa .i64 (4 * v2.1)).toNat 0) + (p0.getD (Xaa .i64 ((Xaa .i64 (4 * v2.1)) + 1)).toNat 0))) + (p0.getD (Xaa .i64 ((Xaa .i64 (4 * v2.1)) + 2)).toNat 0))) + (p0.getD (Xaa .i64 ((Xaa .i64 (4 * v2.1)) + 3)).toNat 0)), Xaa .i64 ((Xaa .i64 ((Xaa .i64 ((Xaa .i64 (2 * (p0.getD (Xaa .i64 (4 * v2.1)).toNat 0))) + (p0.getD (Xaa .i64 ((Xaa .i64 (4 * v2.1)) + 1)).toNat 0))) - (p0.getD (Xaa .i64 ((Xaa .i64 (4 * v2.1)) + 2)).toNat 0))) - (Xaa .i64 (2 * (p0.getD (Xaa .i64 ((Xaa .i64 (4 * v2.1)) + 3)).toNat 0)))), Xaa .i64 ((Xaa .i64 ((Xaa .i64 ((p0.getD (Xaa .i64 (4 * v2.1)).toNat 0) - (p0.getD (Xaa .i64 ((Xaa .i64 (4 * v2.1)) + 1)).toNat 0))) - (p0.getD (Xaa .i64 ((Xaa .i64 (4 * v2.1)) + 2)).toNat 0))) + (p0.getD (Xaa .i64 ((Xaa .i64 (4 * v2.1)) + 3)).toNat 0)), Xaa .i64 ((Xaa .i64 ((Xaa .i64 ((p0.getD (Xaa .i64 (4 * v2.1)).toNat 0) - (Xaa .i64 (2 * (p0.getD (Xaa .i64 ((Xaa .i64 (4 * v2.1)) + 1)).toNat 0))))) + (Xaa .i64 (2 * (p0.getD (Xaa .i64 ((Xaa .i64 (4 * v2.1)) + 2)).toNat 0))))) - (p0.getD (Xaa .i64 ((Xaa .i64 (4 * v2.1)) + 3)).toNat 0))]))))) (
 some (.done v2.2))
def Xkx (p0 : (List Int)) : Option (List Int) :=
 bnd (loop (Xel p0) (0, ([] : List Int))) fun v4 =>
 some v4
def Xuz (p0 : (List Int)) : Option (List Int) :=
 bnd (Xck p0 16 1000) fun q1 =>
 sel (!q1) (
 some ([] : List Int)) (
 bnd (Xkx p0) fun q2 =>
 bnd (Xf9 q2) fun q3 =>
 bnd (Xkx q3) fun q4 =>
 bnd (Xf9 q4) fun q5 =>
 some q5)
def Xoa (p0 : Int) (p1 : Int) : Option Int :=
 bnd (Xp2 p1) fun q1 =>
 bnd (
 bnd (Xan p0 0 40) fun q3 =>
 sel q3 (
 some (decide (q1 < 0))) (
 some true)) fun v2 =>
 sel v2 (
 some 0) (
 req ((6 : Int) ≠ 0) <|
 sel ((p0.tmod 6) == 0) (
 bnd (Xbe q1 13107 5243 8066) fun q4 =>
 some q4) (
 sel ((p0.tmod 6) == 1) (
 bnd (Xbe q1 11916 4660 7490) fun q5 =>
 some q5) (
 sel ((p0.tmod 6) == 2) (
 bnd (Xbe q1 10082 4194 6554) fun q6 =>
 some q6) (
 sel ((p0.tmod 6) == 3) (
 bnd (Xbe q1 9362 3647 5825) fun q7 =>
 some q7) (
 sel ((p0.tmod 6) == 4) (
 bnd (Xbe q1 8192 3355 5243) fun q8 =>
 some q8) (
 bnd (Xbe q1 7282 2893 4559) fun q9 =>
 some q9))))))
def Xih (p0 : Int) (p1 : Int) (p2 : Int) : Option Int :=
 bnd (
 bnd (Xan p0 (-20000) 20000) fun q2 =>
 sel q2 (
 bnd (Xan p1 0 40) fun q3 =>
 sel q3 (
 bnd (Xan p2 0 15) fun q4 =>
 some (!q4)) (
 some true)) (
 some true)) fun v1 =>
 sel v1 (
 some 0) (
 req ((6 : Int) ≠ 0) <|
 req (0 ≤ (Xaa .u64 (Xaa .i64 (15 + (Xaa .i64 (p1.tdiv 6)))))) <|
 bnd (Xgm p0) fun q5 =>
 bnd (Xoa p1 p2) fun q6 =>
 req ((3 : Int) ≠ 0) <|
 req ((Xaa .i64 (1 * 2 ^ min (Xaa .u64 (Xaa .i64 (15 + (Xaa .i64 (p1.tdiv 6))))).toNat (IntKind.bits .i64))) ≠ 0) <|
 bnd (Xjr p0 (Xaa .i64 ((Xaa .i64 ((Xaa .i64 (q5 * q6)) + (Xaa .i64 ((Xaa .i64 (1 * 2 ^ min (Xaa .u64 (Xaa .i64 (15 + (Xaa .i64 (p1.tdiv 6))))).toNat (IntKind.bits .i64))).tdiv 3)))).tdiv (Xaa .i64 (1 * 2 ^ min (Xaa .u64 (Xaa .i64 (15 + (Xaa .i64 (p1.tdiv 6))))).toNat (IntKind.bits .i64)))))) fun q7 =>
 some q7)
def Xch (p1 : Xer) (v8 : (Int × (List Int))) : Option (Lp (Int × (List Int)) (List Int)) :=
 sel (decide (v8.1 < 64)) (
 req (0 ≤ v8.1 ∧ v8.1 < v8.2.length) <|
 req (v8.1.toNat < v8.2.length) <|
 bnd (Xif (v8.2.getD v8.1.toNat 0) p1.Qp) fun q12 =>
 req (0 ≤ v8.1 ∧ v8.1 < v8.2.length) <|
 req (v8.1.toNat < v8.2.length) <|
 some (.go (Xaa .i64 (v8.1 + 1), (v8.2.set v8.1.toNat q12)))) (
 some (.done v8.2))
def Xb7 (p1 : Xer) (v45 : (Int × (List Int))) : Option (Lp (Int × (List Int)) (List Int)) :=
 sel (decide (v45.1 < 16)) (
 req (0 ≤ v45.1 ∧ v45.1 < v45.2.length) <|
 req (v45.1.toNat < v45.2.length) <|
 bnd (Xih (v45.2.getD v45.1.toNat 0) p1.Qp v45.1) fun q49 =>
 req (0 ≤ v45.1 ∧ v45.1 < v45.2.length) <|
 req (v45.1.toNat < v45.2.length) <|
 some (.go (Xaa .i64 (v45.1 + 1), (v45.2.set v45.1.toNat q49)))) (
 some (.done v45.2))
def Xd9 (p0 : (List Int)) (p1 : Xer) (v27 : (Int × (List Int))) : Option (Lp (Int × (List Int)) (List Int)) :=
 sel (decide (v27.1 < 4)) (
 bnd (Xij p0 v27.1) fun q41 =>
 bnd (Xuz q41) fun q42 =>
 bnd (loop (Xb7 p1) (0, q42)) fun v48 =>
 bnd (Xig 4 v48) fun q51 =>
 req ((v27.2.length + q51.1.length) * 8 ≤ 140737488355328 ∧ v27.2.length + q51.1.length ≤ maxLen) <|
 some (.go (Xaa .i64 (v27.1 + 1), (v27.2 ++ q51.1)))) (
 some (.done v27.2))
def Xdx (p0 : (List Int)) (p1 : Xer) : Option ((List Int) × Bool) :=
 bnd (
 bnd (Xm4 p1) fun q2 =>
 sel q2 (
 bnd (Xck p0 64 255) fun q3 =>
 some (!q3)) (
 some true)) fun v1 =>
 sel v1 (
 some (([] : List Int), false)) (
 sel p1.Exact (
 bnd (Xig 8 p0) fun q4 =>
 some (q4.1, q4.2)) (
 sel p1.Large (
 bnd (Xr8 p0) fun q5 =>
 bnd (loop (Xch p1) (0, q5)) fun v11 =>
 bnd (Xig 8 v11) fun q14 =>
 some (q14.1, q14.2)) (
 bnd (loop (Xd9 p0 p1) (0, ([] : List Int))) fun v40 =>
 some (v40, true))))
def Xq9 (p0 : Pic) (p1 : Pic) (p2 : (List Int)) (p3 : Int) (p4 : Int) (p5 : Xer) (p6 : Int) : Option Xam :=
 bnd (
 sel p5.Key (
 some false) (
 bnd (Xkv p1 p3 p4) fun q2 =>
 bnd (Xoc p2 q2) fun q3 =>
 bnd (Xqv q3) fun q4 =>
 some q4)) fun v1 =>
 sel v1 (
 some (⟨0, 0, 0, 0, []⟩ : Xam)) (
 bnd (Xie p0 p3 p4) fun q5 =>
 bnd (Xjk p2 q5.1) fun q6 =>
 Yqv (fun (v7 : Unit) =>
 bnd (Xe6 q6.1 q5.1) fun q14 =>
 bnd (Xoc p2 q14) fun q15 =>
 bnd (Xdx q15 p5) fun q16 =>
 some (⟨2, q6.1, 0, 0, q16.1⟩ : Xam)) fun j1 =>
 sel (!p5.Key) (
 bnd (Xo8 p1 p2 p3 p4 p6) fun q8 =>
 sel (decide (q8.2.2 ≤ q6.2)) (
 bnd (Xkv p1 (Xaa .i64 (p3 + q8.1)) (Xaa .i64 (p4 + q8.2.1))) fun q9 =>
 bnd (Xoc p2 q9) fun q10 =>
 bnd (Xdx q10 p5) fun q11 =>
 bnd (
 sel (q8.1 == 0) (
 sel (q8.2.1 == 0) (
 bnd (Xqv q11.1) fun q13 =>
 some q13) (
 some false)) (
 some false)) fun v12 =>
 sel v12 (
 some (⟨0, 0, 0, 0, []⟩ : Xam)) (
 some (⟨1, 0, q8.1, q8.2.1, q11.1⟩ : Xam))) (
 j1 ())) (
 j1 ()))
def Xno (p0 : Pic) (p1 : Pic) (p2 : (List Int)) (p3 : Int) (p4 : Int) (p5 : Xer) (p6 : Int) : Option (Xam × (List Int) × Bool) :=
 bnd (
 bnd (Xkz p0 p3 p4) fun q2 =>
 sel q2 (
 bnd (Xga p2) fun q3 =>
 sel q3 (
 bnd (Xm4 p5) fun q4 =>
 sel q4 (
 bnd (Xan p6 0 4) fun q5 =>
 sel q5 (
 sel p5.Key (
 some false) (
 bnd (Xqu p0 p1) fun q6 =>
 some (!q6))) (
 some true)) (
 some true)) (
 some true)) (
 some true)) fun v1 =>
 sel v1 (
 some ((⟨0, 0, 0, 0, []⟩ : Xam), ([] : List Int), false)) (
 bnd (Xq9 p0 p1 p2 p3 p4 p5 p6) fun q7 =>
 bnd (Xf2 p0 p1 0 0 p5 p3 p4 q7) fun q8 =>
 some (q7, q8.1, true))
end
theorem Xab {α β : Type} (a : α) (f : α → Option β) : bnd (some a) f = f a := rfl
theorem Xgb {α β : Type} {x : Option α} {a : α} {f : α → Option β} (h : x = some a) : bnd x f = f a := by subst h; rfl
theorem Xau {β : Type} (x y : β) : sel true x y = x := rfl
theorem Xao {β : Type} (x y : β) : sel false x y = y := rfl
theorem Xt2 {β : Type} (b : Bool) (x y : β) : sel (!b) x y = sel b y x := by cases b <;> rfl
theorem Xdi (b x : Bool) : sel b (some x) (some false) = some (b && x) := by cases b <;> rfl
theorem Yd9 (b x : Bool) : sel b (some true) (some x) = some (b || x) := by cases b <;> rfl
theorem Xs6 (b x : Bool) : sel b (some x) (some true) = some (!b || x) := by cases b <;> rfl
theorem Yub {β : Type} (b : Bool) (x y : β) : sel b (some x) (some y) = some (sel b x y) := by cases b <;> rfl
theorem Yjs {β : Type} (b : Bool) (x y : β) : sel b x y = if b = true then x else y := by cases b <;> rfl
theorem Ysv {β : Type} (p : Prop) [Decidable p] (x y : β) : sel (decide p) x y = if p then x else y := by
 by_cases h : p <;> simp [h, sel]
theorem Xbw {β : Type} {b : Bool} {x y : β} (h : b = true) : sel b x y = x := by subst h; rfl
theorem Xbi {β : Type} {b : Bool} {x y : β} (h : b = false) : sel b x y = y := by subst h; rfl
theorem Xbk {β : Type} {p : Prop} [Decidable p] {x y : β} (h : p) : sel (decide p) x y = x := by simp [h, sel]
theorem Xar {β : Type} {p : Prop} [Decidable p] {x y : β} (h : ¬ p) : sel (decide p) x y = y := by simp [h, sel]
theorem Xa2 {β : Type} {c : Prop} [Decidable c] {k : Option β} (h : c) : req c k = k := if_pos h
theorem wk {e : Int} (h1 : -9223372036854775808 ≤ e) (h2 : e ≤ 9223372036854775807) : Xaa .i64 e = e := by
 show wrap64 e = e
 unfold wrap64; omega
theorem rqA {β : Type} {c : Prop} [Decidable c] {k : Option β} (h : c := by omega) : req c k = k := Xa2 h
theorem syA {β : Type} {c : Prop} [Decidable c] {x y : β} (h : c := by omega) : sel (decide c) x y = x := Xbk h
theorem snA {β : Type} {c : Prop} [Decidable c] {x y : β} (h : ¬ c := by omega) : sel (decide c) x y = y := Xar h
theorem wkA {e : Int} (h1 : -9223372036854775808 ≤ e := by omega) (h2 : e ≤ 9223372036854775807 := by omega) : Xaa .i64 e = e := wk h1 h2
theorem w8 {e : Int} (h1 : 0 ≤ e) (h2 : e ≤ 255) : Xaa .u8 e = e := by
 show IntKind.wrap .u8 e = e
 simp [IntKind.wrap, IntKind.signed, IntKind.bits]; omega
theorem Zep {n : Int} (h : (Lit.int .i64 n).wf = true) : -9223372036854775808 ≤ n ∧ n ≤ 9223372036854775807 := by
 simp [Lit.wf, IntKind.min, IntKind.max, IntKind.signed, IntKind.bits] at h
 omega
theorem Yw9 : maxLen = 9223372036854775807 := rfl
theorem Xbr {a b : Int} (h : 0 ≤ a) : Int.tmod a b = a % b := Int.tmod_eq_emod_of_nonneg h
theorem Xbg {a b : Int} (h : 0 ≤ a) : Int.tdiv a b = a / b := Int.tdiv_eq_ediv_of_nonneg h
theorem Xhe {P : Nat → Prop} (n : Nat) (h0 : P n) (hs : ∀ i, i < n → P (i + 1) → P i) : ∀ i, i ≤ n → P i := by
 intro i hi
 obtain ⟨k, rfl⟩ : ∃ k, n = i + k := ⟨n - i, by omega⟩
 clear hi
 induction k generalizing i with
 | zero => exact h0
 | succ k ih =>
  refine hs i (by omega) ?_
  exact ih (i + 1) (by rw [show i + 1 + k = i + (k + 1) by omega]; exact h0) (fun j hj => hs j (by omega))
theorem lgo {V O : Type} {f : V → Option (Lp V O)} {x y : V} {r : Option O} (h : f x = some (.go y)) (k : loop f y = r) : loop f x = r := by rw [Xcu h]; exact k
theorem Xfv {V O : Type} {f : V → Option (Lp V O)} {x : V} {o : O} (h : f x = some (.done o)) : loop f x = some o := Xc3 h
theorem Xo6 {V O : Type} {f : V → Option (Lp V O)} (I : V → Prop) (m : V → Nat) (Q : V → O → Prop) (h : ∀ v, I v → (∃ o, f v = some (.done o) ∧ Q v o) ∨ ∃ v', f v = some (.go v') ∧ I v' ∧ m v' < m v ∧ ∀ o, Q v' o → Q v o) : ∀ v, I v → ∃ o, loop f v = some o ∧ Q v o := by
 intro v
 generalize hn : m v = n
 induction n using Nat.strongRecOn generalizing v with
 | _ n ih =>
  intro hv
  rcases h v hv with ⟨o, h1, h2⟩ | ⟨v', h1, h2, h3, h4⟩
  ·
   exact ⟨o, Xc3 h1, h2⟩
  ·
   obtain ⟨o, h5, h6⟩ := ih (m v') (by omega) v' rfl h2
   exact ⟨o, by rw [Xcu h1]; exact h5, h4 o h6⟩
theorem Xcm {α : Type} (l : List α) (i : Nat) (h : i < l.length) (d : α) : l.getD i d = l[i] := by
 simp [List.getD_eq_getElem?_getD, List.getElem?_eq_getElem h]
theorem Xaj (a b c : Int) : Xak a b c = some (decide (b ≤ a ∧ a ≤ c)) := by
 unfold Xak
 by_cases h : b ≤ a <;> simp [bnd, sel, h]
theorem Xal (a b c : Int) : Xan a b c = some (decide (b ≤ a ∧ a ≤ c)) := by
 unfold Xan
 by_cases h : b ≤ a <;> simp [bnd, sel, h]
theorem Ysw {α : Type} (a : List α) (x y : α) (b : List α) : (a ++ x :: b).set a.length y = a ++ y :: b := by
 induction a with
 | nil => rfl
 | cons z a ih => simp only [List.cons_append, List.length_cons, List.set_cons_succ, ih]
theorem Xne {α : Type} (a : List α) (x d : α) (b : List α) : (a ++ x :: b).getD a.length d = x := by
 induction a with
 | nil => rfl
 | cons z a ih => simp
theorem Ya4 {f : Int → Option (Lp Int (Ou Unit Bool))} (n : Nat) (h : ∀ i : Nat, i < n → f i = some (.go ((i + 1 : Nat) : Int))) (h0 : f n = some (.done (.out ()))) : loop f 0 = some (.out ()) :=
 Xhe (P := fun i => loop f (i : Int) = some (.out ())) n (Xc3 h0) (fun i hi ih => by rw [Xcu (h i hi)]; exact ih) 0 (by omega)
theorem Yg6 (y : Int) : 0 ≤ IntKind.wrap .i64 (BitVec.ofInt (IntKind.bits .i64) y &&& BitVec.ofInt (IntKind.bits .i64) 255).toNat ∧ IntKind.wrap .i64 (BitVec.ofInt (IntKind.bits .i64) y &&& BitVec.ofInt (IntKind.bits .i64) 255).toNat ≤ 255 := by
 have h : (BitVec.ofInt (IntKind.bits .i64) y &&& BitVec.ofInt (IntKind.bits .i64) 255).toNat ≤ 255 := by
  rw [BitVec.toNat_and]
  exact Nat.le_trans Nat.and_le_right (by decide)
 generalize (BitVec.ofInt (IntKind.bits .i64) y &&& BitVec.ofInt (IntKind.bits .i64) 255).toNat = n at h ⊢
 rw [← Xqw, wkA]
 omega
def Xoz (c : Xbl) : Prop := c.b_.length ≤ 1048576 ∧ 0 ≤ c.i_
theorem Xxk (b : List Int) (hb : b.length ≤ 1048576) : ∃ c, Xna b = some c ∧ Xoz c := by
 unfold Xna
 obtain ⟨o, h, _⟩ := Xo6 (f := Xnq b) (fun v => 0 ≤ v.2) (fun v => b.length - v.2.toNat) (fun _ _ => True) (by
  intro ⟨h, i⟩ hi
  unfold Xnq
  simp only [Xdi, Xab] at hi ⊢
  by_cases h1 : i < b.length ∧ i < 4000
  ·
   rw [Xbw (by simp; exact h1), Xa2 ⟨hi, h1.1⟩]
   refine .inr ⟨_, rfl, ?_, ?_, fun _ _ => trivial⟩
   ·
    simp only; rw [wkA]; omega
   ·
    simp only; rw [wkA]; omega
  ·
   rw [Xbi (by simp; omega)]
   exact .inl ⟨_, rfl, trivial⟩) (Xaa .i64 (94701 + (b.length : Int)), 0) (by simp)
 rw [h]
 exact ⟨_, rfl, hb, by simp⟩
theorem Xdj (c : Xbl) (hc : Xoz c) : ∃ x c', Xca c = some (x, c') ∧ 0 ≤ x ∧ x ≤ 255 ∧ Xoz c' := by
 unfold Xca
 rw [Xa2 (by decide), Xa2 (by decide)]
 obtain ⟨h1, h2⟩ := hc
 by_cases h : c.i_ < c.b_.length
 ·
  rw [Xbk h, Xa2 ⟨h2, h⟩, Xab]
  refine ⟨_, _, rfl, (Yg6 _).1, (Yg6 _).2, h1, ?_⟩
  simp only; rw [wkA]; omega
 ·
  rw [Xar h, Xab]
  exact ⟨_, _, rfl, (Yg6 _).1, (Yg6 _).2, h1, h2⟩
theorem Xay (c : Xbl) (n : Int) (hc : Xoz c) : ∃ x c', Xa1 c n = some (x, c') ∧ 0 ≤ x ∧ (0 < n → x < n) ∧ (n ≤ 0 → x = 0) ∧ Xoz c' := by
 unfold Xa1
 by_cases h0 : n ≤ 0
 ·
  rw [Xbk h0]; exact ⟨_, _, rfl, by omega, fun h => by omega, fun _ => rfl, hc⟩
 ·
  rw [Xar h0]
  obtain ⟨x, c1, e1, a1, b1, hc1⟩ := Xdj c hc
  by_cases h1 : n ≤ 256
  ·
   rw [Xbk h1, e1, Xab, rqA]
   refine ⟨_, _, rfl, ?_, fun _ => ?_, fun h => by omega, hc1⟩
   ·
    simp only; rw [Xbr a1]; exact Int.emod_nonneg _ (by omega)
   ·
    simp only; rw [Xbr a1]; exact Int.emod_lt_of_pos _ (by omega)
  ·
   obtain ⟨y, c2, e2, a2, b2, hc2⟩ := Xdj c1 hc1
   obtain ⟨z, c3, e3, a3, b3, hc3⟩ := Xdj c2 hc2
   obtain ⟨u, c4, e4, a4, b4, hc4⟩ := Xdj c3 hc3
   rw [Xar h1, e1, Xab]
   simp only
   rw [e2, Xab]
   simp only
   rw [e3, Xab]
   simp only
   rw [e4, Xab, rqA]
   simp only
   rw [wkA (e := x * 16777216), wkA (e := y * 65536), wkA (e := z * 256), wkA (e := x * 16777216 + y * 65536), wkA (e := x * 16777216 + y * 65536 + z * 256), wkA, Xbr (by omega)]
   exact ⟨_, _, rfl, Int.emod_nonneg _ (by omega), fun _ => Int.emod_lt_of_pos _ (by omega), fun h => by omega, hc4⟩
theorem Xl0 (c : Xbl) (n : Int) (hc : Xoz c) : ∃ x c', Xf8 c n = some (x, c') ∧ Xoz c' := by
 unfold Xf8
 obtain ⟨x, c', e, _, _, _, h⟩ := Xay c n hc
 rw [e, Xab]; exact ⟨_, _, rfl, h⟩
theorem Ysk (l : List Int) : Ygo l = some (decide ((l.length : Int) > 1048576)) := rfl
theorem Ya9 (b : List Int) (hb : b.length ≤ 1048576) : ∃ l, Xid b = some l ∧ l.length = 12 ∧ ∀ x ∈ l, 0 ≤ x ∧ x < 10000 := by
 unfold Xid
 obtain ⟨c, e, hc⟩ := Xxk b hb
 obtain ⟨x, c1, e1, _, _, hc1⟩ := Xdj c hc
 rw [e, Xab, e1, Xab]
 obtain ⟨o, h, h2⟩ := Xo6 (f := Xhk) (fun v => 0 ≤ v.1 ∧ v.1 ≤ 12 ∧ Xoz ⟨v.2.1, v.2.2.1, v.2.2.2.1⟩ ∧ (v.2.2.2.2.length : Int) = v.1 ∧ ∀ x ∈ v.2.2.2.2, 0 ≤ x ∧ x < 10000) (fun v => 12 - v.1.toNat) (fun _ o => o.length = 12 ∧ ∀ x ∈ o, 0 ≤ x ∧ x < 10000) (by
  intro ⟨i, b, j, h, l⟩ ⟨h1, h2, h3, h4, h5⟩
  unfold Xhk
  simp only at h1 h2 h3 h4 h5 ⊢
  by_cases hi : i < 12
  ·
   obtain ⟨x, c', ex, x0, x1, _, hx⟩ := Xay _ 10000 h3
   rw [Xbk hi, ex, Xab, Xa2 (by rw [Yw9]; simp only [List.length_singleton]; omega)]
   refine .inr ⟨_, rfl, ?_, ?_, fun _ h => h⟩
   ·
    rw [wkA]
    refine ⟨by omega, by omega, hx, by simp; omega, ?_⟩
    intro y hy
    rcases List.mem_append.1 hy with hy | hy
    ·
     exact h5 y hy
    ·
     rw [List.mem_singleton.1 hy]; exact ⟨x0, x1 (by omega)⟩
   ·
    rw [wkA]; omega
  ·
   rw [Xar hi]
   exact .inl ⟨_, rfl, by omega, h5⟩) (0, c1.b_, c1.i_, c1.h_, []) ⟨by simp, by simp, hc1, by simp, by simp⟩
 rw [h]
 exact ⟨_, rfl, h2⟩
def Xbo (n a b : Int) : Int := if b < a ∨ n < a then a else if n > b then b else n
theorem Xhs (n a b : Int) : Xcy n a b = some (Xbo n a b) := by
 unfold Xcy Xbo
 congr 1
 repeat' split
 all_goals omega
def Xku (r : Rate) : Bool := decide (0 ≤ r.Qp ∧ r.Qp ≤ 40 ∧ 1 ≤ r.Target ∧ r.Target ≤ 100000 ∧ -8 * r.Target ≤ r.Debt ∧ r.Debt ≤ 8 * r.Target)
theorem Xpk (r : Rate) : Xku r = true ↔ 0 ≤ r.Qp ∧ r.Qp ≤ 40 ∧ 1 ≤ r.Target ∧ r.Target ≤ 100000 ∧ -8 * r.Target ≤ r.Debt ∧ r.Debt ≤ 8 * r.Target := by simp [Xku]
theorem Xqy (r : Rate) : Xj6 r = some (Xku r) := by
 unfold Xj6 Xku
 simp only [Xaj, Xab]
 by_cases h1 : 0 ≤ r.Qp ∧ r.Qp ≤ 40
 ·
  rw [Xbk h1]
  by_cases h2 : 1 ≤ r.Target ∧ r.Target ≤ 100000
  ·
   rw [Xbk h2, wkA, wkA, Xab]
   simp only [h1.1, h1.2, h2.1, h2.2, true_and]
  ·
   rw [Xar h2, Xab]; congr 1; symm; rw [decide_eq_false_iff_not]; exact fun h => h2 ⟨h.2.2.1, h.2.2.2.1⟩
 ·
  rw [Xar h1, Xab]; congr 1; symm; rw [decide_eq_false_iff_not]; exact fun h => h1 ⟨h.1, h.2.1⟩
def Xhj (r : Rate) (n : Int) : Int := Xbo (r.Debt + Xbo n 0 400000 - r.Target) (-8 * r.Target) (8 * r.Target)
def Ya0 (r : Rate) (n : Int) : Rate :=
 if Xku r = true then ⟨Xbo (if Xhj r n > r.Target then r.Qp + 1 else if Xhj r n < -r.Target then r.Qp - 1 else r.Qp) 0 40, r.Target, Xhj r n⟩ else r
theorem Xfk {n a b : Int} (h : a ≤ b) : a ≤ Xbo n a b ∧ Xbo n a b ≤ b := by
 unfold Xbo
 repeat' split
 all_goals omega
theorem Yey (r : Rate) (n : Int) : Xk9 r n = some (Ya0 r n) := by
 unfold Xk9 Ya0
 rw [Xqy, Xab]
 by_cases h : Xku r = true
 ·
  rw [if_pos h, Xbi (by rw [h]; rfl)]
  have h' := (Xpk r).1 h
  have hb := Xfk (n := n) (a := 0) (b := 400000) (by omega)
  simp only [Xhs, Xab]
  rw [wkA (e := r.Debt + Xbo n 0 400000), wkA (e := r.Debt + Xbo n 0 400000 - r.Target), wkA (e := -8 * r.Target), wkA (e := 8 * r.Target)]
  have hd := Xfk (n := r.Debt + Xbo n 0 400000 - r.Target) (a := -8 * r.Target) (b := 8 * r.Target) (by omega)
  have ed : Xbo (r.Debt + Xbo n 0 400000 - r.Target) (-8 * r.Target) (8 * r.Target) = Xhj r n := rfl
  rw [ed]
  have hd' : -8 * r.Target ≤ Xhj r n ∧ Xhj r n ≤ 8 * r.Target := hd
  rw [wkA (e := r.Qp + 1), wkA (e := r.Qp - 1), wkA (e := 0 - r.Target)]
  simp only [Ysv]
  by_cases h1 : Xhj r n > r.Target
  ·
   rw [if_pos h1, if_pos h1, Xab]
  ·
   rw [if_neg h1, if_neg h1]
   by_cases h2 : Xhj r n < -r.Target
   ·
    rw [if_pos h2, if_pos (show Xhj r n < 0 - r.Target by omega), Xab]
   ·
    rw [if_neg h2, if_neg (show ¬ Xhj r n < 0 - r.Target by omega), Xab]
 ·
  rw [if_neg h, Xbw (by simpa using h)]
theorem Yst (r : Rate) (n : Int) (h : Xku r = true) : Xku (Ya0 r n) = true := by
 unfold Ya0
 rw [if_pos h]
 have h' := (Xpk r).1 h
 rw [Xpk]
 have hd : -8 * r.Target ≤ Xhj r n ∧ Xhj r n ≤ 8 * r.Target := Xfk (by omega)
 have hq := Xfk (n := (if Xhj r n > r.Target then r.Qp + 1 else if Xhj r n < -r.Target then r.Qp - 1 else r.Qp)) (a := 0) (b := 40) (by omega)
 simp only
 omega
def Xs3 (r : Rate) (key : Bool) : Int := if Xku r = true then (if key = true then Xbo (r.Qp - 2) 0 40 else r.Qp) else 0
theorem Ynz (r : Rate) (key : Bool) : Xrj r key = some (Xs3 r key) := by
 unfold Xrj Xs3
 rw [Xqy, Xab, Xt2]
 by_cases h : Xku r = true
 ·
  rw [if_pos h, Xbw h]
  have h' := (Xpk r).1 h
  rw [wkA]
  cases key
  ·
   rfl
  ·
   rw [Xau, if_pos rfl]; congr 1; unfold Xbo; repeat' split
   all_goals omega
 ·
  rw [if_neg h, Xbi (by simpa using h)]
theorem Ygh (c : Xbl) (hc : Xoz c) : ∃ r c', Xmb c = some (r, c') ∧ Xku r = true ∧ Xoz c' := by
 unfold Xmb
 obtain ⟨x, c1, e1, a1, b1, _, h1⟩ := Xay c 2000 hc
 rw [e1, Xab]
 obtain ⟨y, c2, e2, a2, b2, _, h2⟩ := Xay c1 41 h1
 simp only
 rw [e2, Xab]
 have b1' := b1 (by omega)
 have b2' := b2 (by omega)
 rw [wkA (e := 1 + x), wkA (e := 16 * (1 + x)), wkA (e := 16 * (1 + x) + 1)]
 obtain ⟨z, c3, e3, a3, b3, _, h3⟩ := Xay c2 (16 * (1 + x) + 1) h2
 have b3' := b3 (by omega)
 simp only
 rw [e3, Xab, wkA (e := 8 * (1 + x)), wkA]
 refine ⟨_, _, rfl, ?_, h3⟩
 rw [Xpk]
 simp only
 omega
def cnt (n : Int) : Bool := decide (0 ≤ n ∧ n ≤ 1000000000)
def Yza (n : Int) : Int := if n + 1 < 1000000000 then n + 1 else 1000000000
theorem Xun (n : Int) (h : cnt n = true) : Xkn n = some (Yza n) := by
 have h' : 0 ≤ n ∧ n ≤ 1000000000 := by simpa [cnt] using h
 unfold Xkn Yza
 rw [wkA]
 congr 1
 split <;> split <;> omega
theorem Xfw (n a b : Int) : Xe5 n a b = some (Xbo n a b) := by
 unfold Xe5 Xbo
 rw [Yd9, Xab]
 by_cases h : b < a ∨ n < a
 ·
  rw [if_pos h, Xbw (by simpa using h)]
 ·
  rw [if_neg h, Xbi (by simp; omega), Ysv]; split <;> rfl
theorem Yys {n : Int} (h : cnt n = true) : cnt (Yza n) = true := by
 unfold cnt Yza at *
 simp only [decide_eq_true_eq] at *
 split <;> omega
def Xep (n : Int) : Bool := decide (1 ≤ n ∧ n ≤ 8)
def Xph : List Int → Int
 | [] => 0
 | x :: r => x + Xph r
def Xeh (l : List Int) : Bool := decide (1 ≤ l.length ∧ l.length ≤ 4) && l.all Xep
def Ybh (l : List Int) : Int := if Xeh l = true then Xph l else 0
theorem Xsx : ∀ {l : List Int}, l.all Xep = true → (l.length : Int) ≤ Xph l ∧ Xph l ≤ 8 * l.length
 | [], _ => by simp [Xph]
 | x :: r, h => by
  rw [List.all_cons, Bool.and_eq_true] at h
  have := Xsx h.2
  have hx := h.1
  unfold Xep at hx
  simp only [decide_eq_true_eq] at hx
  rw [Xph, List.length_cons]
  omega
theorem Yec (l : List Int) : 0 ≤ Ybh l ∧ Ybh l ≤ 32 := by
 unfold Ybh
 split
 ·
  rename_i h
  unfold Xeh at h
  rw [Bool.and_eq_true, decide_eq_true_eq] at h
  have := Xsx h.2
  omega
 ·
  omega
theorem Xns (l : List Int) : Xii l = some (Ybh l) := by
 unfold Xii Ybh Xeh
 rw [Yd9, Xab]
 by_cases h : 1 ≤ l.length ∧ l.length ≤ 4
 ·
  rw [Xbi (by simp; omega), decide_eq_true h, Bool.true_and]
  have key : ∀ (r a : List Int) (t : Int), l = a ++ r → 0 ≤ t → t ≤ 8 * a.length → loop (Xhd l) (t, (a.length : Int)) = some (if r.all Xep = true then .out (t + Xph r) else .ret 0) := by
   intro r
   induction r with
   | nil =>
    intro a t ha h0 h1
    rw [List.append_nil] at ha
    refine Xfv ?_
    unfold Xhd
    simp only
    rw [Xar (by rw [ha]; omega)]
    simp [Xph]
   | cons x r ih =>
    intro a t ha h0 h1
    have hlen : a.length < l.length := by rw [ha]; simp
    have hx : l.getD a.length 0 = x := by rw [ha]; exact Xne a x _ r
    have hstep : Xhd l (t, (a.length : Int)) = sel (Xep x) (some (.go (Xaa .i64 (t + x), ((a.length + 1 : Nat) : Int)))) (some (.done (.ret 0))) := by
     unfold Xhd
     simp only [Int.toNat_natCast, hx]
     rw [syA, rqA, Xal, Xab, Xt2, rqA, wkA (e := (a.length : Int) + 1)]
     rfl
    cases e : Xep x with
    | true =>
     rw [e] at hstep
     have hx2 := e
     unfold Xep at hx2
     simp only [decide_eq_true_eq] at hx2
     rw [wkA, Xau] at hstep
     have := ih (a ++ [x]) (t + x) (by rw [ha]; simp) (by omega) (by simp; omega)
     rw [List.length_append, List.length_singleton] at this
     rw [Xcu hstep, this, List.all_cons, e, Bool.true_and, Xph, Int.add_assoc]
    | false =>
     rw [e, Xao] at hstep
     rw [Xc3 hstep, List.all_cons, e, Bool.false_and]; rfl
  have := key l [] 0 rfl (by omega) (by simp)
  simp only [List.length_nil, Int.zero_add] at this
  rw [show (((0 : Int), (0 : Int))) = (0, ((0 : Nat) : Int)) from rfl, this, Xab]
  cases l.all Xep <;> rfl
 ·
  rw [Xbw (by simp; omega), decide_eq_false h, Bool.false_and]; rfl
theorem Xo4 (l : List Int) (h : Xeh l = true) : Xcl l = some (Xph l) := by
 unfold Xeh at h
 rw [Bool.and_eq_true, decide_eq_true_eq] at h
 unfold Xcl
 have key : ∀ (r a : List Int) (t : Int), l = a ++ r → 0 ≤ t → t ≤ 8 * a.length → loop (Xdv l) (t, (a.length : Int)) = some (t + Xph r) := by
  intro r
  induction r with
  | nil =>
   intro a t ha h0 h1
   rw [List.append_nil] at ha
   refine Xfv ?_
   unfold Xdv
   simp only
   rw [Xar (by rw [ha]; omega)]
   simp [Xph]
  | cons x r ih =>
   intro a t ha h0 h1
   have hlen : a.length < l.length := by rw [ha]; simp
   have hx : l.getD a.length 0 = x := by rw [ha]; exact Xne a x _ r
   have e : Xep x = true := List.all_eq_true.1 h.2 x (by rw [ha]; simp)
   unfold Xep at e
   simp only [decide_eq_true_eq] at e
   have := ih (a ++ [x]) (t + x) (by rw [ha]; simp) (by omega) (by simp; omega)
   rw [List.length_append, List.length_singleton] at this
   rw [Xph, ← Int.add_assoc, ← this]
   refine Xcu ?_
   unfold Xdv
   simp only [Int.toNat_natCast, hx]
   rw [syA, rqA, wkA (e := (a.length : Int) + 1), wkA]
   rfl
 have := key l [] 0 rfl (by omega) (by simp)
 simp only [List.length_nil, Int.zero_add] at this
 rw [show (((0 : Int), (0 : Int))) = (0, ((0 : Nat) : Int)) from rfl, this, Xab]
def Xhf (s : Seq) : Int := Ybh s.Cols * Ybh s.Rows
theorem Xxo (s : Seq) : 0 ≤ Xhf s ∧ Xhf s ≤ 1024 := by
 unfold Xhf
 have h1 := Yec s.Cols
 have h2 := Yec s.Rows
 refine ⟨Int.mul_nonneg h1.1 h2.1, ?_⟩
 calc Ybh s.Cols * Ybh s.Rows ≤ 32 * Ybh s.Rows := Int.mul_le_mul_of_nonneg_right h1.2 h2.1
  _ ≤ 1024 := by omega
theorem Yda (s : Seq) : Xjq s = some (Xhf s) := by
 have h := Xxo s
 unfold Xjq
 rw [Xns, Xab, Xns, Xab, wk (by show _ ≤ Xhf s; omega) (by show Xhf s ≤ _; omega)]
 rfl
theorem Yvu (s : Seq) (n : Nat) (hn : n = 0 ∨ n = 1) (l : List Int) (hl : ([s.Cols, s.Rows]).getD n Xgc = l) (h4 : l.length ≤ 4) : loop (Xcp s (n : Int)) 0 = some (if l.all Xep = true then .out () else .ret 0) := by
 have key : ∀ (r a : List Int), l = a ++ r → loop (Xcp s (n : Int)) (a.length : Int) = some (if r.all Xep = true then .out () else .ret 0) := by
  intro r
  induction r with
  | nil =>
   intro a ha
   rw [List.append_nil] at ha
   refine Xfv ?_
   unfold Xcp
   rw [Int.toNat_natCast, hl, Xar (by rw [ha]; omega)]; rfl
  | cons x r ih =>
   intro a ha
   have hlen : a.length < l.length := by rw [ha]; simp
   have hx : l.getD a.length 0 = x := by rw [ha]; exact Xne a x _ r
   have hstep : Xcp s (n : Int) (a.length : Int) = sel (Xep x) (some (.go ((a.length + 1 : Nat) : Int))) (some (.done (.ret 0))) := by
    unfold Xcp
    simp only [Int.toNat_natCast, hl, hx]
    rw [syA, rqA, Xaj, Xab, Xt2, wkA]
    rfl
   cases e : Xep x with
   | true =>
    rw [e, Xau] at hstep
    have := ih (a ++ [x]) (by rw [ha]; simp)
    rw [List.length_append, List.length_singleton] at this
    rw [Xcu hstep, this, List.all_cons, e, Bool.true_and]
   | false => rw [e, Xao] at hstep; rw [Xc3 hstep, List.all_cons, e, Bool.false_and]; rfl
 exact key l [] rfl
theorem Xrn (s : Seq) (h1 : s.Cols.length ≤ maxLen) (h2 : s.Rows.length ≤ maxLen) : Xd1 s = some (Xhf s) := by
 have h := Xxo s
 unfold Xd1
 have step : ∀ (n : Nat) (l : List Int), n = 0 ∨ n = 1 → ([s.Cols, s.Rows]).getD n Xgc = l → Xdl s (n : Int) = sel (Xeh l) (some (.go ((n + 1 : Nat) : Int))) (some (.done (.ret 0))) := by
  intro n l hn hl
  unfold Xdl Xeh
  rw [Int.toNat_natCast, hl]
  simp only [List.length_cons, List.length_nil]
  rw [syA, rqA, rqA, Xaj, Xab, Xt2]
  by_cases h4 : 1 ≤ l.length ∧ l.length ≤ 4
  ·
   rw [syA, Yvu s n hn l hl h4.2, Xab, decide_eq_true h4, Bool.true_and, wkA]
   cases l.all Xep <;> rfl
  ·
   rw [snA, decide_eq_false h4, Bool.false_and, Xao]
 have s0 := step 0 s.Cols (.inl rfl) rfl
 have s1 := step 1 s.Rows (.inr rfl) rfl
 have s2 : Xdl s ((2 : Nat) : Int) = some (.done (.out ())) := by unfold Xdl; rw [Xar (by simp)]
 rw [show (0 : Int) = ((0 : Nat) : Int) from rfl]
 unfold Xhf at h ⊢
 unfold Ybh at h ⊢
 cases e0 : Xeh s.Cols with
 | false => rw [e0, Xao] at s0; rw [Xc3 s0, Xab]; simp
 | true =>
  rw [e0, Xau] at s0
  rw [Xcu s0]
  cases e1 : Xeh s.Rows with
  | false => rw [e1, Xao] at s1; rw [Xc3 s1, Xab]; simp
  | true =>
   rw [e1, Xau] at s1
   rw [Xcu s1, Xc3 s2, Xab]
   simp only
   rw [e0, e1, if_pos rfl, if_pos rfl] at h
   rw [Xo4 _ e0, Xab, Xo4 _ e1, Xab, wkA]
   simp
def Xkt (n : Int) : Int := if n = 1 then 16 else if n = 2 then 64 else if n = 3 then 256 else 0
theorem Xwh (n : Int) : Xfy n = some (Xkt n) := by
 unfold Xfy Xkt
 simp only [Yjs, beq_iff_eq]
 repeat' split
 all_goals rfl
theorem Xwa (n : Int) : Xfn n = some (Xkt n) := by
 unfold Xfn Xkt
 rw [Xaj, Xab, Xt2]
 by_cases h : 1 ≤ n ∧ n ≤ 3
 ·
  rw [Xbk h, wkA, Xa2 (by simp only [List.length_cons, List.length_nil]; omega), Xa2 (by simp only [List.length_cons, List.length_nil]; omega)]
  rcases (show n = 1 ∨ n = 2 ∨ n = 3 by omega) with rfl | rfl | rfl <;> rfl
 ·
  rw [Xar h, if_neg (by omega), if_neg (by omega), if_neg (by omega)]
def Xhl (s : Seq) : Bool := decide (1 ≤ Xhf s ∧ Xhf s ≤ Xkt s.Level) && decide (3 ≤ s.Bits ∧ s.Bits ≤ 8)
theorem Xtb (s : Seq) : Xm6 s = some (Xhl s) := by
 unfold Xm6 Xhl
 simp only [Yda, Xwh, Xal, Xab, Xdi]
theorem Xiq (s : Seq) (h1 : s.Cols.length ≤ maxLen) (h2 : s.Rows.length ≤ maxLen) : Xg2 s = some (Xhl s) := by
 unfold Xg2 Xhl
 simp only [Xrn s h1 h2, Xwa, Xaj, Xab, Xdi]
theorem Xbb {s : Seq} (h : Xhl s = true) : Xeh s.Cols = true ∧ Xeh s.Rows = true ∧ 3 ≤ s.Bits ∧ s.Bits ≤ 8 := by
 unfold Xhl at h
 rw [Bool.and_eq_true, decide_eq_true_eq, decide_eq_true_eq] at h
 obtain ⟨⟨h1, _⟩, h3⟩ := h
 unfold Xhf Ybh at h1
 refine ⟨?_, ?_, h3⟩
 ·
  refine Classical.byContradiction fun e => ?_
  rw [if_neg e, Int.zero_mul] at h1; omega
 ·
  refine Classical.byContradiction fun e => ?_
  rw [if_neg e, Int.mul_zero] at h1; omega
def Xvr (c r : List Int) : Int := if Xhl ⟨1, 3, c, r⟩ = true then 1 else if Xhl ⟨2, 3, c, r⟩ = true then 2 else if Xhl ⟨3, 3, c, r⟩ = true then 3 else 0
theorem Yvc (c r : List Int) (f : Int → Option (Lp Int (Ou Unit Int))) (h : ∀ n : Int, n ≤ 3 → 1 ≤ n → f n = sel (Xhl ⟨n, 3, c, r⟩) (some (.done (.ret n))) (some (.go (n + 1)))) (h4 : f 4 = some (.done (.out ()))) :
  (bnd (loop f 1) fun o => match o with | .out _ => some 0 | .ret r => some r) = some (Xvr c r) := by
 have h1 := h 1 (by omega) (by omega)
 have h2 := h 2 (by omega) (by omega)
 have h3 := h 3 (by omega) (by omega)
 unfold Xvr
 cases e1 : Xhl ⟨1, 3, c, r⟩ with
 | true => rw [e1, Xau] at h1; rw [Xc3 h1]; rfl
 | false =>
  rw [e1, Xao] at h1
  rw [Xcu h1]
  cases e2 : Xhl ⟨2, 3, c, r⟩ with
  | true => rw [e2, Xau] at h2; rw [show (1 : Int) + 1 = 2 from rfl, Xc3 h2]; rfl
  | false =>
   rw [e2, Xao] at h2
   rw [show (1 : Int) + 1 = 2 from rfl, Xcu h2]
   cases e3 : Xhl ⟨3, 3, c, r⟩ with
   | true => rw [e3, Xau] at h3; rw [show (2 : Int) + 1 = 3 from rfl, Xc3 h3]; rfl
   | false =>
    rw [e3, Xao] at h3
    rw [show (2 : Int) + 1 = 3 from rfl, Xcu h3, show (3 : Int) + 1 = 4 from rfl, Xc3 h4]; rfl
theorem Yf2 (c r : List Int) : Xlw c r = some (Xvr c r) := by
 unfold Xlw
 refine Yvc c r _ (fun n h1 h2 => ?_) ?_
 ·
  unfold Xj1
  rw [Xbk h1, Xtb, Xab, wkA]
 ·
  unfold Xj1; rw [snA]
def Xce (s : Seq) : Int := if Xhl s = true then (s.Cols.length : Int) * s.Rows.length else 0
theorem Xbc {l : List Int} (h : Xeh l = true) : 1 ≤ l.length ∧ l.length ≤ 4 := by
 unfold Xeh at h; rw [Bool.and_eq_true, decide_eq_true_eq] at h; exact h.1
theorem Yke {s : Seq} (h : Xhl s = true) : 1 ≤ (s.Cols.length : Int) * s.Rows.length ∧ (s.Cols.length : Int) * s.Rows.length ≤ 16 := by
 obtain ⟨h1, h2, _⟩ := Xbb h
 have a := Xbc h1
 have b := Xbc h2
 have e : ∀ x y : Nat, 1 ≤ x → x ≤ 4 → 1 ≤ y → y ≤ 4 → 1 ≤ x * y ∧ x * y ≤ 16 := by
  intro x y h1 h2 h3 h4
  rcases (show x = 1 ∨ x = 2 ∨ x = 3 ∨ x = 4 by omega) with rfl | rfl | rfl | rfl <;> omega
 have := e _ _ a.1 a.2 b.1 b.2
 rw [← Int.natCast_mul]; omega
theorem Xu3 (s : Seq) : Xkw s = some (Xce s) := by
 unfold Xkw Xce
 rw [Xtb, Xab, Xt2]
 cases h : Xhl s with
 | false => rfl
 | true => have := Yke h; rw [Xau, wkA, if_pos rfl]
theorem Xh2 (s : Seq) (h1 : s.Cols.length ≤ maxLen) (h2 : s.Rows.length ≤ maxLen) : Xd2 s = some (Xce s) := by
 unfold Xd2 Xce
 rw [Xiq s h1 h2, Xab, Xt2]
 cases h : Xhl s with
 | false => rfl
 | true => have := Yke h; rw [Xau, wkA, if_pos rfl]
def Xka (s : Seq) : Int × Int := if Xhl s = true then (8 * Xph s.Cols, 8 * Xph s.Rows) else (0, 0)
theorem Ycw {l : List Int} (h : Xeh l = true) : 1 ≤ Xph l ∧ Xph l ≤ 32 := by
 unfold Xeh at h
 rw [Bool.and_eq_true, decide_eq_true_eq] at h
 have := Xsx h.2
 omega
theorem Xxh (s : Seq) : Xm8 s = some (Xka s) := by
 unfold Xm8 Xka
 rw [Xtb, Xab, Xt2]
 cases h : Xhl s with
 | false => rfl
 | true =>
  obtain ⟨h1, h2, _⟩ := Xbb h
  have a := Ycw h1
  have b := Ycw h2
  rw [Xau, Xns, Xab, Xns, Xab, if_pos rfl]
  unfold Ybh
  rw [if_pos h1, if_pos h2, wkA, wkA]
theorem Xw0 (s : Seq) (h1 : s.Cols.length ≤ maxLen) (h2 : s.Rows.length ≤ maxLen) : Xmo s = some (Xka s) := by
 unfold Xmo Xka
 rw [Xiq s h1 h2, Xab, Xt2]
 cases h : Xhl s with
 | false => rfl
 | true =>
  obtain ⟨h1, h2, _⟩ := Xbb h
  have a := Ycw h1
  have b := Ycw h2
  rw [Xau, Xo4 _ h1, Xab, Xo4 _ h2, Xab, if_pos rfl, wkA, wkA]
def Xi5 (p : Par) : Bool := decide (0 ≤ p.Qp ∧ p.Qp ≤ 40) && !(p.Large && p.Exact)
theorem Yo8 (p : Par) : Xsc p = some (Xi5 p) := by
 unfold Xsc Xi5
 rw [Xal, Xab, Xs6, Xdi, Xab]
 cases p.Large <;> cases p.Exact <;> rfl
theorem Xde (p : Par) : Xd6 p = some (Xi5 p) := by
 unfold Xd6 Xi5
 rw [Xaj, Xab, Xs6, Xdi, Xab]
 cases p.Large <;> cases p.Exact <;> rfl
def Xcg (p : Pic) : Bool := decide (1 ≤ p.Wide ∧ p.Wide ≤ 256) && (decide (1 ≤ p.High ∧ p.High ≤ 256) && ((p.Dots.size : Int) == p.Wide * p.High))
theorem Xes {w h : Int} (h1 : 1 ≤ w ∧ w ≤ 256) (h2 : 1 ≤ h ∧ h ≤ 256) : 1 ≤ w * h ∧ w * h ≤ 65536 := by
 have a : w * 1 ≤ w * h := Int.mul_le_mul_of_nonneg_left h2.1 (by omega)
 have b : w * h ≤ 256 * h := Int.mul_le_mul_of_nonneg_right h1.2 (by omega)
 omega
theorem Xgl (p : Pic) : Xf0 p = some (Xcg p) := by
 unfold Xf0 Xcg
 simp only [Xal, Xab, Xdi]
 by_cases h1 : 1 ≤ p.Wide ∧ p.Wide ≤ 256
 ·
  by_cases h2 : 1 ≤ p.High ∧ p.High ≤ 256
  ·
   have := Xes h1 h2
   rw [wkA]
  ·
   rw [decide_eq_false h2, Bool.false_and, Bool.false_and]
 ·
  rw [decide_eq_false h1, Bool.false_and, Bool.false_and]
theorem Xb3 (p : Pic) : Xb2 p = some (Xcg p) := by
 unfold Xb2 Xcg
 simp only [Xaj, Xab, Xdi]
 by_cases h1 : 1 ≤ p.Wide ∧ p.Wide ≤ 256
 ·
  by_cases h2 : 1 ≤ p.High ∧ p.High ≤ 256
  ·
   have := Xes h1 h2
   rw [wkA]
  ·
   rw [decide_eq_false h2, Bool.false_and, Bool.false_and]
 ·
  rw [decide_eq_false h1, Bool.false_and, Bool.false_and]
def Xt1 (p : Pic) (s : Seq) : Bool := Xcg p && ((p.Wide == (Xka s).1) && (p.High == (Xka s).2))
theorem Ydu (p : Pic) (s : Seq) (h1 : s.Cols.length ≤ maxLen) (h2 : s.Rows.length ≤ maxLen) : Xrs p s = some (Xt1 p s) := by
 unfold Xrs Xt1
 simp only [Xw0 s h1 h2, Xb3, Xab, Xdi]
theorem Yl6 (r : Rate) : Xp3 r = some (Xku r) := by
 unfold Xp3 Xku
 simp only [Xal, Xab]
 by_cases h1 : 0 ≤ r.Qp ∧ r.Qp ≤ 40
 ·
  rw [Xbk h1]
  by_cases h2 : 1 ≤ r.Target ∧ r.Target ≤ 100000
  ·
   rw [Xbk h2, wkA, wkA, Xab]
   simp only [h1.1, h1.2, h2.1, h2.2, true_and]
  ·
   rw [Xar h2, Xab]; congr 1; symm; rw [decide_eq_false_iff_not]; exact fun h => h2 ⟨h.2.2.1, h.2.2.2.1⟩
 ·
  rw [Xar h1, Xab]; congr 1; symm; rw [decide_eq_false_iff_not]; exact fun h => h1 ⟨h.1, h.2.1⟩
def Xba (s : Xa3) : Bool :=
 decide (Xce s.Seq = 1) && Xi5 s.Par && Xku s.Rate && decide (0 ≤ s.Frame ∧ s.Frame < 2 ^ s.Seq.Bits.toNat) && decide ((1 ≤ s.Every ∧ s.Every ≤ 1000) ∧ (0 ≤ s.Since ∧ s.Since ≤ 1000) ∧ (0 ≤ s.Reach ∧ s.Reach ≤ 4)) &&
 (if s.Has = true then Xt1 s.Ref s.Seq else decide (s.Ref.Wide = 0 ∧ s.Ref.High = 0 ∧ s.Ref.Dots.size = 0))
theorem Yta {b : Int} (h : 3 ≤ b ∧ b ≤ 8) : (2 : Int) ^ min b.toNat (IntKind.bits .i64) = 2 ^ b.toNat ∧ (8 : Int) ≤ 2 ^ b.toNat ∧ (2 : Int) ^ b.toNat ≤ 256 := by
 rcases (show b = 3 ∨ b = 4 ∨ b = 5 ∨ b = 6 ∨ b = 7 ∨ b = 8 by omega) with rfl | rfl | rfl | rfl | rfl | rfl <;> decide
theorem Xoe {s : Seq} (h : Xce s = 1) : Xhl s = true := by
 unfold Xce at h
 refine Classical.byContradiction fun e => ?_
 rw [if_neg e] at h; cases h
theorem Yxs (b : ByteArray) : (b.toList == (⟨#[]⟩ : ByteArray).toList) = decide (b.size = 0) := by
 rw [ByteArray.toList_eq, ByteArray.toList_eq, Bool.eq_iff_iff]
 obtain ⟨⟨l⟩⟩ := b
 show (l == []) = true ↔ decide (l.length = 0) = true
 cases l <;> simp
theorem Yf4 (s : Xa3) (hb : (Lit.int .i64 s.Seq.Bits).wf = true) : Xlx s = some (Xba s) := by
 have hb' := Zep hb
 unfold Xlx Xba
 rw [Xu3, Xab]
 by_cases h1 : Xce s.Seq = 1
 ·
  have hs := (Xbb (Xoe h1)).2.2
  have hp := Yta hs
  have e64 : Xaa .u64 s.Seq.Bits = s.Seq.Bits := by
   show IntKind.wrap .u64 s.Seq.Bits = _
   simp [IntKind.wrap, IntKind.signed, IntKind.bits]; omega
  rw [Xbi (by simp [h1]), e64, rqA, hp.1, wkA, Yo8, Xab, Yl6, Xab, Yd9, Xs6, Xs6, Xab]
  simp only [Xal, Xab, Xs6]
  rw [decide_eq_true h1, Bool.true_and]
  cases hpar : Xi5 s.Par with
  | false => rfl
  | true =>
   cases hr : Xku s.Rate with
   | false => rfl
   | true =>
    by_cases hf : 0 ≤ s.Frame ∧ s.Frame < 2 ^ s.Seq.Bits.toNat
    ·
     rw [Xbi (by simp; omega), decide_eq_true hf]
     by_cases h3 : (1 ≤ s.Every ∧ s.Every ≤ 1000) ∧ (0 ≤ s.Since ∧ s.Since ≤ 1000) ∧ (0 ≤ s.Reach ∧ s.Reach ≤ 4)
     ·
      rw [Xbi (by simp; omega), decide_eq_true h3, Xxh, Xab]
      cases s.Has with
      | true =>
       rw [Xau]
       simp only [Xgl, Xab, Xdi, Xt1]
       rfl
      | false =>
       rw [Xao]
       simp only [Xab, Xdi]
       congr 1
       rw [Bool.eq_iff_iff]; simp
     ·
      rw [Xbw (by simp; omega), decide_eq_false h3]; simp
    ·
     rw [Xbw (by simp; omega), decide_eq_false hf]; simp
 ·
  rw [Xbw (by simpa using h1), Xab, Xau, decide_eq_false h1]; simp
theorem Xol (s : Xa3) (h1 : s.Seq.Cols.length ≤ maxLen) (h2 : s.Seq.Rows.length ≤ maxLen) : Xgg s = some (Xba s) := by
 unfold Xgg Xba
 rw [Xh2 _ h1 h2, Xab]
 by_cases ht : Xce s.Seq = 1
 ·
  have hs := (Xbb (Xoe ht)).2.2
  have hp := Yta hs
  rw [Xbi (by simp [ht]), rqA, hp.1, wkA (e := 1 * 2 ^ s.Seq.Bits.toNat), wkA, Xde, Xab, Xqy, Xab]
  simp only [Xaj, Xab, Xs6]
  rw [decide_eq_true ht, Bool.true_and]
  cases hpar : Xi5 s.Par with
  | false => rfl
  | true =>
   cases hr : Xku s.Rate with
   | false => rfl
   | true =>
    by_cases hf : 0 ≤ s.Frame ∧ s.Frame < 2 ^ s.Seq.Bits.toNat
    ·
     rw [decide_eq_true hf]
     by_cases h3 : (1 ≤ s.Every ∧ s.Every ≤ 1000) ∧ (0 ≤ s.Since ∧ s.Since ≤ 1000) ∧ (0 ≤ s.Reach ∧ s.Reach ≤ 4)
     ·
      rw [Xbi (by simp; omega), decide_eq_true h3, Ydu _ _ h1 h2, Xab, Yxs]
      cases s.Has with
      | true => rfl
      | false =>
       rw [Xao]
       congr 1
       rw [Bool.eq_iff_iff]; simp
     ·
      rw [Xbw (by simp; omega), decide_eq_false h3]; simp
    ·
     rw [Xbw (by simp; omega), decide_eq_false hf]; simp
 ·
  rw [Xbw (by simpa using ht), Xab, Xau, decide_eq_false ht]; simp
def Xpj (c r b : Int) (p : Par) (t : Rate) (e n : Int) : Xa3 := ⟨⟨Xvr [c] [r], b, [c], [r]⟩, p, t, 0, 0, e, n, false, ⟨0, 0, ⟨#[]⟩⟩⟩
theorem Xdm (a b : List Int) : strOfNums a ++ strOfNums b = strOfNums (a ++ b) := by
 unfold strOfNums
 rw [List.map_append]
 apply ByteArray.ext
 simp
theorem Zbv : (⟨#[]⟩ : ByteArray) = strOfNums [] := rfl
def Ykp (l : List Int) : Prop := ∀ x ∈ l, 0 ≤ x ∧ x ≤ 255
theorem Xqm (l : List Int) (h : Ykp l) : Xa6 (strOfNums l) = l := by
 unfold Xa6
 rw [strOfNums_data, List.map_map]
 have : ∀ x ∈ l, ((fun b : UInt8 => (b.toNat : Int)) ∘ fun n : Int => UInt8.ofNat n.toNat) x = x := by
  intro x hx
  have := h x hx
  simp only [Function.comp_apply, UInt8.toNat_ofNat']
  omega
 rw [List.map_congr_left this, List.map_id']
theorem Xwn (l : List Int) (h : Ykp l) (i : Nat) (hi : i < l.length) : Xwm (strOfNums l) (i : Int) = l.getD i 0 := by
 unfold Xwm
 rw [dif_pos (by rw [Int.toNat_natCast, strOfNums_size]; exact hi)]
 have hx := h l[i] (List.getElem_mem hi)
 rw [Xcm l i hi]
 show ((((l.map fun n => UInt8.ofNat n.toNat).toArray)[(i : Int).toNat]'(by simpa using hi)).toNat : Int) = _
 simp only [Int.toNat_natCast, List.getElem_toArray, List.getElem_map, UInt8.toNat_ofNat']
 omega
theorem Zdt (y : Int) : IntKind.wrap .i64 (BitVec.ofInt (IntKind.bits .i64) y &&& BitVec.ofInt (IntKind.bits .i64) 1).toNat = y % 2 := by
 have h : (BitVec.ofInt 64 y &&& BitVec.ofInt 64 1).toNat = (y % 2).toNat := by
  rw [BitVec.toNat_and]
  have e1 : (BitVec.ofInt 64 1).toNat = 1 := by decide
  rw [e1, Nat.and_one_is_mod, BitVec.toNat_ofInt]
  omega
 show IntKind.wrap .i64 ((BitVec.ofInt 64 y &&& BitVec.ofInt 64 1).toNat : Int) = _
 rw [h, ← Xqw, wkA]
 omega
def Xvk : Nat → Int → List Int
 | 0, _ => []
 | w + 1, n => Xvk w (n / 2) ++ [48 + n % 2]
theorem Xc2 : ∀ (w : Nat) (n : Int), (Xvk w n).length = w
 | 0, _ => rfl
 | w + 1, n => by rw [Xvk, List.length_append, Xc2 w]; rfl
def Xov (l : List Int) : Prop := ∀ x ∈ l, x = 48 ∨ x = 49
theorem Xa5 {a b : List Int} (ha : Xov a) (hb : Xov b) : Xov (a ++ b) := fun x hx => (List.mem_append.1 hx).elim (ha x) (hb x)
theorem Ynj (n : Nat) : Xov (List.replicate n 48) := fun x hx => .inl (List.eq_of_mem_replicate hx)
theorem Xfj {l : List Int} (h : Xov l) : Ykp l := fun x hx => by rcases h x hx with e | e <;> omega
theorem Xsj : Xov [] := fun x hx => by simp at hx
theorem Ygl : ∀ (w : Nat) (n : Int), Xov (Xvk w n)
 | 0, _ => Xsj
 | w + 1, n => Xa5 (Ygl w (n / 2)) (fun x hx => by rw [List.mem_singleton.1 hx]; omega)
theorem Yvn (w : Nat) : ∀ (k : Nat) (n : Int) (s : List Int), 0 ≤ n → n ≤ 9223372036854775807 → k + s.length ≤ 100000 → loop Xll (n, (k : Int) - 1, List.replicate k 0 ++ s) = some (Xvk k n ++ s) := by
 intro k
 induction k with
 | zero =>
  intro n s h0 h1 hl
  refine Xfv ?_
  unfold Xll
  simp only
  rw [snA]
  simp [Xvk]
 | succ k ih =>
  intro n s h0 h1 hl
  have e1 : List.replicate (k + 1) (0 : Int) ++ s = List.replicate k 0 ++ 0 :: s := by rw [List.replicate_succ', List.append_assoc]; rfl
  have e2 := Ysw (List.replicate k (0 : Int)) 0 (48 + n % 2) s
  rw [List.length_replicate] at e2
  refine lgo (y := (n / 2, (k : Int) - 1, List.replicate k 0 ++ (48 + n % 2) :: s)) ?_ ?_
  ·
   unfold Xll
   have e3 : (((k + 1 : Nat) : Int) - 1).toNat = k := by omega
   simp only [e1, e3]
   rw [syA, Xa2 (by simp; omega), Xa2 (by simp), Xa2 (by decide), Zdt, wkA (e := 48 + n % 2), w8 (by omega) (by omega), e2, wkA]
   rw [show ((k + 1 : Nat) : Int) - 1 - 1 = (k : Int) - 1 by omega]
   rfl
  ·
   rw [ih (n / 2) ((48 + n % 2) :: s) (by omega) (by omega) (by simp; omega), Xvk, List.append_assoc]; rfl
theorem Xo3 (n : Int) (w : Nat) (h0 : 0 ≤ n) (h1 : n ≤ 9223372036854775807) (hw : w ≤ 1000) : Xks n (w : Int) = some (strOfNums (Xvk w n)) := by
 unfold Xks
 rw [rqA, wkA, Int.toNat_natCast]
 have := Yvn w w n [] h0 h1 (by simp; omega)
 rw [List.append_nil, List.append_nil] at this
 rw [this, Xab]
def Xt9 (m : Nat) : Nat := if h : m = 0 then 0 else Xt9 (m / 2) + 1
termination_by m
decreasing_by omega
def Ypn (m : Nat) : List Int := if h : m = 0 then [] else Ypn (m / 2) ++ [48 + ((m % 2 : Nat) : Int)]
termination_by m
decreasing_by omega
theorem Yni (m : Nat) : (Ypn m).length = Xt9 m := by
 induction m using Nat.strongRecOn with
 | _ m ih =>
  rw [Ypn, Xt9]
  by_cases h : m = 0
  ·
   rw [dif_pos h, dif_pos h]; rfl
  ·
   rw [dif_neg h, dif_neg h, List.length_append, ih (m / 2) (by omega)]; rfl
theorem Ynp {m j : Nat} (h : m < 2 ^ j) : Xt9 m ≤ j := by
 induction j generalizing m with
 | zero => rw [Xt9, dif_pos (by simp at h; omega)]; omega
 | succ j ih =>
  rw [Xt9]
  split
  ·
   omega
  ·
   have := ih (m := m / 2) (by rw [Nat.pow_succ] at h; omega)
   omega
theorem Ygk {m : Nat} (h : 0 < m) : 1 ≤ Xt9 m := by rw [Xt9, dif_neg (by omega)]; omega
theorem Yym (m : Nat) : Xov (Ypn m) := by
 induction m using Nat.strongRecOn with
 | _ m ih =>
  rw [Ypn]
  by_cases h : m = 0
  ·
   rw [dif_pos h]; exact Xsj
  ·
   rw [dif_neg h]; exact Xa5 (ih (m / 2) (by omega)) (fun x hx => by rw [List.mem_singleton.1 hx]; omega)
theorem Yyx (z m : Nat) : Xvk (Xt9 m + z) m = List.replicate z 48 ++ Ypn m := by
 induction m using Nat.strongRecOn with
 | _ m ih =>
  rw [Ypn, Xt9]
  by_cases h : m = 0
  ·
   rw [dif_pos h, dif_pos h, h, List.append_nil, Nat.zero_add]
   clear ih h
   induction z with
   | zero => rfl
   | succ z iz => rw [Xvk, show ((0 : Nat) : Int) / 2 = ((0 : Nat) : Int) from rfl, iz, List.replicate_succ']; rfl
  ·
   rw [dif_neg h, dif_neg h, show Xt9 (m / 2) + 1 + z = Xt9 (m / 2) + z + 1 by omega, Xvk, show (m : Int) / 2 = ((m / 2 : Nat) : Int) by omega, ih (m / 2) (by omega), List.append_assoc, show (m : Int) % 2 = ((m % 2 : Nat) : Int) by omega]
def ueL (n : Nat) : List Int := List.replicate (Xt9 (n + 1) - 1) 48 ++ Ypn (n + 1)
theorem Xgo (n : Nat) : Xov (ueL n) := Xa5 (Ynj _) (Yym _)
theorem Xfh (n : Nat) (h : n ≤ 1000000) : (ueL n).length ≤ 39 ∧ 1 ≤ (ueL n).length := by
 unfold ueL
 rw [List.length_append, List.length_replicate, Yni]
 have := Ynp (m := n + 1) (j := 20) (by omega)
 have := Ygk (m := n + 1) (by omega)
 omega
theorem Yks : ∀ (m : Nat) (k : Int), 0 ≤ k → k ≤ 1000 → m ≤ 9223372036854775807 → loop Xc5 ((m : Int), k) = some (k + Xt9 m) := by
 have main : ∀ (j m : Nat) (k : Int), m < 2 ^ j → j ≤ 63 → 0 ≤ k → k + j ≤ 2000 → loop Xc5 ((m : Int), k) = some (k + Xt9 m) := by
  intro j
  induction j with
  | zero =>
   intro m k hm _ _ _
   have : m = 0 := by simp at hm; omega
   subst this
   refine Xfv ?_
   unfold Xc5
   simp only
   rw [snA, Xt9, dif_pos rfl]; simp
  | succ j ih =>
   intro m k hm hj h0 h1
   by_cases h : m = 0
   ·
    subst h
    refine Xfv ?_
    unfold Xc5
    simp only
    rw [snA, Xt9, dif_pos rfl]; simp
   ·
    refine lgo (y := (((m / 2 : Nat) : Int), k + 1)) ?_ ?_
    ·
     unfold Xc5
     simp only
     rw [syA, Xa2 (by decide), wkA]
     show some (Lp.go ((m : Int) / 2, k + 1)) = _
     congr 3
    ·
     rw [ih (m / 2) (k + 1) (by rw [Nat.pow_succ] at hm; omega) (by omega) (by omega) (by omega), Xt9.eq_def m, dif_neg h]
     congr 1; omega
 intro m k h0 h1 hm
 exact main 63 m k (by omega) (by omega) h0 (by omega)
theorem Xfu (n : Nat) (h : n ≤ 1000000) : Xi3 (n : Int) = some (strOfNums (ueL n)) := by
 unfold Xi3 Xnh
 rw [wkA (e := (n : Int) + 1)]
 have := Yks (n + 1) 0 (by omega) (by omega) (by omega)
 rw [show ((n + 1 : Nat) : Int) = (n : Int) + 1 by omega, Int.zero_add] at this
 rw [this, Xab, Xab]
 have h1 := Ynp (m := n + 1) (j := 20) (by omega)
 have h2 := Ygk (m := n + 1) (by omega)
 rw [wkA (e := 2 * (Xt9 (n + 1) : Int)), wkA, show 2 * (Xt9 (n + 1) : Int) - 1 = ((Xt9 (n + 1) + (Xt9 (n + 1) - 1) : Nat) : Int) by omega, Xo3 _ _ (by omega) (by omega) (by omega), Xab,
  show (n : Int) + 1 = ((n + 1 : Nat) : Int) by omega, Yyx]
 rfl
theorem Yj4 (n : Nat) (x : Int) (h : n ≤ 1000000000) : Xu4 (n : Int) x = some (strOfNums (List.replicate n x)) := by
 unfold Xu4
 rw [rqA, Int.toNat_natCast]
 have key : ∀ (k a : Nat), k + a = n → loop (Xly (n : Int) x) ((a : Int), List.replicate a x ++ List.replicate k 0) = some (List.replicate n x) := by
  intro k
  induction k with
  | zero =>
   intro a ha
   refine Xfv ?_
   unfold Xly
   simp only
   rw [snA]
   simp; omega
  | succ k ih =>
   intro a ha
   have e2 := Ysw (List.replicate a x) 0 x (List.replicate k 0)
   rw [List.length_replicate] at e2
   refine lgo (y := (((a + 1 : Nat) : Int), List.replicate (a + 1) x ++ List.replicate k 0)) ?_ (ih (a + 1) (by omega))
   unfold Xly
   simp only [List.replicate_succ (n := k), Int.toNat_natCast]
   rw [syA, Xa2 (by simp; omega), Xa2 (by simp), e2, wkA, List.replicate_succ' (n := a), List.append_assoc]
   rfl
 have := key n 0 rfl
 rw [List.replicate_zero, List.nil_append] at this
 exact Xgb this
theorem Xte (n : Nat) (h : n ≤ 1000000) : Xse (n : Int) = some (strOfNums (ueL n)) := by
 have main : ∀ (j m : Nat) (s : List Int), m < 2 ^ j → j ≤ 63 → s.length + j ≤ 1000 → loop Xl1 ((m : Int), strOfNums s) = some (strOfNums (Ypn m ++ s)) := by
  intro j
  induction j with
  | zero =>
   intro m s hm _ _
   have : m = 0 := by simp at hm; omega
   subst this
   refine Xfv ?_
   unfold Xl1
   simp only
   rw [snA, Ypn, dif_pos rfl]; rfl
  | succ j ih =>
   intro m s hm hj hl
   by_cases h : m = 0
   ·
    subst h
    refine Xfv ?_
    unfold Xl1
    simp only
    rw [snA, Ypn, dif_pos rfl]; rfl
   ·
    have hlt : (m : Int) < 2 ^ (j + 1) := by exact_mod_cast hm
    have hle : (2 : Int) ^ (j + 1) ≤ 2 ^ 63 := by
     have := Nat.pow_le_pow_right (n := 2) (by omega) hj
     exact_mod_cast this
    have hbd : (m : Int) < 9223372036854775808 := Int.lt_of_lt_of_le hlt (by simpa using hle)
    refine lgo (y := (((m / 2 : Nat) : Int), strOfNums ((48 + ((m % 2 : Nat) : Int)) :: s))) ?_ ?_
    ·
     unfold Xl1
     simp only
     rw [syA, Xa2 (by decide), Xbr (by omega), Xbg (by omega), wkA (e := 48 + (m : Int) % 2), w8 (by omega) (by omega), Xa2 (by simp only [strOfNums_size, List.length_singleton]; omega), Xa2 (by decide), wkA, Xdm]
     congr 3
    ·
     rw [ih (m / 2) _ (by rw [Nat.pow_succ] at hm; omega) (by omega) (by simp; omega)]
     conv => rhs; rw [Ypn, dif_neg h]
     rw [List.append_assoc]; rfl
 unfold Xse
 have h1 := Ynp (m := n + 1) (j := 20) (by omega)
 have h2 := Ygk (m := n + 1) (by omega)
 rw [wkA (e := (n : Int) + 1), Zbv, show (n : Int) + 1 = ((n + 1 : Nat) : Int) by omega, main 63 (n + 1) [] (by omega) (by omega) (by simp), Xab, List.append_nil, strOfNums_size, Yni, wkA, show (Xt9 (n + 1) : Int) - 1 = ((Xt9 (n + 1) - 1 : Nat) : Int) by omega, Yj4 _ _ (by omega), Xab,
  Xa2 (by simp only [strOfNums_size, List.length_replicate]; omega), Xdm]
 rfl
theorem Yyo (x : Int) (h : x = 48 ∨ x = 49) : ((x != 48) && (x != 49)) = false := by rcases h with rfl | rfl <;> rfl
theorem Yzf (l : List Int) (hl : Xov l) (hn : l.length ≤ 9223372036854775806) (f : Int → Option (Lp Int (Ou Unit Bool)))
  (h : ∀ i : Nat, i < l.length → f (i : Int) = sel (((l.getD i 0) != 48) && ((l.getD i 0) != 49)) (some (.done (.ret false))) (some (.go ((i + 1 : Nat) : Int)))) (h0 : f (l.length : Int) = some (.done (.out ()))) : loop f 0 = some (.out ()) :=
 Ya4 l.length (fun i hi => by rw [h i hi, Yyo _ (by rw [Xcm l i hi]; exact hl _ (List.getElem_mem hi)), Xao]) h0
theorem Xzy (l : List Int) (hl : Xov l) (hn : l.length ≤ 400000) : Xpd (strOfNums l) = some true := by
 unfold Xpd
 rw [strOfNums_size, snA, Yzf l hl (by omega) (Xlb (strOfNums l)) (fun i hi => by
  unfold Xlb
  rw [strOfNums_size, Xwn l (Xfj hl) i hi, syA, rqA, rqA, Xdi, Xab, wkA]; rfl) (by
  unfold Xlb; rw [strOfNums_size, snA])]
 rfl
def Xqa (l : List Int) : Int := l.foldl (fun x b => 2 * x + b - 48) 0
def Xgq : Nat → List Int → List Int
 | 0, _ => []
 | n + 1, l => Xqa (l.take 8) :: Xgq n (l.drop 8)
theorem Xre : ∀ (n : Nat) (l : List Int), (Xgq n l).length = n
 | 0, _ => rfl
 | n + 1, l => by rw [Xgq, List.length_cons, Xre n]
def Xs1 (l : List Int) : List Int := Xgq (l.length / 8 + 1) (l ++ 49 :: List.replicate (8 * (l.length / 8 + 1) - l.length - 1) 48)
theorem Zca (l : List Int) : ∀ x : Int, l.foldl (fun x b => 2 * x + b - 48) x = x * 2 ^ l.length + Xqa l := by
 induction l with
 | nil => intro x; simp [Xqa]
 | cons b l ih =>
  intro x
  unfold Xqa
  rw [List.foldl_cons, List.foldl_cons, ih, ih (2 * 0 + b - 48), List.length_cons, Int.pow_succ]
  have e1 : (2 * x + b - 48) * 2 ^ l.length = 2 * (x * 2 ^ l.length) + (b - 48) * 2 ^ l.length := by
   rw [show 2 * x + b - 48 = 2 * x + (b - 48) by omega, Int.add_mul, Int.mul_assoc]
  have e2 : x * (2 ^ l.length * 2) = 2 * (x * 2 ^ l.length) := by rw [← Int.mul_assoc, Int.mul_comm]
  rw [e1, e2, show (2 : Int) * 0 + b - 48 = b - 48 by omega]
  omega
theorem Xrb (a b : List Int) : Xqa (a ++ b) = Xqa a * 2 ^ b.length + Xqa b := by
 show (a ++ b).foldl _ 0 = _
 rw [List.foldl_append]
 exact Zca b (Xqa a)
theorem Ypi (z : Nat) : Xqa (List.replicate z 48) = 0 := by
 induction z with
 | zero => rfl
 | succ z ih => rw [List.replicate_succ', Xrb, ih]; rfl
theorem Ybi {l : List Int} (h : Xov l) : 0 ≤ Xqa l ∧ Xqa l < 2 ^ l.length := by
 induction l with
 | nil => simp [Xqa]
 | cons b l ih =>
  have h1 := ih (fun x hx => h x (by simp [hx]))
  have h2 := h b (by simp)
  rw [show b :: l = [b] ++ l from rfl, Xrb, List.length_append, Int.pow_add, show Xqa [b] = b - 48 by simp [Xqa]]
  have : (2 : Int) ^ [b].length = 2 := rfl
  rw [this]
  rcases h2 with rfl | rfl <;> omega
theorem Zcw : ∀ (x : Fin 256) (k : Fin 8), x.val % 2 ^ (8 - k.val) = 0 → (BitVec.ofNat 8 x.val ||| BitVec.ofNat 8 (128 / 2 ^ k.val)).toNat = x.val + 2 ^ (7 - k.val) := by decide +kernel
theorem Zcy (x : Int) (k : Nat) (h0 : 0 ≤ x) (h1 : x ≤ 255) (hk : k < 8) (hx : x % 2 ^ (8 - k) = 0) : IntKind.wrap .u8 (BitVec.ofInt (IntKind.bits .u8) x ||| BitVec.ofInt (IntKind.bits .u8) ((128 : Int) / 2 ^ min k (IntKind.bits .u8))).toNat = x + 2 ^ (7 - k) := by
 obtain ⟨n, rfl⟩ : ∃ n : Nat, x = n := ⟨x.toNat, by omega⟩
 have hm : min k (IntKind.bits .u8) = k := by show min k 8 = k; omega
 have hn : n % 2 ^ (8 - k) = 0 := by exact_mod_cast hx
 have := Zcw ⟨n, by omega⟩ ⟨k, hk⟩ hn
 simp only at this
 rw [hm]
 have e1 : BitVec.ofInt 8 ((128 : Int) / 2 ^ k) = BitVec.ofNat 8 (128 / 2 ^ k) := by
  rw [show ((128 : Int) / 2 ^ k) = ((128 / 2 ^ k : Nat) : Int) by push_cast; rfl, BitVec.ofInt_natCast]
 have e2 : BitVec.ofInt 8 (n : Int) = BitVec.ofNat 8 n := BitVec.ofInt_natCast ..
 show IntKind.wrap .u8 ((BitVec.ofInt 8 (n : Int) ||| BitVec.ofInt 8 ((128 : Int) / 2 ^ k)).toNat : Int) = _
 rw [e1, e2, this, ← Xqw]
 have hp : n + 2 ^ (7 - k) ≤ 255 := by
  have : n + 2 ^ (7 - k) < 256 := by rw [← this]; exact (BitVec.ofNat 8 n ||| BitVec.ofNat 8 (128 / 2 ^ k)).isLt
  omega
 rw [w8 (by omega) (by omega)]
 push_cast; rfl
theorem Ybo : ∀ (m : Nat) (L : List Int), Xov L → L.length < 8 * m → Xgq m (L ++ 49 :: List.replicate (8 * m - L.length - 1) 48) = (Xgq m (L ++ List.replicate (8 * m - L.length) 48)).set (L.length / 8) ((Xgq m (L ++ List.replicate (8 * m - L.length) 48)).getD (L.length / 8) 0 + 2 ^ (7 - L.length % 8)) ∧
  (Xgq m (L ++ List.replicate (8 * m - L.length) 48)).getD (L.length / 8) 0 % 2 ^ (8 - L.length % 8) = 0 ∧ 0 ≤ (Xgq m (L ++ List.replicate (8 * m - L.length) 48)).getD (L.length / 8) 0 ∧ (Xgq m (L ++ List.replicate (8 * m - L.length) 48)).getD (L.length / 8) 0 ≤ 255
 | 0, L, _, h => by omega
 | m + 1, L, hb, h => by
  by_cases h8 : L.length < 8
  ·
   have e0 : L.length / 8 = 0 := by omega
   have em : L.length % 8 = L.length := by omega
   have t1 : (L ++ List.replicate (8 * (m + 1) - L.length) 48).take 8 = L ++ List.replicate (8 - L.length) 48 := by
    rw [List.take_append, List.take_of_length_le (by omega), List.take_replicate]; congr 2; omega
   have d1 : (L ++ List.replicate (8 * (m + 1) - L.length) 48).drop 8 = List.replicate (8 * m) (48 : Int) := by
    rw [List.drop_append, List.drop_eq_nil_of_le (by omega), List.nil_append, List.drop_replicate]; congr 1; omega
   have t2 : (L ++ 49 :: List.replicate (8 * (m + 1) - L.length - 1) 48).take 8 = L ++ 49 :: List.replicate (8 - L.length - 1) 48 := by
    rw [List.take_append, List.take_of_length_le (by omega), show 8 - L.length = (8 - L.length - 1) + 1 by omega, List.take_succ_cons, List.take_replicate]; congr 3; omega
   have d2 : (L ++ 49 :: List.replicate (8 * (m + 1) - L.length - 1) 48).drop 8 = List.replicate (8 * m) (48 : Int) := by
    rw [List.drop_append, List.drop_eq_nil_of_le (by omega), List.nil_append, show 8 - L.length = (8 - L.length - 1) + 1 by omega, List.drop_succ_cons, List.drop_replicate]; congr 1; omega
   have r := Ybi hb
   have v1 : Xqa (L ++ List.replicate (8 - L.length) 48) = Xqa L * 2 ^ (8 - L.length) := by rw [Xrb, Ypi, List.length_replicate, Int.add_zero]
   have v2 : Xqa (L ++ 49 :: List.replicate (8 - L.length - 1) 48) = Xqa L * 2 ^ (8 - L.length) + 2 ^ (7 - L.length) := by
    rw [Xrb, show (49 : Int) :: List.replicate (8 - L.length - 1) 48 = [49] ++ List.replicate (8 - L.length - 1) 48 from rfl, Xrb, Ypi, Int.add_zero, List.length_append, List.length_replicate, show [(49 : Int)].length = 1 from rfl, show 1 + (8 - L.length - 1) = 8 - L.length by omega, show 8 - L.length - 1 = 7 - L.length by omega]
    show _ + Xqa [49] * _ = _
    rw [show Xqa [49] = 1 from rfl, Int.one_mul]
   rw [Xgq, Xgq, t1, d1, t2, d2, v1, v2, e0, em, List.getD_cons_zero, List.set_cons_zero]
   refine ⟨rfl, Int.mul_emod_left _ _, Int.mul_nonneg r.1 (Int.pow_nonneg (by decide)), ?_⟩
   have : (Xqa L + 1) * 2 ^ (8 - L.length) ≤ 2 ^ L.length * 2 ^ (8 - L.length) := Int.mul_le_mul_of_nonneg_right (by omega) (Int.pow_nonneg (by decide))
   rw [← Int.pow_add, show L.length + (8 - L.length) = 8 by omega, Int.add_mul, Int.one_mul] at this
   have hp : (1 : Int) ≤ 2 ^ (8 - L.length) := Int.pow_pos (by decide)
   have : (2 : Int) ^ 8 = 256 := by decide
   omega
  ·
   have hsp : L = L.take 8 ++ L.drop 8 := (List.take_append_drop 8 L).symm
   have hl8 : (L.take 8).length = 8 := by rw [List.length_take]; omega
   have hd : (L.drop 8).length = L.length - 8 := by rw [List.length_drop]
   have ih := Ybo m (L.drop 8) (fun x hx => hb x (List.mem_of_mem_drop hx)) (by omega)
   rw [hd] at ih
   have tk : ∀ s : List Int, (L ++ s).take 8 = L.take 8 := fun s => by rw [List.take_append, show 8 - L.length = 0 by omega, List.take_zero, List.append_nil]
   have dr : ∀ s : List Int, (L ++ s).drop 8 = L.drop 8 ++ s := fun s => by rw [List.drop_append, show 8 - L.length = 0 by omega, List.drop_zero]
   rw [Xgq, Xgq, tk, tk, dr, dr, show L.length / 8 = (L.length - 8) / 8 + 1 by omega, List.getD_cons_succ, List.set_cons_succ, show L.length % 8 = (L.length - 8) % 8 by omega, show 8 * (m + 1) - L.length = 8 * m - (L.length - 8) by omega]
   exact ⟨by rw [ih.1], ih.2⟩
theorem Yu3 (m : Nat) : Xgq m (List.replicate (8 * m) 48) = List.replicate m 0 := by
 induction m with
 | zero => rfl
 | succ m ih =>
  rw [Xgq, List.take_replicate, List.drop_replicate, show 8 * (m + 1) - 8 = 8 * m by omega, ih, Ypi, List.replicate_succ]
theorem Yu2 (m : Nat) (L : List Int) (h : L.length < 8 * m) : L ++ 48 :: List.replicate (8 * m - L.length - 1) 48 = L ++ List.replicate (8 * m - L.length) 48 := by
 congr 1
 rw [← List.replicate_succ]; congr 1; omega
theorem Ye5 (l : List Int) (hl : Xov l) (hn : l.length ≤ 400000) : Xla (strOfNums l) = some (strOfNums (Xs1 l), true) := by
 have hm' : maxLen = 9223372036854775807 := rfl
 unfold Xla
 rw [Xzy l hl hn, Xab, Xt2, Xau, Xa2 (by decide), strOfNums_size, Xbg (by omega), show (l.length : Int) / 8 = ((l.length / 8 : Nat) : Int) by omega, wkA (e := ((l.length / 8 : Nat) : Int)), wkA (e := ((l.length / 8 : Nat) : Int) + 1), rqA,
  show (((l.length / 8 : Nat) : Int) + 1).toNat = l.length / 8 + 1 by omega]
 generalize hm : l.length / 8 + 1 = m
 have key : ∀ (r a : List Int), l = a ++ r → loop (Xgt (strOfNums l)) ((a.length : Int), Xgq m (a ++ List.replicate (8 * m - a.length) 48)) = some (Xgq m (l ++ List.replicate (8 * m - l.length) 48)) := by
  intro r
  induction r with
  | nil =>
   intro a ha
   rw [List.append_nil] at ha
   rw [← ha]
   refine Xfv ?_
   unfold Xgt
   simp only
   rw [strOfNums_size, snA]
  | cons x r ih =>
   intro a ha
   have hlen : a.length < l.length := by rw [ha]; simp
   have hx : l.getD a.length 0 = x := by rw [ha]; exact Xne a x _ r
   have hb : x = 48 ∨ x = 49 := hl x (by rw [ha]; simp)
   have ha8 : a.length < 8 * m := by omega
   have hab : Xov a := fun y hy => hl y (by rw [ha]; simp [hy])
   obtain ⟨c1, c2, c3, c4⟩ := Ybo m a hab ha8
   have hcl := Xre m (a ++ List.replicate (8 * m - a.length) 48)
   have hnext := ih (a ++ [x]) (by rw [ha]; simp)
   rw [List.length_append, List.length_singleton] at hnext
   refine lgo (y := (((a.length + 1 : Nat) : Int), Xgq m (a ++ [x] ++ List.replicate (8 * m - (a.length + 1)) 48))) ?_ hnext
   unfold Xgt
   simp only
   rw [strOfNums_size, syA, Xwn l (Xfj hl) _ hlen, hx, wkA (e := (a.length : Int) + 1), Xbg (by omega), Xbr (by omega), show (a.length : Int) / 8 = ((a.length / 8 : Nat) : Int) by omega, show (a.length : Int) % 8 = ((a.length % 8 : Nat) : Int) by omega,
    wkA (e := ((a.length / 8 : Nat) : Int)), Int.toNat_natCast, Int.toNat_natCast, rqA]
   rw [List.append_assoc, List.singleton_append, Nat.sub_add_eq]
   rcases hb with rfl | rfl
   ·
    rw [Xbi (by decide), Xab, Yu2 m a ha8]; rfl
   ·
    rw [Xbw (by decide), Xa2 (by decide), rqA, rqA, Xa2 (by decide), rqA, rqA, rqA, Xab, Zcy _ _ c3 c4 (by omega) c2, c1]; rfl
 have := key l [] rfl
 rw [List.nil_append, List.length_nil, Nat.sub_zero, Yu3] at this
 refine (Xgb this).trans ?_
 have hl8 : l.length < 8 * m := by omega
 obtain ⟨c1, c2, c3, c4⟩ := Ybo m l hl hl8
 have hcl := Xre m (l ++ List.replicate (8 * m - l.length) 48)
 rw [Xa2 (by decide), rqA, Int.toNat_natCast, rqA, Xa2 (by decide), Xbr (by omega), rqA, rqA, rqA, show ((l.length : Int) % 8).toNat = l.length % 8 by omega, Zcy _ _ c3 c4 (by omega) c2, ← c1]
 unfold Xs1
 rw [hm]
theorem Xs2 (l : List Int) : (Xs1 l).length = l.length / 8 + 1 := Xre _ _
def Yd1 (k : Int) : Bool := k == 1 || (k == 5 || (k == 7 || k == 8))
theorem Xw5 (k : Int) : Xmu k = some (Yd1 k) := by
 unfold Xmu Yd1
 simp only [Yd9, Xab]
theorem Yi9 {k : Int} (h : Yd1 k = true) : 1 ≤ k ∧ k ≤ 8 := by
 unfold Yd1 at h
 simp only [Bool.or_eq_true, beq_iff_eq] at h
 omega
theorem Xq0 (k : Int) (l : List Int) (hk : Yd1 k = true) (hl : Xov l) (hn : l.length ≤ 400000) : Xj8 k (strOfNums l) = some (strOfNums (k :: Xs1 l), true) := by
 have := Yi9 hk
 have hp := Xs2 l
 unfold Xj8
 rw [Ye5 l hl hn, Xab, Xw5, hk]
 simp only [Xau, Xab, Bool.not_true, Xao]
 rw [w8 (by omega) (by omega), Xa2 (by simp only [strOfNums_size, List.length_singleton]; omega), Xdm]; rfl
def Xq6 (b : Bool) : List Int := if b = true then [49] else [48]
theorem Yjt (b : Bool) : Xov (Xq6 b) := by unfold Xq6; split <;> (intro x hx; rw [List.mem_singleton.1 hx]; simp)
theorem Xn8 (b : Bool) : (Xq6 b).length = 1 := by unfold Xq6; split <;> rfl
theorem Xur (b : Bool) : Xr0 b = some (strOfNums (Xq6 b)) := by cases b <;> rfl
def Yd5 (p : Par) : List Int := Xvk 6 p.Qp ++ Xq6 p.Large ++ Xq6 p.Exact ++ Xq6 p.Confined
theorem Yot (p : Par) : Xov (Yd5 p) := Xa5 (Xa5 (Xa5 (Ygl _ _) (Yjt _)) (Yjt _)) (Yjt _)
theorem Ygu (p : Par) : (Yd5 p).length = 9 := by unfold Yd5; simp only [List.length_append, Xc2, Xn8]
theorem Yax {p : Par} (h : Xi5 p = true) : 0 ≤ p.Qp ∧ p.Qp ≤ 40 := by
 unfold Xi5 at h; rw [Bool.and_eq_true, decide_eq_true_eq] at h; exact h.1
theorem Yk4 (p : Par) (h : Xi5 p = true) : Xpq p = some (strOfNums (Yd5 p), true) := by
 have := Yax h
 unfold Xpq
 rw [Xde, Xab, h, Xbi (by rfl), show (6 : Int) = ((6 : Nat) : Int) from rfl, Xo3 _ 6 (by omega) (by omega) (by omega), Xab, Xur, Xab, Xa2 (by simp only [strOfNums_size, Xc2, Xn8]; omega), Xur, Xab, Xdm, Xa2 (by simp only [strOfNums_size, List.length_append, Xc2, Xn8]; omega), Xur, Xab, Xdm, Xa2 (by simp only [strOfNums_size, List.length_append, Xc2, Xn8]; omega), Xdm]
 rfl
def Yul : List Int → List Int
 | [] => []
 | x :: r => ueL x.toNat ++ Yul r
theorem Yum : ∀ l : List Int, Xov (Yul l)
 | [] => Xsj
 | x :: r => Xa5 (Xgo _) (Yum r)
theorem Yun : ∀ {l : List Int}, l.all Xep = true → (Yul l).length ≤ 39 * l.length
 | [], _ => by simp [Yul]
 | x :: r, h => by
  rw [List.all_cons, Bool.and_eq_true] at h
  have h1 := Yun h.2
  have h2 : 1 ≤ x ∧ x ≤ 8 := by simpa [Xep] using h.1
  have := Xfh x.toNat (by omega)
  rw [Yul, List.length_append, List.length_cons]
  omega
def Xr5 (l : List Int) : List Int := ueL l.length ++ Yul l
def Xyn (s : Seq) : List Int := ueL s.Level.toNat ++ Xvk 4 s.Bits ++ Xr5 s.Cols ++ Xr5 s.Rows
theorem Yq1 (l : List Int) : Xov (Xr5 l) := Xa5 (Xgo _) (Yum _)
theorem Yo1 (s : Seq) : Xov (Xyn s) := Xa5 (Xa5 (Xa5 (Xgo _) (Ygl _ _)) (Yq1 _)) (Yq1 _)
theorem Yau {l : List Int} (h : Xeh l = true) : (Xr5 l).length ≤ 195 := by
 have h1 := Xbc h
 unfold Xeh at h
 rw [Bool.and_eq_true] at h
 have := Yun h.2
 have := Xfh l.length (by omega)
 unfold Xr5; rw [List.length_append]; omega
theorem Xyo {s : Seq} (h : Xhl s = true) : 1 ≤ s.Level ∧ s.Level ≤ 3 := by
 unfold Xhl at h
 rw [Bool.and_eq_true, decide_eq_true_eq] at h
 have := h.1
 unfold Xkt at this
 repeat' split at this
 all_goals omega
theorem Yuc {s : Seq} (h : Xhl s = true) : (Xyn s).length ≤ 433 := by
 obtain ⟨h1, h2, _⟩ := Xbb h
 have h3 := Xyo h
 have := Yau h1
 have := Yau h2
 have := Xfh s.Level.toNat (by omega)
 unfold Xyn; simp only [List.length_append, Xc2]; omega
theorem Yrv (l : List Int) (ha : l.all Xep = true) (h4 : l.length ≤ 4) (f : (ByteArray × Int) → Option (Lp (ByteArray × Int) ByteArray))
  (h : ∀ (i : Nat) (s : List Int) (x : Int), i < l.length → s.length ≤ 1000 → l.getD i 0 = x → f (strOfNums s, (i : Int)) = some (.go (strOfNums (s ++ ueL x.toNat), ((i + 1 : Nat) : Int)))) (h0 : ∀ s, f (s, (l.length : Int)) = some (.done s)) (s : List Int) (hs : s.length ≤ 500) : loop f (strOfNums s, 0) = some (strOfNums (s ++ Yul l)) := by
 have key : ∀ (r a : List Int) (s : List Int), l = a ++ r → s.length + 39 * r.length ≤ 800 → loop f (strOfNums s, (a.length : Int)) = some (strOfNums (s ++ Yul r)) := by
  intro r
  induction r with
  | nil => intro a s ha _; rw [List.append_nil] at ha; rw [← ha, Xc3 (h0 _), Yul, List.append_nil]
  | cons x r ih =>
   intro a s hl hsl
   have hlen : a.length < l.length := by rw [hl]; simp
   have hx : l.getD a.length 0 = x := by rw [hl]; exact Xne a x _ r
   have hxs : 1 ≤ x ∧ x ≤ 8 := by simpa [Xep] using List.all_eq_true.1 ha x (by rw [hl]; simp)
   have := Xfh x.toNat (by omega)
   rw [List.length_cons] at hsl
   have hn := ih (a ++ [x]) (s ++ ueL x.toNat) (by rw [hl]; simp) (by rw [List.length_append]; omega)
   rw [List.length_append, List.length_singleton] at hn
   rw [Xcu (h a.length s x hlen (by omega) hx), hn, Yul, List.append_assoc]
 exact key l [] s rfl (by omega)
theorem Ylf (s : Seq) (h : Xhl s = true) (hc : s.Cols.length ≤ maxLen) (hr : s.Rows.length ≤ maxLen) : Xps s = some (strOfNums (Xyn s), true) := by
 obtain ⟨h1, h2, h3⟩ := Xbb h
 have h4 := Xyo h
 have g1 := Yau h1
 have g2 := Yau h2
 have g3 := Xfh s.Level.toNat (by omega)
 unfold Xps
 rw [Xiq s hc hr, Xab, h, Xbi (by rfl), show s.Level = ((s.Level.toNat : Nat) : Int) by omega, Xfu _ (by omega), Xab, show (4 : Int) = ((4 : Nat) : Int) from rfl, Xo3 _ 4 (by omega) (by omega) (by omega), Xab, Xa2 (by simp only [strOfNums_size, Xc2]; omega), Xdm]
 have step : ∀ (n : Nat) (l t : List Int), n = 0 ∨ n = 1 → ([s.Cols, s.Rows]).getD n Xgc = l → Xeh l = true → t.length ≤ 300 → Xee s (strOfNums t, (n : Int)) = some (.go (strOfNums (t ++ Xr5 l), ((n + 1 : Nat) : Int))) := by
  intro n l t hn hl hok ht
  have l4 := Xbc hok
  have ha : l.all Xep = true := by unfold Xeh at hok; rw [Bool.and_eq_true] at hok; exact hok.2
  have := Xfh l.length (by omega)
  unfold Xee
  simp only [Int.toNat_natCast, hl, List.length_cons, List.length_nil]
  rw [syA, rqA, rqA, Xfu _ (by omega), Xab, Xa2 (by simp only [strOfNums_size]; omega), Xdm, Yrv l ha l4.2 (Xhx s (strOfNums t, (n : Int))) (by
   intro i u x hi hs hx
   have hxs : 1 ≤ x ∧ x ≤ 8 := by rw [Xcm l i hi] at hx; simpa [Xep, hx] using List.all_eq_true.1 ha _ (List.getElem_mem hi)
   have := Xfh x.toNat (by omega)
   unfold Xhx
   simp only [Int.toNat_natCast, hl, hx]
   rw [syA, rqA, show x = ((x.toNat : Nat) : Int) by omega, Xfu _ (by omega), Xab, Xa2 (by simp only [strOfNums_size]; omega), wkA, Xdm]
   rfl) (by intro u; unfold Xhx; simp only [Int.toNat_natCast, hl]; rw [snA]) _ (by rw [List.length_append]; omega), Xab, wkA, List.append_assoc]
  rfl
 have s0 := step 0 s.Cols (ueL s.Level.toNat ++ Xvk 4 s.Bits) (.inl rfl) rfl h1 (by rw [List.length_append, Xc2]; omega)
 have s1 := step 1 s.Rows (ueL s.Level.toNat ++ Xvk 4 s.Bits ++ Xr5 s.Cols) (.inr rfl) rfl h2 (by simp only [List.length_append, Xc2]; omega)
 have s2 : ∀ t, Xee s (t, ((2 : Nat) : Int)) = some (.done t) := by intro t; unfold Xee; simp only; rw [Xar (by simp)]
 have e : loop (Xee s) (strOfNums (ueL s.Level.toNat ++ Xvk 4 s.Bits), ((0 : Nat) : Int)) = some (strOfNums (Xyn s)) := by
  rw [Xcu s0, Xcu s1, Xc3 (s2 _)]; rfl
 exact Xgb e
def Xvz (s : Xa3) : List ByteArray := if Xba s = true then [strOfNums (7 :: Xs1 (Xyn s.Seq)), strOfNums (8 :: Xs1 (Yd5 s.Par))] else []
theorem Ylx {s : Xa3} (h : Xba s = true) : Xhl s.Seq = true ∧ Xi5 s.Par = true := by
 unfold Xba at h
 simp only [Bool.and_eq_true, decide_eq_true_eq] at h
 exact ⟨Xoe h.1.1.1.1.1, h.1.1.1.1.2⟩
theorem Xz3 (s : Xa3) (hc : s.Seq.Cols.length ≤ maxLen) (hr : s.Seq.Rows.length ≤ maxLen) : Xhz s = some (Xvz s) := by
 unfold Xhz Xvz
 rw [Xol s hc hr, Xab, Xt2]
 cases h : Xba s with
 | false => rfl
 | true =>
  obtain ⟨h1, h2⟩ := Ylx h
  have := Yuc h1
  rw [Xau, Ylf _ h1 hc hr, Xab, Yk4 _ h2, Xab, Xq0 7 _ rfl (Yo1 _) (by omega), Xab, Xq0 8 _ rfl (Yot _) (by rw [Ygu]; omega), Xab]
  rfl
def Yhd (n : Int) : Nat := if n > 0 then (2 * n - 1).toNat else (-2 * n).toNat
theorem Xwp (n : Int) (h : -500000 ≤ n ∧ n ≤ 500000) : Xmf n = some ((Yhd n : Int), true) := by
 unfold Xmf Yhd
 rw [Xaj, Xab, Xt2, Xbk h, Ysv, wkA (e := 2 * n), wkA, wkA]
 split
 ·
  rw [Int.toNat_of_nonneg (by omega)]
 ·
  rw [Int.toNat_of_nonneg (by omega)]
theorem Yl0 (n : Int) (h : -500000 ≤ n ∧ n ≤ 500000) : Xys n = some ((Yhd n : Int), true) := by
 unfold Xys Yhd
 rw [Xal, Xab, Xt2, Xbk h, Ysv, wkA (e := 2 * n), wkA, wkA]
 split
 ·
  rw [Int.toNat_of_nonneg (by omega)]
 ·
  rw [Int.toNat_of_nonneg (by omega)]
theorem Xvl (n : Int) (h : -500000 ≤ n ∧ n ≤ 500000) : Yhd n ≤ 1000000 := by unfold Yhd; split <;> omega
def seL (n : Int) : List Int := ueL (Yhd n)
theorem Xs5 (n : Int) (h : -500000 ≤ n ∧ n ≤ 500000) : (seL n).length ≤ 39 := (Xfh _ (Xvl n h)).1
theorem Yo9 (n : Int) (h : -500000 ≤ n ∧ n ≤ 500000) : Yde n = some (strOfNums (seL n)) := by
 unfold Yde
 rw [Yl0 n h, Xab, Xte _ (Xvl n h), Xab]; rfl
theorem Xo1 (n : Int) (h : -500000 ≤ n ∧ n ≤ 500000) : Xkk n = some (strOfNums (seL n), true) := by
 have := Xvl n h
 unfold Xkk
 rw [Xwp n h, Xab, Xt2, Xau]
 unfold Xpe
 rw [Xaj, Xab, Xt2, syA, Xfu _ this, Xab, Xab]; rfl
def Ypp (x : Int) : Bool := decide (-5000 ≤ x ∧ x ≤ 5000)
theorem Yop {x : Int} : Ypp x = true ↔ -5000 ≤ x ∧ x ≤ 5000 := by simp [Ypp]
def nz : List Int → Nat
 | [] => 0
 | x :: r => if x = 0 then nz r else nz r + 1
theorem Yxf : ∀ l : List Int, nz l ≤ l.length
 | [] => by simp [nz]
 | x :: r => by rw [nz, List.length_cons]; have := Yxf r; split <;> omega
def Xo7 : Nat → List Int → List Int
 | _, [] => []
 | g, x :: r => if x = 0 then Xo7 (g + 1) r else ueL g ++ seL x ++ Xo7 0 r
def Xi6 (l : List Int) : List Int := ueL (nz l) ++ Xo7 0 l
theorem Yjp : ∀ (l : List Int) (g : Nat), Xov (Xo7 g l)
 | [], _ => Xsj
 | x :: r, g => by
  rw [Xo7]
  split
  ·
   exact Yjp r _
  ·
   exact Xa5 (Xa5 (Xgo _) (Xgo _)) (Yjp r _)
theorem Yjq : ∀ (l : List Int) (g : Nat), l.all Ypp = true → g + l.length ≤ 1000 → (Xo7 g l).length ≤ 78 * l.length
 | [], _, _, _ => by simp [Xo7]
 | x :: r, g, h, hg => by
  rw [List.all_cons, Bool.and_eq_true, Yop] at h
  rw [List.length_cons] at hg ⊢
  rw [Xo7]
  split
  ·
   have := Yjq r (g + 1) h.2 (by omega); omega
  ·
   have := Yjq r 0 h.2 (by omega)
   have a := Xfh g (by omega)
   have b := Xs5 x (by omega)
   simp only [List.length_append]; omega
theorem Xuw (l : List Int) : Xov (Xi6 l) := Xa5 (Xgo _) (Yjp _ _)
theorem Xlq (l : List Int) (h : l.all Ypp = true) (hl : l.length ≤ 64) : (Xi6 l).length ≤ 39 + 78 * l.length := by
 have := Yjq l 0 h (by omega)
 have := Yxf l
 have := Xfh (nz l) (by omega)
 unfold Xi6; rw [List.length_append]; omega
theorem Ydx (l : List Int) (h : l.all Ypp = true) (hl : l.length ≤ 64) : Xrv l = some (Xi6 l) := by
 have hm : maxLen = 9223372036854775807 := rfl
 unfold Xrv
 have k1 : ∀ (r a : List Int) (n : Nat), l = a ++ r → n ≤ a.length → loop (Xkp l) ((n : Int), (a.length : Int)) = some ((n + nz r : Nat) : Int) := by
  intro r
  induction r with
  | nil =>
   intro a n ha _
   rw [List.append_nil] at ha
   refine Xfv ?_
   unfold Xkp
   simp only
   rw [Xar (by rw [ha]; omega)]; rfl
  | cons x r ih =>
   intro a n ha hn
   have hlen : a.length < l.length := by rw [ha]; simp
   have hx : l.getD a.length 0 = x := by rw [ha]; exact Xne a x _ r
   by_cases e : x = 0
   ·
    have hnext := ih (a ++ [x]) n (by rw [ha]; simp) (by simp; omega)
    rw [List.length_append, List.length_singleton] at hnext
    rw [nz, if_pos e, ← hnext]
    refine Xcu ?_
    unfold Xkp
    simp only [Int.toNat_natCast, hx]
    rw [syA, rqA, Xbi (by simpa using e), Xab, wkA]
    rfl
   ·
    have hnext := ih (a ++ [x]) (n + 1) (by rw [ha]; simp) (by simp; omega)
    rw [List.length_append, List.length_singleton] at hnext
    rw [nz, if_neg e, show n + (nz r + 1) = n + 1 + nz r by omega, ← hnext]
    refine Xcu ?_
    unfold Xkp
    simp only [Int.toNat_natCast, hx]
    rw [syA, rqA, Xbw (by simpa using e), Xab, wkA, wkA]
    rfl
 refine (Xgb (k1 l [] 0 rfl (by omega))).trans ?_
 have hz := Yxf l
 have u := Xfh (nz l) (by omega)
 simp only [Nat.zero_add]
 rw [Xfu _ (by omega), Xab, Xqm _ (Xfj (Xgo _)), Xa2 (by simp only [List.length_nil]; omega), List.nil_append]
 have key : ∀ (r a : List Int) (g : Nat) (s : List Int), l = a ++ r → g ≤ a.length → s.length ≤ 39 + 78 * a.length → loop (Xkq l) ((g : Int), (a.length : Int), s) = some (s ++ Xo7 g r) := by
  intro r
  induction r with
  | nil =>
   intro a g s ha _ _
   rw [List.append_nil] at ha
   refine Xfv ?_
   unfold Xkq
   simp only
   rw [Xar (by rw [ha]; omega), Xo7, List.append_nil]
  | cons x r ih =>
   intro a g s ha hg hs
   have hlen : a.length < l.length := by rw [ha]; simp
   have hx : l.getD a.length 0 = x := by rw [ha]; exact Xne a x _ r
   have hxi : -5000 ≤ x ∧ x ≤ 5000 := Yop.1 (List.all_eq_true.1 h x (by rw [ha]; simp))
   by_cases e : x = 0
   ·
    have hnext := ih (a ++ [x]) (g + 1) s (by rw [ha]; simp) (by simp; omega) (by simp; omega)
    rw [List.length_append, List.length_singleton] at hnext
    rw [Xo7, if_pos e, ← hnext]
    refine Xcu ?_
    unfold Xkq
    simp only [Int.toNat_natCast, hx]
    rw [syA, rqA, Xbw (by simpa using e), Xab, wkA, wkA]
    rfl
   ·
    have u1 := Xfh g (by omega)
    have u2 := Xs5 x (by omega)
    have hnext := ih (a ++ [x]) 0 (s ++ ueL g ++ seL x) (by rw [ha]; simp) (by omega) (by simp only [List.length_append, List.length_singleton]; omega)
    rw [List.length_append, List.length_singleton] at hnext
    rw [Xo7, if_neg e, ← List.append_assoc, ← List.append_assoc, ← hnext]
    refine Xcu ?_
    unfold Xkq
    simp only [Int.toNat_natCast, hx]
    rw [syA, rqA, Xbi (by simpa using e), Xwp x (by omega), Xab, Xfu g (by omega), Xab, Xqm _ (Xfj (Xgo _)), rqA, Xfu _ (Xvl x (by omega)), Xab, Xqm _ (Xfj (Xgo _)), Xa2 (by rw [List.length_append]; have : (seL x).length = (ueL (Yhd x)).length := rfl; omega), Xab, wkA]
    rfl
 exact Xgb (key l [] 0 (ueL (nz l)) rfl (by omega) (by simp; omega))
def Ygr (l : List Int) : Bool := decide (l.length = 64) && l.all Ypp
theorem Ygi (p : Int → Bool) (l : List Int) (f : Int → Option (Lp Int (Ou Unit Bool))) (h : ∀ i : Nat, i < l.length → f (i : Int) = sel (!(p (l.getD i 0))) (some (.done (.ret false))) (some (.go ((i + 1 : Nat) : Int)))) (h0 : f (l.length : Int) = some (.done (.out ()))) :
  loop f 0 = some (if l.all p = true then .out () else .ret false) := by
 have key : ∀ (r a : List Int), l = a ++ r → loop f (a.length : Int) = some (if r.all p = true then .out () else .ret false) := by
  intro r
  induction r with
  | nil => intro a ha; rw [List.append_nil] at ha; rw [← ha, Xc3 h0]; rfl
  | cons x r ih =>
   intro a ha
   have hlen : a.length < l.length := by rw [ha]; simp
   have hx : l.getD a.length 0 = x := by rw [ha]; exact Xne a x _ r
   have hs := h a.length hlen
   rw [hx] at hs
   cases e : p x with
   | true =>
    rw [e] at hs
    have := ih (a ++ [x]) (by rw [ha]; simp)
    rw [List.length_append, List.length_singleton] at this
    rw [Xcu hs, this, List.all_cons, e, Bool.true_and]
   | false => rw [e] at hs; rw [Xc3 hs, List.all_cons, e, Bool.false_and]; rfl
 exact key l [] rfl
theorem Ymd (l : List Int) : Xck l 64 5000 = some (Ygr l) := by
 unfold Xck Ygr
 by_cases h : l.length = 64
 ·
  rw [Xbi (by simp only [bne_eq_false_iff_eq]; omega), Ygi Ypp l (Xfe l 64 5000) (by
   intro i hi
   unfold Xfe
   rw [syA, rqA, wkA (e := 0 - 5000), Xal, Xab, wkA, Int.toNat_natCast]
   rfl) (by unfold Xfe; rw [snA]), Xab, decide_eq_true h, Bool.true_and]
  cases l.all Ypp <;> rfl
 ·
  rw [Xbw (by simp only [bne_iff_ne, ne_eq]; omega), decide_eq_false h, Bool.false_and]
theorem Xlg (l : List Int) (n lo hi : Int) (hl : l.length ≤ 9223372036854775806) : Xbm l n lo hi = some (l.all (fun x => decide (lo ≤ x ∧ x ≤ hi)) && ((l.length : Int) == n)) := by
 unfold Xbm
 rw [Ygi (fun x => decide (lo ≤ x ∧ x ≤ hi)) l (Xlh l lo hi) (by
   intro i hi
   unfold Xlh
   rw [syA, rqA, Xaj, Xab, wkA, Int.toNat_natCast]
   rfl) (by unfold Xlh; rw [snA]), Xab]
 cases l.all (fun x => decide (lo ≤ x ∧ x ≤ hi)) <;> rfl
theorem Xrq (l : List Int) (hl : l.length ≤ 9223372036854775806) : Xfb l = some (Ygr l) := by
 unfold Xfb Ygr
 rw [Xlg l _ _ _ hl, Xab]
 show some (l.all Ypp && ((l.length : Int) == 64)) = _
 have : ((l.length : Int) == 64) = decide (l.length = 64) := by rw [Bool.eq_iff_iff]; simp only [beq_iff_eq, decide_eq_true_eq]; omega
 rw [this, Bool.and_comm]
theorem Xpi {l : List Int} (h : Ygr l = true) : l.length = 64 ∧ l.all Ypp = true := by
 unfold Ygr at h; rw [Bool.and_eq_true, decide_eq_true_eq] at h; exact h
def Ypo (l : List Int) (c : Xer) : List Int := if (c.Large || c.Exact) = true then Xi6 l else Xi6 (l.take 16) ++ Xi6 ((l.drop 16).take 16) ++ Xi6 ((l.drop 32).take 16) ++ Xi6 (l.drop 48)
theorem Xk2 {l : List Int} (h : l.all Ypp = true) (n : Nat) : (l.take n).all Ypp = true := List.all_eq_true.2 fun x hx => List.all_eq_true.1 h x (List.mem_of_mem_take hx)
theorem Xk1 {l : List Int} (h : l.all Ypp = true) (n : Nat) : (l.drop n).all Ypp = true := List.all_eq_true.2 fun x hx => List.all_eq_true.1 h x (List.mem_of_mem_drop hx)
theorem Yts (l : List Int) (c : Xer) : Xov (Ypo l c) := by
 unfold Ypo
 split
 ·
  exact Xuw l
 ·
  exact Xa5 (Xa5 (Xa5 (Xuw _) (Xuw _)) (Xuw _)) (Xuw _)
theorem Ygq {l : List Int} {c : Xer} (h : Ygr l = true) : (Ypo l c).length ≤ 5148 := by
 obtain ⟨h1, h2⟩ := Xpi h
 unfold Ypo
 split
 ·
  have := Xlq l h2 (by omega); omega
 ·
  have a := Xlq (l.take 16) (Xk2 h2 _) (by rw [List.length_take]; omega)
  have b := Xlq ((l.drop 16).take 16) (Xk2 (Xk1 h2 _) _) (by rw [List.length_take, List.length_drop]; omega)
  have c := Xlq ((l.drop 32).take 16) (Xk2 (Xk1 h2 _) _) (by rw [List.length_take, List.length_drop]; omega)
  have d := Xlq (l.drop 48) (Xk1 h2 _) (by rw [List.length_drop]; omega)
  rw [List.length_take] at a
  rw [List.length_take, List.length_drop] at b c
  rw [List.length_drop] at d
  simp only [List.length_append]; omega
theorem Xru (l : List Int) (c : Xer) (h : Ygr l = true) : Xg5 l c = some (Ypo l c) := by
 have hm : maxLen = 9223372036854775807 := rfl
 obtain ⟨h1, h2⟩ := Xpi h
 unfold Xg5 Ypo
 rw [Yd9, Xab]
 by_cases e : (c.Large || c.Exact) = true
 ·
  rw [Xbw e, if_pos e, Ydx l h2 (by omega), Xab]
 ·
  rw [Xbi (by simpa using e), if_neg e]
  have step : ∀ (n : Nat) (s : List Int), n < 4 → s.length ≤ 4000 → Xc6 l ((n : Int), s) = some (.go (((n + 1 : Nat) : Int), s ++ Xi6 ((l.drop (16 * n)).take 16))) := by
   intro n s hn hs
   have g := Xlq ((l.drop (16 * n)).take 16) (Xk2 (Xk1 h2 _) _) (by rw [List.length_take, List.length_drop]; omega)
   rw [List.length_take, List.length_drop] at g
   unfold Xc6
   simp only
   rw [syA, wkA (e := 16 * (n : Int)), wkA (e := 16 * (n : Int) + 16), rqA, show (16 * (n : Int)).toNat = 16 * n by omega, show (16 * (n : Int) + 16).toNat - 16 * n = 16 by omega, Ydx _ (Xk2 (Xk1 h2 _) _) (by rw [List.length_take, List.length_drop]; omega), Xab, rqA, wkA]
   rfl
  have g0 := Xlq ((l.drop (16 * 0)).take 16) (Xk2 (Xk1 h2 _) _) (by rw [List.length_take, List.length_drop]; omega)
  have g1 := Xlq ((l.drop (16 * 1)).take 16) (Xk2 (Xk1 h2 _) _) (by rw [List.length_take, List.length_drop]; omega)
  have g2 := Xlq ((l.drop (16 * 2)).take 16) (Xk2 (Xk1 h2 _) _) (by rw [List.length_take, List.length_drop]; omega)
  rw [List.length_take, List.length_drop] at g0 g1 g2
  have l4 : ∀ s, Xc6 l (((4 : Nat) : Int), s) = some (.done s) := by intro s; unfold Xc6; simp only; rw [snA]
  have e : loop (Xc6 l) (((0 : Nat) : Int), []) = some ([] ++ Xi6 ((l.drop (16 * 0)).take 16) ++ Xi6 ((l.drop (16 * 1)).take 16) ++ Xi6 ((l.drop (16 * 2)).take 16) ++ Xi6 ((l.drop (16 * 3)).take 16)) := by
   rw [Xcu (step 0 [] (by omega) (by simp)), Xcu (step 1 _ (by omega) (by simp only [List.length_append, List.length_nil]; omega)), Xcu (step 2 _ (by omega) (by simp only [List.length_append, List.length_nil]; omega)), Xcu (step 3 _ (by omega) (by simp only [List.length_append, List.length_nil]; omega)), Xc3 (l4 _)]
  refine (Xgb e).trans ?_
  rw [List.nil_append, show 16 * 0 = 0 from rfl, List.drop_zero, show (l.drop (16 * 3)).take 16 = l.drop 48 from List.take_of_length_le (by rw [List.length_drop]; omega)]
def Xi1 (c : Xer) : Bool := decide (0 ≤ c.Qp ∧ c.Qp ≤ 40) && !(c.Large && c.Exact)
theorem Xha (c : Xer) : Xm4 c = some (Xi1 c) := by
 unfold Xm4 Xi1
 rw [Xal, Xab, Xs6, Xdi, Xab]
 cases c.Large <;> cases c.Exact <;> rfl
theorem Xdd (c : Xer) : Xdn c = some (Xi1 c) := by
 unfold Xdn Xi1
 rw [Xaj, Xab, Xs6, Xdi, Xab]
 cases c.Large <;> cases c.Exact <;> rfl
def Xvc (s : Xam) : Bool :=
 if s.Kind = 0 then decide (s.Mode = 0 ∧ s.Dx = 0 ∧ s.Dy = 0 ∧ s.Levels.length = 0)
 else if s.Kind = 1 then decide (s.Mode = 0) && (decide (-16 ≤ s.Dx ∧ s.Dx ≤ 16) && (decide (-16 ≤ s.Dy ∧ s.Dy ≤ 16) && Ygr s.Levels))
 else if s.Kind = 2 then decide (0 ≤ s.Mode ∧ s.Mode ≤ 3) && (decide (s.Dx = 0) && (decide (s.Dy = 0) && Ygr s.Levels))
 else false
theorem Yr4 (a b : Int) : (a == b) = decide (a = b) := by rw [Bool.eq_iff_iff]; simp
theorem Yf5 (s : Xam) : Xtc s = some (Xvc s) := by
 unfold Xtc Xvc
 simp only [Xal, Ymd, Xab, Xdi, Yr4]
 simp only [Ysv]
 by_cases h0 : s.Kind = 0
 ·
  rw [if_pos h0, if_pos h0]; congr 1; rw [Bool.eq_iff_iff]; simp
 ·
  rw [if_neg h0, if_neg h0]
  by_cases h1 : s.Kind = 1
  ·
   rw [if_pos h1, if_pos h1]
  ·
   rw [if_neg h1, if_neg h1]
   by_cases h2 : s.Kind = 2
   ·
    rw [decide_eq_true h2, Bool.true_and, if_pos h2]
   ·
    rw [decide_eq_false h2, Bool.false_and, if_neg h2]
theorem Xon (s : Xam) (hl : s.Levels.length ≤ 9223372036854775806) : Xgh s = some (Xvc s) := by
 unfold Xgh Xvc
 simp only [Xaj, Xrq _ hl, Xab, Xdi, Yr4]
 simp only [Ysv]
 by_cases h0 : s.Kind = 0
 ·
  rw [if_pos h0, if_pos h0]; congr 1; rw [Bool.eq_iff_iff]; simp
 ·
  rw [if_neg h0, if_neg h0]
  by_cases h1 : s.Kind = 1
  ·
   rw [if_pos h1, if_pos h1]
  ·
   rw [if_neg h1, if_neg h1]
   by_cases h2 : s.Kind = 2
   ·
    rw [decide_eq_true h2, Bool.true_and, if_pos h2]
   ·
    rw [decide_eq_false h2, Bool.false_and, if_neg h2]
def Xtf (s : Xam) (c : Xer) : Bool := !c.Key || s.Kind == 2
def sqL (s : Xam) (c : Xer) : List Int :=
 (if c.Key = true then [] else ueL s.Kind.toNat) ++
 (if s.Kind = 1 then seL s.Dx ++ seL s.Dy ++ Ypo s.Levels c else if s.Kind = 2 then ueL s.Mode.toNat ++ Ypo s.Levels c else [])
theorem Xvd {s : Xam} (h : Xvc s = true) : 0 ≤ s.Kind ∧ s.Kind ≤ 2 := by
 unfold Xvc at h
 repeat' split at h
 all_goals first | omega | simp at h
theorem Xv1 {s : Xam} (h : Xvc s = true) (h1 : s.Kind = 1) : (-16 ≤ s.Dx ∧ s.Dx ≤ 16) ∧ (-16 ≤ s.Dy ∧ s.Dy ≤ 16) ∧ Ygr s.Levels = true := by
 unfold Xvc at h
 rw [if_neg (by omega), if_pos h1] at h
 simp only [Bool.and_eq_true, decide_eq_true_eq] at h
 exact ⟨h.2.1, h.2.2.1, h.2.2.2⟩
theorem Ybg {s : Xam} (h : Xvc s = true) (h1 : s.Kind = 2) : (0 ≤ s.Mode ∧ s.Mode ≤ 3) ∧ Ygr s.Levels = true := by
 unfold Xvc at h
 rw [if_neg (by omega), if_neg (by omega), if_pos h1] at h
 simp only [Bool.and_eq_true, decide_eq_true_eq] at h
 exact ⟨h.1, h.2.2.2⟩
theorem Yxv (s : Xam) (c : Xer) : Xov (sqL s c) := by
 unfold sqL
 refine Xa5 ?_ ?_
 ·
  split
  ·
   exact Xsj
  ·
   exact Xgo _
 ·
  split
  ·
   exact Xa5 (Xa5 (Xgo _) (Xgo _)) (Yts _ _)
  ·
   split
   ·
    exact Xa5 (Xgo _) (Yts _ _)
   ·
    exact Xsj
theorem Yxw {s : Xam} {c : Xer} (h : Xvc s = true) : (sqL s c).length ≤ 5265 := by
 have hk := Xvd h
 have u := Xfh s.Kind.toNat (by omega)
 have e1 : (if c.Key = true then [] else ueL s.Kind.toNat).length ≤ 39 := by split; simp; exact u.1
 unfold sqL
 rw [List.length_append]
 by_cases h1 : s.Kind = 1
 ·
  obtain ⟨a, b, d⟩ := Xv1 h h1
  have x := Xs5 s.Dx (by omega)
  have y := Xs5 s.Dy (by omega)
  have z := Ygq (c := c) d
  rw [if_pos h1]; simp only [List.length_append]; omega
 ·
  by_cases h2 : s.Kind = 2
  ·
   obtain ⟨a, d⟩ := Ybg h h2
   have x := Xfh s.Mode.toNat (by omega)
   have z := Ygq (c := c) d
   rw [if_neg h1, if_pos h2]; simp only [List.length_append]; omega
  ·
   rw [if_neg h1, if_neg h2]; simp only [List.length_nil]; omega
theorem Ycm (s : Xam) (c : Xer) (hl : s.Levels.length ≤ 9223372036854775806) : Xjh s c = some (if (Xvc s && (Xi1 c && Xtf s c)) = true then (strOfNums (sqL s c), true) else (⟨#[]⟩, false)) := by
 have hm : maxLen = 9223372036854775807 := rfl
 unfold Xjh Xef
 rw [Xon s hl, Xab, Xdd, Xab, Xs6, Xab, Xab]
 by_cases hok : (Xvc s && (Xi1 c && Xtf s c)) = true
 ·
  rw [if_pos hok]
  simp only [Bool.and_eq_true] at hok
  obtain ⟨h, hc, hlet⟩ := hok
  have hk := Xvd h
  have u := Xfh s.Kind.toNat (by omega)
  unfold Xtf at hlet
  rw [h, hc, Xau, Xau, hlet, Xab, Bool.not_true, Xao]
  have e1 : (sel (!c.Key) (bnd (Xi3 s.Kind) fun q6 => req ((([] : List Int).length + (Xa6 q6).length) * 1 ≤ 140737488355328 ∧ ([] : List Int).length + (Xa6 q6).length ≤ maxLen) <| some (([] : List Int) ++ (Xa6 q6))) (some ([] : List Int))) = some (if c.Key = true then [] else ueL s.Kind.toNat) := by
   rw [show s.Kind = ((s.Kind.toNat : Nat) : Int) by omega, Xfu _ (by omega), Xab, Xqm _ (Xfj (Xgo _)), Xa2 (by simp only [List.length_nil]; omega), Int.toNat_natCast]
   cases c.Key <;> rfl
  rw [e1, Xab]
  have e2 : (if c.Key = true then [] else ueL s.Kind.toNat).length ≤ 39 := by split; simp; exact u.1
  unfold sqL
  generalize (if c.Key = true then [] else ueL s.Kind.toNat) = k at e2 ⊢
  by_cases h1 : s.Kind = 1
  ·
   obtain ⟨a, b, d⟩ := Xv1 h h1
   have x := Xs5 s.Dx (by omega)
   have y := Xs5 s.Dy (by omega)
   have z := Ygq (c := c) d
   rw [if_pos h1, Xbw (by simpa using h1), Xo1 _ (by omega), Xab, Xo1 _ (by omega), Xab]
   simp only
   rw [Xqm (seL s.Dx) (Xfj (Xgo _)), Xqm (seL s.Dy) (Xfj (Xgo _)), rqA, Xa2 (by rw [List.length_append]; omega), Xru _ c d, Xab, Xa2 (by simp only [List.length_append]; omega), Xab]
   simp only [List.append_assoc]
  ·
   rw [if_neg h1, Xbi (by simpa using h1)]
   by_cases h2 : s.Kind = 2
   ·
    obtain ⟨a, d⟩ := Ybg h h2
    have x := Xfh s.Mode.toNat (by omega)
    have z := Ygq (c := c) d
    rw [if_pos h2, Xbw (by simpa using h2), show s.Mode = ((s.Mode.toNat : Nat) : Int) by omega, Xfu _ (by omega), Xab, Xqm _ (Xfj (Xgo _)), rqA, Xru _ c d, Xab, Xa2 (by simp only [List.length_append]; omega), Xab, Int.toNat_natCast]
    simp only [List.append_assoc]
   ·
    rw [if_neg h2, Xbi (by simpa using h2), Xab, List.append_nil]
 ·
  rw [if_neg hok]
  unfold Xtf at hok
  cases h1 : Xvc s <;> cases h2 : Xi1 c <;> cases h3 : (!c.Key || s.Kind == 2) <;> simp_all [bnd, sel]
def Xg1 : List Xam → Xer → List Int
 | [], _ => []
 | s :: r, c => sqL s c ++ Xg1 r c
def Ymg (l : List Xam) (c : Xer) : Bool := l.all fun s => Xvc s && (Xi1 c && Xtf s c)
theorem Xv5 : ∀ (l : List Xam) (c : Xer), Xov (Xg1 l c)
 | [], _ => Xsj
 | s :: r, c => Xa5 (Yxv s c) (Xv5 r c)
theorem Ym7 : ∀ {l : List Xam} {c : Xer}, Ymg l c = true → (Xg1 l c).length ≤ 5265 * l.length
 | [], _, _ => by simp [Xg1]
 | s :: r, c, h => by
  unfold Ymg at h
  rw [List.all_cons, Bool.and_eq_true, Bool.and_eq_true] at h
  have h1 := Yxw (c := c) h.1.1
  have h2 := Ym7 (l := r) (c := c) h.2
  rw [Xg1, List.length_append, List.length_cons]; omega
def Ypf (l : List Xam) (c : Xer) : ByteArray × Bool := if (decide (1 ≤ l.length ∧ l.length ≤ 64) && Ymg l c) = true then (strOfNums (Xg1 l c), true) else (⟨#[]⟩, false)
theorem Yim (l : List Xam) (c : Xer) (hs : ∀ s ∈ l, s.Levels.length ≤ 9223372036854775806) : Xkm l c = some (Ypf l c) := by
 have hm : maxLen = 9223372036854775807 := rfl
 unfold Xkm Ypf
 rw [Xaj, Xab, Xt2]
 by_cases hl : 1 ≤ l.length ∧ l.length ≤ 64
 ·
  rw [syA, decide_eq_true hl, Bool.true_and]
  have key : ∀ (r a : List Xam) (t : List Int), l = a ++ r → t.length ≤ 5265 * a.length → loop (Xfp l c) ((a.length : Int), t) = some (if Ymg r c = true then .out (t ++ Xg1 r c) else .ret (⟨#[]⟩, false)) := by
   intro r
   induction r with
   | nil =>
    intro a t ha _
    rw [List.append_nil] at ha
    exact Xfv (by unfold Xfp; simp only; rw [Xar (by rw [ha]; omega), Xg1, List.append_nil]; rfl)
   | cons s r ih =>
    intro a t ha ht
    have hlen : a.length < l.length := by rw [ha]; simp
    have hx : l.getD a.length Xme = s := by rw [ha]; exact Xne a s _ r
    have hone : Ymg (s :: r) c = ((Xvc s && (Xi1 c && Xtf s c)) && Ymg r c) := by unfold Ymg; rw [List.all_cons]
    have hrow := Ycm s c (hs s (by rw [ha]; simp))
    rw [hone]
    cases e : (Xvc s && (Xi1 c && Xtf s c)) with
    | true =>
     rw [e, if_pos rfl] at hrow
     have hok : Xvc s = true := by rw [Bool.and_eq_true] at e; exact e.1
     have g := Yxw (c := c) hok
     have hn := ih (a ++ [s]) (t ++ sqL s c) (by rw [ha]; simp) (by simp only [List.length_append, List.length_singleton]; omega)
     rw [List.length_append, List.length_singleton] at hn
     rw [Bool.true_and, Xg1, ← List.append_assoc, ← hn]
     refine Xcu ?_
     unfold Xfp
     simp only [Int.toNat_natCast, hx]
     rw [syA, rqA, show (⟨s.Kind, s.Mode, s.Dx, s.Dy, s.Levels⟩ : Xam) = s from rfl, hrow, Xab, Xt2, Xau, Xqm _ (Xfj (Yxv _ _)), rqA, wkA]
     rfl
    | false =>
     rw [e, if_neg (by decide)] at hrow
     rw [Bool.false_and, if_neg (by decide)]
     refine Xfv ?_
     unfold Xfp
     simp only [Int.toNat_natCast, hx]
     rw [syA, rqA, show (⟨s.Kind, s.Mode, s.Dx, s.Dy, s.Levels⟩ : Xam) = s from rfl, hrow, Xab, Xt2, Xao]
  refine (Xgb (key l [] [] rfl (by simp))).trans ?_
  cases Ymg l c <;> rfl
 ·
  rw [snA, decide_eq_false hl, Bool.false_and]; rfl
theorem Xy3 (b : ByteArray) (i : Int) : 0 ≤ Xwm b i ∧ Xwm b i ≤ 255 := by
 unfold Xwm
 split
 ·
  rename_i h
  have := (b[i.toNat]'h).toNat_lt
  omega
 ·
  omega
theorem Xa7 {p : Pic} (h : Xcg p = true) : (1 ≤ p.Wide ∧ p.Wide ≤ 256) ∧ (1 ≤ p.High ∧ p.High ≤ 256) ∧ (p.Dots.size : Int) = p.Wide * p.High := by
 unfold Xcg at h
 simp only [Bool.and_eq_true, decide_eq_true_eq, beq_iff_eq] at h
 exact ⟨h.1, h.2.1, h.2.2⟩
theorem Xvt {p : Pic} (h1 : 1 ≤ p.Wide ∧ p.Wide ≤ 256) (h2 : 1 ≤ p.High ∧ p.High ≤ 256) (h3 : (p.Dots.size : Int) = p.Wide * p.High) : Xcg p = true := by
 unfold Xcg
 simp only [Bool.and_eq_true, decide_eq_true_eq, beq_iff_eq]
 exact ⟨h1, h2, h3⟩
def Xqb (p : Pic) (x y : Int) : Int := Xwm p.Dots (Xbo y 0 (p.High - 1) * p.Wide + Xbo x 0 (p.Wide - 1))
theorem Xsk (p : Pic) (x y : Int) : 0 ≤ Xqb p x y ∧ Xqb p x y ≤ 255 := Xy3 _ _
theorem Yp5 {p : Pic} (ok : Xcg p = true) (x y : Int) : 0 ≤ Xbo y 0 (p.High - 1) * p.Wide + Xbo x 0 (p.Wide - 1) ∧ Xbo y 0 (p.High - 1) * p.Wide + Xbo x 0 (p.Wide - 1) < p.Dots.size ∧ 0 ≤ Xbo y 0 (p.High - 1) * p.Wide ∧ Xbo y 0 (p.High - 1) * p.Wide ≤ 65536 := by
 obtain ⟨h1, h2, h3⟩ := Xa7 ok
 have b1 := Xfk (n := y) (a := 0) (b := p.High - 1) (by omega)
 have b2 := Xfk (n := x) (a := 0) (b := p.Wide - 1) (by omega)
 have m1 := Int.mul_nonneg b1.1 (show 0 ≤ p.Wide by omega)
 have m2 := Int.mul_le_mul_of_nonneg_right b1.2 (show 0 ≤ p.Wide by omega)
 have m3 : (p.High - 1) * p.Wide = p.Wide * p.High - p.Wide := by rw [Int.sub_mul, Int.one_mul, Int.mul_comm]
 have m4 := (Xes h1 h2).2
 omega
theorem Yit {p : Pic} (ok : Xcg p = true) (x y : Int) : Xe2 p x y = some (Xqb p x y) := by
 obtain ⟨h1, h2, h3⟩ := Xa7 ok
 unfold Xe2 Xqb
 rw [Xhs, Xab, Xhs, Xab, wkA (e := p.High - 1), wkA (e := p.Wide - 1)]
 obtain ⟨p1, p2, p3, p4⟩ := Yp5 ok x y
 have b2 := Xfk (n := x) (a := 0) (b := p.Wide - 1) (by omega)
 have br := Xy3 p.Dots (Xbo y 0 (p.High - 1) * p.Wide + Xbo x 0 (p.Wide - 1))
 rw [wkA (e := Xbo y 0 (p.High - 1) * p.Wide), wkA (e := Xbo y 0 (p.High - 1) * p.Wide + Xbo x 0 (p.Wide - 1)), Xa2 ⟨p1, p2⟩, wkA]
theorem Xiv {p : Pic} (ok : Xcg p = true) (x y : Int) : Xey p x y = some (Xqb p x y) := by
 obtain ⟨h1, h2, h3⟩ := Xa7 ok
 unfold Xey Xqb
 rw [Xgl, Xab, ok, Bool.not_true, Xao, Xfw, Xab, Xfw, Xab, wkA (e := p.High - 1), wkA (e := p.Wide - 1)]
 obtain ⟨p1, p2, p3, p4⟩ := Yp5 ok x y
 have b2 := Xfk (n := x) (a := 0) (b := p.Wide - 1) (by omega)
 have br := Xy3 p.Dots (Xbo y 0 (p.High - 1) * p.Wide + Xbo x 0 (p.Wide - 1))
 rw [wkA (e := Xbo y 0 (p.High - 1) * p.Wide), wkA (e := Xbo y 0 (p.High - 1) * p.Wide + Xbo x 0 (p.Wide - 1)), Xa2 ⟨p1, p2⟩, wkA]
def Yuy (p : Pic) (x y : Int) (i : Nat) : Int := Xqb p (x + ((i % 8 : Nat) : Int)) (y + ((i / 8 : Nat) : Int))
def Xrc (p : Pic) (x y : Int) (n : Nat) : List Int := (List.range n).map (Yuy p x y)
theorem Ypz (p : Pic) (x y : Int) (n : Nat) : Xrc p x y (n + 1) = Xrc p x y n ++ [Yuy p x y n] := by simp [Xrc, List.range_succ]
theorem Xxq (p : Pic) (x y : Int) (n : Nat) : (Xrc p x y n).length = n := by simp [Xrc]
def Yr9 (x : Int) : Bool := decide (0 ≤ x ∧ x ≤ 255)
def Xbt (l : List Int) : Bool := decide (l.length = 64) && l.all Yr9
theorem Xbq {l : List Int} (h : Xbt l = true) : l.length = 64 ∧ ∀ i : Nat, i < 64 → 0 ≤ l.getD i 0 ∧ l.getD i 0 ≤ 255 := by
 simp only [Xbt, Bool.and_eq_true, decide_eq_true_eq] at h
 refine ⟨h.1, fun i hi => ?_⟩
 have := List.all_eq_true.1 h.2 (l.getD i 0) (by rw [Xcm l i (by omega)]; exact List.getElem_mem _)
 simpa [Yr9] using this
theorem Xk3 (p : Pic) (x y : Int) : Xbt (Xrc p x y 64) = true := by
 simp only [Xbt, Xxq, decide_true, Bool.true_and, List.all_eq_true]
 intro z hz
 obtain ⟨i, _, rfl⟩ := List.mem_map.1 hz
 simp only [Yr9, decide_eq_true_eq]
 exact Xsk _ _ _
theorem Xls {p : Pic} (ok : Xcg p = true) (x y : Int) (hx : -1000 ≤ x ∧ x ≤ 1000) (hy : -1000 ≤ y ∧ y ≤ 1000) : Xkv p x y = some (Xrc p x y 64) := by
 have hm : maxLen = 9223372036854775807 := rfl
 unfold Xkv
 rw [Xgl, Xab, ok, Xau, Xal, Xab, syA, Xal, Xab, Xab, decide_eq_true (by omega), Bool.not_true, Xao]
 have key : ∀ i : Nat, i ≤ 64 → loop (Xlt p x y) ((i : Int), Xrc p x y i) = some (Xrc p x y 64) := by
  refine Xhe _ ?_ ?_
  ·
   exact Xfv (by unfold Xlt; rw [Xar (by simp)])
  ·
   intro i hi ih
   refine lgo (y := (((i + 1 : Nat) : Int), Xrc p x y (i + 1))) ?_ ih
   unfold Xlt
   simp only
   rw [syA, rqA, rqA, Xbr (by omega), Xbg (by omega), wkA (e := (i : Int) / 8), wkA (e := x + (i : Int) % 8), wkA (e := y + (i : Int) / 8), Xiv ok, Xab, Xa2 (by rw [Xxq]; simp only [List.length_singleton]; omega), wkA (e := (i : Int) + 1)]
   have e2 : Xqb p (x + (i : Int) % 8) (y + (i : Int) / 8) = Yuy p x y i := by unfold Yuy; congr 1
   rw [e2, ← Ypz]
   rfl
 have := key 0 (by omega)
 exact (Xgb this).trans rfl
theorem Xgj {p : Pic} (ok : Xcg p = true) (x y : Int) (hx : -1000 ≤ x ∧ x ≤ 1000) (hy : -1000 ≤ y ∧ y ≤ 1000) : Xbz p x y = some (Xrc p x y 64) := by
 have hm : maxLen = 9223372036854775807 := rfl
 unfold Xbz
 rw [rqA]
 have key : ∀ r : Nat, r ≤ 8 → loop (Xe0 p x y) ((r : Int), Xrc p x y (8 * r)) = some (Xrc p x y 64) := by
  refine Xhe _ ?_ ?_
  ·
   exact Xfv (by unfold Xe0; rw [Xar (by simp)])
  ·
   intro r hr ih
   refine lgo (y := (((r + 1 : Nat) : Int), Xrc p x y (8 * (r + 1)))) ?_ ih
   unfold Xe0
   simp only
   have inner : ∀ c : Nat, c ≤ 8 → loop (Xe1 p x y ((r : Int), Xrc p x y (8 * r))) ((c : Int), Xrc p x y (8 * r + c)) = some (Xrc p x y (8 * (r + 1))) := by
    refine Xhe _ ?_ ?_
    ·
     exact Xfv (by unfold Xe1; rw [Xar (by simp)]; rfl)
    ·
     intro c hc ih2
     refine lgo (y := (((c + 1 : Nat) : Int), Xrc p x y (8 * r + (c + 1)))) ?_ ih2
     unfold Xe1
     simp only
     rw [syA, wkA (e := x + (c : Int)), wkA (e := y + (r : Int)), Yit ok, Xab, Xa2 (by rw [Xxq]; simp only [List.length_singleton]; omega), wkA (e := (c : Int) + 1)]
     have e2 : Xqb p (x + (c : Int)) (y + (r : Int)) = Yuy p x y (8 * r + c) := by
      unfold Yuy
      rw [show (8 * r + c) % 8 = c by omega, show (8 * r + c) / 8 = r by omega]
     rw [e2, ← Ypz]
     rfl
   have i0 := inner 0 (by omega)
   rw [syA]
   refine (Xgb i0).trans ?_
   rw [wkA (e := (r : Int) + 1)]
   rfl
 have := key 0 (by omega)
 exact (Xgb this).trans rfl
def Ydp (x : Int) : Int := if x < 0 then -x else x
def Xpm (a b : List Int) : Nat → Int
 | 0 => 0
 | n + 1 => Xpm a b n + Ydp (a.getD n 0 - b.getD n 0)
theorem Xke {a b : List Int} (ha : Xbt a = true) (hb : Xbt b = true) : ∀ n : Nat, n ≤ 64 → 0 ≤ Xpm a b n ∧ Xpm a b n ≤ 255 * n
 | 0, _ => by simp [Xpm]
 | n + 1, h => by
  have ih := Xke ha hb n (by omega)
  have p := (Xbq ha).2 n (by omega)
  have q := (Xbq hb).2 n (by omega)
  simp only [Xpm, Ydp]
  split <;> omega
theorem Xsr {a b : List Int} (ha : Xbt a = true) (hb : Xbt b = true) : Xqj a b = some (Xpm a b 64) := by
 unfold Xqj
 have la := (Xbq ha).1
 have lb := (Xbq hb).1
 have key : ∀ i : Nat, i ≤ 64 → loop (Xpu a b) (Xpm a b i, (i : Int)) = some (Xpm a b 64) := by
  refine Xhe _ ?_ ?_
  ·
   exact Xfv (by unfold Xpu; rw [Xar (by simp only; omega)])
  ·
   intro i hi ih
   refine lgo (y := (Xpm a b (i + 1), ((i + 1 : Nat) : Int))) ?_ ih
   have p := (Xbq ha).2 i hi
   have q := (Xbq hb).2 i hi
   have g := Xke ha hb i (by omega)
   unfold Xpu Xn3
   simp only [Int.toNat_natCast]
   rw [syA, rqA, rqA, wkA (e := a.getD i 0 - b.getD i 0), wkA (e := 0 - (a.getD i 0 - b.getD i 0)), Xab]
   have e : (if 0 - (a.getD i 0 - b.getD i 0) > a.getD i 0 - b.getD i 0 then 0 - (a.getD i 0 - b.getD i 0) else a.getD i 0 - b.getD i 0) = Ydp (a.getD i 0 - b.getD i 0) := by
    unfold Ydp; split <;> split <;> omega
   have ab : 0 ≤ Ydp (a.getD i 0 - b.getD i 0) ∧ Ydp (a.getD i 0 - b.getD i 0) ≤ 255 := by unfold Ydp; split <;> omega
   rw [e, wkA (e := Xpm a b i + Ydp (a.getD i 0 - b.getD i 0)), wkA (e := (i : Int) + 1)]
   rfl
 exact (Xgb (key 0 (by omega))).trans rfl
theorem Xh3 (l : List Int) (hl : l.length ≤ 9223372036854775806) : Xbm l 64 0 255 = some (Xbt l) := by
 rw [Xlg l _ _ _ hl]
 have : ((l.length : Int) == 64) = decide (l.length = 64) := by rw [Bool.eq_iff_iff]; simp only [beq_iff_eq, decide_eq_true_eq]; omega
 rw [this, Bool.and_comm]
 rfl
def Yvz (d : Int) : Int := ((seL d).length : Int)
theorem Xng (d : Int) (h : -500000 ≤ d ∧ d ≤ 500000) : Xmm d = some (Yvz d) := by
 unfold Xmm Yvz
 rw [Xo1 d h, Xab, strOfNums_size]
theorem Xvy (d : Int) (h : -500000 ≤ d ∧ d ≤ 500000) : 1 ≤ Yvz d ∧ Yvz d ≤ 39 := by
 unfold Yvz seL
 have := Xfh (Yhd d) (Xvl d h)
 omega
theorem Yj8 (c : Xbl) (n : Int) (hc : Xoz c) (h0 : 0 ≤ n) (h1 : n ≤ 100000) : ∃ s c', Xob c n = some (s, c') ∧ (s.size : Int) = n ∧ Xoz c' := by
 have hm : maxLen = 9223372036854775807 := rfl
 unfold Xob
 obtain ⟨z, c0, ez, z0, z1, hz⟩ := Xdj c hc
 rw [ez, Xab]
 simp only
 obtain ⟨o, h, h2, h3⟩ := Xo6 (f := Xl5 n) (fun v => (0 ≤ v.1 ∧ v.1 ≤ 255) ∧ 0 ≤ v.2.1 ∧ v.2.1 ≤ n ∧ Xoz ⟨v.2.2.1, v.2.2.2.1, v.2.2.2.2.1⟩ ∧ (v.2.2.2.2.2.length : Int) = v.2.1) (fun v => (n - v.2.1).toNat) (fun _ o => (o.1.length : Int) = n ∧ Xoz ⟨o.2.1, o.2.2.1, o.2.2.2⟩) (by
  intro ⟨w, i, b, j, h, l⟩ ⟨hw, h1, h2, h3, h4⟩
  unfold Xl5
  simp only at hw h1 h2 h3 h4 ⊢
  by_cases hi : i < n
  ·
   rw [Xbk hi]
   obtain ⟨x, c', ex, x0, x1, _, hx⟩ := Xay _ 6 h3
   rw [ex, Xab]
   simp only
   have step : ∃ w' c2, (sel (x == 0) (bnd (Xca c') fun q16 => some (q16.1, q16.2.b_, q16.2.i_, q16.2.h_)) (sel (x == 1) (bnd (Xa1 c' 9) fun q17 => some ((IntKind.wrap .i64 (BitVec.ofInt (IntKind.bits .i64) (Xaa .i64 ((Xaa .i64 (w + q17.1)) + 252)) &&& BitVec.ofInt (IntKind.bits .i64) 255).toNat), q17.2.b_, q17.2.i_, q17.2.h_)) (some (w, c'.b_, c'.i_, c'.h_)))) = some (w', c2.b_, c2.i_, c2.h_) ∧ (0 ≤ w' ∧ w' ≤ 255) ∧ Xoz c2 := by
    cases e0 : (x == 0) with
    | true =>
     obtain ⟨y, c2, ey, y0, y1, hy⟩ := Xdj c' hx
     rw [Xau, ey, Xab]
     exact ⟨y, c2, rfl, ⟨y0, y1⟩, hy⟩
    | false =>
     rw [Xao]
     cases e1 : (x == 1) with
     | true =>
      obtain ⟨y, c2, ey, y0, y1, _, hy⟩ := Xay c' 9 hx
      rw [Xau, ey, Xab]
      exact ⟨_, c2, rfl, Yg6 _, hy⟩
     | false => rw [Xao]; exact ⟨w, c', rfl, hw, hx⟩
   obtain ⟨w', c2, es, hw', hc2⟩ := step
   rw [es, Xab, Xa2 (by rw [hm]; simp only [List.length_singleton]; omega)]
   refine .inr ⟨_, rfl, ?_, ?_, fun _ h => h⟩
   ·
    simp only
    rw [wkA (e := i + 1)]
    exact ⟨hw', by omega, by omega, hc2, by simp; omega⟩
   ·
    simp only; rw [wkA (e := i + 1)]; omega
  ·
   rw [Xar hi]
   exact .inl ⟨_, rfl, by simp only; omega, h3⟩) (z, 0, c0.b_, c0.i_, c0.h_, []) ⟨⟨z0, z1⟩, by simp, h0, hz, by simp⟩
 rw [h, Xab]
 exact ⟨_, _, rfl, by rw [strOfNums_size]; exact h2, h3⟩
theorem Xty (c : Xbl) (w h : Int) (hc : Xoz c) (hw : 1 ≤ w ∧ w ≤ 256) (hh : 1 ≤ h ∧ h ≤ 256) : ∃ p c', Xi0 c w h = some (p, c') ∧ p.Wide = w ∧ p.High = h ∧ Xcg p = true ∧ Xoz c' := by
 have a := Xes hw hh
 unfold Xi0
 rw [wkA (e := w * h)]
 obtain ⟨s, c', e, hs, hc'⟩ := Yj8 c (w * h) hc (by omega) (by omega)
 rw [e, Xab]
 exact ⟨_, _, rfl, rfl, rfl, Xvt hw hh hs, hc'⟩
theorem Ykc (c : Xbl) (p : Pic) (hc : Xoz c) (ok : Xcg p = true) : ∃ q c', Xod c p = some (q, c') ∧ q.Wide = p.Wide ∧ q.High = p.High ∧ Xcg q = true ∧ Xoz c' := by
 have hm : maxLen = 9223372036854775807 := rfl
 obtain ⟨k1, k2, k3⟩ := Xa7 ok
 have ar := Xes k1 k2
 unfold Xod
 obtain ⟨x, c1, e1, x0, x1, _, h1⟩ := Xay c 7 hc
 obtain ⟨y, c2, e2, y0, y1, _, h2⟩ := Xay c1 5 h1
 obtain ⟨z, c3, e3, h3⟩ := Xl0 c2 3 h2
 have x1' := x1 (by omega)
 have y1' := y1 (by omega)
 rw [e1, Xab]
 simp only
 rw [e2, Xab]
 simp only
 rw [e3, Xab]
 simp only
 rw [wkA (e := x - 3), wkA (e := y - 2)]
 have hv : ∃ a b : Int, (-10 ≤ a ∧ a ≤ 10) ∧ (-10 ≤ b ∧ b ≤ 10) ∧ sel z (some ((0 : Int), (0 : Int), c3.b_, c3.i_, c3.h_)) (some (x - 3, y - 2, c3.b_, c3.i_, c3.h_)) = some (a, b, c3.b_, c3.i_, c3.h_) := by
  cases z with
  | true => exact ⟨0, 0, by omega, by omega, rfl⟩
  | false => exact ⟨x - 3, y - 2, by omega, by omega, rfl⟩
 obtain ⟨a, b, ha, hb, hv⟩ := hv
 rw [hv, Xab]
 obtain ⟨o, h, ho⟩ := Xo6 (f := Xl8 p (a, b, c3.b_, c3.i_, c3.h_)) (fun v => 0 ≤ v.1 ∧ v.1 ≤ (p.Dots.size : Int) ∧ (v.2.length : Int) = v.1) (fun v => ((p.Dots.size : Int) - v.1).toNat) (fun _ o => (o.length : Int) = (p.Dots.size : Int)) (by
  intro ⟨i, l⟩ ⟨g1, g2, g3⟩
  unfold Xl8
  simp only at g1 g2 g3 ⊢
  by_cases hi : i < (p.Dots.size : Int)
  ·
   rw [Xbk hi, rqA, rqA, Xiv ok, Xab, Xa2 (by rw [hm]; simp only [List.length_singleton]; omega), wkA (e := i + 1)]
   exact .inr ⟨_, rfl, ⟨by simp only; omega, by simp only; omega, by simp; omega⟩, by simp only; omega, fun _ h => h⟩
  ·
   rw [Xar hi]
   exact .inl ⟨_, rfl, by omega⟩) (0, []) ⟨by simp, by simp, by simp⟩
 rw [h, Xab]
 obtain ⟨o2, h', g1, g2⟩ := Xo6 (f := Xl9) (fun v => 0 ≤ v.1 ∧ v.1 ≤ 6 ∧ Xoz ⟨v.2.1, v.2.2.1, v.2.2.2.1⟩ ∧ (v.2.2.2.2.length : Int) = p.Dots.size) (fun v => (6 - v.1).toNat) (fun _ o => (o.1.length : Int) = p.Dots.size ∧ Xoz ⟨o.2.1, o.2.2.1, o.2.2.2⟩) (by
  intro ⟨i, b, j, h, l⟩ ⟨g1, g2, g3, g4⟩
  unfold Xl9
  simp only at g1 g2 g3 g4 ⊢
  obtain ⟨x, c', ex, x0, x1, _, hx⟩ := Xay _ 6 g3
  have x1' := x1 (by omega)
  rw [ex, Xab]
  simp only
  by_cases hi : i < x
  ·
   obtain ⟨y, c2, ey, y0, y1, _, hy⟩ := Xay c' l.length hx
   have y1' := y1 (by omega)
   obtain ⟨z, c3, ez, z0, z1, hz⟩ := Xdj c2 hy
   rw [Xbk hi, ey, Xab]
   simp only
   rw [ez, Xab]
   simp only
   rw [rqA, rqA, wkA (e := i + 1)]
   exact .inr ⟨_, rfl, ⟨by simp only; omega, by simp only; omega, hz, by simp only [List.length_set]; omega⟩, by simp only; omega, fun _ h => h⟩
  ·
   rw [Xar hi]
   exact .inl ⟨_, rfl, g4, hx⟩) (0, c3.b_, c3.i_, c3.h_, o) ⟨by simp, by simp, h3, by simp only; omega⟩
 rw [h', Xab]
 refine ⟨_, _, rfl, rfl, rfl, Xvt k1 k2 ?_, g2⟩
 simp only
 rw [strOfNums_size]; omega
def Xdk (p : Pic) (x y : Int) : Bool := decide (0 ≤ x ∧ x ≤ p.Wide - 8 ∧ 0 ≤ y ∧ y ≤ p.High - 8)
theorem Ydv {p : Pic} (ok : Xcg p = true) (x y : Int) : Xcc p ⟨x, y, 8, 8⟩ = some (Xdk p x y) := by
 obtain ⟨k1, k2, k3⟩ := Xa7 ok
 unfold Xcc Xdk
 simp only
 rw [Xaj, Xab, Xaj, Xab, wkA (e := p.Wide - 8), wkA (e := p.High - 8), Xaj, Xab, Xaj, Xab]
 simp only [Xdi, Xab]
 congr 1
 rw [Bool.eq_iff_iff]
 simp only [Bool.and_eq_true, decide_eq_true_eq]
 omega
theorem Xoq {p : Pic} (ok : Xcg p = true) (x y : Int) (hx : x.tmod 8 = 0) (hy : y.tmod 8 = 0) (h : Xdk p x y = true) : Xb4 p x y = some true := by
 obtain ⟨k1, k2, k3⟩ := Xa7 ok
 unfold Xdk at h
 rw [decide_eq_true_eq] at h
 unfold Xb4
 rw [rqA, hx, rqA, hy, wkA (e := p.Wide - 8), wkA (e := p.High - 8), Xaj, Xab, Xaj, Xab, decide_eq_true (by omega), decide_eq_true (by omega)]
 rfl
def Xnk (p : Pic) (w : List Int) (x y dx dy : Int) : Int := Xpm w (Xrc p (x + dx) (y + dy) 64) 64 + Yvz dx + Yvz dy
def BmI (p : Pic) (w : List Int) (x y r : Int) (past : Bool) (b : Int × Int × Int) : Prop :=
 (b = (0, 0, -1) ∧ past = false) ∨
 ((-r ≤ b.1 ∧ b.1 ≤ r) ∧ (-r ≤ b.2.1 ∧ b.2.1 ≤ r) ∧ Xdk p (x + b.1) (y + b.2.1) = true ∧ b.2.2 = Xnk p w x y b.1 b.2.1 ∧ (past = true → b.2.2 ≤ Xnk p w x y 0 0))
theorem Xw8 {p : Pic} {w : List Int} (hw : Xbt w = true) (x y dx dy : Int) (hx : -100 ≤ dx ∧ dx ≤ 100) (hy : -100 ≤ dy ∧ dy ≤ 100) : 2 ≤ Xnk p w x y dx dy ∧ Xnk p w x y dx dy ≤ 20000 := by
 have g := Xke hw (Xk3 p (x + dx) (y + dy)) 64 (by omega)
 have a := Xvy dx (by omega)
 have b := Xvy dy (by omega)
 unfold Xnk; omega
theorem Za1 {p : Pic} {w : List Int} {x y r : Int} (ok : Xcg p = true) (hw : Xbt w = true) (hr : 0 ≤ r ∧ r ≤ 4) (h0 : Xdk p x y = true) (s : Int × Int × Int × Int) (hs : -r ≤ s.2.2.2 ∧ s.2.2.2 ≤ r) (v : Int × Int × Int × Int) (hv : -r ≤ v.2.2.2 ∧ v.2.2.2 ≤ r)
  (past : Bool) (hi : BmI p w x y r past (v.1, v.2.1, v.2.2.1)) (hp : past = true ↔ (s.2.2.2 > 0 ∨ (s.2.2.2 = 0 ∧ v.2.2.2 > 0))) :
  ∃ b, Xc4 p w x y r s v = some (.go (b.1, b.2.1, b.2.2, v.2.2.2 + 1)) ∧ BmI p w x y r (decide (s.2.2.2 > 0 ∨ (s.2.2.2 = 0 ∧ v.2.2.2 + 1 > 0))) b := by
 obtain ⟨k1, k2, k3⟩ := Xa7 ok
 have h0' := h0
 unfold Xdk at h0'
 rw [decide_eq_true_eq] at h0'
 unfold Xc4
 rw [Xbk hv.2, wkA (e := x + v.2.2.2), wkA (e := y + s.2.2.2), wkA (e := v.2.2.2 + 1), Ydv ok, Xab]
 cases hh : Xdk p (x + v.2.2.2) (y + s.2.2.2) with
 | false =>
  refine ⟨(v.1, v.2.1, v.2.2.1), rfl, ?_⟩
  have ne : ¬ (s.2.2.2 = 0 ∧ v.2.2.2 = 0) := by
   intro ⟨e1, e2⟩
   rw [e1, e2, Int.add_zero, Int.add_zero, h0] at hh
   cases hh
  rcases hi with ⟨h1, h2⟩ | ⟨h1, h2, h3, h4, h5⟩
  ·
   refine .inl ⟨h1, ?_⟩
   rw [decide_eq_false_iff_not]
   intro h
   have := hp.2 (by omega)
   rw [h2] at this; cases this
  ·
   refine .inr ⟨h1, h2, h3, h4, fun h => h5 (hp.2 ?_)⟩
   rw [decide_eq_true_eq] at h
   omega
 | true =>
  have hh' := hh
  unfold Xdk at hh'
  rw [decide_eq_true_eq] at hh'
  have hb := Xk3 p (x + v.2.2.2) (y + s.2.2.2)
  have g := Xke hw hb 64 (by omega)
  have z1 := Xvy v.2.2.2 (by omega)
  have z2 := Xvy s.2.2.2 (by omega)
  rw [Bool.not_true, Xao, Xgj ok _ _ (by omega) (by omega), Xab, Xsr hw hb, Xab, Xng _ (by omega), Xab, Xng _ (by omega), Xab, wkA (e := Xpm w (Xrc p (x + v.2.2.2) (y + s.2.2.2) 64) 64 + Yvz v.2.2.2), wkA, Yd9, Xab]
  have mc : Xpm w (Xrc p (x + v.2.2.2) (y + s.2.2.2) 64) 64 + Yvz v.2.2.2 + Yvz s.2.2.2 = Xnk p w x y v.2.2.2 s.2.2.2 := rfl
  rw [mc]
  have m1 := Xw8 (p := p) (w := w) hw x y v.2.2.2 s.2.2.2 (by omega) (by omega)
  cases hc : (decide (v.2.2.1 < 0) || decide (Xnk p w x y v.2.2.2 s.2.2.2 < v.2.2.1)) with
  | true =>
   refine ⟨(v.2.2.2, s.2.2.2, Xnk p w x y v.2.2.2 s.2.2.2), rfl, .inr ⟨hv, hs, hh, rfl, fun h => ?_⟩⟩
   rw [decide_eq_true_eq] at h
   by_cases e0 : s.2.2.2 = 0 ∧ v.2.2.2 = 0
   ·
    rw [e0.1, e0.2]; exact Int.le_refl _
   ·
    have hpast := hp.2 (by omega)
    rcases hi with ⟨h1, h2⟩ | ⟨h1, h2, h3, h4, h5⟩
    ·
     rw [h2] at hpast; cases hpast
    ·
     have h5' := h5 hpast
     simp only at h4 h5' ⊢
     have n1 := Xw8 (p := p) (w := w) hw x y v.1 v.2.1 (by simp only at h1; omega) (by simp only at h2; omega)
     simp only [Bool.or_eq_true, decide_eq_true_eq] at hc
     omega
  | false =>
   refine ⟨(v.1, v.2.1, v.2.2.1), rfl, ?_⟩
   simp only [Bool.or_eq_false_iff, decide_eq_false_iff_not] at hc
   rcases hi with ⟨h1, h2⟩ | ⟨h1, h2, h3, h4, h5⟩
   ·
    simp only [Prod.mk.injEq] at h1
    omega
   ·
    refine .inr ⟨h1, h2, h3, h4, fun h => ?_⟩
    rw [decide_eq_true_eq] at h
    by_cases e0 : s.2.2.2 = 0 ∧ v.2.2.2 = 0
    ·
     have := hc.2
     rw [e0.1, e0.2] at this
     simp only; omega
    ·
     exact h5 (hp.2 (by omega))
theorem Yei {p : Pic} {w : List Int} {x y r : Int} (ok : Xcg p = true) (hw : Xbt w = true) (hr : 0 ≤ r ∧ r ≤ 4) (hx : x.tmod 8 = 0) (hy : y.tmod 8 = 0) (h0 : Xdk p x y = true) :
  ∃ b, Xds p w x y r = some b ∧ (-r ≤ b.1 ∧ b.1 ≤ r) ∧ (-r ≤ b.2.1 ∧ b.2.1 ≤ r) ∧ Xdk p (x + b.1) (y + b.2.1) = true ∧ b.2.2 = Xnk p w x y b.1 b.2.1 ∧ b.2.2 ≤ Xnk p w x y 0 0 := by
 have hwl := (Xbq hw).1
 unfold Xds
 rw [Xb3, Xab, ok, Xau, Xh3 w (by omega), Xab, hw, Xau, Xaj, Xab, decide_eq_true (by omega), Xau, Xoq ok x y hx hy h0, Xab, Bool.not_true, Xab, Xao, wkA (e := 0 - r)]
 obtain ⟨o, h, ho⟩ := Xo6 (f := Xfl p w x y r) (fun s => -r ≤ s.2.2.2 ∧ s.2.2.2 ≤ r + 1 ∧ BmI p w x y r (decide (s.2.2.2 > 0)) (s.1, s.2.1, s.2.2.1)) (fun s => (r + 1 - s.2.2.2).toNat) (fun _ b => BmI p w x y r true b) (by
  intro s ⟨g1, g2, g3⟩
  unfold Xfl
  by_cases hi : s.2.2.2 ≤ r
  ·
   rw [Xbk hi, wkA (e := s.2.2.2 + 1), wkA (e := 0 - r)]
   obtain ⟨o, h, ho⟩ := Xo6 (f := Xc4 p w x y r s) (fun v => -r ≤ v.2.2.2 ∧ v.2.2.2 ≤ r + 1 ∧ BmI p w x y r (decide (s.2.2.2 > 0 ∨ (s.2.2.2 = 0 ∧ v.2.2.2 > 0))) (v.1, v.2.1, v.2.2.1)) (fun v => (r + 1 - v.2.2.2).toNat) (fun _ b => BmI p w x y r (decide (s.2.2.2 + 1 > 0)) b) (by
    intro v ⟨f1, f2, f3⟩
    by_cases hv : v.2.2.2 ≤ r
    ·
     obtain ⟨b, e, hb⟩ := Za1 ok hw hr h0 s ⟨g1, hi⟩ v ⟨f1, hv⟩ _ f3 (by rw [decide_eq_true_eq])
     exact .inr ⟨_, e, ⟨by simp only; omega, by simp only; omega, hb⟩, by simp only; omega, fun _ h => h⟩
    ·
     refine .inl ⟨(v.1, v.2.1, v.2.2.1), ?_, ?_⟩
     ·
      unfold Xc4; rw [Xar hv]
     ·
      have : decide (s.2.2.2 > 0 ∨ (s.2.2.2 = 0 ∧ v.2.2.2 > 0)) = decide (s.2.2.2 + 1 > 0) := by
       rw [decide_eq_decide]; omega
      rw [this] at f3
      exact f3) (s.1, s.2.1, s.2.2.1, 0 - r) ⟨by simp only; omega, by simp only; omega, by
    have : decide (s.2.2.2 > 0 ∨ (s.2.2.2 = 0 ∧ 0 - r > 0)) = decide (s.2.2.2 > 0) := by rw [decide_eq_decide]; omega
    simp only
    rw [this]; exact g3⟩
   rw [h, Xab]
   exact .inr ⟨_, rfl, ⟨by simp only; omega, by simp only; omega, ho⟩, by simp only; omega, fun _ h => h⟩
  ·
   rw [Xar hi]
   refine .inl ⟨_, rfl, ?_⟩
   rw [decide_eq_true (by omega)] at g3
   exact g3) (0, 0, -1, 0 - r) ⟨by simp only; omega, by simp only; omega, .inl ⟨rfl, by simp only [decide_eq_false_iff_not]; omega⟩⟩
 rw [h, Xab]
 rcases ho with ⟨_, h2⟩ | ⟨h1, h2, h3, h4, h5⟩
 ·
  cases h2
 ·
  exact ⟨_, rfl, h1, h2, h3, h4, h5 rfl⟩
theorem Xv2 (s : ByteArray) : strOfNums (Xa6 s) = s := by
 apply ByteArray.ext
 apply Array.ext'
 simp only [strOfNums, Xa6, List.map_map]
 conv => rhs; rw [← List.map_id s.data.toList]
 refine List.map_congr_left fun c _ => ?_
 simp
theorem Yvy {a b : ByteArray} : a.toList = b.toList ↔ a = b := by
 constructor
 ·
  intro h
  rw [ByteArray.toList_eq, ByteArray.toList_eq] at h
  exact ByteArray.ext (Array.ext' h)
 ·
  intro h; rw [h]
def inB (B : Int) (l : List Int) : Prop := ∀ x ∈ l, -B ≤ x ∧ x ≤ B
theorem Xqk {B C : Int} {l : List Int} (h : inB B l) (hc : B ≤ C) : inB C l := fun x hx => by have := h x hx; omega
theorem Xmy {B : Int} {a b : List Int} (ha : inB B a) (hb : inB B b) : inB B (a ++ b) := fun x hx => (List.mem_append.1 hx).elim (ha x) (hb x)
theorem Xyg (B : Int) : inB B [] := fun x hx => by simp at hx
theorem Yof {B x : Int} (h : -B ≤ x ∧ x ≤ B) : inB B [x] := fun y hy => by rw [List.mem_singleton.1 hy]; exact h
theorem Ysg {B : Int} {l : List Int} (h : inB B l) (i : Nat) {y : Int} (hy : -B ≤ y ∧ y ≤ B) : inB B (l.set i y) := fun x hx => by
 rcases List.mem_or_eq_of_mem_set hx with hx | hx
 ·
  exact h x hx
 ·
  rw [hx]; exact hy
theorem Ysf (n : Nat) {B : Int} (h : 0 ≤ B) : inB B (List.replicate n 0) := fun x hx => by rw [List.eq_of_mem_replicate hx]; omega
theorem Xn5 {B : Int} {l : List Int} (h : inB B l) {i : Nat} (hi : i < l.length) : -B ≤ l.getD i 0 ∧ l.getD i 0 ≤ B := h _ (by rw [Xcm l i hi]; exact List.getElem_mem _)
theorem Ytm {B : Int} {l : List Int} (h : inB B l) (n : Nat) : inB B (l.take n) := fun x hx => h x (List.mem_of_mem_take hx)
theorem Ytk {B : Int} {l : List Int} (h : inB B l) (n : Nat) : inB B (l.drop n) := fun x hx => h x (List.mem_of_mem_drop hx)
theorem Xdz {S : Type} {f : Int × S → Option (Lp (Int × S) S)} (n : Nat) (I : Nat → S → Prop) (hs : ∀ (i : Nat) (l : S), i < n → I i l → ∃ l', f ((i : Int), l) = some (.go (((i + 1 : Nat) : Int), l')) ∧ I (i + 1) l') (he : ∀ l, f ((n : Int), l) = some (.done l)) (l0 : S) (h0 : I 0 l0) : ∃ o, loop f (0, l0) = some o ∧ I n o := by
 have key : ∀ i : Nat, i ≤ n → ∀ l, I i l → ∃ o, loop f ((i : Int), l) = some o ∧ I n o := by
  refine Xhe _ ?_ ?_
  ·
   intro l h; exact ⟨l, Xfv (he l), h⟩
  ·
   intro i hi ih l h
   obtain ⟨l', e, h'⟩ := hs i l hi h
   obtain ⟨o, e2, h2⟩ := ih l' h'
   exact ⟨o, lgo e e2, h2⟩
 exact key 0 (by omega) l0 h0
theorem Xqe {S : Type} {f : S × Int → Option (Lp (S × Int) S)} (n : Nat) (I : Nat → S → Prop) (hs : ∀ (i : Nat) (l : S), i < n → I i l → ∃ l', f (l, (i : Int)) = some (.go (l', ((i + 1 : Nat) : Int))) ∧ I (i + 1) l') (he : ∀ l, f (l, (n : Int)) = some (.done l)) (l0 : S) (h0 : I 0 l0) : ∃ o, loop f (l0, 0) = some o ∧ I n o := by
 have key : ∀ i : Nat, i ≤ n → ∀ l, I i l → ∃ o, loop f (l, (i : Int)) = some o ∧ I n o := by
  refine Xhe _ ?_ ?_
  ·
   intro l h; exact ⟨l, Xfv (he l), h⟩
  ·
   intro i hi ih l h
   obtain ⟨l', e, h'⟩ := hs i l hi h
   obtain ⟨o, e2, h2⟩ := ih l' h'
   exact ⟨o, lgo e e2, h2⟩
 exact key 0 (by omega) l0 h0
theorem Xe8 (l : List Int) (i j : Nat) (y : Int) (hi : i < l.length) : (l.set i y).getD j 0 = if i = j then y else l.getD j 0 := by
 rw [List.getD_eq_getElem?_getD, List.getElem?_set, List.getD_eq_getElem?_getD]
 by_cases h : i = j
 ·
  subst h; rw [if_pos rfl, if_pos rfl, if_pos hi]; rfl
 ·
  rw [if_neg h, if_neg h]
theorem Xnj {f : Int × List Int → Option (Lp (Int × List Int) (List Int))} (n : Nat) (P Q : Int → Prop) (hs : ∀ (i : Nat) (l : List Int), i < n → l.length = n → P (l.getD i 0) → ∃ y, f ((i : Int), l) = some (.go (((i + 1 : Nat) : Int), l.set i y)) ∧ Q y) (he : ∀ l, f ((n : Int), l) = some (.done l)) (l0 : List Int) (h0 : l0.length = n) (hb : ∀ x ∈ l0, P x) : ∃ o, loop f (0, l0) = some o ∧ o.length = n ∧ ∀ x ∈ o, Q x := by
 obtain ⟨o, e, h1, h2, _⟩ := Xdz (f := f) n (fun i l => l.length = n ∧ (∀ j, j < i → Q (l.getD j 0)) ∧ ∀ j, i ≤ j → j < n → P (l.getD j 0)) (by
  intro i l hi ⟨g1, g2, g3⟩
  obtain ⟨y, e, hy⟩ := hs i l hi g1 (g3 i (Nat.le_refl _) hi)
  refine ⟨_, e, by rw [List.length_set]; exact g1, fun j hj => ?_, fun j hj hj2 => ?_⟩
  ·
   rw [Xe8 l i j y (by omega)]
   by_cases h : i = j
   ·
    rw [if_pos h]; exact hy
   ·
    rw [if_neg h]; exact g2 j (by omega)
  ·
   rw [Xe8 l i j y (by omega), if_neg (by omega)]; exact g3 j (by omega) hj2) he l0 ⟨h0, fun j hj => by omega, fun j _ hj => hb _ (by rw [Xcm l0 j (by omega)]; exact List.getElem_mem _)⟩
 refine ⟨o, e, h1, fun x hx => ?_⟩
 obtain ⟨j, hj, rfl⟩ := List.getElem_of_mem hx
 have := h2 j (by omega)
 rwa [Xcm o j hj] at this
theorem Xcx (l : List Int) (n B : Int) (hn : (l.length : Int) = n) (hn2 : n ≤ 1000000) (hB : 0 ≤ B ∧ B ≤ 100000000) (h : inB B l) : Xck l n B = some true := by
 unfold Xck
 rw [Xbi (by simp only [bne_eq_false_iff_eq]; exact hn), Ya4 l.length (f := Xfe l n B) (by
  intro i hi
  have := Xn5 h hi
  unfold Xfe
  rw [syA, rqA, wkA (e := 0 - B), Xal, Xab, Int.toNat_natCast, decide_eq_true (by omega), Bool.not_true, Xao, wkA]
  rfl) (by unfold Xfe; rw [snA]), Xab]
def Ya2 (n i : Int) (v17 : Int × Int) : Option (Lp (Int × Int) (Ou Unit Int)) :=
 sel (decide (v17.2 ≤ (Xaa .i64 ((Xaa .i64 (2 * n)) - 2)))) (
 bnd (it (Xu2 n i v17) 20 (v17.1, 0)) fun o47 => match o47 with
 | .out v43 => (
 some (.go (v43, Xaa .i64 (v17.2 + 1))))
 | .ret r => some (.done (.ret r))) (
 some (.done (.out ())))
theorem Yrm {n i : Int} {v : Int × Int} {x : Lp (Int × Int) (Ou Unit Int)} (h : Ya2 n i v = some x) : Xp4 n i v = some x := by
 unfold Ya2 at h
 unfold Xp4
 rcases Xjy h with ⟨hb, h⟩ | ⟨hb, h⟩
 ·
  rw [hb, Xau]
  obtain ⟨a, h1, h2⟩ := Xbd h
  rw [Xi4.2 ⟨20, h1⟩, Xab]
  exact h2
 ·
  rw [hb, Xao]; exact h
theorem Yy3 {V O : Type} {f g : V → Option (Lp V O)} (hf : ∀ v y, f v = some y → g v = some y) {o : O} : ∀ (k : Nat) (v : V), it f k v = some o → it g k v = some o
 | 0, v, h => by cases h
 | k + 1, v, h => by
  rw [it] at h ⊢
  cases e : f v with
  | none => rw [e] at h; cases h
  | some s =>
   rw [e] at h
   rw [hf v s e]
   cases s with
   | go y => exact Yy3 hf k y h
   | done o' => exact h
def Xgw (n i : Int) : Int := match it (Ya2 n i) 20 (0, 0) with | some (.ret q) => q | _ => -1
theorem Yzj : ∀ i : Fin 16, (0 ≤ Xgw 4 (i.val : Int) ∧ Xgw 4 (i.val : Int) < 16) := by decide +kernel
theorem Yzk : ∀ i : Fin 64, (0 ≤ Xgw 8 (i.val : Int) ∧ Xgw 8 (i.val : Int) < 64) := by decide +kernel
theorem Xib (n : Int) (hn : n = 4 ∨ n = 8) (i : Nat) (hi : (i : Int) < n * n) : 0 ≤ Xgw n i ∧ Xgw n i < n * n := by
 rcases hn with rfl | rfl
 ·
  exact Yzj ⟨i, by omega⟩
 ·
  exact Yzk ⟨i, by omega⟩
theorem Xhc (n : Int) (hn : n = 4 ∨ n = 8) (i : Nat) (hi : (i : Int) < n * n) : Xs8 n i = some (Xgw n i) := by
 have hp := Xib n hn i hi
 unfold Xs8
 have hw : Xaa .i64 (n * n) = n * n := by rcases hn with rfl | rfl <;> exact wkA
 have hc : (sel (n != 4) (sel (n != 8) (some true) (sel (decide ((i : Int) < 0)) (some true) (some (decide ((i : Int) ≥ (Xaa .i64 (n * n))))))) (sel (decide ((i : Int) < 0)) (some true) (some (decide ((i : Int) ≥ (Xaa .i64 (n * n))))))) = some false := by
  rw [hw, Xar (show ¬ (i : Int) < 0 by omega), decide_eq_false (show ¬ (i : Int) ≥ n * n by omega)]
  rcases hn with rfl | rfl <;> rfl
 rw [hc, Xab, Xao]
 unfold Xgw at hp ⊢
 cases e : it (Ya2 n i) 20 (0, 0) with
 | none => rw [e] at hp; simp only at hp; omega
 | some s =>
  rw [e] at hp
  have h := Yy3 (fun v y => Yrm (n := n) (i := i)) 20 _ e
  rw [Xi4.2 ⟨20, h⟩, Xab]
  cases s with
  | out u => simp only at hp; omega
  | ret q => rfl
theorem Xp5 (n : Int) (hn : n = 4 ∨ n = 8) (l : List Int) (B : Int) (hl : (l.length : Int) = n * n) (hb : inB B l) : ∃ o, Xig n l = some (o, true) ∧ o.length = l.length ∧ inB B o := by
 have hm : maxLen = 9223372036854775807 := rfl
 have hw : Xaa .i64 (n * n) = n * n := by rcases hn with rfl | rfl <;> exact wkA
 have hl2 : l.length ≤ 64 := by rcases hn with rfl | rfl <;> omega
 unfold Xig
 have hc : (sel (n != 4) (sel (n != 8) (some true) (some ((l.length : Int) != (Xaa .i64 (n * n))))) (some ((l.length : Int) != (Xaa .i64 (n * n))))) = some false := by
  rw [hw, hl, bne_self_eq_false]
  rcases hn with rfl | rfl <;> rfl
 rw [hc, Xab, Xao]
 obtain ⟨o, e, h1, h2⟩ := Xdz (f := Xej n l) l.length (fun i s => s.length = i ∧ inB B s) (by
  intro i s hi ⟨g1, g2⟩
  have hp := Xib n hn i (by omega)
  have ha := Xn5 hb (i := (Xgw n i).toNat) (by omega)
  unfold Xej
  simp only
  rw [hw, syA, Xhc n hn i (by omega), Xab, rqA, Xa2 (by simp only [List.length_singleton]; omega), wkA]
  exact ⟨_, rfl, by simp; omega, Xmy g2 (Yof ha)⟩) (by intro s; unfold Xej; simp only; rw [hw, snA]) [] ⟨rfl, Xyg B⟩
 exact ⟨o, (Xgb e).trans rfl, h1, h2⟩
theorem Xf3 (n : Int) (hn : n = 4 ∨ n = 8) (l : List Int) (B : Int) (hB : 0 ≤ B) (hl : (l.length : Int) = n * n) (hb : inB B l) : ∃ o, Xfd n l = some (o, true) ∧ o.length = l.length ∧ inB B o := by
 have hm : maxLen = 9223372036854775807 := rfl
 have hw : Xaa .i64 (n * n) = n * n := by rcases hn with rfl | rfl <;> exact wkA
 have hl2 : l.length ≤ 64 := by rcases hn with rfl | rfl <;> omega
 unfold Xfd
 have hc : (sel (n != 4) (sel (n != 8) (some true) (some ((l.length : Int) != (Xaa .i64 (n * n))))) (some ((l.length : Int) != (Xaa .i64 (n * n))))) = some false := by
  rw [hw, hl, bne_self_eq_false]
  rcases hn with rfl | rfl <;> rfl
 rw [hc, Xab, Xao, rqA, Int.toNat_natCast]
 obtain ⟨o, e, h1, h2⟩ := Xdz (f := Xc9 n l) l.length (fun i s => s.length = l.length ∧ inB B s) (by
  intro i s hi ⟨g1, g2⟩
  have hp := Xib n hn i (by omega)
  have ha := Xn5 hb hi
  unfold Xc9
  simp only
  rw [hw, syA, Xhc n hn i (by omega), Xab, rqA, rqA, rqA, wkA, Int.toNat_natCast]
  exact ⟨_, rfl, by rw [List.length_set]; exact g1, Ysg g2 _ ha⟩) (by intro s; unfold Xc9; simp only; rw [hw, snA]) (List.replicate l.length 0) ⟨List.length_replicate, Ysf _ hB⟩
 exact ⟨o, (Xgb e).trans rfl, h1, h2⟩
def Xjj (u v : Int) : Int := match it Xnn 10 (1, (IntKind.wrap .i64 (BitVec.ofInt (IntKind.bits .i64) u &&& BitVec.ofInt (IntKind.bits .i64) v).toNat)) with | some q => q | none => 7
theorem Yxr : ∀ u v : Fin 8, (-1 ≤ Xjj (u.val : Int) (v.val : Int) ∧ Xjj (u.val : Int) (v.val : Int) ≤ 1) := by decide +kernel
theorem Xxf (u v : Nat) (hu : u < 8) (hv : v < 8) : ∃ s, Xm7 u v = some s ∧ -1 ≤ s ∧ s ≤ 1 := by
 have h := Yxr ⟨u, hu⟩ ⟨v, hv⟩
 simp only at h
 unfold Xm7
 rw [Xal, Xab, decide_eq_true (by omega), Xau, Xal, Xab, decide_eq_true (by omega), Bool.not_true, Xab, Xao]
 unfold Xjj at h
 cases e : it Xnn 10 (1, (IntKind.wrap .i64 (BitVec.ofInt (IntKind.bits .i64) (u : Int) &&& BitVec.ofInt (IntKind.bits .i64) (v : Int)).toNat)) with
 | none => rw [e] at h; simp only at h; omega
 | some q =>
  rw [e] at h
  rw [Xi4.2 ⟨10, e⟩, Xab]
  exact ⟨q, rfl, h⟩
def Xth (qp : Int) : Int := if qp.tmod 6 = 0 then 10 else if qp.tmod 6 = 1 then 11 else if qp.tmod 6 = 2 then 13 else if qp.tmod 6 = 3 then 14 else if qp.tmod 6 = 4 then 16 else 18
def Xp9 (qp : Int) : Int := match it (Xnp qp) 10 (Xth qp, 0) with | some q => q | none => 0
theorem Yx0 : ∀ q : Fin 41, (10 ≤ Xp9 (q.val : Int) ∧ Xp9 (q.val : Int) ≤ 1152) := by decide +kernel
theorem Xxi (qp : Int) (h0 : 0 ≤ qp ∧ qp ≤ 40) : ∃ s, Xkb qp = some s ∧ 10 ≤ s ∧ s ≤ 1152 := by
 have h := Yx0 ⟨qp.toNat, by omega⟩
 simp only at h
 rw [show ((qp.toNat : Nat) : Int) = qp by omega] at h
 unfold Xkb
 rw [Xal, Xab, decide_eq_true (by omega), Bool.not_true, Xao, rqA]
 have hb : (sel ((qp.tmod 6) == 0) (some (10 : Int)) (sel ((qp.tmod 6) == 1) (some 11) (sel ((qp.tmod 6) == 2) (some 13) (sel ((qp.tmod 6) == 3) (some 14) (sel ((qp.tmod 6) == 4) (some 16) (some 18)))))) = some (Xth qp) := by
  unfold Xth
  simp only [Yjs, beq_iff_eq]
  repeat' split
  all_goals rfl
 rw [hb, Xab]
 unfold Xp9 at h
 cases e : it (Xnp qp) 10 (Xth qp, 0) with
 | none => rw [e] at h; simp only at h; omega
 | some q =>
  rw [e] at h
  rw [Xi4.2 ⟨10, e⟩, Xab]
  exact ⟨q, rfl, h⟩
theorem Xq7 (p : Int) (h : 0 ≤ p ∧ p ≤ 15) : ∃ k, Xp2 p = some k ∧ 0 ≤ k ∧ k ≤ 2 := by
 unfold Xp2
 rw [Xal, Xab, decide_eq_true h, Bool.not_true, Xao, rqA, rqA, rqA, rqA, Xdi, Xab]
 cases ((Xaa .i64 (p.tdiv 4)).tmod 2 == 0 && (p.tmod 4).tmod 2 == 0) with
 | true => exact ⟨0, rfl, by omega, by omega⟩
 | false =>
  rw [Xao, Xdi, Xab]
  cases ((Xaa .i64 (p.tdiv 4)).tmod 2 == 1 && (p.tmod 4).tmod 2 == 1) with
  | true => exact ⟨1, rfl, by omega, by omega⟩
  | false => exact ⟨2, rfl, by omega, by omega⟩
theorem Xa4 (k a b c : Int) : ∃ x, Xbe k a b c = some x ∧ (x = a ∨ x = b ∨ x = c) := by
 unfold Xbe
 cases (k == 0) with
 | true => exact ⟨a, rfl, Or.inl rfl⟩
 | false =>
  cases (k == 1) with
  | true => exact ⟨b, rfl, Or.inr (Or.inl rfl)⟩
  | false => exact ⟨c, rfl, Or.inr (Or.inr rfl)⟩
theorem Yvl (qp : Int) (h0 : 0 ≤ qp ∧ qp ≤ 40) (x : Int) (hx : 0 ≤ x ∧ x ≤ 29) : ∃ o, loop (Xf1 qp) (x, 0) = some o ∧ 0 ≤ o ∧ o ≤ 1856 := by
 obtain ⟨o, e, h1, h2⟩ := Xqe (f := Xf1 qp) (qp / 6).toNat (fun i s => 0 ≤ s ∧ s ≤ 29 * 2 ^ i) (by
  intro i s hi ⟨g1, g2⟩
  have h6 : (2 : Int) ^ i ≤ 64 := by
   have : i ≤ 6 := by omega
   obtain rfl | rfl | rfl | rfl | rfl | rfl | rfl : i = 0 ∨ i = 1 ∨ i = 2 ∨ i = 3 ∨ i = 4 ∨ i = 5 ∨ i = 6 := by omega
   all_goals decide
  have h7 : (2 : Int) ^ (i + 1) = 2 * 2 ^ i := by rw [Int.pow_succ, Int.mul_comm]
  unfold Xf1
  simp only
  rw [rqA, Xbg (by omega), wkA (e := qp / 6), syA, wkA (e := 2 * s), wkA (e := (i : Int) + 1)]
  exact ⟨_, rfl, by omega, by rw [h7]; omega⟩) (by intro s; unfold Xf1; simp only; rw [rqA, Xbg (by omega), wkA (e := qp / 6), snA]) x ⟨hx.1, by simp; omega⟩
 have h6 : (2 : Int) ^ (qp / 6).toNat ≤ 64 := by
  generalize hi : (qp / 6).toNat = i
  obtain rfl | rfl | rfl | rfl | rfl | rfl | rfl : i = 0 ∨ i = 1 ∨ i = 2 ∨ i = 3 ∨ i = 4 ∨ i = 5 ∨ i = 6 := by omega
  all_goals decide
 exact ⟨o, e, h1, by omega⟩
theorem Yjz (qp p : Int) (h0 : 0 ≤ qp ∧ qp ≤ 40) (hp : 0 ≤ p ∧ p ≤ 15) : ∃ s, Xn9 qp p = some s ∧ 0 ≤ s ∧ s ≤ 1856 := by
 unfold Xn9
 obtain ⟨k, e, k0, k1⟩ := Xq7 p hp
 rw [e, Xab, Xal, Xab, decide_eq_true h0, Xau, decide_eq_false (by omega), Xab, Xao, rqA]
 obtain ⟨a1, e1, b1⟩ := Xa4 k 10 16 13
 obtain ⟨a2, e2, b2⟩ := Xa4 k 11 18 14
 obtain ⟨a3, e3, b3⟩ := Xa4 k 13 20 16
 obtain ⟨a4, e4, b4⟩ := Xa4 k 14 23 18
 obtain ⟨a5, e5, b5⟩ := Xa4 k 16 25 20
 obtain ⟨a6, e6, b6⟩ := Xa4 k 18 29 23
 rw [e1, e2, e3, e4, e5, e6]
 simp only [Xab, Yub]
 obtain ⟨o, eo, o1, o2⟩ := Yvl qp h0 (sel (qp.tmod 6 == 0) a1 (sel (qp.tmod 6 == 1) a2 (sel (qp.tmod 6 == 2) a3 (sel (qp.tmod 6 == 3) a4 (sel (qp.tmod 6 == 4) a5 (sel (qp.tmod 6 == 5) a6 0)))))) (by
  simp only [Yjs]
  repeat' split
  all_goals omega)
 exact ⟨o, (Xgb eo).trans rfl, o1, o2⟩
theorem Yj0 (qp p : Int) (h0 : 0 ≤ qp ∧ qp ≤ 40) (hp : 0 ≤ p ∧ p ≤ 15) : ∃ s, Xoa qp p = some s ∧ 0 ≤ s ∧ s ≤ 13107 := by
 unfold Xoa
 obtain ⟨k, e, k0, k1⟩ := Xq7 p hp
 rw [e, Xab, Xal, Xab, decide_eq_true h0, Xau, decide_eq_false (by omega), Xab, Xao, rqA]
 obtain ⟨a1, e1, b1⟩ := Xa4 k 13107 5243 8066
 obtain ⟨a2, e2, b2⟩ := Xa4 k 11916 4660 7490
 obtain ⟨a3, e3, b3⟩ := Xa4 k 10082 4194 6554
 obtain ⟨a4, e4, b4⟩ := Xa4 k 9362 3647 5825
 obtain ⟨a5, e5, b5⟩ := Xa4 k 8192 3355 5243
 obtain ⟨a6, e6, b6⟩ := Xa4 k 7282 2893 4559
 rw [e1, e2, e3, e4, e5, e6]
 simp only [Xab, Yub]
 refine ⟨_, rfl, ?_⟩
 simp only [Yjs]
 repeat' split
 all_goals omega
theorem Yt0 {a s B : Int} (ha : -B ≤ a ∧ a ≤ B) (hs : -1 ≤ s ∧ s ≤ 1) : (-B ≤ a * s ∧ a * s ≤ B) ∧ (-B ≤ s * a ∧ s * a ≤ B) := by
 obtain rfl | rfl | rfl : s = -1 ∨ s = 0 ∨ s = 1 := by omega
 all_goals omega
theorem Ymf (p : List Int) (B : Int) (hB : 0 ≤ B ∧ B ≤ 1000000000000) (hl : p.length = 64) (hb : inB B p) (i v : Nat) (hi : i < 8) (hv : v < 8) : ∃ o, Xp6 p i v = some o ∧ -(8 * B) ≤ o ∧ o ≤ 8 * B := by
 unfold Xp6
 obtain ⟨o, e, h1, h2⟩ := Xqe (f := Xff p i v) 8 (fun k s => -(B * k) ≤ s ∧ s ≤ B * k) (by
  intro k s hk ⟨g1, g2⟩
  obtain ⟨q, eq, q0, q1⟩ := Xxf v k hv hk
  have ha := Xn5 hb (i := 8 * i + k) (by omega)
  have hm := (Yt0 ha ⟨q0, q1⟩).1
  have hk8 : B * k ≤ B * 8 := Int.mul_le_mul_of_nonneg_left (by omega) hB.1
  have hk0 : B * ((k + 1 : Nat) : Int) = B * k + B := by rw [Int.natCast_add, Int.mul_add]; simp
  unfold Xff
  simp only
  rw [syA, wkA (e := 8 * (i : Int)), wkA (e := 8 * (i : Int) + (k : Int)), rqA, eq, Xab, show (8 * (i : Int) + (k : Int)).toNat = 8 * i + k by omega, wkA (e := p.getD (8 * i + k) 0 * q), wkA (e := s + p.getD (8 * i + k) 0 * q), wkA (e := (k : Int) + 1)]
  exact ⟨_, rfl, by rw [hk0]; omega, by rw [hk0]; omega⟩) (by intro s; unfold Xff; rw [Xar (by simp)]) 0 (by simp)
 exact ⟨o, (Xgb e).trans rfl, by omega, by omega⟩
theorem Xva (p : List Int) (B : Int) (hB : 0 ≤ B ∧ B ≤ 10000000000) (hl : p.length = 64) (hb : inB B p) : ∃ o, Xky p = some o ∧ o.length = 64 ∧ inB (64 * B) o := by
 have hm : maxLen = 9223372036854775807 := rfl
 unfold Xky
 obtain ⟨h, eh, hh1, hh2⟩ := Xdz (f := Xdq p) 8 (fun i s => s.length = 8 * i ∧ inB (8 * B) s) (by
  intro i s hi ⟨g1, g2⟩
  obtain ⟨t, et, t1, t2⟩ := Xdz (f := Xdr p ((i : Int), s)) 8 (fun v s => s.length = 8 * i + v ∧ inB (8 * B) s) (by
   intro v s hv ⟨g1, g2⟩
   obtain ⟨r, er, r1, r2⟩ := Ymf p B ⟨hB.1, by omega⟩ hl hb i v hi hv
   unfold Xdr
   simp only
   rw [syA, er, Xab, Xa2 (by simp only [List.length_singleton]; omega), wkA (e := (v : Int) + 1)]
   exact ⟨_, rfl, by simp; omega, Xmy g2 (Yof ⟨by omega, r2⟩)⟩) (by intro s; unfold Xdr; rw [Xar (by simp)]) s ⟨by omega, g2⟩
  unfold Xdq
  simp only
  rw [syA, et, Xab, wkA (e := (i : Int) + 1)]
  exact ⟨_, rfl, by omega, t2⟩) (by intro s; unfold Xdq; rw [Xar (by simp)]) [] ⟨rfl, Xyg _⟩
 rw [eh, Xab]
 obtain ⟨o, eo, o1, o2⟩ := Xdz (f := Xda h) 8 (fun i s => s.length = 8 * i ∧ inB (64 * B) s) (by
  intro i s hi ⟨g1, g2⟩
  obtain ⟨t, et, t1, t2⟩ := Xdz (f := Xdb h ((i : Int), s)) 8 (fun v s => s.length = 8 * i + v ∧ inB (64 * B) s) (by
   intro v r hv ⟨g1, g2⟩
   obtain ⟨a, ea, a1, a2⟩ := Xqe (f := Xdc h ((i : Int), s) ((v : Int), r)) 8 (fun k s => -(8 * B * k) ≤ s ∧ s ≤ 8 * B * k) (by
    intro k c hk ⟨g1, g2⟩
    obtain ⟨q, eq, q0, q1⟩ := Xxf i k hi hk
    have ha := Xn5 hh2 (i := 8 * k + v) (by omega)
    have hm := (Yt0 ha ⟨q0, q1⟩).2
    have hk8 : 8 * B * k ≤ 8 * B * 8 := Int.mul_le_mul_of_nonneg_left (by omega) (by omega)
    have hk0 : 8 * B * ((k + 1 : Nat) : Int) = 8 * B * k + 8 * B := by rw [Int.natCast_add, Int.mul_add]; simp
    unfold Xdc
    simp only
    rw [syA, eq, Xab, wkA (e := 8 * (k : Int)), wkA (e := 8 * (k : Int) + (v : Int)), rqA, rqA, show (8 * (k : Int) + (v : Int)).toNat = 8 * k + v by omega, wkA (e := q * h.getD (8 * k + v) 0), wkA (e := c + q * h.getD (8 * k + v) 0), wkA (e := (k : Int) + 1)]
    exact ⟨_, rfl, by rw [hk0]; omega, by rw [hk0]; omega⟩) (by intro s; unfold Xdc; rw [Xar (by simp)]) 0 (by simp)
   unfold Xdb
   simp only
   rw [syA, ea, Xab, Xa2 (by simp only [List.length_singleton]; omega), wkA (e := (v : Int) + 1)]
   exact ⟨_, rfl, by simp; omega, Xmy g2 (Yof ⟨by omega, by omega⟩)⟩) (by intro s; unfold Xdb; rw [Xar (by simp)]) s ⟨by omega, g2⟩
  unfold Xda
  simp only
  rw [syA, et, Xab, wkA (e := (i : Int) + 1)]
  exact ⟨_, rfl, by omega, t2⟩) (by intro s; unfold Xda; rw [Xar (by simp)]) [] ⟨rfl, Xyg _⟩
 exact ⟨o, (Xgb eo).trans rfl, by omega, o2⟩
theorem Xl2 (a b : Int) (ha : -1000000000000 ≤ a ∧ a ≤ 1000000000000) (hb : b = 2 ∨ b = 64) : ∃ d, Xd5 a b = some d ∧ b * d ≤ a ∧ a < b * d + b := by
 unfold Xd5
 have h1 : b * (a.tdiv b) + a.tmod b = a := Int.mul_tdiv_add_tmod a b
 have h2 : -b < a.tmod b ∧ a.tmod b < b := by
  have hb0 : 0 < b := by omega
  refine ⟨?_, Int.tmod_lt_of_pos a hb0⟩
  have := Int.lt_tmod_of_pos a hb0
  omega
 rw [rqA, rqA]
 generalize a.tmod b = m at h1 h2
 generalize a.tdiv b = t at h1 h2
 have ht : -1000000000001 ≤ t ∧ t ≤ 1000000000001 := by rcases hb with rfl | rfl <;> omega
 by_cases h : m < 0
 ·
  rw [Xbk h, Xab, wkA (e := t), wkA (e := t - 1)]
  refine ⟨_, rfl, ?_⟩
  rcases hb with rfl | rfl <;> omega
 ·
  rw [Xar h, Xab, wkA (e := t)]
  refine ⟨_, rfl, ?_⟩
  rcases hb with rfl | rfl <;> omega
theorem Yba (p : List Int) (hl : p.length = 64) (hb : inB 255 p) : ∃ o, Xr8 p = some o ∧ o.length = 64 := by
 unfold Xr8
 obtain ⟨o, e, h1, h2⟩ := Xva p 255 (by omega) hl hb
 rw [Xcx p 64 1000 (by omega) (by omega) (by omega) (Xqk hb (by omega)), Xab, Bool.not_true, Xao, e, Xab]
 exact ⟨o, rfl, h1⟩
theorem Yc4 (p : List Int) (hl : p.length = 64) (hb : inB 5760000 p) : ∃ o, Xjm p = some o ∧ o.length = 64 ∧ inB 10000000 o := by
 unfold Xjm
 obtain ⟨o, e, h1, h2⟩ := Xva p 5760000 (by omega) hl hb
 rw [Xcx p 64 10000000 (by omega) (by omega) (by omega) (Xqk hb (by omega)), Xab, Bool.not_true, Xao, e, Xab]
 obtain ⟨r, er, r1, r2⟩ := Xnj (f := Xix) 64 (fun x => -368640000 ≤ x ∧ x ≤ 368640000) (fun x => -10000000 ≤ x ∧ x ≤ 10000000) (by
  intro i l hi hll hx
  obtain ⟨d, ed, d1, d2⟩ := Xl2 (l.getD i 0 + 32) 64 (by omega) (Or.inr rfl)
  unfold Xix
  simp only [Int.toNat_natCast]
  rw [syA, rqA, rqA, wkA (e := l.getD i 0 + 32), ed, Xab, rqA, rqA, wkA (e := (i : Int) + 1)]
  exact ⟨d, rfl, by omega, by omega⟩) (by intro s; unfold Xix; rw [Xar (by simp)]) o h1 (fun x hx => by have := h2 x hx; omega)
 exact ⟨r, (Xgb er).trans rfl, r1, r2⟩
theorem Xl4 (p : List Int) (B : Int) (hB : 0 ≤ B) (hl : p.length = 16) (hb : inB B p) : ∃ o, Xf9 p = some o ∧ o.length = 16 ∧ inB B o := by
 unfold Xf9
 rw [rqA]
 obtain ⟨o, e, h1, h2⟩ := Xdz (f := Xek p) 16 (fun i s => s.length = 16 ∧ inB B s) (by
  intro i s hi ⟨g1, g2⟩
  have ha := Xn5 hb (i := i) (by omega)
  unfold Xek
  simp only
  rw [syA, rqA, rqA, rqA, Xbr (by omega), Xbg (by omega), wkA (e := (i : Int) / 4), wkA (e := (i : Int) % 4 * 4), wkA (e := (i : Int) % 4 * 4 + (i : Int) / 4), rqA, rqA, wkA (e := (i : Int) + 1), Int.toNat_natCast]
  exact ⟨_, rfl, by rw [List.length_set]; exact g1, Ysg g2 _ ha⟩) (by intro s; unfold Xek; rw [Xar (by simp)]) (List.replicate (16 : Int).toNat 0) ⟨by simp, Ysf _ hB⟩
 exact ⟨o, (Xgb e).trans rfl, h1, h2⟩
theorem Ytl {B a b c d : Int} (h1 : -B ≤ a ∧ a ≤ B) (h2 : -B ≤ b ∧ b ≤ B) (h3 : -B ≤ c ∧ c ≤ B) (h4 : -B ≤ d ∧ d ≤ B) : inB B [a, b, c, d] := fun x hx => by
 simp only [List.mem_cons, List.not_mem_nil, or_false] at hx
 rcases hx with rfl | rfl | rfl | rfl
 ·
  exact h1
 ·
  exact h2
 ·
  exact h3
 ·
  exact h4
theorem Xu8 (p : List Int) (B : Int) (hB : 0 ≤ B ∧ B ≤ 1000000000) (hl : p.length = 16) (hb : inB B p) : ∃ o, Xkx p = some o ∧ o.length = 16 ∧ inB (6 * B) o := by
 have hm : maxLen = 9223372036854775807 := rfl
 unfold Xkx
 obtain ⟨o, e, h1, h2⟩ := Xdz (f := Xel p) 4 (fun i s => s.length = 4 * i ∧ inB (6 * B) s) (by
  intro i s hi ⟨g1, g2⟩
  have a0 := Xn5 hb (i := 4 * i) (by omega)
  have a1 := Xn5 hb (i := 4 * i + 1) (by omega)
  have a2 := Xn5 hb (i := 4 * i + 2) (by omega)
  have a3 := Xn5 hb (i := 4 * i + 3) (by omega)
  unfold Xel
  simp only
  rw [syA, wkA (e := 4 * (i : Int)), wkA (e := 4 * (i : Int) + 1), wkA (e := 4 * (i : Int) + 2), wkA (e := 4 * (i : Int) + 3), rqA, rqA, rqA, rqA, show (4 * (i : Int)).toNat = 4 * i by omega, show (4 * (i : Int) + 1).toNat = 4 * i + 1 by omega, show (4 * (i : Int) + 2).toNat = 4 * i + 2 by omega, show (4 * (i : Int) + 3).toNat = 4 * i + 3 by omega]
  generalize p.getD (4 * i) 0 = a at *
  generalize p.getD (4 * i + 1) 0 = b at *
  generalize p.getD (4 * i + 2) 0 = c at *
  generalize p.getD (4 * i + 3) 0 = d at *
  rw [wkA (e := (i : Int) + 1)]
  have w1 : Xaa .i64 (Xaa .i64 (Xaa .i64 (a + b) + c) + d) = a + b + c + d := by
   rw [wkA (e := a + b), wkA (e := a + b + c), wkA]
  have w2 : Xaa .i64 (Xaa .i64 (Xaa .i64 (Xaa .i64 (2 * a) + b) - c) - Xaa .i64 (2 * d)) = 2 * a + b - c - 2 * d := by
   rw [wkA (e := 2 * a), wkA (e := 2 * d), wkA (e := 2 * a + b), wkA (e := 2 * a + b - c), wkA]
  have w3 : Xaa .i64 (Xaa .i64 (Xaa .i64 (a - b) - c) + d) = a - b - c + d := by
   rw [wkA (e := a - b), wkA (e := a - b - c), wkA]
  have w4 : Xaa .i64 (Xaa .i64 (Xaa .i64 (a - Xaa .i64 (2 * b)) + Xaa .i64 (2 * c)) - d) = a - 2 * b + 2 * c - d := by
   rw [wkA (e := 2 * b), wkA (e := 2 * c), wkA (e := a - 2 * b), wkA (e := a - 2 * b + 2 * c), wkA]
  rw [w1, w2, w3, w4, Xa2 (by simp only [List.length_cons, List.length_nil]; omega)]
  exact ⟨_, rfl, by simp; omega, Xmy g2 (Ytl (by omega) (by omega) (by omega) (by omega))⟩) (by intro s; unfold Xel; rw [Xar (by simp)]) [] ⟨rfl, Xyg _⟩
 exact ⟨o, (Xgb e).trans rfl, h1, h2⟩
theorem Xtw (p : List Int) (B : Int) (hB : 0 ≤ B ∧ B ≤ 1000000000) (hl : p.length = 16) (hb : inB B p) : ∃ o, Xiz p = some o ∧ o.length = 16 ∧ inB (4 * B + 2) o := by
 have hm : maxLen = 9223372036854775807 := rfl
 unfold Xiz
 obtain ⟨o, e, h1, h2⟩ := Xdz (f := Xdp p) 4 (fun i s => s.length = 4 * i ∧ inB (4 * B + 2) s) (by
  intro i s hi ⟨g1, g2⟩
  have a0 := Xn5 hb (i := 4 * i) (by omega)
  have a1 := Xn5 hb (i := 4 * i + 1) (by omega)
  have a2 := Xn5 hb (i := 4 * i + 2) (by omega)
  have a3 := Xn5 hb (i := 4 * i + 3) (by omega)
  obtain ⟨f, ef, f1, f2⟩ := Xl2 (p.getD (4 * i + 1) 0) 2 (by omega) (Or.inl rfl)
  obtain ⟨g, eg, g1', g2'⟩ := Xl2 (p.getD (4 * i + 3) 0) 2 (by omega) (Or.inl rfl)
  unfold Xdp
  simp only
  rw [syA, wkA (e := 4 * (i : Int)), wkA (e := 4 * (i : Int) + 1), wkA (e := 4 * (i : Int) + 2), wkA (e := 4 * (i : Int) + 3), rqA, rqA, rqA, rqA, show (4 * (i : Int)).toNat = 4 * i by omega, show (4 * (i : Int) + 1).toNat = 4 * i + 1 by omega, show (4 * (i : Int) + 2).toNat = 4 * i + 2 by omega, show (4 * (i : Int) + 3).toNat = 4 * i + 3 by omega, ef, Xab, eg, Xab]
  generalize p.getD (4 * i) 0 = a at *
  generalize p.getD (4 * i + 1) 0 = b at *
  generalize p.getD (4 * i + 2) 0 = c at *
  generalize p.getD (4 * i + 3) 0 = d at *
  rw [wkA (e := (i : Int) + 1), wkA (e := a + c), wkA (e := a - c), wkA (e := b + g), wkA (e := f - d), wkA (e := a + c + (b + g)), wkA (e := a - c + (f - d)), wkA (e := a - c - (f - d)), wkA (e := a + c - (b + g)), Xa2 (by simp only [List.length_cons, List.length_nil]; omega)]
  exact ⟨_, rfl, by simp; omega, Xmy g2 (Ytl (by omega) (by omega) (by omega) (by omega))⟩) (by intro s; unfold Xdp; rw [Xar (by simp)]) [] ⟨rfl, Xyg _⟩
 exact ⟨o, (Xgb e).trans rfl, h1, h2⟩
theorem Yea (p : List Int) (hl : p.length = 16) (hb : inB 255 p) : ∃ o, Xuz p = some o ∧ o.length = 16 ∧ inB 9180 o := by
 unfold Xuz
 obtain ⟨a, ea, a1, a2⟩ := Xu8 p 255 (by omega) hl hb
 obtain ⟨b, eb, b1, b2⟩ := Xl4 a (6 * 255) (by omega) a1 a2
 obtain ⟨c, ec, c1, c2⟩ := Xu8 b (6 * 255) (by omega) b1 b2
 obtain ⟨d, ed, d1, d2⟩ := Xl4 c (6 * (6 * 255)) (by omega) c1 c2
 rw [Xcx p 16 1000 (by omega) (by omega) (by omega) (Xqk hb (by omega)), Xab, Bool.not_true, Xao, ea, Xab, eb, Xab, ec, Xab, ed, Xab]
 exact ⟨d, rfl, d1, d2⟩
theorem Xtt (p : List Int) (hl : p.length = 16) (hb : inB 10000000 p) : ∃ o, Xlu p = some o ∧ o.length = 16 ∧ inB 10000000 o := by
 unfold Xlu
 obtain ⟨a, ea, a1, a2⟩ := Xtw p 10000000 (by omega) hl hb
 obtain ⟨b, eb, b1, b2⟩ := Xl4 a _ (by omega) a1 a2
 obtain ⟨c, ec, c1, c2⟩ := Xtw b _ (by omega) b1 b2
 obtain ⟨d, ed, d1, d2⟩ := Xl4 c _ (by omega) c1 c2
 rw [Xcx p 16 10000000 (by omega) (by omega) (by omega) hb, Xab, Bool.not_true, Xao, ea, Xab, eb, Xab, ec, Xab, ed, Xab]
 obtain ⟨r, er, r1, r2⟩ := Xnj (f := Xj0) 16 (fun x => -160000010 ≤ x ∧ x ≤ 160000010) (fun x => -10000000 ≤ x ∧ x ≤ 10000000) (by
  intro i l hi hll hx
  obtain ⟨d, ed, d1, d2⟩ := Xl2 (l.getD i 0 + 32) 64 (by omega) (Or.inr rfl)
  unfold Xj0
  simp only [Int.toNat_natCast]
  rw [syA, rqA, rqA, wkA (e := l.getD i 0 + 32), ed, Xab, rqA, rqA, wkA (e := (i : Int) + 1)]
  exact ⟨d, rfl, by omega, by omega⟩) (by intro s; unfold Xj0; rw [Xar (by simp)]) d d1 (fun x hx => by have := d2 x hx; omega)
 exact ⟨r, (Xgb er).trans rfl, r1, r2⟩
theorem Xou (x : Int) (h : -1000000000000 ≤ x ∧ x ≤ 1000000000000) : Xgm x = some (Ydp x) := by
 unfold Xgm Ydp
 by_cases hx : x < 0
 ·
  rw [Xbk hx, if_pos hx, wkA]; congr 1; omega
 ·
  rw [Xar hx, if_neg hx]
theorem Xsf (w x B : Int) (h : 0 ≤ x ∧ x ≤ B) (hB : B ≤ 1000000000) : ∃ o, Xjr w x = some o ∧ -B ≤ o ∧ o ≤ B := by
 unfold Xjr
 by_cases hx : w < 0
 ·
  rw [Xbk hx, wkA]; exact ⟨_, rfl, by omega, by omega⟩
 ·
  rw [Xar hx]; exact ⟨_, rfl, by omega, by omega⟩
def Yzl (qp : Int) : Int := Xaa .i64 (1 * 2 ^ min (Xaa .u64 (Xaa .i64 (15 + (Xaa .i64 (qp.tdiv 6))))).toNat (IntKind.bits .i64))
theorem Yzm : ∀ q : Fin 41, (0 ≤ Xaa .u64 (Xaa .i64 (15 + (Xaa .i64 ((q.val : Int).tdiv 6)))) ∧ 32768 ≤ Yzl (q.val : Int) ∧ Yzl (q.val : Int) ≤ 2097152) := by decide +kernel
theorem Xqr (w qp p : Int) (hw : -9180 ≤ w ∧ w ≤ 9180) (h0 : 0 ≤ qp ∧ qp ≤ 40) (hp : 0 ≤ p ∧ p ≤ 15) : ∃ o, Xih w qp p = some o ∧ -5000 ≤ o ∧ o ≤ 5000 := by
 have hs := Yzm ⟨qp.toNat, by omega⟩
 simp only at hs
 rw [show ((qp.toNat : Nat) : Int) = qp by omega] at hs
 obtain ⟨s1, s2, s3⟩ := hs
 obtain ⟨s, es, q0, q1⟩ := Yj0 qp p h0 hp
 unfold Xih
 have en : Xaa .i64 (1 * 2 ^ min (Xaa .u64 (Xaa .i64 (15 + (Xaa .i64 (qp.tdiv 6))))).toNat (IntKind.bits .i64)) = Yzl qp := rfl
 rw [Xal, Xab, decide_eq_true (by omega), Xau, Xal, Xab, decide_eq_true h0, Xau, Xal, Xab, decide_eq_true hp, Bool.not_true, Xab, Xao, rqA, Xa2 s1, Xou w (by omega), Xab, es, Xab, rqA, en]
 generalize Yzl qp = n at *
 have ha : 0 ≤ Ydp w ∧ Ydp w ≤ 9180 := by unfold Ydp; split <;> omega
 generalize Ydp w = a at *
 have hm : 0 ≤ a * s ∧ a * s ≤ 9180 * 13107 := ⟨Int.mul_nonneg ha.1 q0, Int.mul_le_mul ha.2 q1 q0 (by omega)⟩
 rw [rqA, wkA (e := a * s), Xbg (a := n) (by omega), wkA (e := n / 3), wkA (e := a * s + n / 3), Xbg (by omega)]
 have d0 : 0 ≤ (a * s + n / 3) / n := Int.ediv_nonneg (by omega) (by omega)
 have d1 : (a * s + n / 3) / n < 5000 := Int.ediv_lt_of_lt_mul (by omega) (by omega)
 rw [wkA]
 obtain ⟨o, eo, o1, o2⟩ := Xsf w _ 5000 ⟨d0, by omega⟩ (by omega)
 rw [eo, Xab]
 exact ⟨o, rfl, o1, o2⟩
theorem Xqp (w qp : Int) (h0 : 0 ≤ qp ∧ qp ≤ 40) : ∃ o, Xif w qp = some o ∧ -5000 ≤ o ∧ o ≤ 5000 := by
 unfold Xif
 rw [Xal, Xab]
 by_cases hw : -20000 ≤ w ∧ w ≤ 20000
 ·
  obtain ⟨s, es, q0, q1⟩ := Xxi qp h0
  rw [decide_eq_true hw, Xau, Xal, Xab, decide_eq_true h0, Bool.not_true, Xab, Xao, es, Xab, Xou w (by omega), Xab]
  have ha : 0 ≤ Ydp w ∧ Ydp w ≤ 20000 := by unfold Ydp; split <;> omega
  generalize Ydp w = a at *
  rw [rqA, rqA, Xbg (a := s) (by omega), wkA (e := s / 2), wkA (e := a + s / 2), Xbg (by omega)]
  have d0 : 0 ≤ (a + s / 2) / s := Int.ediv_nonneg (by omega) (by omega)
  have d1 : (a + s / 2) / s < 5000 := Int.ediv_lt_of_lt_mul (by omega) (by omega)
  rw [wkA]
  obtain ⟨o, eo, o1, o2⟩ := Xsf w _ 5000 ⟨d0, by omega⟩ (by omega)
  rw [eo, Xab]
  exact ⟨o, rfl, o1, o2⟩
 ·
  rw [decide_eq_false hw, Xao, Xab, Xau]
  exact ⟨0, rfl, by omega, by omega⟩
theorem Xsd (l qp p : Int) (hl : -5000 ≤ l ∧ l ≤ 5000) (h0 : 0 ≤ qp ∧ qp ≤ 40) (hp : 0 ≤ p ∧ p ≤ 15) : ∃ o, Xjo l qp p = some o ∧ -10000000 ≤ o ∧ o ≤ 10000000 := by
 unfold Xjo
 obtain ⟨s, es, q0, q1⟩ := Yjz qp p h0 hp
 rw [Xal, Xab, decide_eq_true hl, Bool.not_true, Xao, es, Xab]
 have m1 : l * s ≤ 5000 * s := Int.mul_le_mul_of_nonneg_right hl.2 q0
 have m2 : -5000 * s ≤ l * s := Int.mul_le_mul_of_nonneg_right hl.1 q0
 rw [wkA]
 exact ⟨_, rfl, by omega, by omega⟩
theorem Xr9 (l qp : Int) (hl : -5000 ≤ l ∧ l ≤ 5000) (h0 : 0 ≤ qp ∧ qp ≤ 40) : ∃ o, Xjn l qp = some o ∧ -5760000 ≤ o ∧ o ≤ 5760000 := by
 unfold Xjn
 obtain ⟨s, es, q0, q1⟩ := Xxi qp h0
 rw [Xal, Xab, decide_eq_true hl, Bool.not_true, Xao, es, Xab]
 have m1 : l * s ≤ 5000 * s := Int.mul_le_mul_of_nonneg_right hl.2 (by omega)
 have m2 : -5000 * s ≤ l * s := Int.mul_le_mul_of_nonneg_right hl.1 (by omega)
 rw [wkA]
 exact ⟨_, rfl, by omega, by omega⟩
theorem Ysn {l : List Int} (h1 : l.length = 64) (h2 : inB 5000 l) : Ygr l = true := by
 unfold Ygr
 rw [Bool.and_eq_true, decide_eq_true_eq, List.all_eq_true]
 exact ⟨h1, fun x hx => by unfold Ypp; rw [decide_eq_true_eq]; exact h2 x hx⟩
theorem Yjb {l : List Int} (h : Ygr l = true) : l.length = 64 ∧ inB 5000 l := by
 obtain ⟨h1, h2⟩ := Xpi h
 refine ⟨h1, fun x hx => ?_⟩
 have := List.all_eq_true.1 h2 x hx
 unfold Ypp at this
 rwa [decide_eq_true_eq] at this
theorem Xy5 {c : Xer} (h : Xi1 c = true) : 0 ≤ c.Qp ∧ c.Qp ≤ 40 := by
 unfold Xi1 at h
 rw [Bool.and_eq_true, decide_eq_true_eq] at h
 exact h.1
theorem Xqt (p : List Int) (k : Nat) (hk : k < 4) (B : Int) (hl : p.length = 64) (hb : inB B p) : ∃ o, Xij p k = some o ∧ o.length = 16 ∧ inB B o := by
 have hm : maxLen = 9223372036854775807 := rfl
 unfold Xij
 obtain ⟨o, e, h1, h2⟩ := Xdz (f := Xcb p k) 16 (fun i s => s.length = i ∧ inB B s) (by
  intro i s hi ⟨g1, g2⟩
  have ha := Xn5 hb (i := (8 * ((k : Int) / 2 * 4 + (i : Int) / 4) + (k : Int) % 2 * 4 + (i : Int) % 4).toNat) (by omega)
  unfold Xcb
  simp only
  rw [syA, rqA, rqA, rqA, rqA, Xbg (a := (k : Int)) (by omega), Xbg (a := (i : Int)) (by omega), Xbr (a := (k : Int)) (by omega), Xbr (a := (i : Int)) (by omega), wkA (e := (k : Int) / 2), wkA (e := (k : Int) / 2 * 4), wkA (e := (i : Int) / 4), wkA (e := (k : Int) / 2 * 4 + (i : Int) / 4), wkA (e := 8 * ((k : Int) / 2 * 4 + (i : Int) / 4)), wkA (e := (k : Int) % 2 * 4), wkA (e := 8 * ((k : Int) / 2 * 4 + (i : Int) / 4) + (k : Int) % 2 * 4), wkA (e := 8 * ((k : Int) / 2 * 4 + (i : Int) / 4) + (k : Int) % 2 * 4 + (i : Int) % 4), rqA, Xa2 (by simp only [List.length_singleton]; omega), wkA (e := (i : Int) + 1)]
  exact ⟨_, rfl, by simp; omega, Xmy g2 (Yof ha)⟩) (by intro s; unfold Xcb; rw [Xar (by simp)]) [] ⟨rfl, Xyg _⟩
 exact ⟨o, (Xgb e).trans rfl, h1, h2⟩
theorem Xtu (p : List Int) (c : Xer) (hc : Xi1 c = true) (hl : p.length = 64) (hb : inB 255 p) : ∃ o, Xdx p c = some (o, true) ∧ Ygr o = true := by
 have hm : maxLen = 9223372036854775807 := rfl
 have hq := Xy5 hc
 unfold Xdx
 rw [Xha, Xab, hc, Xau, Xcx p 64 255 (by omega) (by omega) (by omega) hb, Xab, Bool.not_true, Xab, Xao]
 cases hE : c.Exact with
 | true =>
  obtain ⟨o, e, h1, h2⟩ := Xp5 8 (Or.inr rfl) p 255 (by omega) hb
  rw [Xau, e, Xab]
  exact ⟨o, rfl, Ysn (by omega) (Xqk h2 (by omega))⟩
 | false =>
  rw [Xao]
  cases hL : c.Large with
  | true =>
   obtain ⟨w, ew, w1⟩ := Yba p hl hb
   obtain ⟨l, el, l1, l2⟩ := Xnj (f := Xch c) 64 (fun _ => True) (fun x => -5000 ≤ x ∧ x ≤ 5000) (by
    intro i l hi hll _
    obtain ⟨d, ed, d1, d2⟩ := Xqp (l.getD i 0) c.Qp hq
    unfold Xch
    simp only [Int.toNat_natCast]
    rw [syA, rqA, rqA, ed, Xab, rqA, rqA, wkA (e := (i : Int) + 1)]
    exact ⟨d, rfl, d1, d2⟩) (by intro s; unfold Xch; rw [Xar (by simp)]) w w1 (fun _ _ => trivial)
   obtain ⟨o, e, h1, h2⟩ := Xp5 8 (Or.inr rfl) l 5000 (by omega) l2
   rw [Xau, ew, Xab, el, Xab, e, Xab]
   exact ⟨o, rfl, Ysn (by omega) h2⟩
  | false =>
   obtain ⟨o, eo, o1, o2⟩ := Xdz (f := Xd9 p c) 4 (fun k s => s.length = 16 * k ∧ inB 5000 s) (by
    intro k s hk ⟨g1, g2⟩
    obtain ⟨a, ea, a1, a2⟩ := Xqt p k hk 255 hl hb
    obtain ⟨b, eb, b1, b2⟩ := Yea a a1 a2
    obtain ⟨l, el, l1, l2⟩ := Xnj (f := Xb7 c) 16 (fun x => -9180 ≤ x ∧ x ≤ 9180) (fun x => -5000 ≤ x ∧ x ≤ 5000) (by
     intro i l hi hll hx
     obtain ⟨d, ed, d1, d2⟩ := Xqr (l.getD i 0) c.Qp i hx hq (by omega)
     unfold Xb7
     simp only [Int.toNat_natCast]
     rw [syA, rqA, rqA, ed, Xab, rqA, rqA, wkA (e := (i : Int) + 1)]
     exact ⟨d, rfl, d1, d2⟩) (by intro s; unfold Xb7; rw [Xar (by simp)]) b b1 b2
    obtain ⟨r, er, r1, r2⟩ := Xp5 4 (Or.inl rfl) l 5000 (by omega) l2
    unfold Xd9
    simp only
    rw [syA, ea, Xab, eb, Xab, el, Xab, er, Xab]
    simp only
    rw [rqA, wkA (e := (k : Int) + 1)]
    exact ⟨_, rfl, by rw [List.length_append]; omega, Xmy g2 r2⟩) (by intro s; unfold Xd9; rw [Xar (by simp)]) [] ⟨rfl, Xyg _⟩
   rw [Xao, eo, Xab]
   exact ⟨o, rfl, Ysn (by omega) o2⟩
theorem Xqq (p : List Int) (c : Xer) (hc : Xi1 c = true) (hp : Ygr p = true) : ∃ o, Xfz p c = some (o, true) ∧ o.length = 64 ∧ inB 10000000 o := by
 have hm : maxLen = 9223372036854775807 := rfl
 have hq := Xy5 hc
 obtain ⟨hl, hb⟩ := Yjb hp
 unfold Xfz
 rw [Xha, Xab, hc, Xau, Xcx p 64 5000 (by omega) (by omega) (by omega) hb, Xab, Bool.not_true, Xab, Xao]
 cases hE : c.Exact with
 | true =>
  obtain ⟨o, e, h1, h2⟩ := Xf3 8 (Or.inr rfl) p 5000 (by omega) (by omega) hb
  rw [Xau, e, Xab]
  exact ⟨o, rfl, by omega, Xqk h2 (by omega)⟩
 | false =>
  rw [Xao]
  cases hL : c.Large with
  | true =>
   obtain ⟨w, ew, w1, w2⟩ := Xf3 8 (Or.inr rfl) p 5000 (by omega) (by omega) hb
   obtain ⟨l, el, l1, l2⟩ := Xnj (f := Xbj c) 64 (fun x => -5000 ≤ x ∧ x ≤ 5000) (fun x => -5760000 ≤ x ∧ x ≤ 5760000) (by
    intro i l hi hll hx
    obtain ⟨d, ed, d1, d2⟩ := Xr9 (l.getD i 0) c.Qp hx hq
    unfold Xbj
    simp only [Int.toNat_natCast]
    rw [syA, rqA, rqA, ed, Xab, rqA, rqA, wkA (e := (i : Int) + 1)]
    exact ⟨d, rfl, d1, d2⟩) (by intro s; unfold Xbj; rw [Xar (by simp)]) w (by omega) w2
   obtain ⟨o, e, h1, h2⟩ := Yc4 l l1 l2
   rw [Xau, ew, Xab, el, Xab, e, Xab]
   exact ⟨o, rfl, h1, h2⟩
  | false =>
   obtain ⟨o, eo, o1, o2⟩ := Xdz (f := Xc8 p c) 4 (fun k s => s.length = 64 ∧ inB 10000000 s) (by
    intro k s hk ⟨g1, g2⟩
    have hcut : ((p.drop (16 * k)).take 16).length = 16 := by rw [List.length_take, List.length_drop]; omega
    obtain ⟨a, ea, a1, a2⟩ := Xf3 4 (Or.inl rfl) ((p.drop (16 * k)).take 16) 5000 (by omega) (by omega) (Ytm (Ytk hb _) _)
    obtain ⟨l, el, l1, l2⟩ := Xnj (f := Xbh c) 16 (fun x => -5000 ≤ x ∧ x ≤ 5000) (fun x => -10000000 ≤ x ∧ x ≤ 10000000) (by
     intro i l hi hll hx
     obtain ⟨d, ed, d1, d2⟩ := Xsd (l.getD i 0) c.Qp i hx hq (by omega)
     unfold Xbh
     simp only [Int.toNat_natCast]
     rw [syA, rqA, rqA, ed, Xab, rqA, rqA, wkA (e := (i : Int) + 1)]
     exact ⟨d, rfl, d1, d2⟩) (by intro s; unfold Xbh; rw [Xar (by simp)]) a (by omega) a2
    obtain ⟨b, eb, b1, b2⟩ := Xtt l l1 l2
    obtain ⟨r, er, r1, r2⟩ := Xdz (f := Xbn ((k : Int), s) b) 16 (fun i s => s.length = 64 ∧ inB 10000000 s) (by
     intro i s hi ⟨g1, g2⟩
     have ha := Xn5 b2 (i := i) (by omega)
     unfold Xbn
     simp only
     rw [syA, rqA, rqA, rqA, rqA, rqA, rqA, Xbg (a := (k : Int)) (by omega), Xbg (a := (i : Int)) (by omega), Xbr (a := (k : Int)) (by omega), Xbr (a := (i : Int)) (by omega), wkA (e := (k : Int) / 2), wkA (e := (k : Int) / 2 * 4), wkA (e := (i : Int) / 4), wkA (e := (k : Int) / 2 * 4 + (i : Int) / 4), wkA (e := 8 * ((k : Int) / 2 * 4 + (i : Int) / 4)), wkA (e := (k : Int) % 2 * 4), wkA (e := 8 * ((k : Int) / 2 * 4 + (i : Int) / 4) + (k : Int) % 2 * 4), wkA (e := 8 * ((k : Int) / 2 * 4 + (i : Int) / 4) + (k : Int) % 2 * 4 + (i : Int) % 4), rqA, rqA, wkA (e := (i : Int) + 1), Int.toNat_natCast]
     exact ⟨_, rfl, by rw [List.length_set]; exact g1, Ysg g2 _ ha⟩) (by intro s; unfold Xbn; rw [Xar (by simp)]) s ⟨g1, g2⟩
    unfold Xc8
    simp only
    rw [syA, wkA (e := 16 * (k : Int)), wkA (e := 16 * (k : Int) + 16), rqA, show (16 * (k : Int)).toNat = 16 * k by omega, show (16 * (k : Int) + 16).toNat - 16 * k = 16 by omega, ea, Xab, el, Xab, eb, Xab, er, Xab, wkA (e := (k : Int) + 1)]
    exact ⟨_, rfl, r1, r2⟩) (by intro s; unfold Xc8; rw [Xar (by simp)]) (List.replicate (64 : Int).toNat 0) ⟨by simp, Ysf _ (by omega)⟩
   rw [Xao, rqA, eo, Xab]
   exact ⟨o, rfl, o1, o2⟩
theorem Xgz (l : List Int) (h : Xbt l = true) : Xga l = some true := by
 obtain ⟨h1, h2⟩ := Xbq h
 unfold Xga
 rw [Xbi (by simp only [bne_eq_false_iff_eq]; omega), Ya4 l.length (f := Xem l) (by
  intro i hi
  have := h2 i (by omega)
  unfold Xem
  rw [syA, rqA, Xal, Xab, Int.toNat_natCast, decide_eq_true this, Bool.not_true, Xao, wkA]
  rfl) (by unfold Xem; rw [snA]), Xab]
theorem Yp6 {l : List Int} (h1 : l.length = 64) (h2 : ∀ x ∈ l, 0 ≤ x ∧ x ≤ 255) : Xbt l = true := by
 unfold Xbt
 rw [Bool.and_eq_true, decide_eq_true_eq, List.all_eq_true]
 exact ⟨h1, fun x hx => by unfold Yr9; rw [decide_eq_true_eq]; exact h2 x hx⟩
theorem Xxc (g b : List Int) (hg : Xbt g = true) (hl : b.length = 64) (hb : inB 10000000 b) : ∃ o, Xm5 g b = some o ∧ Xbt o = true := by
 have hm : maxLen = 9223372036854775807 := rfl
 obtain ⟨g1, g2⟩ := Xbq hg
 unfold Xm5
 rw [Xgz g hg, Xab, Xau, Xcx b 64 10000000 (by omega) (by omega) (by omega) hb, Xab, Bool.not_true, Xab, Xao]
 obtain ⟨o, e, h1, h2⟩ := Xdz (f := Xhb g b) 64 (fun i s => s.length = i ∧ ∀ x ∈ s, 0 ≤ x ∧ x ≤ 255) (by
  intro i s hi ⟨k1, k2⟩
  have ha := Xn5 hb (i := i) (by omega)
  have hd := g2 i hi
  have br := Xfk (n := g.getD i 0 + b.getD i 0) (a := 0) (b := 255) (by omega)
  unfold Xhb
  simp only [Int.toNat_natCast]
  rw [syA, rqA, rqA, wkA (e := g.getD i 0 + b.getD i 0), Xfw, Xab, Xa2 (by simp only [List.length_singleton]; omega), wkA (e := (i : Int) + 1)]
  refine ⟨_, rfl, by simp; omega, fun x hx => ?_⟩
  rcases List.mem_append.1 hx with hx | hx
  ·
   exact k2 x hx
  ·
   rw [List.mem_singleton.1 hx]; exact br) (by intro s; unfold Xhb; rw [Xar (by simp)]) [] ⟨rfl, fun x hx => by simp at hx⟩
 exact ⟨o, (Xgb e).trans rfl, Yp6 h1 h2⟩
def Xt8 (e : Xi8) : Prop := (e.Above.length = 0 ∨ e.Above.length = 8) ∧ (e.Left.length = 0 ∨ e.Left.length = 8) ∧ (∀ x ∈ e.Above, 0 ≤ x ∧ x ≤ 255) ∧ (∀ x ∈ e.Left, 0 ≤ x ∧ x ≤ 255) ∧ -1 ≤ e.Corner ∧ e.Corner ≤ 255
theorem Xtz {p : Pic} (ok : Xcg p = true) (x y : Int) : Xnt p x y 8 8 = some (Xdk p x y) := by
 obtain ⟨k1, k2, k3⟩ := Xa7 ok
 unfold Xnt Xdk
 rw [Xgl, Xab, ok, Xau, Xal, Xab, Xal, Xab, wkA (e := p.Wide - 8), wkA (e := p.High - 8), Xal, Xab, Xal, Xab]
 simp only [Xdi, Xab]
 congr 1
 rw [Bool.eq_iff_iff]
 simp only [Bool.and_eq_true, decide_eq_true_eq]
 omega
theorem Xg0 {p : Pic} (ok : Xcg p = true) {x y : Int} (hx : x.tmod 8 = 0) (hy : y.tmod 8 = 0) (h : Xdk p x y = true) : Xkz p x y = some true := by
 unfold Xkz
 rw [rqA, hx, rqA, hy, Xtz ok, Xab, h]
 rfl
theorem Xuy {p : Pic} (ok : Xcg p = true) {x y : Int} (hx : x.tmod 8 = 0) (hy : y.tmod 8 = 0) (h : Xdk p x y = true) : ∃ e, Xie p x y = some (e, true) ∧ Xt8 e := by
 have hm : maxLen = 9223372036854775807 := rfl
 obtain ⟨k1, k2, k3⟩ := Xa7 ok
 have h' := h
 unfold Xdk at h'
 rw [decide_eq_true_eq] at h'
 unfold Xie
 rw [Xg0 ok hx hy h, Xab, Bool.not_true, Xao]
 obtain ⟨o, e, o1, o2, o3, o4, o5, o6⟩ := Xdz (f := Xfx p x y) 8 (fun i s => (y > 0 → s.1.length = i) ∧ (¬ y > 0 → s.1.length = 0) ∧ (x > 0 → s.2.length = i) ∧ (¬ x > 0 → s.2.length = 0) ∧ (∀ z ∈ s.1, 0 ≤ z ∧ z ≤ 255) ∧ (∀ z ∈ s.2, 0 ≤ z ∧ z ≤ 255)) (by
  intro i s hi ⟨g1, g2, g3, g4, g5, g6⟩
  obtain ⟨a, b⟩ := s
  simp only at g1 g2 g3 g4 g5 g6
  have d1 := Xsk p (x + i) (y - 1)
  have d2 := Xsk p (x - 1) (y + i)
  have st1 : ∃ a', (sel (decide (y > 0)) (bnd (Xey p (Xaa .i64 (x + (i : Int))) (Xaa .i64 (y - 1))) fun q16 => req ((a.length + ([q16]).length) * 8 ≤ 140737488355328 ∧ a.length + ([q16]).length ≤ maxLen) <| some (a ++ ([q16]))) (some a)) = some a' ∧ (y > 0 → a'.length = i + 1) ∧ (¬ y > 0 → a'.length = 0) ∧ (∀ z ∈ a', 0 ≤ z ∧ z ≤ 255) := by
   by_cases c : y > 0
   ·
    rw [Xbk c, wkA (e := x + (i : Int)), wkA (e := y - 1), Xiv ok, Xab, Xa2 (by simp only [List.length_singleton]; have := g1 c; omega)]
    refine ⟨_, rfl, fun _ => by simp; exact g1 c, fun hn => absurd c hn, fun z hz => ?_⟩
    rcases List.mem_append.1 hz with hz | hz
    ·
     exact g5 z hz
    ·
     rw [List.mem_singleton.1 hz]; exact d1
   ·
    rw [Xar c]
    exact ⟨_, rfl, fun hn => absurd hn c, fun _ => g2 c, g5⟩
  obtain ⟨a', ea, a1, a2, a3⟩ := st1
  have st2 : ∃ b', (sel (decide (x > 0)) (bnd (Xey p (Xaa .i64 (x - 1)) (Xaa .i64 (y + (i : Int)))) fun q17 => req ((b.length + ([q17]).length) * 8 ≤ 140737488355328 ∧ b.length + ([q17]).length ≤ maxLen) <| some (a', (b ++ ([q17])))) (some (a', b))) = some (a', b') ∧ (x > 0 → b'.length = i + 1) ∧ (¬ x > 0 → b'.length = 0) ∧ (∀ z ∈ b', 0 ≤ z ∧ z ≤ 255) := by
   by_cases c : x > 0
   ·
    rw [Xbk c, wkA (e := y + (i : Int)), wkA (e := x - 1), Xiv ok, Xab, Xa2 (by simp only [List.length_singleton]; have := g3 c; omega)]
    refine ⟨_, rfl, fun _ => by simp; exact g3 c, fun hn => absurd c hn, fun z hz => ?_⟩
    rcases List.mem_append.1 hz with hz | hz
    ·
     exact g6 z hz
    ·
     rw [List.mem_singleton.1 hz]; exact d2
   ·
    rw [Xar c]
    exact ⟨_, rfl, fun hn => absurd hn c, fun _ => g4 c, g6⟩
  obtain ⟨b', eb, b1, b2, b3⟩ := st2
  unfold Xfx
  simp only
  rw [syA, ea, Xab, eb, Xab, wkA (e := (i : Int) + 1)]
  exact ⟨(a', b'), rfl, a1, a2, b1, b2, a3, b3⟩) (by intro s; unfold Xfx; rw [Xar (by simp)]) ([], []) ⟨fun _ => rfl, fun _ => rfl, fun _ => rfl, fun _ => rfl, fun z hz => by simp at hz, fun z hz => by simp at hz⟩
 rw [e, Xab, Xdi, Xab]
 have d3 := Xsk p (x - 1) (y - 1)
 have ha : o.1.length = 0 ∨ o.1.length = 8 := by
  by_cases c : y > 0
  ·
   exact Or.inr (o1 c)
  ·
   exact Or.inl (o2 c)
 have hb : o.2.length = 0 ∨ o.2.length = 8 := by
  by_cases c : x > 0
  ·
   exact Or.inr (o3 c)
  ·
   exact Or.inl (o4 c)
 cases hc : (decide (x > 0) && decide (y > 0)) with
 | true =>
  rw [Xau, wkA (e := x - 1), wkA (e := y - 1), Xiv ok, Xab, Xab]
  exact ⟨_, rfl, ha, hb, o5, o6, by simp only; omega, by simp only; omega⟩
 | false =>
  rw [Xao, Xab]
  exact ⟨_, rfl, ha, hb, o5, o6, by simp only; omega, by simp only; omega⟩
theorem Xt0 (l : List Int) (hl : l.length = 0 ∨ l.length = 8) (h : ∀ x ∈ l, 0 ≤ x ∧ x ≤ 255) : Xqs l = some true := by
 unfold Xqs
 have hc : (sel ((l.length : Int) != 0) (some ((l.length : Int) != 8)) (some false)) = some false := by
  rcases hl with e | e
  ·
   rw [e]; rfl
  ·
   rw [e]; rfl
 rw [hc, Xab, Xao, Ya4 l.length (f := Xl6 l) (by
  intro i hi
  have := h (l.getD i 0) (by rw [Xcm l i hi]; exact List.getElem_mem _)
  unfold Xl6
  rw [syA, rqA, Xal, Xab, Int.toNat_natCast, decide_eq_true this, Bool.not_true, Xao, wkA]
  rfl) (by unfold Xl6; rw [snA]), Xab]
theorem Xjz {e : Xi8} (h : Xt8 e) : Xqo e = some true := by
 obtain ⟨h1, h2, h3, h4, h5, h6⟩ := h
 unfold Xqo
 rw [Xt0 _ h1 h3, Xab, Xau, Xt0 _ h2 h4, Xab, Xau, Xal, Xab, decide_eq_true ⟨h5, h6⟩, Xab]
theorem Xsg (l : List Int) (k : Nat) (hk : k < 8) (hl : l.length = 0 ∨ l.length = 8) (h : ∀ x ∈ l, 0 ≤ x ∧ x ≤ 255) : ∃ x, Xfg l k = some x ∧ 0 ≤ x ∧ x ≤ 255 := by
 unfold Xfg
 rcases hl with e | e
 ·
  rw [Xbw (by rw [e]; rfl)]; exact ⟨_, rfl, by omega, by omega⟩
 ·
  rw [Xbi (by rw [e]; rfl), rqA, Int.toNat_natCast]
  exact ⟨_, rfl, h _ (by rw [Xcm l k (by omega)]; exact List.getElem_mem _)⟩
theorem Xxl {e : Xi8} (h : Xt8 e) : ∃ x, Xp7 e = some x ∧ 0 ≤ x ∧ x ≤ 255 := by
 obtain ⟨h1, h2, h3, h4, _, _⟩ := h
 unfold Xp7
 rw [wkA (e := (e.Above.length : Int) + (e.Left.length : Int))]
 by_cases hz : (e.Above.length : Int) + (e.Left.length : Int) = 0
 ·
  rw [Xbw (by simpa using hz)]; exact ⟨_, rfl, by omega, by omega⟩
 ·
  rw [Xbi (by simpa using hz), rqA, Xbg (by omega), wkA (e := ((e.Above.length : Int) + (e.Left.length : Int)) / 2)]
  obtain ⟨a, ea, a1, a2⟩ := Xqe (f := Xjs e) e.Above.length (fun i s => 0 ≤ s ∧ s ≤ ((e.Above.length : Int) + (e.Left.length : Int)) / 2 + 255 * i) (by
   intro i s hi ⟨g1, g2⟩
   have := h3 (e.Above.getD i 0) (by rw [Xcm _ i hi]; exact List.getElem_mem _)
   unfold Xjs
   simp only [Int.toNat_natCast]
   rw [syA, rqA, wkA (e := s + e.Above.getD i 0), wkA (e := (i : Int) + 1)]
   exact ⟨_, rfl, by omega, by omega⟩) (by intro s; unfold Xjs; rw [Xar (by simp)]) (((e.Above.length : Int) + (e.Left.length : Int)) / 2) ⟨by omega, by omega⟩
  obtain ⟨b, eb, b1, b2⟩ := Xqe (f := Xjt e) e.Left.length (fun i s => 0 ≤ s ∧ s ≤ ((e.Above.length : Int) + (e.Left.length : Int)) / 2 + 255 * e.Above.length + 255 * i) (by
   intro i s hi ⟨g1, g2⟩
   have := h4 (e.Left.getD i 0) (by rw [Xcm _ i hi]; exact List.getElem_mem _)
   unfold Xjt
   simp only [Int.toNat_natCast]
   rw [syA, rqA, wkA (e := s + e.Left.getD i 0), wkA (e := (i : Int) + 1)]
   exact ⟨_, rfl, by omega, by omega⟩) (by intro s; unfold Xjt; rw [Xar (by simp)]) a ⟨by omega, by omega⟩
  rw [ea, Xab, eb, Xab, Xa2 hz, Xbg b1]
  have hn : (e.Above.length : Int) + (e.Left.length : Int) = 8 ∨ (e.Above.length : Int) + (e.Left.length : Int) = 16 := by omega
  have hr : 0 ≤ b / ((e.Above.length : Int) + (e.Left.length : Int)) ∧ b / ((e.Above.length : Int) + (e.Left.length : Int)) ≤ 255 := by
   rcases hn with hn | hn <;> rw [hn] <;> omega
  rw [wkA]
  exact ⟨_, rfl, hr⟩
theorem Xlv (m : Int) (hm0 : 0 ≤ m ∧ m ≤ 3) {e : Xi8} (h : Xt8 e) : ∃ g, Xe6 m e = some g ∧ Xbt g = true := by
 have hm : maxLen = 9223372036854775807 := rfl
 have h' := h
 obtain ⟨h1, h2, h3, h4, h5, h6⟩ := h'
 obtain ⟨mid, em, m1, m2⟩ := Xxl h
 unfold Xe6
 rw [Xjz h, Xab, Xau, Xal, Xab, decide_eq_true hm0, Bool.not_true, Xab, Xao]
 have hc : ∃ v, sel (decide (e.Corner < 0)) (some (128 : Int)) (some e.Corner) = some v ∧ 0 ≤ v ∧ v ≤ 255 := by
  by_cases c : e.Corner < 0
  ·
   rw [Xbk c]; exact ⟨_, rfl, by omega, by omega⟩
  ·
   rw [Xar c]; exact ⟨_, rfl, by omega, by omega⟩
 obtain ⟨v, ev, v1, v2⟩ := hc
 rw [ev, Xab]
 obtain ⟨o, eo, o1, o2⟩ := Xdz (f := Xei m e v) 64 (fun i s => s.length = i ∧ ∀ x ∈ s, 0 ≤ x ∧ x ≤ 255) (by
  intro i s hi ⟨g1, g2⟩
  obtain ⟨a, ea, a1, a2⟩ := Xsg e.Above (i % 8) (by omega) h1 h3
  obtain ⟨b, eb, b1, b2⟩ := Xsg e.Left (i / 8) (by omega) h2 h4
  have br := Xfk (n := b + a - v) (a := 0) (b := 255) (by omega)
  have put : ∀ z : Int, 0 ≤ z ∧ z ≤ 255 → (s ++ [z]).length = i + 1 ∧ ∀ x ∈ s ++ [z], 0 ≤ x ∧ x ≤ 255 := by
   intro z hz
   refine ⟨by simp; omega, fun x hx => ?_⟩
   rcases List.mem_append.1 hx with hx | hx
   ·
    exact g2 x hx
   ·
    rw [List.mem_singleton.1 hx]; exact hz
  unfold Xei
  simp only
  rw [syA, rqA, Xbr (by omega), show (i : Int) % 8 = ((i % 8 : Nat) : Int) by omega, ea, Xab, rqA, Xbg (by omega), wkA (e := (i : Int) / 8), show (i : Int) / 8 = ((i / 8 : Nat) : Int) by omega, eb, Xab, wkA (e := (i : Int) + 1), em]
  cases (m == 0) with
  | true =>
   rw [Xau, Xab, Xa2 (by simp only [List.length_singleton]; omega), Xab]
   exact ⟨_, rfl, put _ ⟨m1, m2⟩⟩
  | false =>
   rw [Xao]
   cases (m == 1) with
   | true =>
    rw [Xau, Xa2 (by simp only [List.length_singleton]; omega), Xab]
    exact ⟨_, rfl, put _ ⟨a1, a2⟩⟩
   | false =>
    rw [Xao]
    cases (m == 2) with
    | true =>
     rw [Xau, Xa2 (by simp only [List.length_singleton]; omega), Xab]
     exact ⟨_, rfl, put _ ⟨b1, b2⟩⟩
    | false =>
     rw [Xao, wkA (e := b + a), wkA (e := b + a - v), Xfw, Xab, Xa2 (by simp only [List.length_singleton]; omega), Xab]
     exact ⟨_, rfl, put _ br⟩) (by intro s; unfold Xei; rw [Xar (by simp)]) [] ⟨rfl, fun x hx => by simp at hx⟩
 exact ⟨o, (Xgb eo).trans rfl, Yp6 o1 o2⟩
theorem Ytj {l : List Int} (h : Xbt l = true) : l.length = 64 ∧ inB 1000 l := by
 simp only [Xbt, Bool.and_eq_true, decide_eq_true_eq] at h
 refine ⟨h.1, fun x hx => ?_⟩
 have := List.all_eq_true.1 h.2 x hx
 simp only [Yr9, decide_eq_true_eq] at this
 omega
theorem Xs7 {a b : List Int} (ha : Xbt a = true) (hb : Xbt b = true) : Xv0 a b = some (Xpm a b 64) := by
 have la := Ytj ha
 have lb := Ytj hb
 unfold Xv0
 rw [Xcx a 64 1000 (by omega) (by omega) (by omega) la.2, Xab, Xau, Xcx b 64 1000 (by omega) (by omega) (by omega) lb.2, Xab, Bool.not_true, Xab, Xao]
 have key : ∀ i : Nat, i ≤ 64 → loop (Xpa a b) (Xpm a b i, (i : Int)) = some (Xpm a b 64) := by
  refine Xhe _ ?_ ?_
  ·
   exact Xfv (by unfold Xpa; rw [Xar (by simp)])
  ·
   intro i hi ih
   refine lgo (y := (Xpm a b (i + 1), ((i + 1 : Nat) : Int))) ?_ ih
   have p := (Xbq ha).2 i hi
   have q := (Xbq hb).2 i hi
   have g := Xke ha hb i (by omega)
   have ab : 0 ≤ Ydp (a.getD i 0 - b.getD i 0) ∧ Ydp (a.getD i 0 - b.getD i 0) ≤ 255 := by unfold Ydp; split <;> omega
   unfold Xpa
   simp only [Int.toNat_natCast]
   rw [syA, rqA, rqA, wkA (e := a.getD i 0 - b.getD i 0), Xou _ (by omega), Xab, wkA (e := Xpm a b i + Ydp (a.getD i 0 - b.getD i 0)), wkA (e := (i : Int) + 1)]
   rfl
 exact (Xgb (key 0 (by omega))).trans rfl
theorem Yma (m : Int) (h : 0 ≤ m ∧ m ≤ 3) : ∃ s, Xm9 m = some s ∧ 0 ≤ s ∧ s ≤ 39 := by
 have := Xfh m.toNat (by omega)
 unfold Xm9 Ydb
 rw [Xal, Xab, decide_eq_true (by omega), Bool.not_true, Xao, show m = ((m.toNat : Nat) : Int) by omega, Xte _ (by omega), Xab, Xab]
 refine ⟨_, rfl, ?_⟩
 rw [strOfNums_size]; omega
theorem Yc1 {w : List Int} (hw : Xbt w = true) {e : Xi8} (h : Xt8 e) : ∃ m c, Xjk w e = some (m, c) ∧ 0 ≤ m ∧ m ≤ 3 := by
 unfold Xjk
 rw [Xjz h, Xab, Xau, Xgz w hw, Xab, Bool.not_true, Xab, Xao]
 obtain ⟨o, eo, o1, o2⟩ := Xo6 (f := Xd8 w e) (fun v => (0 ≤ v.1 ∧ v.1 ≤ 3) ∧ 0 ≤ v.2.2 ∧ v.2.2 ≤ 4) (fun v => (4 - v.2.2).toNat) (fun _ o => 0 ≤ o.1 ∧ o.1 ≤ 3) (by
  intro ⟨m, c, i⟩ ⟨g1, g2, g3⟩
  simp only at g1 g2 g3
  unfold Xd8
  simp only
  by_cases hi : i < 4
  ·
   obtain ⟨g, eg, hg⟩ := Xlv i ⟨g2, by omega⟩ h
   obtain ⟨s, es, s1, s2⟩ := Yma i ⟨g2, by omega⟩
   rw [Xbk hi, eg, Xab, Xs7 hw hg, Xab, es, Xab, Yd9, Xab, wkA (e := i + 1)]
   cases (decide (c < 0) || decide (Xaa IntKind.i64 (Xpm w g 64 + s) < c)) with
   | true => exact .inr ⟨_, rfl, ⟨by simp only; omega, by simp only; omega, by simp only; omega⟩, by simp only; omega, fun _ h => h⟩
   | false => exact .inr ⟨_, rfl, ⟨by simp only; omega, by simp only; omega, by simp only; omega⟩, by simp only; omega, fun _ h => h⟩
  ·
   rw [Xar hi]
   exact .inl ⟨_, rfl, g1⟩) (0, -1, 0) ⟨by simp, by simp, by simp⟩
 exact ⟨o.1, o.2, (Xgb eo).trans rfl, o1, o2⟩
theorem Xxd (d : Int) (h : -500000 ≤ d ∧ d ≤ 500000) : Xs9 d = some (Yvz d) := by
 unfold Xs9 Ym4 Yvz
 rw [Xal, Xab, decide_eq_true h, Bool.not_true, Xao, Yo9 d h, Xab, Xab, strOfNums_size]
theorem Yvt {m : Int} {l : List Int} (hm : 0 ≤ m ∧ m ≤ 3) (hl : Ygr l = true) : Xvc ⟨2, m, 0, 0, l⟩ = true := by
 unfold Xvc
 simp only
 rw [if_neg (by omega), if_neg (by omega), if_pos trivial, hl, decide_eq_true hm]
 rfl
theorem Yxy {dx dy : Int} {l : List Int} (hx : -16 ≤ dx ∧ dx ≤ 16) (hy : -16 ≤ dy ∧ dy ≤ 16) (hl : Ygr l = true) : Xvc ⟨1, 0, dx, dy, l⟩ = true := by
 unfold Xvc
 simp only
 rw [if_neg (by omega), if_pos trivial, hl, decide_eq_true hx, decide_eq_true hy]
 rfl
def Yy4 (p q : Pic) : Bool := Xcg p && (Xcg q && ((p.Wide == q.Wide) && (p.High == q.High)))
theorem Yka (p q : Pic) : Xqu p q = some (Yy4 p q) := by
 unfold Xqu Yy4
 rw [Xgl, Xab, Xgl, Xab]
 simp only [Xdi, Xab]
theorem Yy5 {p q : Pic} (h1 : Xcg p = true) (h2 : Xcg q = true) (h3 : q.Wide = p.Wide) (h4 : q.High = p.High) : Yy4 p q = true := by
 unfold Yy4
 simp only [Bool.and_eq_true, beq_iff_eq]
 exact ⟨h1, h2, h3.symm, h4.symm⟩
theorem Xxm {p : Pic} {x y : Int} {d : List Int} (ok : Xcg p = true) (h0 : Xdk p x y = true) (hd : Xbt d = true) : ∃ p', Xgn p x y d = some p' ∧ Xcg p' = true ∧ p'.Wide = p.Wide ∧ p'.High = p.High := by
 have hm : maxLen = 9223372036854775807 := rfl
 obtain ⟨k1, k2, k3⟩ := Xa7 ok
 have ar := Xes k1 k2
 unfold Xdk at h0
 rw [decide_eq_true_eq] at h0
 have hdl := (Xbq hd).1
 have hn := Xb6 p.Dots
 unfold Xgn
 rw [rqA]
 obtain ⟨o, e, o1⟩ := Xdz (f := Xdf p x y d) 64 (fun _ s => s.length = p.Dots.size) (by
  intro i s hi g1
  have b1 : 0 ≤ (y + (i : Int) / 8) * p.Wide := Int.mul_nonneg (by omega) (by omega)
  have b2 : (y + (i : Int) / 8) * p.Wide ≤ (p.High - 1) * p.Wide := Int.mul_le_mul_of_nonneg_right (by omega) (by omega)
  have b3 : (p.High - 1) * p.Wide = p.Wide * p.High - p.Wide := by rw [Int.sub_mul, Int.one_mul, Int.mul_comm]
  unfold Xdf
  simp only
  rw [syA, rqA, rqA, rqA, Xbg (by omega), Xbr (by omega), wkA (e := (i : Int) / 8), wkA (e := y + (i : Int) / 8), wkA (e := (y + (i : Int) / 8) * p.Wide), wkA (e := (y + (i : Int) / 8) * p.Wide + x), wkA (e := (y + (i : Int) / 8) * p.Wide + x + (i : Int) % 8), rqA, rqA, wkA (e := (i : Int) + 1)]
  exact ⟨_, rfl, by rw [List.length_set]; exact g1⟩) (by intro s; unfold Xdf; rw [Xar (by simp)]) (Xa6 p.Dots) hn
 refine ⟨_, (Xgb e).trans rfl, Xvt k1 k2 ?_, rfl, rfl⟩
 simp only
 rw [strOfNums_size]; omega
def Xyp (n : Int) : Bool := decide (n.tmod 8 = 0) && decide (8 ≤ n ∧ n ≤ 64)
theorem Xyu (c : Xbl) (hc : Xoz c) : ∃ p c', Xgy c = some (p, c') ∧ Xi5 p = true ∧ Xoz c' := by
 unfold Xgy
 obtain ⟨x, c1, e1, x0, x1, _, h1⟩ := Xay c 41 hc
 obtain ⟨b, c2, e2, h2⟩ := Xl0 c1 4 h1
 obtain ⟨y, c3, e3, y0, y1, _, h3⟩ := Xay c2 3 h2
 have x1' := x1 (by omega)
 rw [e1, Xab]
 simp only
 rw [e2, Xab]
 simp only
 rw [e3, Xab]
 simp only
 have po : ∀ (l e f : Bool), (l && e) = false → Xi5 ⟨x, l, e, f⟩ = true := by
  intro l e f h
  unfold Xi5
  rw [Bool.and_eq_true, decide_eq_true_eq]
  exact ⟨by simp only; omega, by simp only [h]; rfl⟩
 cases (y == 0) with
 | true => exact ⟨_, _, rfl, po _ _ _ rfl, h3⟩
 | false =>
  cases (y == 1) with
  | true => exact ⟨_, _, rfl, po _ _ _ rfl, h3⟩
  | false => exact ⟨_, _, rfl, po _ _ _ rfl, h3⟩
theorem Yw7 : ∀ c r b : Int, (c = 1 ∨ c = 2) → (r = 1 ∨ r = 2) → (b = 3 ∨ b = 4 ∨ b = 5) → Xce ⟨Xvr [c] [r], b, [c], [r]⟩ = 1 ∧ Xka ⟨Xvr [c] [r], b, [c], [r]⟩ = (8 * c, 8 * r) := by
 intro c r b hc hr hb
 rcases hc with rfl | rfl <;> rcases hr with rfl | rfl <;> rcases hb with rfl | rfl | rfl <;> decide +kernel
theorem Yav (c r b : Int) (p : Par) (t : Rate) (e n : Int) (hc : c = 1 ∨ c = 2) (hr : r = 1 ∨ r = 2) (hb : b = 3 ∨ b = 4 ∨ b = 5) (hp : Xi5 p = true) (ht : Xku t = true) (he : 1 ≤ e ∧ e ≤ 5) (hn : 0 ≤ n ∧ n ≤ 2) : Xba (Xpj c r b p t e n) = true := by
 have hm := (Yw7 c r b hc hr hb).1
 have hpow : (0 : Int) < 2 ^ b.toNat := by rcases hb with rfl | rfl | rfl <;> decide
 unfold Xba Xpj
 simp only
 rw [decide_eq_true hm, hp, ht, decide_eq_true ⟨by omega, hpow⟩, decide_eq_true (by omega)]
 rfl
theorem Yc6 (c r b : Int) (p : Par) (t : Rate) (e n : Int) (hc : c = 1 ∨ c = 2) (hr : r = 1 ∨ r = 2) (hb : b = 3 ∨ b = 4 ∨ b = 5) (hp : Xi5 p = true) (ht : Xku t = true) (he : 1 ≤ e ∧ e ≤ 5) (hn : 0 ≤ n ∧ n ≤ 2) : Xjp c r b p t e n = some (Xpj c r b p t e n, true) := by
 have hs := Yav c r b p t e n hc hr hb hp ht he hn
 have hw : (Lit.int .i64 b).wf = true := by rcases hb with rfl | rfl | rfl <;> decide
 unfold Xjp
 rw [Yf2, Xab]
 have := Yf4 (Xpj c r b p t e n) hw
 unfold Xpj at this hs ⊢
 rw [this, hs, Xab]
 rfl
theorem Yog {V O : Type} {f g : V → Option (Lp V O)} (I : V → Prop) (h : ∀ v, I v → f v = g v) (hI : ∀ v v', I v → g v = some (.go v') → I v') : ∀ (k : Nat) (v : V), I v → it f k v = it g k v
 | 0, _, _ => rfl
 | k + 1, v, hv => by
  rw [it, it, h v hv]
  cases e : g v with
  | none => rfl
  | some s =>
   cases s with
   | go y => exact Yog I h hI k y (hI v y hv e)
   | done o => rfl
theorem Xmz {V O : Type} {f g : V → Option (Lp V O)} (I : V → Prop) (h : ∀ v, I v → f v = g v) (hI : ∀ v v', I v → g v = some (.go v') → I v') {v : V} (hv : I v) : loop f v = loop g v := by
 apply Option.ext
 intro o
 rw [Xi4, Xi4]
 exact ⟨fun ⟨k, hk⟩ => ⟨k, by rw [← Yog I h hI k v hv]; exact hk⟩, fun ⟨k, hk⟩ => ⟨k, by rw [Yog I h hI k v hv]; exact hk⟩⟩
theorem Ysm {V O : Type} {f : V → Option (Lp V O)} {v : V} {o : O} (k : Nat) (h : it f k v = some o) : loop f v = some o := Xi4.2 ⟨k, h⟩
theorem Ycx {a b : List Int} {n : Nat} (ha : a.length = n) (hb : b.length = n) (h : ∀ i : Nat, i < n → a.getD i 0 = b.getD i 0) : a = b := by
 apply List.ext_getElem (by omega)
 intro i h1 h2
 have := h i (by omega)
 rwa [Xcm a i h1, Xcm b i h2] at this
theorem Xhg {n : Nat} (g : Nat → Int) {i : Nat} (h : i < n) : ((List.range n).map g).getD i 0 = g i := by
 rw [Xcm _ i (by simpa using h)]; simp
theorem Ys7 {α : Type} {f : Int × List α → Option (Lp (Int × List α) (List α))} (n : Nat) (g : Nat → α) (a : List α) (hs : ∀ i : Nat, i < n → f ((i : Int), a ++ (List.range i).map g) = some (.go (((i + 1 : Nat) : Int), a ++ (List.range i).map g ++ [g i]))) (he : f ((n : Int), a ++ (List.range n).map g) = some (.done (a ++ (List.range n).map g))) : loop f (0, a) = some (a ++ (List.range n).map g) := by
 have key : ∀ i : Nat, i ≤ n → loop f ((i : Int), a ++ (List.range i).map g) = some (a ++ (List.range n).map g) := by
  refine Xhe _ (Xfv he) ?_
  intro i hi ih
  refine lgo (hs i hi) ?_
  rw [List.append_assoc, show (List.range i).map g ++ [g i] = (List.range (i + 1)).map g by simp [List.range_succ]]
  exact ih
 have := key 0 (by omega)
 simpa using this
theorem Xnu {S : Type} {f : Int × S → Option (Lp (Int × S) S)} (n : Nat) (I : Nat → S → Prop) (hs : ∀ (i : Nat) (l : S), i < n → I i l → ∃ l', f ((i : Int), l) = some (.go (((i + 1 : Nat) : Int), l')) ∧ I (i + 1) l') (he : ∀ l, I n l → f ((n : Int), l) = some (.done l)) (l0 : S) (h0 : I 0 l0) : ∃ o, loop f (0, l0) = some o ∧ I n o := by
 have key : ∀ i : Nat, i ≤ n → ∀ l, I i l → ∃ o, loop f ((i : Int), l) = some o ∧ I n o := by
  refine Xhe _ ?_ ?_
  ·
   intro l h; exact ⟨l, Xfv (he l h), h⟩
  ·
   intro i hi ih l h
   obtain ⟨l', e, h'⟩ := hs i l hi h
   obtain ⟨o, e2, h2⟩ := ih l' h'
   exact ⟨o, lgo e e2, h2⟩
 exact key 0 (by omega) l0 h0
theorem Yvg {f : Int × List Int → Option (Lp (Int × List Int) (List Int))} (n : Nat) (g : Nat → Int) (l : List Int) (hl : l.length = n) (hs : ∀ (i : Nat) (s : List Int), i < n → s.length = n → s.getD i 0 = l.getD i 0 → f ((i : Int), s) = some (.go (((i + 1 : Nat) : Int), s.set i (g i)))) (he : ∀ s : List Int, s.length = n → f ((n : Int), s) = some (.done s)) : loop f (0, l) = some ((List.range n).map g) := by
 obtain ⟨o, e, h1, h2, _⟩ := Xnu (f := f) n (fun i s => s.length = n ∧ (∀ j, j < i → s.getD j 0 = g j) ∧ ∀ j, i ≤ j → s.getD j 0 = l.getD j 0) (by
  intro i s hi ⟨g1, g2, g3⟩
  refine ⟨_, hs i s hi g1 (g3 i (Nat.le_refl _)), by rw [List.length_set]; exact g1, fun j hj => ?_, fun j hj => ?_⟩
  ·
   rw [Xe8 s i j _ (by omega)]
   by_cases h : i = j
   ·
    rw [if_pos h, h]
   ·
    rw [if_neg h]; exact g2 j (by omega)
  ·
   rw [Xe8 s i j _ (by omega), if_neg (by omega)]; exact g3 j (by omega)) (fun s hs => he s hs.1) l ⟨hl, fun j hj => by omega, fun _ _ => rfl⟩
 rw [e]
 congr 1
 exact Ycx h1 (by simp) fun i hi => by rw [h2 i hi, Xhg g hi]
theorem Ysb : Xpg = Xd5 := rfl
theorem Yl9 (qp : Int) (h0 : 0 ≤ qp ∧ qp ≤ 40) : Xkb qp = some (Xp9 qp) := by
 have h := Yx0 ⟨qp.toNat, by omega⟩
 simp only at h
 rw [show ((qp.toNat : Nat) : Int) = qp by omega] at h
 unfold Xkb
 rw [Xal, Xab, decide_eq_true (by omega), Bool.not_true, Xao, rqA]
 have hb : (sel ((qp.tmod 6) == 0) (some (10 : Int)) (sel ((qp.tmod 6) == 1) (some 11) (sel ((qp.tmod 6) == 2) (some 13) (sel ((qp.tmod 6) == 3) (some 14) (sel ((qp.tmod 6) == 4) (some 16) (some 18)))))) = some (Xth qp) := by
  unfold Xth
  simp only [Yjs, beq_iff_eq]
  repeat' split
  all_goals rfl
 rw [hb, Xab]
 unfold Xp9 at h ⊢
 cases e : it (Xnp qp) 10 (Xth qp, 0) with
 | none => rw [e] at h; simp only at h; omega
 | some q => rw [Xi4.2 ⟨10, e⟩, Xab]
theorem Yoc : ∀ q : Fin 41, Xj7 (q.val : Int) = some (Xp9 (q.val : Int)) := by decide +kernel
theorem Ylg (qp : Int) (h0 : 0 ≤ qp ∧ qp ≤ 40) : Xj7 qp = some (Xp9 qp) := by
 have := Yoc ⟨qp.toNat, by omega⟩
 simp only at this
 rwa [show ((qp.toNat : Nat) : Int) = qp by omega] at this
theorem Ydn (qp : Int) (h0 : 0 ≤ qp ∧ qp ≤ 40) : Xj7 qp = Xkb qp := by rw [Ylg qp h0, Yl9 qp h0]
theorem Xxe (u v : Nat) (hu : u < 8) (hv : v < 8) : Xm7 u v = some (Xjj u v) := by
 have h := Yxr ⟨u, hu⟩ ⟨v, hv⟩
 simp only at h
 unfold Xm7
 rw [Xal, Xab, decide_eq_true (by omega), Xau, Xal, Xab, decide_eq_true (by omega), Bool.not_true, Xab, Xao]
 unfold Xjj at h ⊢
 cases e : it Xnn 10 (1, (IntKind.wrap .i64 (BitVec.ofInt (IntKind.bits .i64) (u : Int) &&& BitVec.ofInt (IntKind.bits .i64) (v : Int)).toNat)) with
 | none => rw [e] at h; simp only at h; omega
 | some q => rw [Xi4.2 ⟨10, e⟩, Xab]
theorem Yn7 : ∀ u v : Fin 8, Xmn (u.val : Int) (v.val : Int) = some (Xjj (u.val : Int) (v.val : Int)) := by decide +kernel
theorem Ydm (u v : Nat) (hu : u < 8) (hv : v < 8) : Xmn u v = some (Xjj u v) := Yn7 ⟨u, hu⟩ ⟨v, hv⟩
def Yo0 (qp p : Int) : Option Int :=
 bnd (Xp2 p) fun q1 => bnd (Xbe q1 10 16 13) fun a1 => bnd (Xbe q1 11 18 14) fun a2 => bnd (Xbe q1 13 20 16) fun a3 => bnd (Xbe q1 14 23 18) fun a4 => bnd (Xbe q1 16 25 20) fun a5 => bnd (Xbe q1 18 29 23) fun a6 =>
 it (Xf1 qp) 10 ((sel (qp.tmod 6 == 0) a1 (sel (qp.tmod 6 == 1) a2 (sel (qp.tmod 6 == 2) a3 (sel (qp.tmod 6 == 3) a4 (sel (qp.tmod 6 == 4) a5 (sel (qp.tmod 6 == 5) a6 0)))))), 0)
theorem Yxn : ∀ q : Fin 41, ∀ p : Fin 16, (Yo0 (q.val : Int) (p.val : Int)).isSome = true ∧ Xn0 (q.val : Int) (p.val : Int) = Yo0 (q.val : Int) (p.val : Int) := by decide +kernel
theorem Ync (qp p : Int) (h0 : 0 ≤ qp ∧ qp ≤ 40) (hp : 0 ≤ p ∧ p ≤ 15) : Xn0 qp p = Xn9 qp p := by
 have := Yxn ⟨qp.toNat, by omega⟩ ⟨p.toNat, by omega⟩
 simp only at this
 rw [show ((qp.toNat : Nat) : Int) = qp by omega, show ((p.toNat : Nat) : Int) = p by omega] at this
 obtain ⟨h1, h2⟩ := this
 rw [h2]
 cases e : Yo0 qp p with
 | none => rw [e] at h1; cases h1
 | some o =>
  unfold Yo0 at e
  unfold Xn9
  obtain ⟨k, ek, k0, k1⟩ := Xq7 p hp
  rw [ek, Xab] at e ⊢
  rw [Xal, Xab, decide_eq_true h0, Xau, decide_eq_false (by omega), Xab, Xao, rqA]
  obtain ⟨a1, e1, b1⟩ := Xa4 k 10 16 13
  obtain ⟨a2, e2, b2⟩ := Xa4 k 11 18 14
  obtain ⟨a3, e3, b3⟩ := Xa4 k 13 20 16
  obtain ⟨a4, e4, b4⟩ := Xa4 k 14 23 18
  obtain ⟨a5, e5, b5⟩ := Xa4 k 16 25 20
  obtain ⟨a6, e6, b6⟩ := Xa4 k 18 29 23
  rw [e1, e2, e3, e4, e5, e6] at e ⊢
  simp only [Xab, Yub] at e ⊢
  rw [Ysm 10 e, Xab]
def Xr7 (n : Int) (v16 : Int × List Int) : Option (Lp (Int × List Int) (List Int)) :=
 sel (decide (v16.1 ≤ (Xaa .i64 ((Xaa .i64 (2 * n)) - 2)))) (
 bnd (it (Xlj n v16) 20 (0, v16.2)) fun v42 =>
 some (.go (Xaa .i64 (v16.1 + 1), v42))) (
 some (.done v16.2))
end Go.Proofs.YtnhflbeahbcklaaGreat.A.Pure
