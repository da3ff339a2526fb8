/- The pure statement of the law FnStill, part 1: over numbers, texts and lists alone, what the law computes is true. Conditions: the sizes of what a machine holds. -/
import Derived.Test.YtlebkepfhdjnmacDFnStill
namespace Go.Proofs.Ytlebkepfhdjnmac.A.Pure
open Go Go.Proofs Go.Proofs.YtlebkepfhdjnmacAL Go.RowKit
set_option linter.unusedVariables false
set_option linter.unusedSimpArgs false
set_option maxHeartbeats 1000000
noncomputable section
def Xiz (p0 : Xdx) : Option Bool :=
 bnd (
 bnd (Xam p0.Qp 0 40) fun q2 =>
 sel q2 (
 sel p0.Large (
 some (!p0.Exact)) (
 some true)) (
 some false)) fun v1 =>
 some v1
def Xdt (p0 : (List Int)) (p1 : Int) (p2 : Int) (v3 : Int) : Option (Lp Int (Ou Unit Bool)) :=
 sel (decide (v3 < p1)) (
 req (0 ≤ v3 ∧ v3 < p0.length) <|
 bnd (Xam (p0.getD v3.toNat 0) (Xaa .i64 (0 - p2)) p2) fun q7 =>
 sel (!q7) (
 some (.done (.ret false))) (
 some (.go (Xaa .i64 (v3 + 1))))) (
 some (.done (.out ())))
def Xbq (p0 : (List Int)) (p1 : Int) (p2 : Int) : Option Bool :=
 sel ((p0.length : Int) != p1) (
 some false) (
 bnd (loop (Xdt p0 p1 p2) 0) fun o8 => match o8 with
| .out v6 => (
 some true)
| .ret r => some r)
def Xnf (p0 : Xan) : Option Bool :=
 sel (p0.Kind == 0) (
 bnd (
 sel (p0.Mode == 0) (
 sel (p0.Dx == 0) (
 sel (p0.Dy == 0) (
 some ((p0.Levels.length : Int) == 0)) (
 some false)) (
 some false)) (
 some false)) fun v1 =>
 some v1) (
 sel (p0.Kind == 1) (
 bnd (
 sel (p0.Mode == 0) (
 bnd (Xam p0.Dx (-16) 16) fun q3 =>
 sel q3 (
 bnd (Xam p0.Dy (-16) 16) fun q4 =>
 sel q4 (
 bnd (Xbq p0.Levels 64 5000) fun q5 =>
 some q5) (
 some false)) (
 some false)) (
 some false)) fun v2 =>
 some v2) (
 sel (p0.Kind == 2) (
 bnd (
 bnd (Xam p0.Mode 0 3) fun q7 =>
 sel q7 (
 sel (p0.Dx == 0) (
 sel (p0.Dy == 0) (
 bnd (Xbq p0.Levels 64 5000) fun q8 =>
 some q8) (
 some false)) (
 some false)) (
 some false)) fun v6 =>
 some v6) (
 some false)))
def Xjf (p0 : Pic) (p1 : Int) (p2 : Int) (p3 : Int) (p4 : Int) : Option Bool :=
 bnd (
 bnd (Xeu p0) fun q2 =>
 sel q2 (
 bnd (Xam p3 1 p0.Wide) fun q3 =>
 sel q3 (
 bnd (Xam p4 1 p0.High) fun q4 =>
 sel q4 (
 bnd (Xam p1 0 (Xaa .i64 (p0.Wide - p3))) fun q5 =>
 sel q5 (
 bnd (Xam p2 0 (Xaa .i64 (p0.High - p4))) fun q6 =>
 some q6) (
 some false)) (
 some false)) (
 some false)) (
 some false)) fun v1 =>
 some v1
def Xhx (p0 : Int) (p1 : Int) (v2 : (Int × (List Int))) : Option (Lp (Int × (List Int)) (List Int)) :=
 sel (decide (v2.1 < p0)) (
 req (0 ≤ v2.1 ∧ v2.1 < v2.2.length) <|
 req (v2.1.toNat < v2.2.length) <|
 some (.go (Xaa .i64 (v2.1 + 1), (v2.2.set v2.1.toNat p1)))) (
 some (.done v2.2))
def Xol (p0 : Int) (p1 : Int) : Option ByteArray :=
 req (0 ≤ p0 ∧ p0 ≤ p0 ∧ p0 * 1 ≤ 281474976710656) <|
 bnd (loop (Xhx p0 p1) (0, (List.replicate p0.toNat (0 : Int)))) fun v4 =>
 some (strOfNums v4)
def Xg9 (p0 : Pic) (p1 : Int) (p2 : Int) : Option Bool :=
 bnd (
 req ((8 : Int) ≠ 0) <|
 sel ((p1.tmod 8) == 0) (
 req ((8 : Int) ≠ 0) <|
 sel ((p2.tmod 8) == 0) (
 bnd (Xjf p0 p1 p2 8 8) fun q2 =>
 some q2) (
 some false)) (
 some false)) fun v1 =>
 some v1
def Xd4 (p0 : Pic) (p1 : Int) (p2 : Int) (v7 : (Int × (List Int) × (List Int))) : Option (Lp (Int × (List Int) × (List Int)) ((List Int) × (List Int))) :=
 sel (decide (v7.1 < 8)) (
 bnd (
 bnd (
 sel (decide (p2 > 0)) (
 bnd (Xdb p0 (Xaa .i64 (p1 + v7.1)) (Xaa .i64 (p2 - 1))) fun q16 =>
 req ((v7.2.1.length + ([q16]).length) * 8 ≤ 140737488355328 ∧ v7.2.1.length + ([q16]).length ≤ maxLen) <|
 some (v7.2.1 ++ ([q16]))) (
 some v7.2.1)) fun v15 =>
 sel (decide (p1 > 0)) (
 bnd (Xdb p0 (Xaa .i64 (p1 - 1)) (Xaa .i64 (p2 + v7.1))) fun q17 =>
 req ((v7.2.2.length + ([q17]).length) * 8 ≤ 140737488355328 ∧ v7.2.2.length + ([q17]).length ≤ maxLen) <|
 some (v15, (v7.2.2 ++ ([q17])))) (
 some (v15, v7.2.2))) fun v14 =>
 some (.go (Xaa .i64 (v7.1 + 1), v14.1, v14.2))) (
 some (.done (v7.2.1, v7.2.2)))
def Xea (p0 : Pic) (p1 : Int) (p2 : Int) : Option (Xf3 × Bool) :=
 bnd (Xg9 p0 p1 p2) fun q1 =>
 sel (!q1) (
 some ((⟨[], [], 0⟩ : Xf3), false)) (
 bnd (loop (Xd4 p0 p1 p2) (0, [], [])) fun v13 =>
 bnd (
 bnd (
 sel (decide (p1 > 0)) (
 some (decide (p2 > 0))) (
 some false)) fun v20 =>
 sel v20 (
 bnd (Xdb p0 (Xaa .i64 (p1 - 1)) (Xaa .i64 (p2 - 1))) fun q21 =>
 some q21) (
 some (-1))) fun v19 =>
 some ((⟨v13.1, v13.2, v19⟩ : Xf3), true))
def Xok (p0 : Int) (p1 : Int) (v17 : (Int × Int)) (v38 : (Int × Int)) : Option (Lp (Int × Int) (Ou Int Int)) :=
 sel (decide (v38.2 < p0)) (
 Yj5 (fun (v44 : Int) =>
 some (.go (v44, Xaa .i64 (v38.2 + 1)))) fun j36 =>
 bnd (
 req ((2 : Int) ≠ 0) <|
 sel ((v17.2.tmod 2) == 0) (
 some (Xaa .i64 ((Xaa .i64 (p0 - 1)) - v38.2))) (
 some v38.2)) fun v45 =>
 bnd (Xam (Xaa .i64 (v17.2 - v45)) 0 (Xaa .i64 (p0 - 1))) fun q46 =>
 sel (!q46) (
 j36 v38.1) (
 sel (v38.1 == p1) (
 some (.done (.ret (Xaa .i64 ((Xaa .i64 ((Xaa .i64 (p0 * v45)) + v17.2)) - v45))))) (
 j36 (Xaa .i64 (v38.1 + 1))))) (
 some (.done (.out v38.1)))
def Xk2 (p0 : Int) (p1 : Int) (v17 : (Int × Int)) : Option (Lp (Int × Int) (Ou Unit Int)) :=
 sel (decide (v17.2 ≤ (Xaa .i64 ((Xaa .i64 (2 * p0)) - 2)))) (
 bnd (loop (Xok p0 p1 v17) (v17.1, 0)) fun o47 => match o47 with
| .out v43 => (
 some (.go (v43, Xaa .i64 (v17.2 + 1))))
| .ret r => some (.done (.ret r))) (
 some (.done (.out ())))
def Xnd (p0 : Int) (p1 : Int) : Option Int :=
 bnd (
 sel (p0 != 4) (
 sel (p0 != 8) (
 some true) (
 sel (decide (p1 < 0)) (
 some true) (
 some (decide (p1 ≥ (Xaa .i64 (p0 * p0))))))) (
 sel (decide (p1 < 0)) (
 some true) (
 some (decide (p1 ≥ (Xaa .i64 (p0 * p0))))))) fun v1 =>
 sel v1 (
 some (-1)) (
 bnd (loop (Xk2 p0 p1) (0, 0)) fun o48 => match o48 with
| .out v33 => (
 some (-1))
| .ret r => some r)
def Xb4 (p0 : Int) (p1 : (List Int)) (v4 : (Int × (List Int))) : Option (Lp (Int × (List Int)) (List Int)) :=
 sel (decide (v4.1 < (Xaa .i64 (p0 * p0)))) (
 bnd (Xnd p0 v4.1) fun q8 =>
 req (0 ≤ v4.1 ∧ v4.1 < p1.length) <|
 req (0 ≤ q8 ∧ q8 < v4.2.length) <|
 req (q8.toNat < v4.2.length) <|
 some (.go (Xaa .i64 (v4.1 + 1), (v4.2.set q8.toNat (p1.getD v4.1.toNat 0))))) (
 some (.done v4.2))
def Xds (p0 : Int) (p1 : (List Int)) : Option ((List Int) × Bool) :=
 bnd (
 sel (p0 != 4) (
 sel (p0 != 8) (
 some true) (
 some ((p1.length : Int) != (Xaa .i64 (p0 * p0))))) (
 some ((p1.length : Int) != (Xaa .i64 (p0 * p0))))) fun v1 =>
 sel v1 (
 some (([] : List Int), false)) (
 req (0 ≤ (p1.length : Int) ∧ (p1.length : Int) ≤ (p1.length : Int) ∧ (p1.length : Int) * 8 ≤ 281474976710656) <|
 bnd (loop (Xb4 p0 p1) (0, (List.replicate (p1.length : Int).toNat (0 : Int)))) fun v7 =>
 some (v7, true))
def Xjd (p0 : Int) (v4 : (Int × Int)) : Option (Lp (Int × Int) Int) :=
 req ((6 : Int) ≠ 0) <|
 sel (decide (v4.2 < (Xaa .i64 (p0.tdiv 6)))) (
 some (.go (Xaa .i64 (2 * v4.1), Xaa .i64 (v4.2 + 1)))) (
 some (.done v4.1))
def Xgw (p0 : Int) : Option Int :=
 bnd (Xam p0 0 40) fun q1 =>
 sel (!q1) (
 some 0) (
 bnd (
 req ((6 : Int) ≠ 0) <|
 sel ((p0.tmod 6) == 0) (
 some 10) (
 sel ((p0.tmod 6) == 1) (
 some 11) (
 sel ((p0.tmod 6) == 2) (
 some 13) (
 sel ((p0.tmod 6) == 3) (
 some 14) (
 sel ((p0.tmod 6) == 4) (
 some 16) (
 some 18)))))) fun v2 =>
 bnd (loop (Xjd p0) (v2, 0)) fun v6 =>
 some v6)
def Xgf (p0 : Int) (p1 : Int) : Option Int :=
 bnd (Xam p0 (-5000) 5000) fun q1 =>
 sel (!q1) (
 some 0) (
 bnd (Xgw p1) fun q2 =>
 some (Xaa .i64 (p0 * q2)))
def Xjb (v6 : (Int × Int)) : Option (Lp (Int × Int) Int) :=
 sel (decide (v6.2 > 0)) (
 bnd (
 req ((2 : Int) ≠ 0) <|
 sel ((v6.2.tmod 2) == 1) (
 some (Xaa .i64 (0 - v6.1))) (
 some v6.1)) fun v10 =>
 req ((2 : Int) ≠ 0) <|
 some (.go (v10, Xaa .i64 (v6.2.tdiv 2)))) (
 some (.done v6.1))
def Xi0 (p0 : Int) (p1 : Int) : Option Int :=
 bnd (
 bnd (Xam p0 0 7) fun q2 =>
 sel q2 (
 bnd (Xam p1 0 7) fun q3 =>
 some (!q3)) (
 some true)) fun v1 =>
 sel v1 (
 some 0) (
 bnd (loop (Xjb) (1, (IntKind.wrap .i64 (BitVec.ofInt (IntKind.bits .i64) p0 &&& BitVec.ofInt (IntKind.bits .i64) p1).toNat))) fun v9 =>
 some v9)
def Xdu (p0 : (List Int)) (p1 : Int) (p2 : Int) (v3 : (Int × Int)) : Option (Lp (Int × Int) Int) :=
 sel (decide (v3.2 < 8)) (
 req (0 ≤ (Xaa .i64 ((Xaa .i64 (8 * p1)) + v3.2)) ∧ (Xaa .i64 ((Xaa .i64 (8 * p1)) + v3.2)) < p0.length) <|
 bnd (Xi0 p2 v3.2) fun q7 =>
 some (.go (Xaa .i64 (v3.1 + (Xaa .i64 ((p0.getD (Xaa .i64 ((Xaa .i64 (8 * p1)) + v3.2)).toNat 0) * q7))), Xaa .i64 (v3.2 + 1)))) (
 some (.done v3.1))
def Xk6 (p0 : (List Int)) (p1 : Int) (p2 : Int) : Option Int :=
 bnd (loop (Xdu p0 p1 p2) (0, 0)) fun v6 =>
 some v6
def Xck (p0 : (List Int)) (v10 : (Int × (List Int))) (v23 : (Int × (List Int))) : Option (Lp (Int × (List Int)) (List Int)) :=
 sel (decide (v23.1 < 8)) (
 bnd (Xk6 p0 v10.1 v23.1) fun q27 =>
 req ((v23.2.length + ([q27]).length) * 8 ≤ 140737488355328 ∧ v23.2.length + ([q27]).length ≤ maxLen) <|
 some (.go (Xaa .i64 (v23.1 + 1), (v23.2 ++ ([q27]))))) (
 some (.done v23.2))
def Xcj (p0 : (List Int)) (v10 : (Int × (List Int))) : Option (Lp (Int × (List Int)) (List Int)) :=
 sel (decide (v10.1 < 8)) (
 bnd (loop (Xck p0 v10) (0, v10.2)) fun v26 =>
 some (.go (Xaa .i64 (v10.1 + 1), v26))) (
 some (.done v10.2))
def Xb7 (v20 : (List Int)) (v60 : (Int × (List Int))) (v101 : (Int × (List Int))) (v114 : (Int × Int)) : Option (Lp (Int × Int) Int) :=
 sel (decide (v114.2 < 8)) (
 bnd (Xi0 v60.1 v114.2) fun q118 =>
 req (0 ≤ (Xaa .i64 ((Xaa .i64 (8 * v114.2)) + v101.1)) ∧ (Xaa .i64 ((Xaa .i64 (8 * v114.2)) + v101.1)) < v20.length) <|
 req ((Xaa .i64 ((Xaa .i64 (8 * v114.2)) + v101.1)).toNat < v20.length) <|
 some (.go (Xaa .i64 (v114.1 + (Xaa .i64 (q118 * (v20.getD ((Xaa .i64 ((Xaa .i64 (8 * v114.2)) + v101.1)).toNat) 0)))), Xaa .i64 (v114.2 + 1)))) (
 some (.done v114.1))
def Xb6 (v20 : (List Int)) (v60 : (Int × (List Int))) (v101 : (Int × (List Int))) : Option (Lp (Int × (List Int)) (List Int)) :=
 sel (decide (v101.1 < 8)) (
 bnd (loop (Xb7 v20 v60 v101) (0, 0)) fun v117 =>
 req ((v101.2.length + ([v117]).length) * 8 ≤ 140737488355328 ∧ v101.2.length + ([v117]).length ≤ maxLen) <|
 some (.go (Xaa .i64 (v101.1 + 1), (v101.2 ++ ([v117]))))) (
 some (.done v101.2))
def Xb5 (v20 : (List Int)) (v60 : (Int × (List Int))) : Option (Lp (Int × (List Int)) (List Int)) :=
 sel (decide (v60.1 < 8)) (
 bnd (loop (Xb6 v20 v60) (0, v60.2)) fun v111 =>
 some (.go (Xaa .i64 (v60.1 + 1), v111))) (
 some (.done v60.2))
def Xg8 (p0 : (List Int)) : Option (List Int) :=
 bnd (loop (Xcj p0) (0, ([] : List Int))) fun v20 =>
 bnd (loop (Xb5 v20) (0, ([] : List Int))) fun v91 =>
 some v91
def Xct (p0 : Int) (p1 : Int) : Option Int :=
 req (p1 ≠ 0) <|
 bnd (
 req (p1 ≠ 0) <|
 sel (decide ((p0.tmod p1) < 0)) (
 some (Xaa .i64 ((Xaa .i64 (p0.tdiv p1)) - 1))) (
 some (Xaa .i64 (p0.tdiv p1)))) fun v1 =>
 some v1
def Xfw (v5 : (Int × (List Int))) : Option (Lp (Int × (List Int)) (List Int)) :=
 sel (decide (v5.1 < 64)) (
 req (0 ≤ v5.1 ∧ v5.1 < v5.2.length) <|
 req (v5.1.toNat < v5.2.length) <|
 bnd (Xct (Xaa .i64 ((v5.2.getD v5.1.toNat 0) + 32)) 64) fun q9 =>
 req (0 ≤ v5.1 ∧ v5.1 < v5.2.length) <|
 req (v5.1.toNat < v5.2.length) <|
 some (.go (Xaa .i64 (v5.1 + 1), (v5.2.set v5.1.toNat q9)))) (
 some (.done v5.2))
def Xge (p0 : (List Int)) : Option (List Int) :=
 bnd (Xbq p0 64 10000000) fun q1 =>
 sel (!q1) (
 some ([] : List Int)) (
 bnd (Xg8 p0) fun q2 =>
 bnd (loop (Xfw) (0, q2)) fun v8 =>
 some v8)
def Xk1 (p0 : Int) : Option Int :=
 bnd (Xam p0 0 15) fun q1 =>
 sel (!q1) (
 some (-1)) (
 req ((4 : Int) ≠ 0) <|
 req ((2 : Int) ≠ 0) <|
 req ((4 : Int) ≠ 0) <|
 req ((2 : Int) ≠ 0) <|
 bnd (
 sel (((Xaa .i64 (p0.tdiv 4)).tmod 2) == 0) (
 some (((p0.tmod 4).tmod 2) == 0)) (
 some false)) fun v2 =>
 sel v2 (
 some 0) (
 bnd (
 sel (((Xaa .i64 (p0.tdiv 4)).tmod 2) == 1) (
 some (((p0.tmod 4).tmod 2) == 1)) (
 some false)) fun v3 =>
 sel v3 (
 some 1) (
 some 2)))
def Xay (p0 : Int) (p1 : Int) (p2 : Int) (p3 : Int) : Option Int :=
 sel (p0 == 0) (
 some p1) (
 sel (p0 == 1) (
 some p2) (
 some p3))
def Xd5 (p0 : Int) (v12 : (Int × Int)) : Option (Lp (Int × Int) Int) :=
 req ((6 : Int) ≠ 0) <|
 sel (decide (v12.2 < (Xaa .i64 (p0.tdiv 6)))) (
 some (.go (Xaa .i64 (2 * v12.1), Xaa .i64 (v12.2 + 1)))) (
 some (.done v12.1))
def Xjs (p0 : Int) (p1 : Int) : Option Int :=
 bnd (Xk1 p1) fun q1 =>
 bnd (
 bnd (Xam p0 0 40) fun q3 =>
 sel q3 (
 some (decide (q1 < 0))) (
 some true)) fun v2 =>
 sel v2 (
 some 0) (
 bnd (
 req ((6 : Int) ≠ 0) <|
 sel ((p0.tmod 6) == 0) (
 bnd (Xay q1 10 16 13) fun q5 =>
 some q5) (
 sel ((p0.tmod 6) == 1) (
 bnd (Xay q1 11 18 14) fun q6 =>
 some q6) (
 sel ((p0.tmod 6) == 2) (
 bnd (Xay q1 13 20 16) fun q7 =>
 some q7) (
 sel ((p0.tmod 6) == 3) (
 bnd (Xay q1 14 23 18) fun q8 =>
 some q8) (
 sel ((p0.tmod 6) == 4) (
 bnd (Xay q1 16 25 20) fun q9 =>
 some q9) (
 sel ((p0.tmod 6) == 5) (
 bnd (Xay q1 18 29 23) fun q10 =>
 some q10) (
 some 0))))))) fun v4 =>
 bnd (loop (Xd5 p0) (v4, 0)) fun v14 =>
 some v14)
def Xgg (p0 : Int) (p1 : Int) (p2 : Int) : Option Int :=
 bnd (Xam p0 (-5000) 5000) fun q1 =>
 sel (!q1) (
 some 0) (
 bnd (Xjs p1 p2) fun q2 =>
 some (Xaa .i64 (p0 * q2)))
def Xci (p0 : (List Int)) (v4 : (Int × (List Int))) : Option (Lp (Int × (List Int)) (List Int)) :=
 sel (decide (v4.1 < 4)) (
 req (0 ≤ (Xaa .i64 (4 * v4.1)) ∧ (Xaa .i64 (4 * v4.1)) < p0.length) <|
 req (0 ≤ (Xaa .i64 ((Xaa .i64 (4 * v4.1)) + 1)) ∧ (Xaa .i64 ((Xaa .i64 (4 * v4.1)) + 1)) < p0.length) <|
 req (0 ≤ (Xaa .i64 ((Xaa .i64 (4 * v4.1)) + 2)) ∧ (Xaa .i64 ((Xaa .i64 (4 * v4.1)) + 2)) < p0.length) <|
 req (0 ≤ (Xaa .i64 ((Xaa .i64 (4 * v4.1)) + 3)) ∧ (Xaa .i64 ((Xaa .i64 (4 * v4.1)) + 3)) < p0.length) <|
 bnd (Xct (p0.getD (Xaa .i64 ((Xaa .i64 (4 * v4.1)) + 1)).toNat 0) 2) fun q9 =>
 bnd (Xct (p0.getD (Xaa .i64 ((Xaa .i64 (4 * v4.1)) + 3)).toNat 0) 2) fun q10 =>
 req ((v4.2.length + ([Xaa .i64 ((Xaa .i64 ((p0.getD (Xaa .i64 (4 * v4.1)).toNat 0) + (p0.getD (Xaa .i64 ((Xaa .i64 (4 * v4.1)) + 2)).toNat 0))) + (Xaa .i64 ((p0.getD (Xaa .i64 ((Xaa .i64 (4 * v4.1)) + 1)).toNat 0) + q10))), Xaa .i64 ((Xaa .i64 ((p0.getD (Xaa .i64 (4 * v4.1)).toNat 0) - (p0.getD (Xaa .i64 ((Xaa .i64 (4 * v4.1)) + 2)).toNat 0))) + (Xaa .i64 (q9 - (p0.getD (Xaa .i64 ((Xaa .i64 (4 * v4.1)) + 3)).toNat 0)))), Xaa .i64 ((Xaa .i64 ((p0.getD (Xaa .i64 (4 * v4.1)).toNat 0) - (p0.getD (Xaa .i64 ((Xaa .i64 (4 * v4.1)) + 2)).toNat 0))) - (Xaa .i64 (q9 - (p0.getD (Xaa .i64 ((Xaa .i64 (4 * v4.1)) + 3)).toNat 0)))), Xaa .i64 ((Xaa .i64 ((p0.getD (Xaa .i64 (4 * v4.1)).toNat 0) + (p0.getD (Xaa .i64 ((Xaa .i64 (4 * v4.1)) + 2)).toNat 0))) - (Xaa .i64 ((p0.getD (Xaa .i64 ((Xaa .i64 (4 * v4.1)) + 1)).toNat 0) + q10)))]).length) * 8 ≤ 140737488355328 ∧ v4.2.length + ([Xaa .i64 ((Xaa .i64 ((p0.getD (Xaa .i64 (4 * v4.1)).toNat 0) + (p0.getD (Xaa .i64 ((Xaa .i64 (4 * v4.1)) + 2)).toNat 0))) + (Xaa .i64 ((p0.getD (Xaa .i64 ((Xaa .i64 (4 * v4.1)) + 1)).toNat 0) + q10))), Xaa .i64 ((Xaa .i64 ((p0.getD (Xaa .i64 (4 * v4.1)).toNat 0) - (p0.getD (Xaa .i64 ((Xaa .i64 (4 * v4.1)) + 2)).toNat 0))) + (Xaa .i64 (q9 - (p0.getD (Xaa .i64 ((Xaa .i64 (4 * v4.1)) + 3)).toNat 0)))), Xaa .i64 ((Xaa .i64 ((p0.getD (Xaa .i64 (4 * v4.1)).toNat 0) - (p0.getD (Xaa .i64 ((Xaa .i64 (4 * v4.1)) + 2)).toNat 0))) - (Xaa .i64 (q9 - (p0.getD (Xaa .i64 ((Xaa .i64 (4 * v4.1)) + 3)).toNat 0)))), Xaa .i64 ((Xaa .i64 ((p0.getD (Xaa .i64 (4 * v4.1)).toNat 0) + (p0.getD (Xaa .i64 ((Xaa .i64 (4 * v4.1)) + 2)).toNat 0))) - (Xaa .i64 ((p0.getD (Xaa .i64 ((Xaa .i64 (4 * v4.1)) + 1)).toNat 0) + q10)))]).length ≤ maxLen) <|
 some (.go (Xaa .i64 (v4.1 + 1), (v4.2 ++ ([Xaa .i64 ((Xaa .i64 ((p0.getD (Xaa .i64 (4 * v4.1)).toNat 0) + (p0.getD (Xaa .i64 ((Xaa .i64 (4 * v4.1)) + 2)).toNat 0))) + (Xaa .i64 ((p0.getD (Xaa .i64 ((Xaa .i64 (4 * v4.1)) + 1)).toNat 0) + q10))), Xaa .i64 ((Xaa .i64 ((p0.getD (Xaa .i64 (4 * v4.1)).toNat 0) - (p0.getD (Xaa .i64 ((Xaa .i64 (4 * v4.1)) + 2)).toNat 0))) + (Xaa .i64 (q9 - (p0.getD (Xaa .i64 ((Xaa .i64 (4 * v4.1)) + 3)).toNat 0)))), Xaa .i64 ((Xaa .i64 ((p0.getD (Xaa .i64 (4 * v4.1)).toNat 0) - (p0.getD (Xaa .i64 ((Xaa .i64 (4 * v4.1)) + 2)).toNat 0))) - (Xaa .i64 (q9 - (p0.getD (Xaa .i64 ((Xaa .i64 (4 * v4.1)) + 3)).toNat 0)))), Xaa .i64 ((Xaa .i64 ((p0.getD (Xaa .i64 (4 * v4.1)).toNat 0) + (p0.getD (Xaa .i64 ((Xaa .i64 (4 * v4.1)) + 2)).toNat 0))) - (Xaa .i64 ((p0.getD (Xaa .i64 ((Xaa .i64 (4 * v4.1)) + 1)).toNat 0) + q10)))]))))) (
 some (.done v4.2))
def Xfx (p0 : (List Int)) : Option (List Int) :=
 bnd (loop (Xci p0) (0, ([] : List Int))) fun v8 =>
 some v8
def Xc5 (p0 : (List Int)) (v2 : (Int × (List Int))) : Option (Lp (Int × (List Int)) (List Int)) :=
 sel (decide (v2.1 < 16)) (
 req ((4 : Int) ≠ 0) <|
 req ((4 : Int) ≠ 0) <|
 req (0 ≤ v2.1 ∧ v2.1 < p0.length) <|
 req (0 ≤ (Xaa .i64 ((Xaa .i64 ((v2.1.tmod 4) * 4)) + (Xaa .i64 (v2.1.tdiv 4)))) ∧ (Xaa .i64 ((Xaa .i64 ((v2.1.tmod 4) * 4)) + (Xaa .i64 (v2.1.tdiv 4)))) < v2.2.length) <|
 req ((Xaa .i64 ((Xaa .i64 ((v2.1.tmod 4) * 4)) + (Xaa .i64 (v2.1.tdiv 4)))).toNat < v2.2.length) <|
 some (.go (Xaa .i64 (v2.1 + 1), (v2.2.set ((Xaa .i64 ((Xaa .i64 ((v2.1.tmod 4) * 4)) + (Xaa .i64 (v2.1.tdiv 4)))).toNat) (p0.getD v2.1.toNat 0))))) (
 some (.done v2.2))
def Xeb (p0 : (List Int)) : Option (List Int) :=
 req (0 ≤ (16 : Int) ∧ (16 : Int) ≤ (16 : Int) ∧ (16 : Int) * 8 ≤ 281474976710656) <|
 bnd (loop (Xc5 p0) (0, (List.replicate (16 : Int).toNat (0 : Int)))) fun v4 =>
 some v4
def Xgq (v8 : (Int × (List Int))) : Option (Lp (Int × (List Int)) (List Int)) :=
 sel (decide (v8.1 < 16)) (
 req (0 ≤ v8.1 ∧ v8.1 < v8.2.length) <|
 req (v8.1.toNat < v8.2.length) <|
 bnd (Xct (Xaa .i64 ((v8.2.getD v8.1.toNat 0) + 32)) 64) fun q12 =>
 req (0 ≤ v8.1 ∧ v8.1 < v8.2.length) <|
 req (v8.1.toNat < v8.2.length) <|
 some (.go (Xaa .i64 (v8.1 + 1), (v8.2.set v8.1.toNat q12)))) (
 some (.done v8.2))
def Xhw (p0 : (List Int)) : Option (List Int) :=
 bnd (Xbq p0 16 10000000) fun q1 =>
 sel (!q1) (
 some ([] : List Int)) (
 bnd (Xfx p0) fun q2 =>
 bnd (Xeb q2) fun q3 =>
 bnd (Xfx q3) fun q4 =>
 bnd (Xeb q4) fun q5 =>
 bnd (loop (Xgq) (0, q5)) fun v11 =>
 some v11)
def Xa7 (p1 : Xdx) (v8 : (Int × (List Int))) : Option (Lp (Int × (List Int)) (List Int)) :=
 sel (decide (v8.1 < 64)) (
 req (0 ≤ v8.1 ∧ v8.1 < v8.2.length) <|
 req (v8.1.toNat < v8.2.length) <|
 bnd (Xgf (v8.2.getD v8.1.toNat 0) p1.Qp) fun q12 =>
 req (0 ≤ v8.1 ∧ v8.1 < v8.2.length) <|
 req (v8.1.toNat < v8.2.length) <|
 some (.go (Xaa .i64 (v8.1 + 1), (v8.2.set v8.1.toNat q12)))) (
 some (.done v8.2))
def Xa2 (p1 : Xdx) (v52 : (Int × (List Int))) : Option (Lp (Int × (List Int)) (List Int)) :=
 sel (decide (v52.1 < 16)) (
 req (0 ≤ v52.1 ∧ v52.1 < v52.2.length) <|
 req (v52.1.toNat < v52.2.length) <|
 bnd (Xgg (v52.2.getD v52.1.toNat 0) p1.Qp v52.1) fun q56 =>
 req (0 ≤ v52.1 ∧ v52.1 < v52.2.length) <|
 req (v52.1.toNat < v52.2.length) <|
 some (.go (Xaa .i64 (v52.1 + 1), (v52.2.set v52.1.toNat q56)))) (
 some (.done v52.2))
def Xa9 (v31 : (Int × (List Int))) (q58 : (List Int)) (v60 : (Int × (List Int))) : Option (Lp (Int × (List Int)) (List Int)) :=
 sel (decide (v60.1 < 16)) (
 req ((2 : Int) ≠ 0) <|
 req ((4 : Int) ≠ 0) <|
 req ((2 : Int) ≠ 0) <|
 req ((4 : Int) ≠ 0) <|
 req (0 ≤ v60.1 ∧ v60.1 < q58.length) <|
 req (v60.1.toNat < q58.length) <|
 req (0 ≤ (Xaa .i64 ((Xaa .i64 ((Xaa .i64 (8 * (Xaa .i64 ((Xaa .i64 ((Xaa .i64 (v31.1.tdiv 2)) * 4)) + (Xaa .i64 (v60.1.tdiv 4)))))) + (Xaa .i64 ((v31.1.tmod 2) * 4)))) + (v60.1.tmod 4))) ∧ (Xaa .i64 ((Xaa .i64 ((Xaa .i64 (8 * (Xaa .i64 ((Xaa .i64 ((Xaa .i64 (v31.1.tdiv 2)) * 4)) + (Xaa .i64 (v60.1.tdiv 4)))))) + (Xaa .i64 ((v31.1.tmod 2) * 4)))) + (v60.1.tmod 4))) < v60.2.length) <|
 req ((Xaa .i64 ((Xaa .i64 ((Xaa .i64 (8 * (Xaa .i64 ((Xaa .i64 ((Xaa .i64 (v31.1.tdiv 2)) * 4)) + (Xaa .i64 (v60.1.tdiv 4)))))) + (Xaa .i64 ((v31.1.tmod 2) * 4)))) + (v60.1.tmod 4))).toNat < v60.2.length) <|
 some (.go (Xaa .i64 (v60.1 + 1), (v60.2.set ((Xaa .i64 ((Xaa .i64 ((Xaa .i64 (8 * (Xaa .i64 ((Xaa .i64 ((Xaa .i64 (v31.1.tdiv 2)) * 4)) + (Xaa .i64 (v60.1.tdiv 4)))))) + (Xaa .i64 ((v31.1.tmod 2) * 4)))) + (v60.1.tmod 4))).toNat) (q58.getD v60.1.toNat 0))))) (
 some (.done v60.2))
def Xb3 (p0 : (List Int)) (p1 : Xdx) (v31 : (Int × (List Int))) : Option (Lp (Int × (List Int)) (List Int)) :=
 sel (decide (v31.1 < 4)) (
 req (0 ≤ (Xaa .i64 (16 * v31.1)) ∧ (Xaa .i64 (16 * v31.1)) ≤ (Xaa .i64 ((Xaa .i64 (16 * v31.1)) + 16)) ∧ (Xaa .i64 ((Xaa .i64 (16 * v31.1)) + 16)) ≤ (p0.length : Int)) <|
 bnd (Xds 4 ((p0.drop (Xaa .i64 (16 * v31.1)).toNat).take ((Xaa .i64 ((Xaa .i64 (16 * v31.1)) + 16)).toNat - (Xaa .i64 (16 * v31.1)).toNat))) fun q49 =>
 bnd (loop (Xa2 p1) (0, q49.1)) fun v55 =>
 bnd (Xhw v55) fun q58 =>
 bnd (loop (Xa9 v31 q58) (0, v31.2)) fun v62 =>
 some (.go (Xaa .i64 (v31.1 + 1), v62))) (
 some (.done v31.2))
def Xcc (p0 : (List Int)) (p1 : Xdx) : Option ((List Int) × Bool) :=
 bnd (
 bnd (Xiz p1) fun q2 =>
 sel q2 (
 bnd (Xbq p0 64 5000) fun q3 =>
 some (!q3)) (
 some true)) fun v1 =>
 sel v1 (
 some (([] : List Int), false)) (
 sel p1.Exact (
 bnd (Xds 8 p0) fun q4 =>
 some (q4.1, q4.2)) (
 sel p1.Large (
 bnd (Xds 8 p0) fun q5 =>
 bnd (loop (Xa7 p1) (0, q5.1)) fun v11 =>
 bnd (Xge v11) fun q14 =>
 some (q14, true)) (
 req (0 ≤ (64 : Int) ∧ (64 : Int) ≤ (64 : Int) ∧ (64 : Int) * 8 ≤ 281474976710656) <|
 bnd (loop (Xb3 p0 p1) (0, (List.replicate (64 : Int).toNat (0 : Int)))) fun v48 =>
 some (v48, true))))
def Xh4 (p0 : (List Int)) (v4 : Int) : Option (Lp Int (Ou Unit Bool)) :=
 sel (decide (v4 < (p0.length : Int))) (
 req (0 ≤ v4 ∧ v4 < p0.length) <|
 bnd (Xam (p0.getD v4.toNat 0) 0 255) fun q8 =>
 sel (!q8) (
 some (.done (.ret false))) (
 some (.go (Xaa .i64 (v4 + 1))))) (
 some (.done (.out ())))
def Xlr (p0 : (List Int)) : Option Bool :=
 bnd (
 sel ((p0.length : Int) != 0) (
 some ((p0.length : Int) != 8)) (
 some false)) fun v1 =>
 sel v1 (
 some false) (
 bnd (loop (Xh4 p0) 0) fun o9 => match o9 with
| .out v7 => (
 some true)
| .ret r => some r)
def Xlo (p0 : Xf3) : Option Bool :=
 bnd (
 bnd (Xlr p0.Above) fun q2 =>
 sel q2 (
 bnd (Xlr p0.Left) fun q3 =>
 sel q3 (
 bnd (Xam p0.Corner (-1) 255) fun q4 =>
 some q4) (
 some false)) (
 some false)) fun v1 =>
 some v1
def Xdv (p0 : (List Int)) (p1 : Int) : Option Int :=
 sel ((p0.length : Int) == 0) (
 some 128) (
 req (0 ≤ p1 ∧ p1 < p0.length) <|
 some (p0.getD p1.toNat 0))
def Xgi (p0 : Xf3) (v2 : (Int × Int)) : Option (Lp (Int × Int) Int) :=
 sel (decide (v2.2 < (p0.Above.length : Int))) (
 req (0 ≤ v2.2 ∧ v2.2 < p0.Above.length) <|
 some (.go (Xaa .i64 (v2.1 + (p0.Above.getD v2.2.toNat 0)), Xaa .i64 (v2.2 + 1)))) (
 some (.done v2.1))
def Xgj (p0 : Xf3) (v7 : (Int × Int)) : Option (Lp (Int × Int) Int) :=
 sel (decide (v7.2 < (p0.Left.length : Int))) (
 req (0 ≤ v7.2 ∧ v7.2 < p0.Left.length) <|
 some (.go (Xaa .i64 (v7.1 + (p0.Left.getD v7.2.toNat 0)), Xaa .i64 (v7.2 + 1)))) (
 some (.done v7.1))
def Xk7 (p0 : Xf3) : Option Int :=
 sel ((Xaa .i64 ((p0.Above.length : Int) + (p0.Left.length : Int))) == 0) (
 some 128) (
 req ((2 : Int) ≠ 0) <|
 bnd (loop (Xgi p0) (Xaa .i64 ((Xaa .i64 ((p0.Above.length : Int) + (p0.Left.length : Int))).tdiv 2), 0)) fun v4 =>
 bnd (loop (Xgj p0) (v4, 0)) fun v9 =>
 req ((Xaa .i64 ((p0.Above.length : Int) + (p0.Left.length : Int))) ≠ 0) <|
 some (Xaa .i64 (v9.tdiv (Xaa .i64 ((p0.Above.length : Int) + (p0.Left.length : Int))))))
def Xc3 (p0 : Int) (p1 : Xf3) (v4 : Int) (v11 : (Int × (List Int))) : Option (Lp (Int × (List Int)) (List Int)) :=
 sel (decide (v11.1 < 64)) (
 bnd (
 req ((8 : Int) ≠ 0) <|
 bnd (Xdv p1.Above (v11.1.tmod 8)) fun q20 =>
 req ((8 : Int) ≠ 0) <|
 bnd (Xdv p1.Left (Xaa .i64 (v11.1.tdiv 8))) fun q21 =>
 sel (p0 == 0) (
 bnd (Xk7 p1) fun q22 =>
 req ((v11.2.length + ([q22]).length) * 8 ≤ 140737488355328 ∧ v11.2.length + ([q22]).length ≤ maxLen) <|
 some (v11.2 ++ ([q22]))) (
 sel (p0 == 1) (
 req ((v11.2.length + ([q20]).length) * 8 ≤ 140737488355328 ∧ v11.2.length + ([q20]).length ≤ maxLen) <|
 some (v11.2 ++ ([q20]))) (
 sel (p0 == 2) (
 req ((v11.2.length + ([q21]).length) * 8 ≤ 140737488355328 ∧ v11.2.length + ([q21]).length ≤ maxLen) <|
 some (v11.2 ++ ([q21]))) (
 bnd (Xdk (Xaa .i64 ((Xaa .i64 (q21 + q20)) - v4)) 0 255) fun q23 =>
 req ((v11.2.length + ([q23]).length) * 8 ≤ 140737488355328 ∧ v11.2.length + ([q23]).length ≤ maxLen) <|
 some (v11.2 ++ ([q23])))))) fun v19 =>
 some (.go (Xaa .i64 (v11.1 + 1), v19))) (
 some (.done v11.2))
def Xcs (p0 : Int) (p1 : Xf3) : Option (List Int) :=
 bnd (
 bnd (Xlo p1) fun q2 =>
 sel q2 (
 bnd (Xam p0 0 3) fun q3 =>
 some (!q3)) (
 some true)) fun v1 =>
 sel v1 (
 some ([] : List Int)) (
 bnd (
 sel (decide (p1.Corner < 0)) (
 some 128) (
 some p1.Corner)) fun v4 =>
 bnd (loop (Xc3 p0 p1 v4) (0, ([] : List Int))) fun v18 =>
 some v18)
def Xc7 (p0 : (List Int)) (v3 : Int) : Option (Lp Int (Ou Unit Bool)) :=
 sel (decide (v3 < 64)) (
 req (0 ≤ v3 ∧ v3 < p0.length) <|
 bnd (Xam (p0.getD v3.toNat 0) 0 255) fun q7 =>
 sel (!q7) (
 some (.done (.ret false))) (
 some (.go (Xaa .i64 (v3 + 1))))) (
 some (.done (.out ())))
def Xec (p0 : (List Int)) : Option Bool :=
 sel ((p0.length : Int) != 64) (
 some false) (
 bnd (loop (Xc7 p0) 0) fun o8 => match o8 with
| .out v6 => (
 some true)
| .ret r => some r)
def Xb8 (p0 : (List Int)) (p1 : (List Int)) (v6 : (Int × (List Int))) : Option (Lp (Int × (List Int)) (List Int)) :=
 sel (decide (v6.1 < 64)) (
 req (0 ≤ v6.1 ∧ v6.1 < p0.length) <|
 req (0 ≤ v6.1 ∧ v6.1 < p1.length) <|
 bnd (Xdk (Xaa .i64 ((p0.getD v6.1.toNat 0) + (p1.getD v6.1.toNat 0))) 0 255) fun q10 =>
 req ((v6.2.length + ([q10]).length) * 8 ≤ 140737488355328 ∧ v6.2.length + ([q10]).length ≤ maxLen) <|
 some (.go (Xaa .i64 (v6.1 + 1), (v6.2 ++ ([q10]))))) (
 some (.done v6.2))
def Xff (p0 : (List Int)) (p1 : (List Int)) : Option (List Int) :=
 bnd (
 bnd (Xec p0) fun q2 =>
 sel q2 (
 bnd (Xbq p1 64 10000000) fun q3 =>
 some (!q3)) (
 some true)) fun v1 =>
 sel v1 (
 some ([] : List Int)) (
 bnd (loop (Xb8 p0 p1) (0, ([] : List Int))) fun v9 =>
 some v9)
def Xht (p0 : Pic) (p1 : Int) (p2 : Int) (v7 : (Int × (List Int))) : Option (Lp (Int × (List Int)) (List Int)) :=
 sel (decide (v7.1 < 64)) (
 req ((8 : Int) ≠ 0) <|
 req ((8 : Int) ≠ 0) <|
 bnd (Xdb p0 (Xaa .i64 (p1 + (v7.1.tmod 8))) (Xaa .i64 (p2 + (Xaa .i64 (v7.1.tdiv 8))))) fun q11 =>
 req ((v7.2.length + ([q11]).length) * 8 ≤ 140737488355328 ∧ v7.2.length + ([q11]).length ≤ maxLen) <|
 some (.go (Xaa .i64 (v7.1 + 1), (v7.2 ++ ([q11]))))) (
 some (.done v7.2))
def Xg6 (p0 : Pic) (p1 : Int) (p2 : Int) : Option (List Int) :=
 bnd (
 bnd (Xeu p0) fun q2 =>
 sel q2 (
 bnd (Xam p1 (-1000) 1000) fun q3 =>
 sel q3 (
 bnd (Xam p2 (-1000) 1000) fun q4 =>
 some (!q4)) (
 some true)) (
 some true)) fun v1 =>
 sel v1 (
 some ([] : List Int)) (
 bnd (loop (Xht p0 p1 p2) (0, ([] : List Int))) fun v10 =>
 some v10)
def Xbv (p0 : Pic) (p1 : Pic) (p2 : Int) (p3 : Int) (p4 : Xdx) (p5 : Int) (p6 : Int) (p7 : Xan) : Option ((List Int) × Bool) :=
 bnd (
 bnd (Xg9 p0 p5 p6) fun q2 =>
 sel q2 (
 bnd (Xam p2 0 256) fun q3 =>
 sel q3 (
 bnd (Xam p3 0 256) fun q4 =>
 sel q4 (
 bnd (Xnf p7) fun q5 =>
 sel q5 (
 bnd (Xiz p4) fun q6 =>
 some (!q6)) (
 some true)) (
 some true)) (
 some true)) (
 some true)) fun v1 =>
 sel v1 (
 some (([] : List Int), false)) (
 sel (p7.Kind == 2) (
 bnd (Xea p0 p5 p6) fun q7 =>
 bnd (Xcc p7.Levels p4) fun q8 =>
 bnd (Xcs p7.Mode q7.1) fun q9 =>
 bnd (Xff q9 q8.1) fun q10 =>
 some (q10, true)) (
 bnd (
 sel p4.Key (
 some true) (
 bnd (Xeu p1) fun q12 =>
 some (!q12))) fun v11 =>
 sel v11 (
 some (([] : List Int), false)) (
 bnd (Xg6 p1 (Xaa .i64 ((Xaa .i64 (p2 + p5)) + p7.Dx)) (Xaa .i64 ((Xaa .i64 (p3 + p6)) + p7.Dy))) fun q13 =>
 sel (p7.Kind == 0) (
 some (q13, true)) (
 bnd (Xcc p7.Levels p4) fun q14 =>
 bnd (Xff q13 q14.1) fun q15 =>
 some (q15, true)))))
def Xb9 (p0 : Pic) (p1 : Int) (p2 : Int) (p3 : (List Int)) (v2 : (Int × (List Int))) : Option (Lp (Int × (List Int)) (List Int)) :=
 sel (decide (v2.1 < 64)) (
 req ((8 : Int) ≠ 0) <|
 req ((8 : Int) ≠ 0) <|
 req (0 ≤ v2.1 ∧ v2.1 < p3.length) <|
 req (0 ≤ (Xaa .i64 ((Xaa .i64 ((Xaa .i64 ((Xaa .i64 (p2 + (Xaa .i64 (v2.1.tdiv 8)))) * p0.Wide)) + p1)) + (v2.1.tmod 8))) ∧ (Xaa .i64 ((Xaa .i64 ((Xaa .i64 ((Xaa .i64 (p2 + (Xaa .i64 (v2.1.tdiv 8)))) * p0.Wide)) + p1)) + (v2.1.tmod 8))) < v2.2.length) <|
 req ((Xaa .i64 ((Xaa .i64 ((Xaa .i64 ((Xaa .i64 (p2 + (Xaa .i64 (v2.1.tdiv 8)))) * p0.Wide)) + p1)) + (v2.1.tmod 8))).toNat < v2.2.length) <|
 some (.go (Xaa .i64 (v2.1 + 1), (v2.2.set ((Xaa .i64 ((Xaa .i64 ((Xaa .i64 ((Xaa .i64 (p2 + (Xaa .i64 (v2.1.tdiv 8)))) * p0.Wide)) + p1)) + (v2.1.tmod 8))).toNat) (Xaa .u8 ((p3.getD v2.1.toNat 0))))))) (
 some (.done v2.2))
def Xfm (p0 : Pic) (p1 : Int) (p2 : Int) (p3 : (List Int)) : Option Pic :=
 req (p0.Dots.size ≤ maxLen) <|
 bnd (loop (Xb9 p0 p1 p2 p3) (0, (Xax p0.Dots))) fun v4 =>
 some (⟨p0.Wide, p0.High, (strOfNums v4)⟩ : Pic)
def Xlt (p0 : Pic) (p1 : Pic) : Option Bool :=
 bnd (
 bnd (Xeu p0) fun q2 =>
 sel q2 (
 bnd (Xeu p1) fun q3 =>
 sel q3 (
 sel (p0.Wide == p1.Wide) (
 some (p0.High == p1.High)) (
 some false)) (
 some false)) (
 some false)) fun v1 =>
 some v1
def Xk8 (p0 : (List Int)) (p1 : (List Int)) (v2 : (Int × (List Int))) : Option (Lp (Int × (List Int)) (List Int)) :=
 sel (decide (v2.1 < 64)) (
 req (0 ≤ v2.1 ∧ v2.1 < p0.length) <|
 req (0 ≤ v2.1 ∧ v2.1 < p1.length) <|
 req ((v2.2.length + ([Xaa .i64 ((p0.getD v2.1.toNat 0) - (p1.getD v2.1.toNat 0))]).length) * 8 ≤ 140737488355328 ∧ v2.2.length + ([Xaa .i64 ((p0.getD v2.1.toNat 0) - (p1.getD v2.1.toNat 0))]).length ≤ maxLen) <|
 some (.go (Xaa .i64 (v2.1 + 1), (v2.2 ++ ([Xaa .i64 ((p0.getD v2.1.toNat 0) - (p1.getD v2.1.toNat 0))]))))) (
 some (.done v2.2))
def Xjw (p0 : (List Int)) (p1 : (List Int)) : Option (List Int) :=
 bnd (loop (Xk8 p0 p1) (0, ([] : List Int))) fun v4 =>
 some v4
def Xh8 (p0 : (List Int)) (v2 : Int) : Option (Lp Int (Ou Unit Bool)) :=
 sel (decide (v2 < (p0.length : Int))) (
 req (0 ≤ v2 ∧ v2 < p0.length) <|
 sel ((p0.getD v2.toNat 0) != 0) (
 some (.done (.ret false))) (
 some (.go (Xaa .i64 (v2 + 1))))) (
 some (.done (.out ())))
def Xlu (p0 : (List Int)) : Option Bool :=
 bnd (loop (Xh8 p0) 0) fun o5 => match o5 with
| .out v4 => (
 some true)
| .ret r => some r
def Xel (p0 : Int) : Option Int :=
 sel (decide (p0 < 0)) (
 some (Xaa .i64 (0 - p0))) (
 some p0)
def Xke (p0 : (List Int)) (p1 : (List Int)) (v6 : (Int × Int)) : Option (Lp (Int × Int) Int) :=
 sel (decide (v6.2 < 64)) (
 req (0 ≤ v6.2 ∧ v6.2 < p0.length) <|
 req (0 ≤ v6.2 ∧ v6.2 < p1.length) <|
 bnd (Xel (Xaa .i64 ((p0.getD v6.2.toNat 0) - (p1.getD v6.2.toNat 0)))) fun q10 =>
 some (.go (Xaa .i64 (v6.1 + q10), Xaa .i64 (v6.2 + 1)))) (
 some (.done v6.1))
def Xo2 (p0 : (List Int)) (p1 : (List Int)) : Option Int :=
 bnd (
 bnd (Xbq p0 64 1000) fun q2 =>
 sel q2 (
 bnd (Xbq p1 64 1000) fun q3 =>
 some (!q3)) (
 some true)) fun v1 =>
 sel v1 (
 some (-1)) (
 bnd (loop (Xke p0 p1) (0, 0)) fun v9 =>
 some v9)
def Xhy (v2 : (Int × ByteArray)) : Option (Lp (Int × ByteArray) ByteArray) :=
 sel (decide (v2.1 > 0)) (
 req ((2 : Int) ≠ 0) <|
 req ((strOfNums ([Xaa .u8 (Xaa .i64 (48 + (v2.1.tmod 2)))])).size + v2.2.size ≤ 9223372036854775807) <|
 req ((2 : Int) ≠ 0) <|
 some (.go (Xaa .i64 (v2.1.tdiv 2), ((strOfNums ([Xaa .u8 (Xaa .i64 (48 + (v2.1.tmod 2)))])) ++ v2.2)))) (
 some (.done v2.2))
def Xmn (p0 : Int) : Option ByteArray :=
 bnd (loop (Xhy) (Xaa .i64 (p0 + 1), ⟨#[]⟩)) fun v4 =>
 bnd (Xol (Xaa .i64 ((v4.size : Int) - 1)) 48) fun q6 =>
 req (q6.size + v4.size ≤ 9223372036854775807) <|
 some (q6 ++ v4)
def Xtv (p0 : Int) : Option (ByteArray × Bool) :=
 bnd (Xam p0 0 1000000) fun q1 =>
 sel (!q1) (
 some (⟨#[]⟩, false)) (
 bnd (Xmn p0) fun q2 =>
 some (q2, true))
def Xi1 (p0 : Int) : Option Int :=
 bnd (Xtv p0) fun q1 =>
 some (q1.1.size : Int)
def Xcv (p0 : (List Int)) (p1 : Xf3) (v16 : (Int × Int × Int)) : Option (Lp (Int × Int × Int) (Int × Int)) :=
 sel (decide (v16.2.2 < 4)) (
 bnd (
 bnd (Xcs v16.2.2 p1) fun q25 =>
 bnd (Xo2 p0 q25) fun q26 =>
 bnd (Xi1 v16.2.2) fun q27 =>
 bnd (
 sel (decide (v16.2.1 < 0)) (
 some true) (
 some (decide ((Xaa .i64 (q26 + q27)) < v16.2.1)))) fun v28 =>
 sel v28 (
 some (v16.2.2, Xaa .i64 (q26 + q27))) (
 some (v16.1, v16.2.1))) fun v24 =>
 some (.go (v24.1, v24.2, Xaa .i64 (v16.2.2 + 1)))) (
 some (.done (v16.1, v16.2.1)))
def Xgd (p0 : (List Int)) (p1 : Xf3) : Option (Int × Int) :=
 bnd (
 bnd (Xlo p1) fun q2 =>
 sel q2 (
 bnd (Xec p0) fun q3 =>
 some (!q3)) (
 some true)) fun v1 =>
 sel v1 (
 some (0, (-1))) (
 bnd (loop (Xcv p0 p1) (0, (-1), 0)) fun v23 =>
 some (v23.1, v23.2))
def Xqp (p0 : Int) : Option (Int × Bool) :=
 bnd (Xam p0 (-500000) 500000) fun q1 =>
 sel (!q1) (
 some (0, false)) (
 sel (decide (p0 > 0)) (
 some (Xaa .i64 ((Xaa .i64 (2 * p0)) - 1), true)) (
 some (Xaa .i64 ((-2) * p0), true)))
def Xty (p0 : Int) : Option ByteArray :=
 bnd (Xqp p0) fun q1 =>
 bnd (Xmn q1.1) fun q2 =>
 some q2
def Yaj (p0 : Int) : Option (ByteArray × Bool) :=
 bnd (Xam p0 (-500000) 500000) fun q1 =>
 sel (!q1) (
 some (⟨#[]⟩, false)) (
 bnd (Xty p0) fun q2 =>
 some (q2, true))
def Xne (p0 : Int) : Option Int :=
 bnd (Yaj p0) fun q1 =>
 some (q1.1.size : Int)
def Xiy (p0 : Pic) (p1 : (List Int)) (p2 : Int) (p3 : Int) (p4 : Int) (v32 : (Int × Int × Int × Int)) (v69 : (Int × Int × Int × Int)) : Option (Lp (Int × Int × Int × Int) (Int × Int × Int)) :=
 sel (decide (v69.2.2.2 ≤ p4)) (
 bnd (
 bnd (Xjf p0 (Xaa .i64 (p2 + v69.2.2.2)) (Xaa .i64 (p3 + v32.2.2.2)) 8 8) fun q80 =>
 sel (!q80) (
 some (v69.1, v69.2.1, v69.2.2.1)) (
 bnd (Xg6 p0 (Xaa .i64 (p2 + v69.2.2.2)) (Xaa .i64 (p3 + v32.2.2.2))) fun q81 =>
 bnd (Xo2 p1 q81) fun q82 =>
 bnd (Xne v69.2.2.2) fun q83 =>
 bnd (Xne v32.2.2.2) fun q84 =>
 bnd (
 sel (decide (v69.2.2.1 < 0)) (
 some true) (
 some (decide ((Xaa .i64 ((Xaa .i64 (q82 + q83)) + q84)) < v69.2.2.1)))) fun v85 =>
 sel v85 (
 some (v69.2.2.2, v32.2.2.2, Xaa .i64 ((Xaa .i64 (q82 + q83)) + q84))) (
 some (v69.1, v69.2.1, v69.2.2.1)))) fun v79 =>
 some (.go (v79.1, v79.2.1, v79.2.2, Xaa .i64 (v69.2.2.2 + 1)))) (
 some (.done (v69.1, v69.2.1, v69.2.2.1)))
def Xix (p0 : Pic) (p1 : (List Int)) (p2 : Int) (p3 : Int) (p4 : Int) (v32 : (Int × Int × Int × Int)) : Option (Lp (Int × Int × Int × Int) (Int × Int × Int)) :=
 sel (decide (v32.2.2.2 ≤ p4)) (
 bnd (loop (Xiy p0 p1 p2 p3 p4 v32) (v32.1, v32.2.1, v32.2.2.1, Xaa .i64 (0 - p4))) fun v78 =>
 some (.go (v78.1, v78.2.1, v78.2.2, Xaa .i64 (v32.2.2.2 + 1)))) (
 some (.done (v32.1, v32.2.1, v32.2.2.1)))
def Xkd (p0 : Pic) (p1 : (List Int)) (p2 : Int) (p3 : Int) (p4 : Int) : Option (Int × Int × Int) :=
 bnd (
 bnd (Xec p1) fun q2 =>
 sel q2 (
 bnd (Xam p4 0 4) fun q3 =>
 sel q3 (
 bnd (Xg9 p0 p2 p3) fun q4 =>
 some (!q4)) (
 some true)) (
 some true)) fun v1 =>
 sel v1 (
 some (0, 0, (-1))) (
 bnd (loop (Xix p0 p1 p2 p3 p4) (0, 0, (-1), Xaa .i64 (0 - p4))) fun v60 =>
 some (v60.1, v60.2.1, v60.2.2))
def Xc4 (p0 : Int) (p1 : (List Int)) (v4 : (Int × (List Int))) : Option (Lp (Int × (List Int)) (List Int)) :=
 sel (decide (v4.1 < (Xaa .i64 (p0 * p0)))) (
 bnd (Xnd p0 v4.1) fun q8 =>
 req (0 ≤ q8 ∧ q8 < p1.length) <|
 req ((v4.2.length + ([(p1.getD q8.toNat 0)]).length) * 8 ≤ 140737488355328 ∧ v4.2.length + ([(p1.getD q8.toNat 0)]).length ≤ maxLen) <|
 some (.go (Xaa .i64 (v4.1 + 1), (v4.2 ++ ([(p1.getD q8.toNat 0)]))))) (
 some (.done v4.2))
def Xfh (p0 : Int) (p1 : (List Int)) : Option ((List Int) × Bool) :=
 bnd (
 sel (p0 != 4) (
 sel (p0 != 8) (
 some true) (
 some ((p1.length : Int) != (Xaa .i64 (p0 * p0))))) (
 some ((p1.length : Int) != (Xaa .i64 (p0 * p0))))) fun v1 =>
 sel v1 (
 some (([] : List Int), false)) (
 bnd (loop (Xc4 p0 p1) (0, ([] : List Int))) fun v7 =>
 some (v7, true))
def Xmk (p0 : (List Int)) : Option (List Int) :=
 bnd (Xbq p0 64 1000) fun q1 =>
 sel (!q1) (
 some ([] : List Int)) (
 bnd (Xg8 p0) fun q2 =>
 some q2)
def Xgh (p0 : Int) (p1 : Int) : Option Int :=
 sel (decide (p0 < 0)) (
 some (Xaa .i64 (0 - p1))) (
 some p1)
def Xfg (p0 : Int) (p1 : Int) : Option Int :=
 bnd (
 bnd (Xam p0 (-20000) 20000) fun q2 =>
 sel q2 (
 bnd (Xam p1 0 40) fun q3 =>
 some (!q3)) (
 some true)) fun v1 =>
 sel v1 (
 some 0) (
 bnd (Xgw p1) fun q4 =>
 bnd (Xel p0) fun q5 =>
 req ((2 : Int) ≠ 0) <|
 req (q4 ≠ 0) <|
 bnd (Xgh p0 (Xaa .i64 ((Xaa .i64 (q5 + (Xaa .i64 (q4.tdiv 2)))).tdiv q4))) fun q6 =>
 some q6)
def Xbn (p0 : (List Int)) (p1 : Int) (v2 : (Int × (List Int))) : Option (Lp (Int × (List Int)) (List Int)) :=
 sel (decide (v2.1 < 16)) (
 req ((2 : Int) ≠ 0) <|
 req ((4 : Int) ≠ 0) <|
 req ((2 : Int) ≠ 0) <|
 req ((4 : Int) ≠ 0) <|
 req (0 ≤ (Xaa .i64 ((Xaa .i64 ((Xaa .i64 (8 * (Xaa .i64 ((Xaa .i64 ((Xaa .i64 (p1.tdiv 2)) * 4)) + (Xaa .i64 (v2.1.tdiv 4)))))) + (Xaa .i64 ((p1.tmod 2) * 4)))) + (v2.1.tmod 4))) ∧ (Xaa .i64 ((Xaa .i64 ((Xaa .i64 (8 * (Xaa .i64 ((Xaa .i64 ((Xaa .i64 (p1.tdiv 2)) * 4)) + (Xaa .i64 (v2.1.tdiv 4)))))) + (Xaa .i64 ((p1.tmod 2) * 4)))) + (v2.1.tmod 4))) < p0.length) <|
 req ((v2.2.length + ([(p0.getD (Xaa .i64 ((Xaa .i64 ((Xaa .i64 (8 * (Xaa .i64 ((Xaa .i64 ((Xaa .i64 (p1.tdiv 2)) * 4)) + (Xaa .i64 (v2.1.tdiv 4)))))) + (Xaa .i64 ((p1.tmod 2) * 4)))) + (v2.1.tmod 4))).toNat 0)]).length) * 8 ≤ 140737488355328 ∧ v2.2.length + ([(p0.getD (Xaa .i64 ((Xaa .i64 ((Xaa .i64 (8 * (Xaa .i64 ((Xaa .i64 ((Xaa .i64 (p1.tdiv 2)) * 4)) + (Xaa .i64 (v2.1.tdiv 4)))))) + (Xaa .i64 ((p1.tmod 2) * 4)))) + (v2.1.tmod 4))).toNat 0)]).length ≤ maxLen) <|
 some (.go (Xaa .i64 (v2.1 + 1), (v2.2 ++ ([(p0.getD (Xaa .i64 ((Xaa .i64 ((Xaa .i64 (8 * (Xaa .i64 ((Xaa .i64 ((Xaa .i64 (p1.tdiv 2)) * 4)) + (Xaa .i64 (v2.1.tdiv 4)))))) + (Xaa .i64 ((p1.tmod 2) * 4)))) + (v2.1.tmod 4))).toNat 0)]))))) (
 some (.done v2.2))
def Xfl (p0 : (List Int)) (p1 : Int) : Option (List Int) :=
 bnd (loop (Xbn p0 p1) (0, ([] : List Int))) fun v4 =>
 some v4
def Xc6 (p0 : (List Int)) (v2 : (Int × (List Int))) : Option (Lp (Int × (List Int)) (List Int)) :=
 sel (decide (v2.1 < 4)) (
 req (0 ≤ (Xaa .i64 (4 * v2.1)) ∧ (Xaa .i64 (4 * v2.1)) < p0.length) <|
 req (0 ≤ (Xaa .i64 ((Xaa .i64 (4 * v2.1)) + 1)) ∧ (Xaa .i64 ((Xaa .i64 (4 * v2.1)) + 1)) < p0.length) <|
 req (0 ≤ (Xaa .i64 ((Xaa .i64 (4 * v2.1)) + 2)) ∧ (Xaa .i64 ((Xaa .i64 (4 * v2.1)) + 2)) < p0.length) <|
 req (0 ≤ (Xaa .i64 ((Xaa .i64 (4 * v2.1)) + 3)) ∧ (Xaa .i64 ((Xaa .i64 (4 * v2.1)) + 3)) < p0.length) <|
 req ((v2.2.length + ([Xaa .i64 ((Xaa .i64 ((Xaa .i64 ((p0.getD (Xaa .i64 (4 * v2.1)).toNat 0) + (p0.getD (Xaa .i64 ((Xaa .i64 (4 * v2.1)) + 1)).toNat 0))) + (p0.getD (Xaa .i64 ((Xaa .i64 (4 * v2.1)) + 2)).toNat 0))) + (p0.getD (Xaa .i64 ((Xaa .i64 (4 * v2.1)) + 3)).toNat 0)), Xaa .i64 ((Xaa .i64 ((Xaa .i64 ((Xaa .i64 (2 * (p0.getD (Xaa .i64 (4 * v2.1)).toNat 0))) + (p0.getD (Xaa .i64 ((Xaa .i64 (4 * v2.1)) + 1)).toNat 0))) - (p0.getD (Xaa .i64 ((Xaa .i64 (4 * v2.1)) + 2)).toNat 0))) - (Xaa .i64 (2 * (p0.getD (Xaa .i64 ((Xaa .i64 (4 * v2.1)) + 3)).toNat 0)))), Xaa .i64 ((Xaa .i64 ((Xaa .i64 ((p0.getD (Xaa .i64 (4 * v2.1)).toNat 0) - (p0.getD (Xaa .i64 ((Xaa .i64 (4 * v2.1)) + 1)).toNat 0))) - (p0.getD (Xaa .i64 ((Xaa .i64 (4 * v2.1)) + 2)).toNat 0))) + (p0.getD (Xaa .i64 ((Xaa .i64 (4 * v2.1)) + 3)).toNat 0)), Xaa .i64 ((Xaa .i64 ((Xaa .i64 ((p0.getD (Xaa .i64 (4 * v2.1)).toNat 0) - (Xaa .i64 (2 * (p0.getD (Xaa .i64 ((Xaa .i64 (4 * v2.1)) + 1)).toNat 0))))) + (Xaa .i64 (2 * (p0.getD (Xaa .i64 ((Xaa .i64 (4 * v2.1)) + 2)).toNat 0))))) - (p0.getD (Xaa .i64 ((Xaa .i64 (4 * v2.1)) + 3)).toNat 0))]).length) * 8 ≤ 140737488355328 ∧ v2.2.length + ([Xaa .i64 ((Xaa .i64 ((Xaa .i64 ((p0.getD (Xaa .i64 (4 * v2.1)).toNat 0) + (p0.getD (Xaa .i64 ((Xaa .i64 (4 * v2.1)) + 1)).toNat 0))) + (p0.getD (Xaa .i64 ((Xaa .i64 (4 * v2.1)) + 2)).toNat 0))) + (p0.getD (Xaa .i64 ((Xaa .i64 (4 * v2.1)) + 3)).toNat 0)), Xaa .i64 ((Xaa .i64 ((Xaa .i64 ((Xaa .i64 (2 * (p0.getD (Xaa .i64 (4 * v2.1)).toNat 0))) + (p0.getD (Xaa .i64 ((Xaa .i64 (4 * v2.1)) + 1)).toNat 0))) - (p0.getD (Xaa .i64 ((Xaa .i64 (4 * v2.1)) + 2)).toNat 0))) - (Xaa .i64 (2 * (p0.getD (Xaa .i64 ((Xaa .i64 (4 * v2.1)) + 3)).toNat 0)))), Xaa .i64 ((Xaa .i64 ((Xaa .i64 ((p0.getD (Xaa .i64 (4 * v2.1)).toNat 0) - (p0.getD (Xaa .i64 ((Xaa .i64 (4 * v2.1)) + 1)).toNat 0))) - (p0.getD (Xaa .i64 ((Xaa .i64 (4 * v2.1)) + 2)).toNat 0))) + (p0.getD (Xaa .i64 ((Xaa .i64 (4 * v2.1)) + 3)).toNat 0)), Xaa .i64 ((Xaa .i64 ((Xaa .i64 ((p0.getD (Xaa .i64 (4 * v2.1)).toNat 0) - (Xaa .i64 (2 * (p0.getD (Xaa .i64 ((Xaa .i64 (4 * v2.1)) + 1)).toNat 0))))) + (Xaa .i64 (2 * (p0.getD (Xaa .i64 ((Xaa .i64 (4 * v2.1)) + 2)).toNat 0))))) - (p0.getD (Xaa .i64 ((Xaa .i64 (4 * v2.1)) + 3)).toNat 0))]).length ≤ maxLen) <|
 some (.go (Xaa .i64 (v2.1 + 1), (v2.2 ++ ([Xaa .i64 ((Xaa .i64 ((Xaa .i64 ((p0.getD (Xaa .i64 (4 * v2.1)).toNat 0) + (p0.getD (Xaa .i64 ((Xaa .i64 (4 * v2.1)) + 1)).toNat 0))) + (p0.getD (Xaa .i64 ((Xaa .i64 (4 * v2.1)) + 2)).toNat 0))) + (p0.getD (Xaa .i64 ((Xaa .i64 (4 * v2.1)) + 3)).toNat 0)), Xaa .i64 ((Xaa .i64 ((Xaa .i64 ((Xaa .i64 (2 * (p0.getD (Xaa .i64 (4 * v2.1)).toNat 0))) + (p0.getD (Xaa .i64 ((Xaa .i64 (4 * v2.1)) + 1)).toNat 0))) - (p0.getD (Xaa .i64 ((Xaa .i64 (4 * v2.1)) + 2)).toNat 0))) - (Xaa .i64 (2 * (p0.getD (Xaa .i64 ((Xaa .i64 (4 * v2.1)) + 3)).toNat 0)))), Xaa .i64 ((Xaa .i64 ((Xaa .i64 ((p0.getD (Xaa .i64 (4 * v2.1)).toNat 0) - (p0.getD (Xaa .i64 ((Xaa .i64 (4 * v2.1)) + 1)).toNat 0))) - (p0.getD (Xaa .i64 ((Xaa .i64 (4 * v2.1)) + 2)).toNat 0))) + (p0.getD (Xaa .i64 ((Xaa .i64 (4 * v2.1)) + 3)).toNat 0)), Xaa .i64 ((Xaa .i64 ((Xaa .i64 ((p0.getD (Xaa .i64 (4 * v2.1)).toNat 0) - (Xaa .i64 (2 * (p0.getD (Xaa .i64 ((Xaa .i64 (4 * v2.1)) + 1)).toNat 0))))) + (Xaa .i64 (2 * (p0.getD (Xaa .i64 ((Xaa .i64 (4 * v2.1)) + 2)).toNat 0))))) - (p0.getD (Xaa .i64 ((Xaa .i64 (4 * v2.1)) + 3)).toNat 0))]))))) (
 some (.done v2.2))
def Xg7 (p0 : (List Int)) : Option (List Int) :=
 bnd (loop (Xc6 p0) (0, ([] : List Int))) fun v4 =>
 some v4
def Xoj (p0 : (List Int)) : Option (List Int) :=
 bnd (Xbq p0 16 1000) fun q1 =>
 sel (!q1) (
 some ([] : List Int)) (
 bnd (Xg7 p0) fun q2 =>
 bnd (Xeb q2) fun q3 =>
 bnd (Xg7 q3) fun q4 =>
 bnd (Xeb q4) fun q5 =>
 some q5)
def Xjt (p0 : Int) (p1 : Int) : Option Int :=
 bnd (Xk1 p1) fun q1 =>
 bnd (
 bnd (Xam p0 0 40) fun q3 =>
 sel q3 (
 some (decide (q1 < 0))) (
 some true)) fun v2 =>
 sel v2 (
 some 0) (
 req ((6 : Int) ≠ 0) <|
 sel ((p0.tmod 6) == 0) (
 bnd (Xay q1 13107 5243 8066) fun q4 =>
 some q4) (
 sel ((p0.tmod 6) == 1) (
 bnd (Xay q1 11916 4660 7490) fun q5 =>
 some q5) (
 sel ((p0.tmod 6) == 2) (
 bnd (Xay q1 10082 4194 6554) fun q6 =>
 some q6) (
 sel ((p0.tmod 6) == 3) (
 bnd (Xay q1 9362 3647 5825) fun q7 =>
 some q7) (
 sel ((p0.tmod 6) == 4) (
 bnd (Xay q1 8192 3355 5243) fun q8 =>
 some q8) (
 bnd (Xay q1 7282 2893 4559) fun q9 =>
 some q9))))))
def Xfi (p0 : Int) (p1 : Int) (p2 : Int) : Option Int :=
 bnd (
 bnd (Xam p0 (-20000) 20000) fun q2 =>
 sel q2 (
 bnd (Xam p1 0 40) fun q3 =>
 sel q3 (
 bnd (Xam p2 0 15) fun q4 =>
 some (!q4)) (
 some true)) (
 some true)) fun v1 =>
 sel v1 (
 some 0) (
 req ((6 : Int) ≠ 0) <|
 req (0 ≤ (Xaa .u64 (Xaa .i64 (15 + (Xaa .i64 (p1.tdiv 6)))))) <|
 bnd (Xel p0) fun q5 =>
 bnd (Xjt p1 p2) fun q6 =>
 req ((3 : Int) ≠ 0) <|
 req ((Xaa .i64 (1 * 2 ^ min (Xaa .u64 (Xaa .i64 (15 + (Xaa .i64 (p1.tdiv 6))))).toNat (IntKind.bits .i64))) ≠ 0) <|
 bnd (Xgh p0 (Xaa .i64 ((Xaa .i64 ((Xaa .i64 (q5 * q6)) + (Xaa .i64 ((Xaa .i64 (1 * 2 ^ min (Xaa .u64 (Xaa .i64 (15 + (Xaa .i64 (p1.tdiv 6))))).toNat (IntKind.bits .i64))).tdiv 3)))).tdiv (Xaa .i64 (1 * 2 ^ min (Xaa .u64 (Xaa .i64 (15 + (Xaa .i64 (p1.tdiv 6))))).toNat (IntKind.bits .i64)))))) fun q7 =>
 some q7)
def Xbp (p1 : Xdx) (v8 : (Int × (List Int))) : Option (Lp (Int × (List Int)) (List Int)) :=
 sel (decide (v8.1 < 64)) (
 req (0 ≤ v8.1 ∧ v8.1 < v8.2.length) <|
 req (v8.1.toNat < v8.2.length) <|
 bnd (Xfg (v8.2.getD v8.1.toNat 0) p1.Qp) fun q12 =>
 req (0 ≤ v8.1 ∧ v8.1 < v8.2.length) <|
 req (v8.1.toNat < v8.2.length) <|
 some (.go (Xaa .i64 (v8.1 + 1), (v8.2.set v8.1.toNat q12)))) (
 some (.done v8.2))
def Xbi (p1 : Xdx) (v45 : (Int × (List Int))) : Option (Lp (Int × (List Int)) (List Int)) :=
 sel (decide (v45.1 < 16)) (
 req (0 ≤ v45.1 ∧ v45.1 < v45.2.length) <|
 req (v45.1.toNat < v45.2.length) <|
 bnd (Xfi (v45.2.getD v45.1.toNat 0) p1.Qp v45.1) fun q49 =>
 req (0 ≤ v45.1 ∧ v45.1 < v45.2.length) <|
 req (v45.1.toNat < v45.2.length) <|
 some (.go (Xaa .i64 (v45.1 + 1), (v45.2.set v45.1.toNat q49)))) (
 some (.done v45.2))
def Xcw (p0 : (List Int)) (p1 : Xdx) (v27 : (Int × (List Int))) : Option (Lp (Int × (List Int)) (List Int)) :=
 sel (decide (v27.1 < 4)) (
 bnd (Xfl p0 v27.1) fun q41 =>
 bnd (Xoj q41) fun q42 =>
 bnd (loop (Xbi p1) (0, q42)) fun v48 =>
 bnd (Xfh 4 v48) fun q51 =>
 req ((v27.2.length + q51.1.length) * 8 ≤ 140737488355328 ∧ v27.2.length + q51.1.length ≤ maxLen) <|
 some (.go (Xaa .i64 (v27.1 + 1), (v27.2 ++ q51.1)))) (
 some (.done v27.2))
def Xcq (p0 : (List Int)) (p1 : Xdx) : Option ((List Int) × Bool) :=
 bnd (
 bnd (Xiz p1) fun q2 =>
 sel q2 (
 bnd (Xbq p0 64 255) fun q3 =>
 some (!q3)) (
 some true)) fun v1 =>
 sel v1 (
 some (([] : List Int), false)) (
 sel p1.Exact (
 bnd (Xfh 8 p0) fun q4 =>
 some (q4.1, q4.2)) (
 sel p1.Large (
 bnd (Xmk p0) fun q5 =>
 bnd (loop (Xbp p1) (0, q5)) fun v11 =>
 bnd (Xfh 8 v11) fun q14 =>
 some (q14.1, q14.2)) (
 bnd (loop (Xcw p0 p1) (0, ([] : List Int))) fun v40 =>
 some (v40, true))))
def Xl4 (p0 : Pic) (p1 : Pic) (p2 : (List Int)) (p3 : Int) (p4 : Int) (p5 : Xdx) (p6 : Int) : Option Xan :=
 bnd (
 sel p5.Key (
 some false) (
 bnd (Xg6 p1 p3 p4) fun q2 =>
 bnd (Xjw p2 q2) fun q3 =>
 bnd (Xlu q3) fun q4 =>
 some q4)) fun v1 =>
 sel v1 (
 some (⟨0, 0, 0, 0, []⟩ : Xan)) (
 bnd (Xea p0 p3 p4) fun q5 =>
 bnd (Xgd p2 q5.1) fun q6 =>
 Yj5 (fun (v7 : Unit) =>
 bnd (Xcs q6.1 q5.1) fun q14 =>
 bnd (Xjw p2 q14) fun q15 =>
 bnd (Xcq q15 p5) fun q16 =>
 some (⟨2, q6.1, 0, 0, q16.1⟩ : Xan)) fun j1 =>
 sel (!p5.Key) (
 bnd (Xkd p1 p2 p3 p4 p6) fun q8 =>
 sel (decide (q8.2.2 ≤ q6.2)) (
 bnd (Xg6 p1 (Xaa .i64 (p3 + q8.1)) (Xaa .i64 (p4 + q8.2.1))) fun q9 =>
 bnd (Xjw p2 q9) fun q10 =>
 bnd (Xcq q10 p5) fun q11 =>
 bnd (
 sel (q8.1 == 0) (
 sel (q8.2.1 == 0) (
 bnd (Xlu q11.1) fun q13 =>
 some q13) (
 some false)) (
 some false)) fun v12 =>
 sel v12 (
 some (⟨0, 0, 0, 0, []⟩ : Xan)) (
 some (⟨1, 0, q8.1, q8.2.1, q11.1⟩ : Xan))) (
 j1 ())) (
 j1 ()))
def Xjc (p0 : Pic) (p1 : Pic) (p2 : (List Int)) (p3 : Int) (p4 : Int) (p5 : Xdx) (p6 : Int) : Option (Xan × (List Int) × Bool) :=
 bnd (
 bnd (Xg9 p0 p3 p4) fun q2 =>
 sel q2 (
 bnd (Xec p2) fun q3 =>
 sel q3 (
 bnd (Xiz p5) fun q4 =>
 sel q4 (
 bnd (Xam p6 0 4) fun q5 =>
 sel q5 (
 sel p5.Key (
 some false) (
 bnd (Xlt p0 p1) fun q6 =>
 some (!q6))) (
 some true)) (
 some true)) (
 some true)) (
 some true)) fun v1 =>
 sel v1 (
 some ((⟨0, 0, 0, 0, []⟩ : Xan), ([] : List Int), false)) (
 bnd (Xl4 p0 p1 p2 p3 p4 p5 p6) fun q7 =>
 bnd (Xbv p0 p1 0 0 p5 p3 p4 q7) fun q8 =>
 some (q7, q8.1, true))
end
theorem Xab {α β : Type} (a : α) (f : α → Option β) : bnd (some a) f = f a := rfl
theorem Xji {α β : Type} {x : Option α} {a : α} {f : α → Option β} (h : x = some a) : bnd x f = f a := by subst h; rfl
theorem Xaz {β : Type} (x y : β) : sel true x y = x := rfl
theorem Xav {β : Type} (x y : β) : sel false x y = y := rfl
theorem Ye3 {β : Type} (b : Bool) (x y : β) : sel (!b) x y = sel b y x := by cases b <;> rfl
theorem Xgv (b x : Bool) : sel b (some x) (some false) = some (b && x) := by cases b <;> rfl
theorem Ygd (b x : Bool) : sel b (some true) (some x) = some (b || x) := by cases b <;> rfl
theorem Ye4 (b x : Bool) : sel b (some x) (some true) = some (!b || x) := by cases b <;> rfl
theorem Yge {β : Type} (b : Bool) (x y : β) : sel b (some x) (some y) = some (sel b x y) := by cases b <;> rfl
theorem Yb0 {β : Type} (b : Bool) (x y : β) : sel b x y = if b = true then x else y := by cases b <;> rfl
theorem Yg9 {β : Type} (p : Prop) [Decidable p] (x y : β) : sel (decide p) x y = if p then x else y := by
 by_cases h : p <;> simp [h, sel]
theorem Xc1 {β : Type} {b : Bool} {x y : β} (h : b = true) : sel b x y = x := by subst h; rfl
theorem Xcp {β : Type} {b : Bool} {x y : β} (h : b = false) : sel b x y = y := by subst h; rfl
theorem Xbj {β : Type} {p : Prop} [Decidable p] {x y : β} (h : p) : sel (decide p) x y = x := by simp [h, sel]
theorem Xao {β : Type} {p : Prop} [Decidable p] {x y : β} (h : ¬ p) : sel (decide p) x y = y := by simp [h, sel]
theorem Xbb {β : Type} {c : Prop} [Decidable c] {k : Option β} (h : c) : req c k = k := if_pos h
theorem wk {e : Int} (h1 : -9223372036854775808 ≤ e) (h2 : e ≤ 9223372036854775807) : Xaa .i64 e = e := by
 show wrap64 e = e
 unfold wrap64; omega
theorem rqA {β : Type} {c : Prop} [Decidable c] {k : Option β} (h : c := by omega) : req c k = k := Xbb h
theorem syA {β : Type} {c : Prop} [Decidable c] {x y : β} (h : c := by omega) : sel (decide c) x y = x := Xbj h
theorem snA {β : Type} {c : Prop} [Decidable c] {x y : β} (h : ¬ c := by omega) : sel (decide c) x y = y := Xao h
theorem wkA {e : Int} (h1 : -9223372036854775808 ≤ e := by omega) (h2 : e ≤ 9223372036854775807 := by omega) : Xaa .i64 e = e := wk h1 h2
theorem w8 {e : Int} (h1 : 0 ≤ e) (h2 : e ≤ 255) : Xaa .u8 e = e := by
 show IntKind.wrap .u8 e = e
 simp [IntKind.wrap, IntKind.signed, IntKind.bits]; omega
theorem Yij : maxLen = 9223372036854775807 := rfl
theorem Xcg {a b : Int} (h : 0 ≤ a) : Int.tmod a b = a % b := Int.tmod_eq_emod_of_nonneg h
theorem Xbx {a b : Int} (h : 0 ≤ a) : Int.tdiv a b = a / b := Int.tdiv_eq_ediv_of_nonneg h
theorem Xic {P : Nat → Prop} (n : Nat) (h0 : P n) (hs : ∀ i, i < n → P (i + 1) → P i) : ∀ i, i ≤ n → P i := by
 intro i hi
 obtain ⟨k, rfl⟩ : ∃ k, n = i + k := ⟨n - i, by omega⟩
 clear hi
 induction k generalizing i with
 | zero => exact h0
 | succ k ih =>
  refine hs i (by omega) ?_
  exact ih (i + 1) (by rw [show i + 1 + k = i + (k + 1) by omega]; exact h0) (fun j hj => hs j (by omega))
theorem lgo {V O : Type} {f : V → Option (Lp V O)} {x y : V} {r : Option O} (h : f x = some (.go y)) (k : loop f y = r) : loop f x = r := by rw [Xiu h]; exact k
theorem Xkx {V O : Type} {f : V → Option (Lp V O)} {x : V} {o : O} (h : f x = some (.done o)) : loop f x = some o := Xmh h
theorem Xlm {V O : Type} {f : V → Option (Lp V O)} (I : V → Prop) (m : V → Nat) (Q : V → O → Prop) (h : ∀ v, I v → (∃ o, f v = some (.done o) ∧ Q v o) ∨ ∃ v', f v = some (.go v') ∧ I v' ∧ m v' < m v ∧ ∀ o, Q v' o → Q v o) : ∀ v, I v → ∃ o, loop f v = some o ∧ Q v o := by
 intro v
 generalize hn : m v = n
 induction n using Nat.strongRecOn generalizing v with
 | _ n ih =>
  intro hv
  rcases h v hv with ⟨o, h1, h2⟩ | ⟨v', h1, h2, h3, h4⟩
  ·
   exact ⟨o, Xmh h1, h2⟩
  ·
   obtain ⟨o, h5, h6⟩ := ih (m v') (by omega) v' rfl h2
   exact ⟨o, by rw [Xiu h1]; exact h5, h4 o h6⟩
theorem Xee {α : Type} (l : List α) (i : Nat) (h : i < l.length) (d : α) : l.getD i d = l[i] := by
 simp [List.getD_eq_getElem?_getD, List.getElem?_eq_getElem h]
theorem Xal (a b c : Int) : Xak a b c = some (decide (b ≤ a ∧ a ≤ c)) := by
 unfold Xak
 by_cases h : b ≤ a <;> simp [bnd, sel, h]
theorem Xah (a b c : Int) : Xam a b c = some (decide (b ≤ a ∧ a ≤ c)) := by
 unfold Xam
 by_cases h : b ≤ a <;> simp [bnd, sel, h]
theorem Yi1 {α : Type} (a : List α) (x y : α) (b : List α) : (a ++ x :: b).set a.length y = a ++ y :: b := by
 induction a with
 | nil => rfl
 | cons z a ih => simp only [List.cons_append, List.length_cons, List.set_cons_succ, ih]
theorem Xv1 {α : Type} (a : List α) (x d : α) (b : List α) : (a ++ x :: b).getD a.length d = x := by
 induction a with
 | nil => rfl
 | cons z a ih => simp
theorem Xx9 {f : Int → Option (Lp Int (Ou Unit Bool))} (n : Nat) (h : ∀ i : Nat, i < n → f i = some (.go ((i + 1 : Nat) : Int))) (h0 : f n = some (.done (.out ()))) : loop f 0 = some (.out ()) :=
 Xic (P := fun i => loop f (i : Int) = some (.out ())) n (Xmh h0) (fun i hi ih => by rw [Xiu (h i hi)]; exact ih) 0 (by omega)
theorem Xwi (y : Int) : 0 ≤ IntKind.wrap .i64 (BitVec.ofInt (IntKind.bits .i64) y &&& BitVec.ofInt (IntKind.bits .i64) 255).toNat ∧ IntKind.wrap .i64 (BitVec.ofInt (IntKind.bits .i64) y &&& BitVec.ofInt (IntKind.bits .i64) 255).toNat ≤ 255 := by
 have h : (BitVec.ofInt (IntKind.bits .i64) y &&& BitVec.ofInt (IntKind.bits .i64) 255).toNat ≤ 255 := by
  rw [BitVec.toNat_and]
  exact Nat.le_trans Nat.and_le_right (by decide)
 generalize (BitVec.ofInt (IntKind.bits .i64) y &&& BitVec.ofInt (IntKind.bits .i64) 255).toNat = n at h ⊢
 rw [← Xo4, wkA]
 omega
def Xj1 (c : Xa3) : Prop := c.b_.length ≤ 1048576 ∧ 0 ≤ c.i_
theorem Xl3 (b : List Int) (hb : b.length ≤ 1048576) : ∃ c, Xgx b = some c ∧ Xj1 c := by
 unfold Xgx
 obtain ⟨o, h, _⟩ := Xlm (f := Xje b) (fun v => 0 ≤ v.2) (fun v => b.length - v.2.toNat) (fun _ _ => True) (by
  intro ⟨h, i⟩ hi
  unfold Xje
  simp only [Xgv, Xab] at hi ⊢
  by_cases h1 : i < b.length ∧ i < 4000
  ·
   rw [Xc1 (by simp; exact h1), Xbb ⟨hi, h1.1⟩]
   refine .inr ⟨_, rfl, ?_, ?_, fun _ _ => trivial⟩
   ·
    simp only; rw [wkA]; omega
   ·
    simp only; rw [wkA]; omega
  ·
   rw [Xcp (by simp; omega)]
   exact .inl ⟨_, rfl, trivial⟩) (Xaa .i64 (94701 + (b.length : Int)), 0) (by simp)
 rw [h]
 exact ⟨_, rfl, hb, by simp⟩
theorem Xcd (c : Xa3) (hc : Xj1 c) : ∃ x c', Xbm c = some (x, c') ∧ 0 ≤ x ∧ x ≤ 255 ∧ Xj1 c' := by
 unfold Xbm
 rw [Xbb (by decide), Xbb (by decide)]
 obtain ⟨h1, h2⟩ := hc
 by_cases h : c.i_ < c.b_.length
 ·
  rw [Xbj h, Xbb ⟨h2, h⟩, Xab]
  refine ⟨_, _, rfl, (Xwi _).1, (Xwi _).2, h1, ?_⟩
  simp only; rw [wkA]; omega
 ·
  rw [Xao h, Xab]
  exact ⟨_, _, rfl, (Xwi _).1, (Xwi _).2, h1, h2⟩
theorem Xa5 (c : Xa3) (n : Int) (hc : Xj1 c) : ∃ x c', Xa0 c n = some (x, c') ∧ 0 ≤ x ∧ (0 < n → x < n) ∧ (n ≤ 0 → x = 0) ∧ Xj1 c' := by
 unfold Xa0
 by_cases h0 : n ≤ 0
 ·
  rw [Xbj h0]; exact ⟨_, _, rfl, by omega, fun h => by omega, fun _ => rfl, hc⟩
 ·
  rw [Xao h0]
  obtain ⟨x, c1, e1, a1, b1, hc1⟩ := Xcd c hc
  by_cases h1 : n ≤ 256
  ·
   rw [Xbj h1, e1, Xab, rqA]
   refine ⟨_, _, rfl, ?_, fun _ => ?_, fun h => by omega, hc1⟩
   ·
    simp only; rw [Xcg a1]; exact Int.emod_nonneg _ (by omega)
   ·
    simp only; rw [Xcg a1]; exact Int.emod_lt_of_pos _ (by omega)
  ·
   obtain ⟨y, c2, e2, a2, b2, hc2⟩ := Xcd c1 hc1
   obtain ⟨z, c3, e3, a3, b3, hc3⟩ := Xcd c2 hc2
   obtain ⟨u, c4, e4, a4, b4, hc4⟩ := Xcd c3 hc3
   rw [Xao h1, e1, Xab]
   simp only
   rw [e2, Xab]
   simp only
   rw [e3, Xab]
   simp only
   rw [e4, Xab, rqA]
   simp only
   rw [wkA (e := x * 16777216), wkA (e := y * 65536), wkA (e := z * 256), wkA (e := x * 16777216 + y * 65536), wkA (e := x * 16777216 + y * 65536 + z * 256), wkA, Xcg (by omega)]
   exact ⟨_, _, rfl, Int.emod_nonneg _ (by omega), fun _ => Int.emod_lt_of_pos _ (by omega), fun h => by omega, hc4⟩
theorem Xk5 (c : Xa3) (n : Int) (hc : Xj1 c) : ∃ x c', Xfj c n = some (x, c') ∧ Xj1 c' := by
 unfold Xfj
 obtain ⟨x, c', e, _, _, _, h⟩ := Xa5 c n hc
 rw [e, Xab]; exact ⟨_, _, rfl, h⟩
theorem Yes (l : List Int) : Xv3 l = some (decide ((l.length : Int) > 1048576)) := rfl
theorem Xsj (b : List Int) (hb : b.length ≤ 1048576) : ∃ l, Xfd b = some l ∧ l.length = 12 ∧ ∀ x ∈ l, 0 ≤ x ∧ x < 10000 := by
 unfold Xfd
 obtain ⟨c, e, hc⟩ := Xl3 b hb
 obtain ⟨x, c1, e1, _, _, hc1⟩ := Xcd c hc
 rw [e, Xab, e1, Xab]
 obtain ⟨o, h, h2⟩ := Xlm (f := Xey) (fun v => 0 ≤ v.1 ∧ v.1 ≤ 12 ∧ Xj1 ⟨v.2.1, v.2.2.1, v.2.2.2.1⟩ ∧ (v.2.2.2.2.length : Int) = v.1 ∧ ∀ x ∈ v.2.2.2.2, 0 ≤ x ∧ x < 10000) (fun v => 12 - v.1.toNat) (fun _ o => o.length = 12 ∧ ∀ x ∈ o, 0 ≤ x ∧ x < 10000) (by
  intro ⟨i, b, j, h, l⟩ ⟨h1, h2, h3, h4, h5⟩
  unfold Xey
  simp only at h1 h2 h3 h4 h5 ⊢
  by_cases hi : i < 12
  ·
   obtain ⟨x, c', ex, x0, x1, _, hx⟩ := Xa5 _ 10000 h3
   rw [Xbj hi, ex, Xab, Xbb (by rw [Yij]; simp only [List.length_singleton]; omega)]
   refine .inr ⟨_, rfl, ?_, ?_, fun _ h => h⟩
   ·
    rw [wkA]
    refine ⟨by omega, by omega, hx, by simp; omega, ?_⟩
    intro y hy
    rcases List.mem_append.1 hy with hy | hy
    ·
     exact h5 y hy
    ·
     rw [List.mem_singleton.1 hy]; exact ⟨x0, x1 (by omega)⟩
   ·
    rw [wkA]; omega
  ·
   rw [Xao hi]
   exact .inl ⟨_, rfl, by omega, h5⟩) (0, c1.b_, c1.i_, c1.h_, []) ⟨by simp, by simp, hc1, by simp, by simp⟩
 rw [h]
 exact ⟨_, rfl, h2⟩
def Xbs (n a b : Int) : Int := if b < a ∨ n < a then a else if n > b then b else n
theorem Xhc (n a b : Int) : Xde n a b = some (Xbs n a b) := by
 unfold Xde Xbs
 congr 1
 repeat' split
 all_goals omega
theorem Xkg {n a b : Int} (h : a ≤ b) : a ≤ Xbs n a b ∧ Xbs n a b ≤ b := by
 unfold Xbs
 repeat' split
 all_goals omega
theorem Xc2 (n a b : Int) : Xdk n a b = some (Xbs n a b) := by
 unfold Xdk Xbs
 rw [Ygd, Xab]
 by_cases h : b < a ∨ n < a
 ·
  rw [if_pos h, Xc1 (by simpa using h)]
 ·
  rw [if_neg h, Xcp (by simp; omega), Yg9]; split <;> rfl
def Ylw (p : Par) : Bool := decide (0 ≤ p.Qp ∧ p.Qp ≤ 40) && !(p.Large && p.Exact)
def Xce (p : Pic) : Bool := decide (1 ≤ p.Wide ∧ p.Wide ≤ 256) && (decide (1 ≤ p.High ∧ p.High ≤ 256) && ((p.Dots.size : Int) == p.Wide * p.High))
theorem Xep {w h : Int} (h1 : 1 ≤ w ∧ w ≤ 256) (h2 : 1 ≤ h ∧ h ≤ 256) : 1 ≤ w * h ∧ w * h ≤ 65536 := by
 have a : w * 1 ≤ w * h := Int.mul_le_mul_of_nonneg_left h2.1 (by omega)
 have b : w * h ≤ 256 * h := Int.mul_le_mul_of_nonneg_right h1.2 (by omega)
 omega
theorem Xek (p : Pic) : Xeu p = some (Xce p) := by
 unfold Xeu Xce
 simp only [Xah, Xab, Xgv]
 by_cases h1 : 1 ≤ p.Wide ∧ p.Wide ≤ 256
 ·
  by_cases h2 : 1 ≤ p.High ∧ p.High ≤ 256
  ·
   have := Xep h1 h2
   rw [wkA]
  ·
   rw [decide_eq_false h2, Bool.false_and, Bool.false_and]
 ·
  rw [decide_eq_false h1, Bool.false_and, Bool.false_and]
theorem Xcm (p : Pic) : Xcf p = some (Xce p) := by
 unfold Xcf Xce
 simp only [Xal, Xab, Xgv]
 by_cases h1 : 1 ≤ p.Wide ∧ p.Wide ≤ 256
 ·
  by_cases h2 : 1 ≤ p.High ∧ p.High ≤ 256
  ·
   have := Xep h1 h2
   rw [wkA]
  ·
   rw [decide_eq_false h2, Bool.false_and, Bool.false_and]
 ·
  rw [decide_eq_false h1, Bool.false_and, Bool.false_and]
theorem Yal (a b : List Int) : strOfNums a ++ strOfNums b = strOfNums (a ++ b) := by
 unfold strOfNums
 rw [List.map_append]
 apply ByteArray.ext
 simp
theorem Yl8 : (⟨#[]⟩ : ByteArray) = strOfNums [] := rfl
def Yec (l : List Int) : Prop := ∀ x ∈ l, 0 ≤ x ∧ x ≤ 255
theorem Xln (l : List Int) (h : Yec l) : Xax (strOfNums l) = l := by
 unfold Xax
 rw [strOfNums_data, List.map_map]
 have : ∀ x ∈ l, ((fun b : UInt8 => (b.toNat : Int)) ∘ fun n : Int => UInt8.ofNat n.toNat) x = x := by
  intro x hx
  have := h x hx
  simp only [Function.comp_apply, UInt8.toNat_ofNat']
  omega
 rw [List.map_congr_left this, List.map_id']
theorem Yk4 (l : List Int) (h : Yec l) (i : Nat) (hi : i < l.length) : Yeb (strOfNums l) (i : Int) = l.getD i 0 := by
 unfold Yeb
 rw [dif_pos (by rw [Int.toNat_natCast, strOfNums_size]; exact hi)]
 have hx := h l[i] (List.getElem_mem hi)
 rw [Xee l i hi]
 show ((((l.map fun n => UInt8.ofNat n.toNat).toArray)[(i : Int).toNat]'(by simpa using hi)).toNat : Int) = _
 simp only [Int.toNat_natCast, List.getElem_toArray, List.getElem_map, UInt8.toNat_ofNat']
 omega
theorem Ynq (y : Int) : IntKind.wrap .i64 (BitVec.ofInt (IntKind.bits .i64) y &&& BitVec.ofInt (IntKind.bits .i64) 1).toNat = y % 2 := by
 have h : (BitVec.ofInt 64 y &&& BitVec.ofInt 64 1).toNat = (y % 2).toNat := by
  rw [BitVec.toNat_and]
  have e1 : (BitVec.ofInt 64 1).toNat = 1 := by decide
  rw [e1, Nat.and_one_is_mod, BitVec.toNat_ofInt]
  omega
 show IntKind.wrap .i64 ((BitVec.ofInt 64 y &&& BitVec.ofInt 64 1).toNat : Int) = _
 rw [h, ← Xo4, wkA]
 omega
def Yk5 : Nat → Int → List Int
 | 0, _ => []
 | w + 1, n => Yk5 w (n / 2) ++ [48 + n % 2]
def Yho (l : List Int) : Prop := ∀ x ∈ l, x = 48 ∨ x = 49
theorem Xch {a b : List Int} (ha : Yho a) (hb : Yho b) : Yho (a ++ b) := fun x hx => (List.mem_append.1 hx).elim (ha x) (hb x)
theorem Yjt (n : Nat) : Yho (List.replicate n 48) := fun x hx => .inl (List.eq_of_mem_replicate hx)
theorem Xjh {l : List Int} (h : Yho l) : Yec l := fun x hx => by rcases h x hx with e | e <;> omega
theorem Xvy : Yho [] := fun x hx => by simp at hx
theorem Yha (w : Nat) : ∀ (k : Nat) (n : Int) (s : List Int), 0 ≤ n → n ≤ 9223372036854775807 → k + s.length ≤ 100000 → loop Xhl (n, (k : Int) - 1, List.replicate k 0 ++ s) = some (Yk5 k n ++ s) := by
 intro k
 induction k with
 | zero =>
  intro n s h0 h1 hl
  refine Xkx ?_
  unfold Xhl
  simp only
  rw [snA]
  simp [Yk5]
 | succ k ih =>
  intro n s h0 h1 hl
  have e1 : List.replicate (k + 1) (0 : Int) ++ s = List.replicate k 0 ++ 0 :: s := by rw [List.replicate_succ', List.append_assoc]; rfl
  have e2 := Yi1 (List.replicate k (0 : Int)) 0 (48 + n % 2) s
  rw [List.length_replicate] at e2
  refine lgo (y := (n / 2, (k : Int) - 1, List.replicate k 0 ++ (48 + n % 2) :: s)) ?_ ?_
  ·
   unfold Xhl
   have e3 : (((k + 1 : Nat) : Int) - 1).toNat = k := by omega
   simp only [e1, e3]
   rw [syA, Xbb (by simp; omega), Xbb (by simp), Xbb (by decide), Ynq, wkA (e := 48 + n % 2), w8 (by omega) (by omega), e2, wkA]
   rw [show ((k + 1 : Nat) : Int) - 1 - 1 = (k : Int) - 1 by omega]
   rfl
  ·
   rw [ih (n / 2) ((48 + n % 2) :: s) (by omega) (by omega) (by simp; omega), Yk5, List.append_assoc]; rfl
theorem Yba (n : Int) (w : Nat) (h0 : 0 ≤ n) (h1 : n ≤ 9223372036854775807) (hw : w ≤ 1000) : Xme n (w : Int) = some (strOfNums (Yk5 w n)) := by
 unfold Xme
 rw [rqA, wkA, Int.toNat_natCast]
 have := Yha w w n [] h0 h1 (by simp; omega)
 rw [List.append_nil, List.append_nil] at this
 rw [this, Xab]
def Xul (m : Nat) : Nat := if h : m = 0 then 0 else Xul (m / 2) + 1
termination_by m
decreasing_by omega
def Yhn (m : Nat) : List Int := if h : m = 0 then [] else Yhn (m / 2) ++ [48 + ((m % 2 : Nat) : Int)]
termination_by m
decreasing_by omega
theorem Yas (m : Nat) : (Yhn m).length = Xul m := by
 induction m using Nat.strongRecOn with
 | _ m ih =>
  rw [Yhn, Xul]
  by_cases h : m = 0
  ·
   rw [dif_pos h, dif_pos h]; rfl
  ·
   rw [dif_neg h, dif_neg h, List.length_append, ih (m / 2) (by omega)]; rfl
theorem Yeh {m j : Nat} (h : m < 2 ^ j) : Xul m ≤ j := by
 induction j generalizing m with
 | zero => rw [Xul, dif_pos (by simp at h; omega)]; omega
 | succ j ih =>
  rw [Xul]
  split
  ·
   omega
  ·
   have := ih (m := m / 2) (by rw [Nat.pow_succ] at h; omega)
   omega
theorem Yax {m : Nat} (h : 0 < m) : 1 ≤ Xul m := by rw [Xul, dif_neg (by omega)]; omega
theorem Yjs (m : Nat) : Yho (Yhn m) := by
 induction m using Nat.strongRecOn with
 | _ m ih =>
  rw [Yhn]
  by_cases h : m = 0
  ·
   rw [dif_pos h]; exact Xvy
  ·
   rw [dif_neg h]; exact Xch (ih (m / 2) (by omega)) (fun x hx => by rw [List.mem_singleton.1 hx]; omega)
theorem Yjy (z m : Nat) : Yk5 (Xul m + z) m = List.replicate z 48 ++ Yhn m := by
 induction m using Nat.strongRecOn with
 | _ m ih =>
  rw [Yhn, Xul]
  by_cases h : m = 0
  ·
   rw [dif_pos h, dif_pos h, h, List.append_nil, Nat.zero_add]
   clear ih h
   induction z with
   | zero => rfl
   | succ z iz => rw [Yk5, show ((0 : Nat) : Int) / 2 = ((0 : Nat) : Int) from rfl, iz, List.replicate_succ']; rfl
  ·
   rw [dif_neg h, dif_neg h, show Xul (m / 2) + 1 + z = Xul (m / 2) + z + 1 by omega, Yk5, show (m : Int) / 2 = ((m / 2 : Nat) : Int) by omega, ih (m / 2) (by omega), List.append_assoc, show (m : Int) % 2 = ((m % 2 : Nat) : Int) by omega]
def ueL (n : Nat) : List Int := List.replicate (Xul (n + 1) - 1) 48 ++ Yhn (n + 1)
theorem Xh9 (n : Nat) : Yho (ueL n) := Xch (Yjt _) (Yjs _)
theorem Xla (n : Nat) (h : n ≤ 1000000) : (ueL n).length ≤ 39 ∧ 1 ≤ (ueL n).length := by
 unfold ueL
 rw [List.length_append, List.length_replicate, Yas]
 have := Yeh (m := n + 1) (j := 20) (by omega)
 have := Yax (m := n + 1) (by omega)
 omega
theorem Xy2 : ∀ (m : Nat) (k : Int), 0 ≤ k → k ≤ 1000 → m ≤ 9223372036854775807 → loop Xb0 ((m : Int), k) = some (k + Xul m) := by
 have main : ∀ (j m : Nat) (k : Int), m < 2 ^ j → j ≤ 63 → 0 ≤ k → k + j ≤ 2000 → loop Xb0 ((m : Int), k) = some (k + Xul m) := by
  intro j
  induction j with
  | zero =>
   intro m k hm _ _ _
   have : m = 0 := by simp at hm; omega
   subst this
   refine Xkx ?_
   unfold Xb0
   simp only
   rw [snA, Xul, dif_pos rfl]; simp
  | succ j ih =>
   intro m k hm hj h0 h1
   by_cases h : m = 0
   ·
    subst h
    refine Xkx ?_
    unfold Xb0
    simp only
    rw [snA, Xul, dif_pos rfl]; simp
   ·
    refine lgo (y := (((m / 2 : Nat) : Int), k + 1)) ?_ ?_
    ·
     unfold Xb0
     simp only
     rw [syA, Xbb (by decide), wkA]
     show some (Lp.go ((m : Int) / 2, k + 1)) = _
     congr 3
    ·
     rw [ih (m / 2) (k + 1) (by rw [Nat.pow_succ] at hm; omega) (by omega) (by omega) (by omega), Xul.eq_def m, dif_neg h]
     congr 1; omega
 intro m k h0 h1 hm
 exact main 63 m k (by omega) (by omega) h0 (by omega)
theorem Xir (n : Nat) (h : n ≤ 1000000) : Xj7 (n : Int) = some (strOfNums (ueL n)) := by
 unfold Xj7 Xi6
 rw [wkA (e := (n : Int) + 1)]
 have := Xy2 (n + 1) 0 (by omega) (by omega) (by omega)
 rw [show ((n + 1 : Nat) : Int) = (n : Int) + 1 by omega, Int.zero_add] at this
 rw [this, Xab, Xab]
 have h1 := Yeh (m := n + 1) (j := 20) (by omega)
 have h2 := Yax (m := n + 1) (by omega)
 rw [wkA (e := 2 * (Xul (n + 1) : Int)), wkA, show 2 * (Xul (n + 1) : Int) - 1 = ((Xul (n + 1) + (Xul (n + 1) - 1) : Nat) : Int) by omega, Yba _ _ (by omega) (by omega) (by omega), Xab,
  show (n : Int) + 1 = ((n + 1 : Nat) : Int) by omega, Yjy]
 rfl
theorem Xyf (n : Nat) (x : Int) (h : n ≤ 1000000000) : Xol (n : Int) x = some (strOfNums (List.replicate n x)) := by
 unfold Xol
 rw [rqA, Int.toNat_natCast]
 have key : ∀ (k a : Nat), k + a = n → loop (Xhx (n : Int) x) ((a : Int), List.replicate a x ++ List.replicate k 0) = some (List.replicate n x) := by
  intro k
  induction k with
  | zero =>
   intro a ha
   refine Xkx ?_
   unfold Xhx
   simp only
   rw [snA]
   simp; omega
  | succ k ih =>
   intro a ha
   have e2 := Yi1 (List.replicate a x) 0 x (List.replicate k 0)
   rw [List.length_replicate] at e2
   refine lgo (y := (((a + 1 : Nat) : Int), List.replicate (a + 1) x ++ List.replicate k 0)) ?_ (ih (a + 1) (by omega))
   unfold Xhx
   simp only [List.replicate_succ (n := k), Int.toNat_natCast]
   rw [syA, Xbb (by simp; omega), Xbb (by simp), e2, wkA, List.replicate_succ' (n := a), List.append_assoc]
   rfl
 have := key n 0 rfl
 rw [List.replicate_zero, List.nil_append] at this
 exact Xji this
theorem Xng (n : Nat) (h : n ≤ 1000000) : Xmn (n : Int) = some (strOfNums (ueL n)) := by
 have main : ∀ (j m : Nat) (s : List Int), m < 2 ^ j → j ≤ 63 → s.length + j ≤ 1000 → loop Xhy ((m : Int), strOfNums s) = some (strOfNums (Yhn m ++ s)) := by
  intro j
  induction j with
  | zero =>
   intro m s hm _ _
   have : m = 0 := by simp at hm; omega
   subst this
   refine Xkx ?_
   unfold Xhy
   simp only
   rw [snA, Yhn, dif_pos rfl]; rfl
  | succ j ih =>
   intro m s hm hj hl
   by_cases h : m = 0
   ·
    subst h
    refine Xkx ?_
    unfold Xhy
    simp only
    rw [snA, Yhn, dif_pos rfl]; rfl
   ·
    have hlt : (m : Int) < 2 ^ (j + 1) := by exact_mod_cast hm
    have hle : (2 : Int) ^ (j + 1) ≤ 2 ^ 63 := by
     have := Nat.pow_le_pow_right (n := 2) (by omega) hj
     exact_mod_cast this
    have hbd : (m : Int) < 9223372036854775808 := Int.lt_of_lt_of_le hlt (by simpa using hle)
    refine lgo (y := (((m / 2 : Nat) : Int), strOfNums ((48 + ((m % 2 : Nat) : Int)) :: s))) ?_ ?_
    ·
     unfold Xhy
     simp only
     rw [syA, Xbb (by decide), Xcg (by omega), Xbx (by omega), wkA (e := 48 + (m : Int) % 2), w8 (by omega) (by omega), Xbb (by simp only [strOfNums_size, List.length_singleton]; omega), Xbb (by decide), wkA, Yal]
     congr 3
    ·
     rw [ih (m / 2) _ (by rw [Nat.pow_succ] at hm; omega) (by omega) (by simp; omega)]
     conv => rhs; rw [Yhn, dif_neg h]
     rw [List.append_assoc]; rfl
 unfold Xmn
 have h1 := Yeh (m := n + 1) (j := 20) (by omega)
 have h2 := Yax (m := n + 1) (by omega)
 rw [wkA (e := (n : Int) + 1), Yl8, show (n : Int) + 1 = ((n + 1 : Nat) : Int) by omega, main 63 (n + 1) [] (by omega) (by omega) (by simp), Xab, List.append_nil, strOfNums_size, Yas, wkA, show (Xul (n + 1) : Int) - 1 = ((Xul (n + 1) - 1 : Nat) : Int) by omega, Xyf _ _ (by omega), Xab,
  Xbb (by simp only [strOfNums_size, List.length_replicate]; omega), Yal]
 rfl
def Xwo (n : Int) : Nat := if n > 0 then (2 * n - 1).toNat else (-2 * n).toNat
theorem Xpa (n : Int) (h : -500000 ≤ n ∧ n ≤ 500000) : Xid n = some ((Xwo n : Int), true) := by
 unfold Xid Xwo
 rw [Xal, Xab, Ye3, Xbj h, Yg9, wkA (e := 2 * n), wkA, wkA]
 split
 ·
  rw [Int.toNat_of_nonneg (by omega)]
 ·
  rw [Int.toNat_of_nonneg (by omega)]
theorem Xzp (n : Int) (h : -500000 ≤ n ∧ n ≤ 500000) : Xqp n = some ((Xwo n : Int), true) := by
 unfold Xqp Xwo
 rw [Xah, Xab, Ye3, Xbj h, Yg9, wkA (e := 2 * n), wkA, wkA]
 split
 ·
  rw [Int.toNat_of_nonneg (by omega)]
 ·
  rw [Int.toNat_of_nonneg (by omega)]
theorem Xq4 (n : Int) (h : -500000 ≤ n ∧ n ≤ 500000) : Xwo n ≤ 1000000 := by unfold Xwo; split <;> omega
def seL (n : Int) : List Int := ueL (Xwo n)
theorem Xto (n : Int) (h : -500000 ≤ n ∧ n ≤ 500000) : (seL n).length ≤ 39 := (Xla _ (Xq4 n h)).1
theorem Yb6 (n : Int) (h : -500000 ≤ n ∧ n ≤ 500000) : Xty n = some (strOfNums (seL n)) := by
 unfold Xty
 rw [Xzp n h, Xab, Xng _ (Xq4 n h), Xab]; rfl
theorem Xm2 (n : Int) (h : -500000 ≤ n ∧ n ≤ 500000) : Xih n = some (strOfNums (seL n), true) := by
 have := Xq4 n h
 unfold Xih
 rw [Xpa n h, Xab, Ye3, Xaz]
 unfold Xki
 rw [Xal, Xab, Ye3, syA, Xir _ this, Xab, Xab]; rfl
def Yd2 (x : Int) : Bool := decide (-5000 ≤ x ∧ x ≤ 5000)
theorem Yf3 {x : Int} : Yd2 x = true ↔ -5000 ≤ x ∧ x ≤ 5000 := by simp [Yd2]
def nz : List Int → Nat
 | [] => 0
 | x :: r => if x = 0 then nz r else nz r + 1
theorem Ylv : ∀ l : List Int, nz l ≤ l.length
 | [] => by simp [nz]
 | x :: r => by rw [nz, List.length_cons]; have := Ylv r; split <;> omega
def Xvc : Nat → List Int → List Int
 | _, [] => []
 | g, x :: r => if x = 0 then Xvc (g + 1) r else ueL g ++ seL x ++ Xvc 0 r
def Xsd (l : List Int) : List Int := ueL (nz l) ++ Xvc 0 l
theorem Xx5 : ∀ (l : List Int) (g : Nat), Yho (Xvc g l)
 | [], _ => Xvy
 | x :: r, g => by
  rw [Xvc]
  split
  ·
   exact Xx5 r _
  ·
   exact Xch (Xch (Xh9 _) (Xh9 _)) (Xx5 r _)
theorem Xx6 : ∀ (l : List Int) (g : Nat), l.all Yd2 = true → g + l.length ≤ 1000 → (Xvc g l).length ≤ 78 * l.length
 | [], _, _, _ => by simp [Xvc]
 | x :: r, g, h, hg => by
  rw [List.all_cons, Bool.and_eq_true, Yf3] at h
  rw [List.length_cons] at hg ⊢
  rw [Xvc]
  split
  ·
   have := Xx6 r (g + 1) h.2 (by omega); omega
  ·
   have := Xx6 r 0 h.2 (by omega)
   have a := Xla g (by omega)
   have b := Xto x (by omega)
   simp only [List.length_append]; omega
theorem Xoh (l : List Int) : Yho (Xsd l) := Xch (Xh9 _) (Xx5 _ _)
theorem Xhq (l : List Int) (h : l.all Yd2 = true) (hl : l.length ≤ 64) : (Xsd l).length ≤ 39 + 78 * l.length := by
 have := Xx6 l 0 h (by omega)
 have := Ylv l
 have := Xla (nz l) (by omega)
 unfold Xsd; rw [List.length_append]; omega
theorem Xua (l : List Int) (h : l.all Yd2 = true) (hl : l.length ≤ 64) : Xmb l = some (Xsd l) := by
 have hm : maxLen = 9223372036854775807 := rfl
 unfold Xmb
 have k1 : ∀ (r a : List Int) (n : Nat), l = a ++ r → n ≤ a.length → loop (Xg2 l) ((n : Int), (a.length : Int)) = some ((n + nz r : Nat) : Int) := by
  intro r
  induction r with
  | nil =>
   intro a n ha _
   rw [List.append_nil] at ha
   refine Xkx ?_
   unfold Xg2
   simp only
   rw [Xao (by rw [ha]; omega)]; rfl
  | cons x r ih =>
   intro a n ha hn
   have hlen : a.length < l.length := by rw [ha]; simp
   have hx : l.getD a.length 0 = x := by rw [ha]; exact Xv1 a x _ r
   by_cases e : x = 0
   ·
    have hnext := ih (a ++ [x]) n (by rw [ha]; simp) (by simp; omega)
    rw [List.length_append, List.length_singleton] at hnext
    rw [nz, if_pos e, ← hnext]
    refine Xiu ?_
    unfold Xg2
    simp only [Int.toNat_natCast, hx]
    rw [syA, rqA, Xcp (by simpa using e), Xab, wkA]
    rfl
   ·
    have hnext := ih (a ++ [x]) (n + 1) (by rw [ha]; simp) (by simp; omega)
    rw [List.length_append, List.length_singleton] at hnext
    rw [nz, if_neg e, show n + (nz r + 1) = n + 1 + nz r by omega, ← hnext]
    refine Xiu ?_
    unfold Xg2
    simp only [Int.toNat_natCast, hx]
    rw [syA, rqA, Xc1 (by simpa using e), Xab, wkA, wkA]
    rfl
 refine (Xji (k1 l [] 0 rfl (by omega))).trans ?_
 have hz := Ylv l
 have u := Xla (nz l) (by omega)
 simp only [Nat.zero_add]
 rw [Xir _ (by omega), Xab, Xln _ (Xjh (Xh9 _)), Xbb (by simp only [List.length_nil]; omega), List.nil_append]
 have key : ∀ (r a : List Int) (g : Nat) (s : List Int), l = a ++ r → g ≤ a.length → s.length ≤ 39 + 78 * a.length → loop (Xg3 l) ((g : Int), (a.length : Int), s) = some (s ++ Xvc g r) := by
  intro r
  induction r with
  | nil =>
   intro a g s ha _ _
   rw [List.append_nil] at ha
   refine Xkx ?_
   unfold Xg3
   simp only
   rw [Xao (by rw [ha]; omega), Xvc, List.append_nil]
  | cons x r ih =>
   intro a g s ha hg hs
   have hlen : a.length < l.length := by rw [ha]; simp
   have hx : l.getD a.length 0 = x := by rw [ha]; exact Xv1 a x _ r
   have hxi : -5000 ≤ x ∧ x ≤ 5000 := Yf3.1 (List.all_eq_true.1 h x (by rw [ha]; simp))
   by_cases e : x = 0
   ·
    have hnext := ih (a ++ [x]) (g + 1) s (by rw [ha]; simp) (by simp; omega) (by simp; omega)
    rw [List.length_append, List.length_singleton] at hnext
    rw [Xvc, if_pos e, ← hnext]
    refine Xiu ?_
    unfold Xg3
    simp only [Int.toNat_natCast, hx]
    rw [syA, rqA, Xc1 (by simpa using e), Xab, wkA, wkA]
    rfl
   ·
    have u1 := Xla g (by omega)
    have u2 := Xto x (by omega)
    have hnext := ih (a ++ [x]) 0 (s ++ ueL g ++ seL x) (by rw [ha]; simp) (by omega) (by simp only [List.length_append, List.length_singleton]; omega)
    rw [List.length_append, List.length_singleton] at hnext
    rw [Xvc, if_neg e, ← List.append_assoc, ← List.append_assoc, ← hnext]
    refine Xiu ?_
    unfold Xg3
    simp only [Int.toNat_natCast, hx]
    rw [syA, rqA, Xcp (by simpa using e), Xpa x (by omega), Xab, Xir g (by omega), Xab, Xln _ (Xjh (Xh9 _)), rqA, Xir _ (Xq4 x (by omega)), Xab, Xln _ (Xjh (Xh9 _)), Xbb (by rw [List.length_append]; have : (seL x).length = (ueL (Xwo x)).length := rfl; omega), Xab, wkA]
    rfl
 exact Xji (key l [] 0 (ueL (nz l)) rfl (by omega) (by simp; omega))
def Xxs (l : List Int) : Bool := decide (l.length = 64) && l.all Yd2
theorem Xvw (p : Int → Bool) (l : List Int) (f : Int → Option (Lp Int (Ou Unit Bool))) (h : ∀ i : Nat, i < l.length → f (i : Int) = sel (!(p (l.getD i 0))) (some (.done (.ret false))) (some (.go ((i + 1 : Nat) : Int)))) (h0 : f (l.length : Int) = some (.done (.out ()))) :
  loop f 0 = some (if l.all p = true then .out () else .ret false) := by
 have key : ∀ (r a : List Int), l = a ++ r → loop f (a.length : Int) = some (if r.all p = true then .out () else .ret false) := by
  intro r
  induction r with
  | nil => intro a ha; rw [List.append_nil] at ha; rw [← ha, Xmh h0]; rfl
  | cons x r ih =>
   intro a ha
   have hlen : a.length < l.length := by rw [ha]; simp
   have hx : l.getD a.length 0 = x := by rw [ha]; exact Xv1 a x _ r
   have hs := h a.length hlen
   rw [hx] at hs
   cases e : p x with
   | true =>
    rw [e] at hs
    have := ih (a ++ [x]) (by rw [ha]; simp)
    rw [List.length_append, List.length_singleton] at this
    rw [Xiu hs, this, List.all_cons, e, Bool.true_and]
   | false => rw [e] at hs; rw [Xmh hs, List.all_cons, e, Bool.false_and]; rfl
 exact key l [] rfl
theorem Xzw (l : List Int) : Xbq l 64 5000 = some (Xxs l) := by
 unfold Xbq Xxs
 by_cases h : l.length = 64
 ·
  rw [Xcp (by simp only [bne_eq_false_iff_eq]; omega), Xvw Yd2 l (Xdt l 64 5000) (by
   intro i hi
   unfold Xdt
   rw [syA, rqA, wkA (e := 0 - 5000), Xah, Xab, wkA, Int.toNat_natCast]
   rfl) (by unfold Xdt; rw [snA]), Xab, decide_eq_true h, Bool.true_and]
  cases l.all Yd2 <;> rfl
 ·
  rw [Xc1 (by simp only [bne_iff_ne, ne_eq]; omega), decide_eq_false h, Bool.false_and]
theorem Xhi (l : List Int) (n lo hi : Int) (hl : l.length ≤ 9223372036854775806) : Xa8 l n lo hi = some (l.all (fun x => decide (lo ≤ x ∧ x ≤ hi)) && ((l.length : Int) == n)) := by
 unfold Xa8
 rw [Xvw (fun x => decide (lo ≤ x ∧ x ≤ hi)) l (Xhj l lo hi) (by
   intro i hi
   unfold Xhj
   rw [syA, rqA, Xal, Xab, wkA, Int.toNat_natCast]
   rfl) (by unfold Xhj; rw [snA]), Xab]
 cases l.all (fun x => decide (lo ≤ x ∧ x ≤ hi)) <;> rfl
theorem Xl8 (l : List Int) (hl : l.length ≤ 9223372036854775806) : Xdq l = some (Xxs l) := by
 unfold Xdq Xxs
 rw [Xhi l _ _ _ hl, Xab]
 show some (l.all Yd2 && ((l.length : Int) == 64)) = _
 have : ((l.length : Int) == 64) = decide (l.length = 64) := by rw [Bool.eq_iff_iff]; simp only [beq_iff_eq, decide_eq_true_eq]; omega
 rw [this, Bool.and_comm]
theorem Xtl {l : List Int} (h : Xxs l = true) : l.length = 64 ∧ l.all Yd2 = true := by
 unfold Xxs at h; rw [Bool.and_eq_true, decide_eq_true_eq] at h; exact h
def Yk6 (l : List Int) (c : Xdx) : List Int := if (c.Large || c.Exact) = true then Xsd l else Xsd (l.take 16) ++ Xsd ((l.drop 16).take 16) ++ Xsd ((l.drop 32).take 16) ++ Xsd (l.drop 48)
theorem Xlf {l : List Int} (h : l.all Yd2 = true) (n : Nat) : (l.take n).all Yd2 = true := List.all_eq_true.2 fun x hx => List.all_eq_true.1 h x (List.mem_of_mem_take hx)
theorem Xle {l : List Int} (h : l.all Yd2 = true) (n : Nat) : (l.drop n).all Yd2 = true := List.all_eq_true.2 fun x hx => List.all_eq_true.1 h x (List.mem_of_mem_drop hx)
theorem Yfy (l : List Int) (c : Xdx) : Yho (Yk6 l c) := by
 unfold Yk6
 split
 ·
  exact Xoh l
 ·
  exact Xch (Xch (Xch (Xoh _) (Xoh _)) (Xoh _)) (Xoh _)
theorem Xv5 {l : List Int} {c : Xdx} (h : Xxs l = true) : (Yk6 l c).length ≤ 5148 := by
 obtain ⟨h1, h2⟩ := Xtl h
 unfold Yk6
 split
 ·
  have := Xhq l h2 (by omega); omega
 ·
  have a := Xhq (l.take 16) (Xlf h2 _) (by rw [List.length_take]; omega)
  have b := Xhq ((l.drop 16).take 16) (Xlf (Xle h2 _) _) (by rw [List.length_take, List.length_drop]; omega)
  have c := Xhq ((l.drop 32).take 16) (Xlf (Xle h2 _) _) (by rw [List.length_take, List.length_drop]; omega)
  have d := Xhq (l.drop 48) (Xle h2 _) (by rw [List.length_drop]; omega)
  rw [List.length_take] at a
  rw [List.length_take, List.length_drop] at b c
  rw [List.length_drop] at d
  simp only [List.length_append]; omega
theorem Xma (l : List Int) (c : Xdx) (h : Xxs l = true) : Xes l c = some (Yk6 l c) := by
 have hm : maxLen = 9223372036854775807 := rfl
 obtain ⟨h1, h2⟩ := Xtl h
 unfold Xes Yk6
 rw [Ygd, Xab]
 by_cases e : (c.Large || c.Exact) = true
 ·
  rw [Xc1 e, if_pos e, Xua l h2 (by omega), Xab]
 ·
  rw [Xcp (by simpa using e), if_neg e]
  have step : ∀ (n : Nat) (s : List Int), n < 4 → s.length ≤ 4000 → Xb1 l ((n : Int), s) = some (.go (((n + 1 : Nat) : Int), s ++ Xsd ((l.drop (16 * n)).take 16))) := by
   intro n s hn hs
   have g := Xhq ((l.drop (16 * n)).take 16) (Xlf (Xle h2 _) _) (by rw [List.length_take, List.length_drop]; omega)
   rw [List.length_take, List.length_drop] at g
   unfold Xb1
   simp only
   rw [syA, wkA (e := 16 * (n : Int)), wkA (e := 16 * (n : Int) + 16), rqA, show (16 * (n : Int)).toNat = 16 * n by omega, show (16 * (n : Int) + 16).toNat - 16 * n = 16 by omega, Xua _ (Xlf (Xle h2 _) _) (by rw [List.length_take, List.length_drop]; omega), Xab, rqA, wkA]
   rfl
  have g0 := Xhq ((l.drop (16 * 0)).take 16) (Xlf (Xle h2 _) _) (by rw [List.length_take, List.length_drop]; omega)
  have g1 := Xhq ((l.drop (16 * 1)).take 16) (Xlf (Xle h2 _) _) (by rw [List.length_take, List.length_drop]; omega)
  have g2 := Xhq ((l.drop (16 * 2)).take 16) (Xlf (Xle h2 _) _) (by rw [List.length_take, List.length_drop]; omega)
  rw [List.length_take, List.length_drop] at g0 g1 g2
  have l4 : ∀ s, Xb1 l (((4 : Nat) : Int), s) = some (.done s) := by intro s; unfold Xb1; simp only; rw [snA]
  have e : loop (Xb1 l) (((0 : Nat) : Int), []) = some ([] ++ Xsd ((l.drop (16 * 0)).take 16) ++ Xsd ((l.drop (16 * 1)).take 16) ++ Xsd ((l.drop (16 * 2)).take 16) ++ Xsd ((l.drop (16 * 3)).take 16)) := by
   rw [Xiu (step 0 [] (by omega) (by simp)), Xiu (step 1 _ (by omega) (by simp only [List.length_append, List.length_nil]; omega)), Xiu (step 2 _ (by omega) (by simp only [List.length_append, List.length_nil]; omega)), Xiu (step 3 _ (by omega) (by simp only [List.length_append, List.length_nil]; omega)), Xmh (l4 _)]
  refine (Xji e).trans ?_
  rw [List.nil_append, show 16 * 0 = 0 from rfl, List.drop_zero, show (l.drop (16 * 3)).take 16 = l.drop 48 from List.take_of_length_le (by rw [List.length_drop]; omega)]
def Xe0 (c : Xdx) : Bool := decide (0 ≤ c.Qp ∧ c.Qp ≤ 40) && !(c.Large && c.Exact)
theorem Xdr (c : Xdx) : Xiz c = some (Xe0 c) := by
 unfold Xiz Xe0
 rw [Xah, Xab, Ye4, Xgv, Xab]
 cases c.Large <;> cases c.Exact <;> rfl
theorem Xer (c : Xdx) : Xdn c = some (Xe0 c) := by
 unfold Xdn Xe0
 rw [Xal, Xab, Ye4, Xgv, Xab]
 cases c.Large <;> cases c.Exact <;> rfl
def Xqu (s : Xan) : Bool :=
 if s.Kind = 0 then decide (s.Mode = 0 ∧ s.Dx = 0 ∧ s.Dy = 0 ∧ s.Levels.length = 0)
 else if s.Kind = 1 then decide (s.Mode = 0) && (decide (-16 ≤ s.Dx ∧ s.Dx ≤ 16) && (decide (-16 ≤ s.Dy ∧ s.Dy ≤ 16) && Xxs s.Levels))
 else if s.Kind = 2 then decide (0 ≤ s.Mode ∧ s.Mode ≤ 3) && (decide (s.Dx = 0) && (decide (s.Dy = 0) && Xxs s.Levels))
 else false
theorem Yea (a b : Int) : (a == b) = decide (a = b) := by rw [Bool.eq_iff_iff]; simp
theorem Xnw (s : Xan) : Xnf s = some (Xqu s) := by
 unfold Xnf Xqu
 simp only [Xah, Xzw, Xab, Xgv, Yea]
 simp only [Yg9]
 by_cases h0 : s.Kind = 0
 ·
  rw [if_pos h0, if_pos h0]; congr 1; rw [Bool.eq_iff_iff]; simp
 ·
  rw [if_neg h0, if_neg h0]
  by_cases h1 : s.Kind = 1
  ·
   rw [if_pos h1, if_pos h1]
  ·
   rw [if_neg h1, if_neg h1]
   by_cases h2 : s.Kind = 2
   ·
    rw [decide_eq_true h2, Bool.true_and, if_pos h2]
   ·
    rw [decide_eq_false h2, Bool.false_and, if_neg h2]
theorem Xno (s : Xan) (hl : s.Levels.length ≤ 9223372036854775806) : Xfq s = some (Xqu s) := by
 unfold Xfq Xqu
 simp only [Xal, Xl8 _ hl, Xab, Xgv, Yea]
 simp only [Yg9]
 by_cases h0 : s.Kind = 0
 ·
  rw [if_pos h0, if_pos h0]; congr 1; rw [Bool.eq_iff_iff]; simp
 ·
  rw [if_neg h0, if_neg h0]
  by_cases h1 : s.Kind = 1
  ·
   rw [if_pos h1, if_pos h1]
  ·
   rw [if_neg h1, if_neg h1]
   by_cases h2 : s.Kind = 2
   ·
    rw [decide_eq_true h2, Bool.true_and, if_pos h2]
   ·
    rw [decide_eq_false h2, Bool.false_and, if_neg h2]
def Xmq (s : Xan) (c : Xdx) : Bool := !c.Key || s.Kind == 2
def sqL (s : Xan) (c : Xdx) : List Int :=
 (if c.Key = true then [] else ueL s.Kind.toNat) ++
 (if s.Kind = 1 then seL s.Dx ++ seL s.Dy ++ Yk6 s.Levels c else if s.Kind = 2 then ueL s.Mode.toNat ++ Yk6 s.Levels c else [])
theorem Xor {s : Xan} (h : Xqu s = true) : 0 ≤ s.Kind ∧ s.Kind ≤ 2 := by
 unfold Xqu at h
 repeat' split at h
 all_goals first | omega | simp at h
theorem Xso {s : Xan} (h : Xqu s = true) (h1 : s.Kind = 1) : (-16 ≤ s.Dx ∧ s.Dx ≤ 16) ∧ (-16 ≤ s.Dy ∧ s.Dy ≤ 16) ∧ Xxs s.Levels = true := by
 unfold Xqu at h
 rw [if_neg (by omega), if_pos h1] at h
 simp only [Bool.and_eq_true, decide_eq_true_eq] at h
 exact ⟨h.2.1, h.2.2.1, h.2.2.2⟩
theorem Xv8 {s : Xan} (h : Xqu s = true) (h1 : s.Kind = 2) : (0 ≤ s.Mode ∧ s.Mode ≤ 3) ∧ Xxs s.Levels = true := by
 unfold Xqu at h
 rw [if_neg (by omega), if_neg (by omega), if_pos h1] at h
 simp only [Bool.and_eq_true, decide_eq_true_eq] at h
 exact ⟨h.1, h.2.2.2⟩
theorem Yl5 (s : Xan) (c : Xdx) : Yho (sqL s c) := by
 unfold sqL
 refine Xch ?_ ?_
 ·
  split
  ·
   exact Xvy
  ·
   exact Xh9 _
 ·
  split
  ·
   exact Xch (Xch (Xh9 _) (Xh9 _)) (Yfy _ _)
  ·
   split
   ·
    exact Xch (Xh9 _) (Yfy _ _)
   ·
    exact Xvy
theorem Yl6 {s : Xan} {c : Xdx} (h : Xqu s = true) : (sqL s c).length ≤ 5265 := by
 have hk := Xor h
 have u := Xla s.Kind.toNat (by omega)
 have e1 : (if c.Key = true then [] else ueL s.Kind.toNat).length ≤ 39 := by split; simp; exact u.1
 unfold sqL
 rw [List.length_append]
 by_cases h1 : s.Kind = 1
 ·
  obtain ⟨a, b, d⟩ := Xso h h1
  have x := Xto s.Dx (by omega)
  have y := Xto s.Dy (by omega)
  have z := Xv5 (c := c) d
  rw [if_pos h1]; simp only [List.length_append]; omega
 ·
  by_cases h2 : s.Kind = 2
  ·
   obtain ⟨a, d⟩ := Xv8 h h2
   have x := Xla s.Mode.toNat (by omega)
   have z := Xv5 (c := c) d
   rw [if_neg h1, if_pos h2]; simp only [List.length_append]; omega
  ·
   rw [if_neg h1, if_neg h2]; simp only [List.length_nil]; omega
theorem Xte (s : Xan) (c : Xdx) (hl : s.Levels.length ≤ 9223372036854775806) : Xgb s c = some (if (Xqu s && (Xe0 c && Xmq s c)) = true then (strOfNums (sqL s c), true) else (⟨#[]⟩, false)) := by
 have hm : maxLen = 9223372036854775807 := rfl
 unfold Xgb Xc0
 rw [Xno s hl, Xab, Xer, Xab, Ye4, Xab, Xab]
 by_cases hok : (Xqu s && (Xe0 c && Xmq s c)) = true
 ·
  rw [if_pos hok]
  simp only [Bool.and_eq_true] at hok
  obtain ⟨h, hc, hlet⟩ := hok
  have hk := Xor h
  have u := Xla s.Kind.toNat (by omega)
  unfold Xmq at hlet
  rw [h, hc, Xaz, Xaz, hlet, Xab, Bool.not_true, Xav]
  have e1 : (sel (!c.Key) (bnd (Xj7 s.Kind) fun q6 => req ((([] : List Int).length + (Xax q6).length) * 1 ≤ 140737488355328 ∧ ([] : List Int).length + (Xax q6).length ≤ maxLen) <| some (([] : List Int) ++ (Xax q6))) (some ([] : List Int))) = some (if c.Key = true then [] else ueL s.Kind.toNat) := by
   rw [show s.Kind = ((s.Kind.toNat : Nat) : Int) by omega, Xir _ (by omega), Xab, Xln _ (Xjh (Xh9 _)), Xbb (by simp only [List.length_nil]; omega), Int.toNat_natCast]
   cases c.Key <;> rfl
  rw [e1, Xab]
  have e2 : (if c.Key = true then [] else ueL s.Kind.toNat).length ≤ 39 := by split; simp; exact u.1
  unfold sqL
  generalize (if c.Key = true then [] else ueL s.Kind.toNat) = k at e2 ⊢
  by_cases h1 : s.Kind = 1
  ·
   obtain ⟨a, b, d⟩ := Xso h h1
   have x := Xto s.Dx (by omega)
   have y := Xto s.Dy (by omega)
   have z := Xv5 (c := c) d
   rw [if_pos h1, Xc1 (by simpa using h1), Xm2 _ (by omega), Xab, Xm2 _ (by omega), Xab]
   simp only
   rw [Xln (seL s.Dx) (Xjh (Xh9 _)), Xln (seL s.Dy) (Xjh (Xh9 _)), rqA, Xbb (by rw [List.length_append]; omega), Xma _ c d, Xab, Xbb (by simp only [List.length_append]; omega), Xab]
   simp only [List.append_assoc]
  ·
   rw [if_neg h1, Xcp (by simpa using h1)]
   by_cases h2 : s.Kind = 2
   ·
    obtain ⟨a, d⟩ := Xv8 h h2
    have x := Xla s.Mode.toNat (by omega)
    have z := Xv5 (c := c) d
    rw [if_pos h2, Xc1 (by simpa using h2), show s.Mode = ((s.Mode.toNat : Nat) : Int) by omega, Xir _ (by omega), Xab, Xln _ (Xjh (Xh9 _)), rqA, Xma _ c d, Xab, Xbb (by simp only [List.length_append]; omega), Xab, Int.toNat_natCast]
    simp only [List.append_assoc]
   ·
    rw [if_neg h2, Xcp (by simpa using h2), Xab, List.append_nil]
 ·
  rw [if_neg hok]
  unfold Xmq at hok
  cases h1 : Xqu s <;> cases h2 : Xe0 c <;> cases h3 : (!c.Key || s.Kind == 2) <;> simp_all [bnd, sel]
def Xys : List Xan → Xdx → List Int
 | [], _ => []
 | s :: r, c => sqL s c ++ Xys r c
def Ydy (l : List Xan) (c : Xdx) : Bool := l.all fun s => Xqu s && (Xe0 c && Xmq s c)
def Yfb (l : List Xan) (c : Xdx) : ByteArray × Bool := if (decide (1 ≤ l.length ∧ l.length ≤ 64) && Ydy l c) = true then (strOfNums (Xys l c), true) else (⟨#[]⟩, false)
theorem Xxd (l : List Xan) (c : Xdx) (hs : ∀ s ∈ l, s.Levels.length ≤ 9223372036854775806) : Xjn l c = some (Yfb l c) := by
 have hm : maxLen = 9223372036854775807 := rfl
 unfold Xjn Yfb
 rw [Xal, Xab, Ye3]
 by_cases hl : 1 ≤ l.length ∧ l.length ≤ 64
 ·
  rw [syA, decide_eq_true hl, Bool.true_and]
  have key : ∀ (r a : List Xan) (t : List Int), l = a ++ r → t.length ≤ 5265 * a.length → loop (Xd1 l c) ((a.length : Int), t) = some (if Ydy r c = true then .out (t ++ Xys r c) else .ret (⟨#[]⟩, false)) := by
   intro r
   induction r with
   | nil =>
    intro a t ha _
    rw [List.append_nil] at ha
    exact Xkx (by unfold Xd1; simp only; rw [Xao (by rw [ha]; omega), Xys, List.append_nil]; rfl)
   | cons s r ih =>
    intro a t ha ht
    have hlen : a.length < l.length := by rw [ha]; simp
    have hx : l.getD a.length Xp0 = s := by rw [ha]; exact Xv1 a s _ r
    have hone : Ydy (s :: r) c = ((Xqu s && (Xe0 c && Xmq s c)) && Ydy r c) := by unfold Ydy; rw [List.all_cons]
    have hrow := Xte s c (hs s (by rw [ha]; simp))
    rw [hone]
    cases e : (Xqu s && (Xe0 c && Xmq s c)) with
    | true =>
     rw [e, if_pos rfl] at hrow
     have hok : Xqu s = true := by rw [Bool.and_eq_true] at e; exact e.1
     have g := Yl6 (c := c) hok
     have hn := ih (a ++ [s]) (t ++ sqL s c) (by rw [ha]; simp) (by simp only [List.length_append, List.length_singleton]; omega)
     rw [List.length_append, List.length_singleton] at hn
     rw [Bool.true_and, Xys, ← List.append_assoc, ← hn]
     refine Xiu ?_
     unfold Xd1
     simp only [Int.toNat_natCast, hx]
     rw [syA, rqA, show (⟨s.Kind, s.Mode, s.Dx, s.Dy, s.Levels⟩ : Xan) = s from rfl, hrow, Xab, Ye3, Xaz, Xln _ (Xjh (Yl5 _ _)), rqA, wkA]
     rfl
    | false =>
     rw [e, if_neg (by decide)] at hrow
     rw [Bool.false_and, if_neg (by decide)]
     refine Xkx ?_
     unfold Xd1
     simp only [Int.toNat_natCast, hx]
     rw [syA, rqA, show (⟨s.Kind, s.Mode, s.Dx, s.Dy, s.Levels⟩ : Xan) = s from rfl, hrow, Xab, Ye3, Xav]
  refine (Xji (key l [] [] rfl (by simp))).trans ?_
  cases Ydy l c <;> rfl
 ·
  rw [snA, decide_eq_false hl, Bool.false_and]; rfl
theorem Yau (b : ByteArray) (i : Int) : 0 ≤ Yeb b i ∧ Yeb b i ≤ 255 := by
 unfold Yeb
 split
 ·
  rename_i h
  have := (b[i.toNat]'h).toNat_lt
  omega
 ·
  omega
theorem Xa6 {p : Pic} (h : Xce p = true) : (1 ≤ p.Wide ∧ p.Wide ≤ 256) ∧ (1 ≤ p.High ∧ p.High ≤ 256) ∧ (p.Dots.size : Int) = p.Wide * p.High := by
 unfold Xce at h
 simp only [Bool.and_eq_true, decide_eq_true_eq, beq_iff_eq] at h
 exact ⟨h.1, h.2.1, h.2.2⟩
theorem Xr8 {p : Pic} (h1 : 1 ≤ p.Wide ∧ p.Wide ≤ 256) (h2 : 1 ≤ p.High ∧ p.High ≤ 256) (h3 : (p.Dots.size : Int) = p.Wide * p.High) : Xce p = true := by
 unfold Xce
 simp only [Bool.and_eq_true, decide_eq_true_eq, beq_iff_eq]
 exact ⟨h1, h2, h3⟩
def Xmv (p : Pic) (x y : Int) : Int := Yeb p.Dots (Xbs y 0 (p.High - 1) * p.Wide + Xbs x 0 (p.Wide - 1))
theorem Xmw (p : Pic) (x y : Int) : 0 ≤ Xmv p x y ∧ Xmv p x y ≤ 255 := Yau _ _
theorem Ycm {p : Pic} (ok : Xce p = true) (x y : Int) : 0 ≤ Xbs y 0 (p.High - 1) * p.Wide + Xbs x 0 (p.Wide - 1) ∧ Xbs y 0 (p.High - 1) * p.Wide + Xbs x 0 (p.Wide - 1) < p.Dots.size ∧ 0 ≤ Xbs y 0 (p.High - 1) * p.Wide ∧ Xbs y 0 (p.High - 1) * p.Wide ≤ 65536 := by
 obtain ⟨h1, h2, h3⟩ := Xa6 ok
 have b1 := Xkg (n := y) (a := 0) (b := p.High - 1) (by omega)
 have b2 := Xkg (n := x) (a := 0) (b := p.Wide - 1) (by omega)
 have m1 := Int.mul_nonneg b1.1 (show 0 ≤ p.Wide by omega)
 have m2 := Int.mul_le_mul_of_nonneg_right b1.2 (show 0 ≤ p.Wide by omega)
 have m3 : (p.High - 1) * p.Wide = p.Wide * p.High - p.Wide := by rw [Int.sub_mul, Int.one_mul, Int.mul_comm]
 have m4 := (Xep h1 h2).2
 omega
theorem Xxg {p : Pic} (ok : Xce p = true) (x y : Int) : Xdj p x y = some (Xmv p x y) := by
 obtain ⟨h1, h2, h3⟩ := Xa6 ok
 unfold Xdj Xmv
 rw [Xhc, Xab, Xhc, Xab, wkA (e := p.High - 1), wkA (e := p.Wide - 1)]
 obtain ⟨p1, p2, p3, p4⟩ := Ycm ok x y
 have b2 := Xkg (n := x) (a := 0) (b := p.Wide - 1) (by omega)
 have br := Yau p.Dots (Xbs y 0 (p.High - 1) * p.Wide + Xbs x 0 (p.Wide - 1))
 rw [wkA (e := Xbs y 0 (p.High - 1) * p.Wide), wkA (e := Xbs y 0 (p.High - 1) * p.Wide + Xbs x 0 (p.Wide - 1)), Xbb ⟨p1, p2⟩, wkA]
theorem Xfv {p : Pic} (ok : Xce p = true) (x y : Int) : Xdb p x y = some (Xmv p x y) := by
 obtain ⟨h1, h2, h3⟩ := Xa6 ok
 unfold Xdb Xmv
 rw [Xek, Xab, ok, Bool.not_true, Xav, Xc2, Xab, Xc2, Xab, wkA (e := p.High - 1), wkA (e := p.Wide - 1)]
 obtain ⟨p1, p2, p3, p4⟩ := Ycm ok x y
 have b2 := Xkg (n := x) (a := 0) (b := p.Wide - 1) (by omega)
 have br := Yau p.Dots (Xbs y 0 (p.High - 1) * p.Wide + Xbs x 0 (p.Wide - 1))
 rw [wkA (e := Xbs y 0 (p.High - 1) * p.Wide), wkA (e := Xbs y 0 (p.High - 1) * p.Wide + Xbs x 0 (p.Wide - 1)), Xbb ⟨p1, p2⟩, wkA]
def Ygr (p : Pic) (x y : Int) (i : Nat) : Int := Xmv p (x + ((i % 8 : Nat) : Int)) (y + ((i / 8 : Nat) : Int))
def Xlb (p : Pic) (x y : Int) (n : Nat) : List Int := (List.range n).map (Ygr p x y)
theorem Yci (p : Pic) (x y : Int) (n : Nat) : Xlb p x y (n + 1) = Xlb p x y n ++ [Ygr p x y n] := by simp [Xlb, List.range_succ]
theorem Xpz (p : Pic) (x y : Int) (n : Nat) : (Xlb p x y n).length = n := by simp [Xlb]
def Yef (x : Int) : Bool := decide (0 ≤ x ∧ x ≤ 255)
def Xbc (l : List Int) : Bool := decide (l.length = 64) && l.all Yef
theorem Xba {l : List Int} (h : Xbc l = true) : l.length = 64 ∧ ∀ i : Nat, i < 64 → 0 ≤ l.getD i 0 ∧ l.getD i 0 ≤ 255 := by
 simp only [Xbc, Bool.and_eq_true, decide_eq_true_eq] at h
 refine ⟨h.1, fun i hi => ?_⟩
 have := List.all_eq_true.1 h.2 (l.getD i 0) (by rw [Xee l i (by omega)]; exact List.getElem_mem _)
 simpa [Yef] using this
theorem Xf4 (p : Pic) (x y : Int) : Xbc (Xlb p x y 64) = true := by
 simp only [Xbc, Xpz, decide_true, Bool.true_and, List.all_eq_true]
 intro z hz
 obtain ⟨i, _, rfl⟩ := List.mem_map.1 hz
 simp only [Yef, decide_eq_true_eq]
 exact Xmw _ _ _
theorem Xfc {p : Pic} (ok : Xce p = true) (x y : Int) (hx : -1000 ≤ x ∧ x ≤ 1000) (hy : -1000 ≤ y ∧ y ≤ 1000) : Xg6 p x y = some (Xlb p x y 64) := by
 have hm : maxLen = 9223372036854775807 := rfl
 unfold Xg6
 rw [Xek, Xab, ok, Xaz, Xah, Xab, syA, Xah, Xab, Xab, decide_eq_true (by omega), Bool.not_true, Xav]
 have key : ∀ i : Nat, i ≤ 64 → loop (Xht p x y) ((i : Int), Xlb p x y i) = some (Xlb p x y 64) := by
  refine Xic _ ?_ ?_
  ·
   exact Xkx (by unfold Xht; rw [Xao (by simp)])
  ·
   intro i hi ih
   refine lgo (y := (((i + 1 : Nat) : Int), Xlb p x y (i + 1))) ?_ ih
   unfold Xht
   simp only
   rw [syA, rqA, rqA, Xcg (by omega), Xbx (by omega), wkA (e := (i : Int) / 8), wkA (e := x + (i : Int) % 8), wkA (e := y + (i : Int) / 8), Xfv ok, Xab, Xbb (by rw [Xpz]; simp only [List.length_singleton]; omega), wkA (e := (i : Int) + 1)]
   have e2 : Xmv p (x + (i : Int) % 8) (y + (i : Int) / 8) = Ygr p x y i := by unfold Ygr; congr 1
   rw [e2, ← Yci]
   rfl
 have := key 0 (by omega)
 exact (Xji this).trans rfl
theorem Xeh {p : Pic} (ok : Xce p = true) (x y : Int) (hx : -1000 ≤ x ∧ x ≤ 1000) (hy : -1000 ≤ y ∧ y ≤ 1000) : Xbf p x y = some (Xlb p x y 64) := by
 have hm : maxLen = 9223372036854775807 := rfl
 unfold Xbf
 rw [rqA]
 have key : ∀ r : Nat, r ≤ 8 → loop (Xdh p x y) ((r : Int), Xlb p x y (8 * r)) = some (Xlb p x y 64) := by
  refine Xic _ ?_ ?_
  ·
   exact Xkx (by unfold Xdh; rw [Xao (by simp)])
  ·
   intro r hr ih
   refine lgo (y := (((r + 1 : Nat) : Int), Xlb p x y (8 * (r + 1)))) ?_ ih
   unfold Xdh
   simp only
   have inner : ∀ c : Nat, c ≤ 8 → loop (Xdi p x y ((r : Int), Xlb p x y (8 * r))) ((c : Int), Xlb p x y (8 * r + c)) = some (Xlb p x y (8 * (r + 1))) := by
    refine Xic _ ?_ ?_
    ·
     exact Xkx (by unfold Xdi; rw [Xao (by simp)]; rfl)
    ·
     intro c hc ih2
     refine lgo (y := (((c + 1 : Nat) : Int), Xlb p x y (8 * r + (c + 1)))) ?_ ih2
     unfold Xdi
     simp only
     rw [syA, wkA (e := x + (c : Int)), wkA (e := y + (r : Int)), Xxg ok, Xab, Xbb (by rw [Xpz]; simp only [List.length_singleton]; omega), wkA (e := (c : Int) + 1)]
     have e2 : Xmv p (x + (c : Int)) (y + (r : Int)) = Ygr p x y (8 * r + c) := by
      unfold Ygr
      rw [show (8 * r + c) % 8 = c by omega, show (8 * r + c) / 8 = r by omega]
     rw [e2, ← Yci]
     rfl
   have i0 := inner 0 (by omega)
   rw [syA]
   refine (Xji i0).trans ?_
   rw [wkA (e := (r : Int) + 1)]
   rfl
 have := key 0 (by omega)
 exact (Xji this).trans rfl
def Xt6 (x : Int) : Int := if x < 0 then -x else x
def Xko (a b : List Int) : Nat → Int
 | 0 => 0
 | n + 1 => Xko a b n + Xt6 (a.getD n 0 - b.getD n 0)
theorem Xgy {a b : List Int} (ha : Xbc a = true) (hb : Xbc b = true) : ∀ n : Nat, n ≤ 64 → 0 ≤ Xko a b n ∧ Xko a b n ≤ 255 * n
 | 0, _ => by simp [Xko]
 | n + 1, h => by
  have ih := Xgy ha hb n (by omega)
  have p := (Xba ha).2 n (by omega)
  have q := (Xba hb).2 n (by omega)
  simp only [Xko, Xt6]
  split <;> omega
theorem Xm4 {a b : List Int} (ha : Xbc a = true) (hb : Xbc b = true) : Xlj a b = some (Xko a b 64) := by
 unfold Xlj
 have la := (Xba ha).1
 have lb := (Xba hb).1
 have key : ∀ i : Nat, i ≤ 64 → loop (Xkr a b) (Xko a b i, (i : Int)) = some (Xko a b 64) := by
  refine Xic _ ?_ ?_
  ·
   exact Xkx (by unfold Xkr; rw [Xao (by simp only; omega)])
  ·
   intro i hi ih
   refine lgo (y := (Xko a b (i + 1), ((i + 1 : Nat) : Int))) ?_ ih
   have p := (Xba ha).2 i hi
   have q := (Xba hb).2 i hi
   have g := Xgy ha hb i (by omega)
   unfold Xkr Xjo
   simp only [Int.toNat_natCast]
   rw [syA, rqA, rqA, wkA (e := a.getD i 0 - b.getD i 0), wkA (e := 0 - (a.getD i 0 - b.getD i 0)), Xab]
   have e : (if 0 - (a.getD i 0 - b.getD i 0) > a.getD i 0 - b.getD i 0 then 0 - (a.getD i 0 - b.getD i 0) else a.getD i 0 - b.getD i 0) = Xt6 (a.getD i 0 - b.getD i 0) := by
    unfold Xt6; split <;> split <;> omega
   have ab : 0 ≤ Xt6 (a.getD i 0 - b.getD i 0) ∧ Xt6 (a.getD i 0 - b.getD i 0) ≤ 255 := by unfold Xt6; split <;> omega
   rw [e, wkA (e := Xko a b i + Xt6 (a.getD i 0 - b.getD i 0)), wkA (e := (i : Int) + 1)]
   rfl
 exact (Xji (key 0 (by omega))).trans rfl
theorem Xe5 (l : List Int) (hl : l.length ≤ 9223372036854775806) : Xa8 l 64 0 255 = some (Xbc l) := by
 rw [Xhi l _ _ _ hl]
 have : ((l.length : Int) == 64) = decide (l.length = 64) := by rw [Bool.eq_iff_iff]; simp only [beq_iff_eq, decide_eq_true_eq]; omega
 rw [this, Bool.and_comm]
 rfl
def Ye2 (d : Int) : Int := ((seL d).length : Int)
theorem Xi5 (d : Int) (h : -500000 ≤ d ∧ d ≤ 500000) : Xii d = some (Ye2 d) := by
 unfold Xii Ye2
 rw [Xm2 d h, Xab, strOfNums_size]
theorem Xo1 (d : Int) (h : -500000 ≤ d ∧ d ≤ 500000) : 1 ≤ Ye2 d ∧ Ye2 d ≤ 39 := by
 unfold Ye2 seL
 have := Xla (Xwo d) (Xq4 d h)
 omega
theorem Yi0 : Ye2 0 = 1 := by
 have : Xwo 0 = 0 := by simp [Xwo]
 unfold Ye2 seL ueL
 rw [this, List.length_append, Yas]
 simp [Xul]
theorem Xyj (c : Xa3) (n : Int) (hc : Xj1 c) (h0 : 0 ≤ n) (h1 : n ≤ 100000) : ∃ s c', Xju c n = some (s, c') ∧ (s.size : Int) = n ∧ Xj1 c' := by
 have hm : maxLen = 9223372036854775807 := rfl
 unfold Xju
 obtain ⟨z, c0, ez, z0, z1, hz⟩ := Xcd c hc
 rw [ez, Xab]
 simp only
 obtain ⟨o, h, h2, h3⟩ := Xlm (f := Xh2 n) (fun v => (0 ≤ v.1 ∧ v.1 ≤ 255) ∧ 0 ≤ v.2.1 ∧ v.2.1 ≤ n ∧ Xj1 ⟨v.2.2.1, v.2.2.2.1, v.2.2.2.2.1⟩ ∧ (v.2.2.2.2.2.length : Int) = v.2.1) (fun v => (n - v.2.1).toNat) (fun _ o => (o.1.length : Int) = n ∧ Xj1 ⟨o.2.1, o.2.2.1, o.2.2.2⟩) (by
  intro ⟨w, i, b, j, h, l⟩ ⟨hw, h1, h2, h3, h4⟩
  unfold Xh2
  simp only at hw h1 h2 h3 h4 ⊢
  by_cases hi : i < n
  ·
   rw [Xbj hi]
   obtain ⟨x, c', ex, x0, x1, _, hx⟩ := Xa5 _ 6 h3
   rw [ex, Xab]
   simp only
   have step : ∃ w' c2, (sel (x == 0) (bnd (Xbm c') fun q16 => some (q16.1, q16.2.b_, q16.2.i_, q16.2.h_)) (sel (x == 1) (bnd (Xa0 c' 9) fun q17 => some ((IntKind.wrap .i64 (BitVec.ofInt (IntKind.bits .i64) (Xaa .i64 ((Xaa .i64 (w + q17.1)) + 252)) &&& BitVec.ofInt (IntKind.bits .i64) 255).toNat), q17.2.b_, q17.2.i_, q17.2.h_)) (some (w, c'.b_, c'.i_, c'.h_)))) = some (w', c2.b_, c2.i_, c2.h_) ∧ (0 ≤ w' ∧ w' ≤ 255) ∧ Xj1 c2 := by
    cases e0 : (x == 0) with
    | true =>
     obtain ⟨y, c2, ey, y0, y1, hy⟩ := Xcd c' hx
     rw [Xaz, ey, Xab]
     exact ⟨y, c2, rfl, ⟨y0, y1⟩, hy⟩
    | false =>
     rw [Xav]
     cases e1 : (x == 1) with
     | true =>
      obtain ⟨y, c2, ey, y0, y1, _, hy⟩ := Xa5 c' 9 hx
      rw [Xaz, ey, Xab]
      exact ⟨_, c2, rfl, Xwi _, hy⟩
     | false => rw [Xav]; exact ⟨w, c', rfl, hw, hx⟩
   obtain ⟨w', c2, es, hw', hc2⟩ := step
   rw [es, Xab, Xbb (by rw [hm]; simp only [List.length_singleton]; omega)]
   refine .inr ⟨_, rfl, ?_, ?_, fun _ h => h⟩
   ·
    simp only
    rw [wkA (e := i + 1)]
    exact ⟨hw', by omega, by omega, hc2, by simp; omega⟩
   ·
    simp only; rw [wkA (e := i + 1)]; omega
  ·
   rw [Xao hi]
   exact .inl ⟨_, rfl, by simp only; omega, h3⟩) (z, 0, c0.b_, c0.i_, c0.h_, []) ⟨⟨z0, z1⟩, by simp, h0, hz, by simp⟩
 rw [h, Xab]
 exact ⟨_, _, rfl, by rw [strOfNums_size]; exact h2, h3⟩
theorem Xvr (c : Xa3) (w h : Int) (hc : Xj1 c) (hw : 1 ≤ w ∧ w ≤ 256) (hh : 1 ≤ h ∧ h ≤ 256) : ∃ p c', Xh3 c w h = some (p, c') ∧ p.Wide = w ∧ p.High = h ∧ Xce p = true ∧ Xj1 c' := by
 have a := Xep hw hh
 unfold Xh3
 rw [wkA (e := w * h)]
 obtain ⟨s, c', e, hs, hc'⟩ := Xyj c (w * h) hc (by omega) (by omega)
 rw [e, Xab]
 exact ⟨_, _, rfl, rfl, rfl, Xr8 hw hh hs, hc'⟩
theorem Xsn (c : Xa3) (hc : Xj1 c) : ∃ p c', Xfk c = some (p, c') ∧ (p.Wide = 8 ∨ p.Wide = 16) ∧ (p.High = 8 ∨ p.High = 16) ∧ Xce p = true ∧ Xj1 c' := by
 unfold Xfk
 obtain ⟨x, c1, e1, x0, x1, _, h1⟩ := Xa5 c 2 hc
 obtain ⟨y, c2, e2, y0, y1, _, h2⟩ := Xa5 c1 2 h1
 have x1' := x1 (by omega)
 have y1' := y1 (by omega)
 rw [e1, Xab]
 simp only
 rw [e2, Xab]
 simp only
 rw [wkA (e := 8 * x), wkA (e := 8 + 8 * x), wkA (e := 8 * y), wkA (e := 8 + 8 * y)]
 obtain ⟨p, c3, e3, pw, ph, ok, h3⟩ := Xvr c2 (8 + 8 * x) (8 + 8 * y) h2 (by omega) (by omega)
 rw [e3, Xab]
 exact ⟨_, _, rfl, by simp only; omega, by simp only; omega, ok, h3⟩
theorem Xyp (c : Xa3) (p : Pic) (hc : Xj1 c) (ok : Xce p = true) : ∃ q c', Xjx c p = some (q, c') ∧ q.Wide = p.Wide ∧ q.High = p.High ∧ Xce q = true ∧ Xj1 c' := by
 have hm : maxLen = 9223372036854775807 := rfl
 obtain ⟨k1, k2, k3⟩ := Xa6 ok
 have ar := Xep k1 k2
 unfold Xjx
 obtain ⟨x, c1, e1, x0, x1, _, h1⟩ := Xa5 c 7 hc
 obtain ⟨y, c2, e2, y0, y1, _, h2⟩ := Xa5 c1 5 h1
 obtain ⟨z, c3, e3, h3⟩ := Xk5 c2 3 h2
 have x1' := x1 (by omega)
 have y1' := y1 (by omega)
 rw [e1, Xab]
 simp only
 rw [e2, Xab]
 simp only
 rw [e3, Xab]
 simp only
 rw [wkA (e := x - 3), wkA (e := y - 2)]
 have hv : ∃ a b : Int, (-10 ≤ a ∧ a ≤ 10) ∧ (-10 ≤ b ∧ b ≤ 10) ∧ sel z (some ((0 : Int), (0 : Int), c3.b_, c3.i_, c3.h_)) (some (x - 3, y - 2, c3.b_, c3.i_, c3.h_)) = some (a, b, c3.b_, c3.i_, c3.h_) := by
  cases z with
  | true => exact ⟨0, 0, by omega, by omega, rfl⟩
  | false => exact ⟨x - 3, y - 2, by omega, by omega, rfl⟩
 obtain ⟨a, b, ha, hb, hv⟩ := hv
 rw [hv, Xab]
 obtain ⟨o, h, ho⟩ := Xlm (f := Xh6 p (a, b, c3.b_, c3.i_, c3.h_)) (fun v => 0 ≤ v.1 ∧ v.1 ≤ (p.Dots.size : Int) ∧ (v.2.length : Int) = v.1) (fun v => ((p.Dots.size : Int) - v.1).toNat) (fun _ o => (o.length : Int) = (p.Dots.size : Int)) (by
  intro ⟨i, l⟩ ⟨g1, g2, g3⟩
  unfold Xh6
  simp only at g1 g2 g3 ⊢
  by_cases hi : i < (p.Dots.size : Int)
  ·
   rw [Xbj hi, rqA, rqA, Xfv ok, Xab, Xbb (by rw [hm]; simp only [List.length_singleton]; omega), wkA (e := i + 1)]
   exact .inr ⟨_, rfl, ⟨by simp only; omega, by simp only; omega, by simp; omega⟩, by simp only; omega, fun _ h => h⟩
  ·
   rw [Xao hi]
   exact .inl ⟨_, rfl, by omega⟩) (0, []) ⟨by simp, by simp, by simp⟩
 rw [h, Xab]
 obtain ⟨o2, h', g1, g2⟩ := Xlm (f := Xh7) (fun v => 0 ≤ v.1 ∧ v.1 ≤ 6 ∧ Xj1 ⟨v.2.1, v.2.2.1, v.2.2.2.1⟩ ∧ (v.2.2.2.2.length : Int) = p.Dots.size) (fun v => (6 - v.1).toNat) (fun _ o => (o.1.length : Int) = p.Dots.size ∧ Xj1 ⟨o.2.1, o.2.2.1, o.2.2.2⟩) (by
  intro ⟨i, b, j, h, l⟩ ⟨g1, g2, g3, g4⟩
  unfold Xh7
  simp only at g1 g2 g3 g4 ⊢
  obtain ⟨x, c', ex, x0, x1, _, hx⟩ := Xa5 _ 6 g3
  have x1' := x1 (by omega)
  rw [ex, Xab]
  simp only
  by_cases hi : i < x
  ·
   obtain ⟨y, c2, ey, y0, y1, _, hy⟩ := Xa5 c' l.length hx
   have y1' := y1 (by omega)
   obtain ⟨z, c3, ez, z0, z1, hz⟩ := Xcd c2 hy
   rw [Xbj hi, ey, Xab]
   simp only
   rw [ez, Xab]
   simp only
   rw [rqA, rqA, wkA (e := i + 1)]
   exact .inr ⟨_, rfl, ⟨by simp only; omega, by simp only; omega, hz, by simp only [List.length_set]; omega⟩, by simp only; omega, fun _ h => h⟩
  ·
   rw [Xao hi]
   exact .inl ⟨_, rfl, g4, hx⟩) (0, c3.b_, c3.i_, c3.h_, o) ⟨by simp, by simp, h3, by simp only; omega⟩
 rw [h', Xab]
 refine ⟨_, _, rfl, rfl, rfl, Xr8 k1 k2 ?_, g2⟩
 simp only
 rw [strOfNums_size]; omega
theorem Xvj (b : List Int) (hb : b.length ≤ 1048576) : ∃ p q, Xhv b = some (p, q) ∧ (p.Wide = 8 ∨ p.Wide = 16) ∧ (p.High = 8 ∨ p.High = 16) ∧ Xce p = true ∧ q.Wide = p.Wide ∧ q.High = p.High ∧ Xce q = true := by
 unfold Xhv
 obtain ⟨c, e, hc⟩ := Xl3 b hb
 obtain ⟨p, c1, e1, pw, ph, ok, h1⟩ := Xsn c hc
 obtain ⟨q, c2, e2, qw, qh, ok2, _⟩ := Xyp c1 p h1 ok
 rw [e, Xab, e1, Xab]
 simp only
 rw [e2, Xab]
 exact ⟨_, _, rfl, pw, ph, ok, qw, qh, ok2⟩
def Xcb (p : Pic) (x y : Int) : Bool := decide (0 ≤ x ∧ x ≤ p.Wide - 8 ∧ 0 ≤ y ∧ y ≤ p.High - 8)
theorem Xt8 {p : Pic} (ok : Xce p = true) (x y : Int) : Xf9 p ⟨x, y, 8, 8⟩ = some (Xcb p x y) := by
 obtain ⟨k1, k2, k3⟩ := Xa6 ok
 unfold Xf9 Xcb
 simp only
 rw [Xal, Xab, Xal, Xab, wkA (e := p.Wide - 8), wkA (e := p.High - 8), Xal, Xab, Xal, Xab]
 simp only [Xgv, Xab]
 congr 1
 rw [Bool.eq_iff_iff]
 simp only [Bool.and_eq_true, decide_eq_true_eq]
 omega
theorem Xj5 {p : Pic} (ok : Xce p = true) (x y : Int) (hx : x.tmod 8 = 0) (hy : y.tmod 8 = 0) (h : Xcb p x y = true) : Xbg p x y = some true := by
 obtain ⟨k1, k2, k3⟩ := Xa6 ok
 unfold Xcb at h
 rw [decide_eq_true_eq] at h
 unfold Xbg
 rw [rqA, hx, rqA, hy, wkA (e := p.Wide - 8), wkA (e := p.High - 8), Xal, Xab, Xal, Xab, decide_eq_true (by omega), decide_eq_true (by omega)]
 rfl
def Xi8 (p : Pic) (w : List Int) (x y dx dy : Int) : Int := Xko w (Xlb p (x + dx) (y + dy) 64) 64 + Ye2 dx + Ye2 dy
def BmI (p : Pic) (w : List Int) (x y r : Int) (past : Bool) (b : Int × Int × Int) : Prop :=
 (b = (0, 0, -1) ∧ past = false) ∨
 ((-r ≤ b.1 ∧ b.1 ≤ r) ∧ (-r ≤ b.2.1 ∧ b.2.1 ≤ r) ∧ Xcb p (x + b.1) (y + b.2.1) = true ∧ b.2.2 = Xi8 p w x y b.1 b.2.1 ∧ (past = true → b.2.2 ≤ Xi8 p w x y 0 0))
theorem Xpn {p : Pic} {w : List Int} (hw : Xbc w = true) (x y dx dy : Int) (hx : -100 ≤ dx ∧ dx ≤ 100) (hy : -100 ≤ dy ∧ dy ≤ 100) : 2 ≤ Xi8 p w x y dx dy ∧ Xi8 p w x y dx dy ≤ 20000 := by
 have g := Xgy hw (Xf4 p (x + dx) (y + dy)) 64 (by omega)
 have a := Xo1 dx (by omega)
 have b := Xo1 dy (by omega)
 unfold Xi8; omega
theorem Ylk {p : Pic} {w : List Int} {x y r : Int} (ok : Xce p = true) (hw : Xbc w = true) (hr : 0 ≤ r ∧ r ≤ 4) (h0 : Xcb p x y = true) (s : Int × Int × Int × Int) (hs : -r ≤ s.2.2.2 ∧ s.2.2.2 ≤ r) (v : Int × Int × Int × Int) (hv : -r ≤ v.2.2.2 ∧ v.2.2.2 ≤ r)
  (past : Bool) (hi : BmI p w x y r past (v.1, v.2.1, v.2.2.1)) (hp : past = true ↔ (s.2.2.2 > 0 ∨ (s.2.2.2 = 0 ∧ v.2.2.2 > 0))) :
  ∃ b, Xbz p w x y r s v = some (.go (b.1, b.2.1, b.2.2, v.2.2.2 + 1)) ∧ BmI p w x y r (decide (s.2.2.2 > 0 ∨ (s.2.2.2 = 0 ∧ v.2.2.2 + 1 > 0))) b := by
 obtain ⟨k1, k2, k3⟩ := Xa6 ok
 have h0' := h0
 unfold Xcb at h0'
 rw [decide_eq_true_eq] at h0'
 unfold Xbz
 rw [Xbj hv.2, wkA (e := x + v.2.2.2), wkA (e := y + s.2.2.2), wkA (e := v.2.2.2 + 1), Xt8 ok, Xab]
 cases hh : Xcb p (x + v.2.2.2) (y + s.2.2.2) with
 | false =>
  refine ⟨(v.1, v.2.1, v.2.2.1), rfl, ?_⟩
  have ne : ¬ (s.2.2.2 = 0 ∧ v.2.2.2 = 0) := by
   intro ⟨e1, e2⟩
   rw [e1, e2, Int.add_zero, Int.add_zero, h0] at hh
   cases hh
  rcases hi with ⟨h1, h2⟩ | ⟨h1, h2, h3, h4, h5⟩
  ·
   refine .inl ⟨h1, ?_⟩
   rw [decide_eq_false_iff_not]
   intro h
   have := hp.2 (by omega)
   rw [h2] at this; cases this
  ·
   refine .inr ⟨h1, h2, h3, h4, fun h => h5 (hp.2 ?_)⟩
   rw [decide_eq_true_eq] at h
   omega
 | true =>
  have hh' := hh
  unfold Xcb at hh'
  rw [decide_eq_true_eq] at hh'
  have hb := Xf4 p (x + v.2.2.2) (y + s.2.2.2)
  have g := Xgy hw hb 64 (by omega)
  have z1 := Xo1 v.2.2.2 (by omega)
  have z2 := Xo1 s.2.2.2 (by omega)
  rw [Bool.not_true, Xav, Xeh ok _ _ (by omega) (by omega), Xab, Xm4 hw hb, Xab, Xi5 _ (by omega), Xab, Xi5 _ (by omega), Xab, wkA (e := Xko w (Xlb p (x + v.2.2.2) (y + s.2.2.2) 64) 64 + Ye2 v.2.2.2), wkA, Ygd, Xab]
  have mc : Xko w (Xlb p (x + v.2.2.2) (y + s.2.2.2) 64) 64 + Ye2 v.2.2.2 + Ye2 s.2.2.2 = Xi8 p w x y v.2.2.2 s.2.2.2 := rfl
  rw [mc]
  have m1 := Xpn (p := p) (w := w) hw x y v.2.2.2 s.2.2.2 (by omega) (by omega)
  cases hc : (decide (v.2.2.1 < 0) || decide (Xi8 p w x y v.2.2.2 s.2.2.2 < v.2.2.1)) with
  | true =>
   refine ⟨(v.2.2.2, s.2.2.2, Xi8 p w x y v.2.2.2 s.2.2.2), rfl, .inr ⟨hv, hs, hh, rfl, fun h => ?_⟩⟩
   rw [decide_eq_true_eq] at h
   by_cases e0 : s.2.2.2 = 0 ∧ v.2.2.2 = 0
   ·
    rw [e0.1, e0.2]; exact Int.le_refl _
   ·
    have hpast := hp.2 (by omega)
    rcases hi with ⟨h1, h2⟩ | ⟨h1, h2, h3, h4, h5⟩
    ·
     rw [h2] at hpast; cases hpast
    ·
     have h5' := h5 hpast
     simp only at h4 h5' ⊢
     have n1 := Xpn (p := p) (w := w) hw x y v.1 v.2.1 (by simp only at h1; omega) (by simp only at h2; omega)
     simp only [Bool.or_eq_true, decide_eq_true_eq] at hc
     omega
  | false =>
   refine ⟨(v.1, v.2.1, v.2.2.1), rfl, ?_⟩
   simp only [Bool.or_eq_false_iff, decide_eq_false_iff_not] at hc
   rcases hi with ⟨h1, h2⟩ | ⟨h1, h2, h3, h4, h5⟩
   ·
    simp only [Prod.mk.injEq] at h1
    omega
   ·
    refine .inr ⟨h1, h2, h3, h4, fun h => ?_⟩
    rw [decide_eq_true_eq] at h
    by_cases e0 : s.2.2.2 = 0 ∧ v.2.2.2 = 0
    ·
     have := hc.2
     rw [e0.1, e0.2] at this
     simp only; omega
    ·
     exact h5 (hp.2 (by omega))
theorem Xun {p : Pic} {w : List Int} {x y r : Int} (ok : Xce p = true) (hw : Xbc w = true) (hr : 0 ≤ r ∧ r ≤ 4) (hx : x.tmod 8 = 0) (hy : y.tmod 8 = 0) (h0 : Xcb p x y = true) :
  ∃ b, Xcl p w x y r = some b ∧ (-r ≤ b.1 ∧ b.1 ≤ r) ∧ (-r ≤ b.2.1 ∧ b.2.1 ≤ r) ∧ Xcb p (x + b.1) (y + b.2.1) = true ∧ b.2.2 = Xi8 p w x y b.1 b.2.1 ∧ b.2.2 ≤ Xi8 p w x y 0 0 := by
 have hwl := (Xba hw).1
 unfold Xcl
 rw [Xcm, Xab, ok, Xaz, Xe5 w (by omega), Xab, hw, Xaz, Xal, Xab, decide_eq_true (by omega), Xaz, Xj5 ok x y hx hy h0, Xab, Bool.not_true, Xab, Xav, wkA (e := 0 - r)]
 obtain ⟨o, h, ho⟩ := Xlm (f := Xdy p w x y r) (fun s => -r ≤ s.2.2.2 ∧ s.2.2.2 ≤ r + 1 ∧ BmI p w x y r (decide (s.2.2.2 > 0)) (s.1, s.2.1, s.2.2.1)) (fun s => (r + 1 - s.2.2.2).toNat) (fun _ b => BmI p w x y r true b) (by
  intro s ⟨g1, g2, g3⟩
  unfold Xdy
  by_cases hi : s.2.2.2 ≤ r
  ·
   rw [Xbj hi, wkA (e := s.2.2.2 + 1), wkA (e := 0 - r)]
   obtain ⟨o, h, ho⟩ := Xlm (f := Xbz p w x y r s) (fun v => -r ≤ v.2.2.2 ∧ v.2.2.2 ≤ r + 1 ∧ BmI p w x y r (decide (s.2.2.2 > 0 ∨ (s.2.2.2 = 0 ∧ v.2.2.2 > 0))) (v.1, v.2.1, v.2.2.1)) (fun v => (r + 1 - v.2.2.2).toNat) (fun _ b => BmI p w x y r (decide (s.2.2.2 + 1 > 0)) b) (by
    intro v ⟨f1, f2, f3⟩
    by_cases hv : v.2.2.2 ≤ r
    ·
     obtain ⟨b, e, hb⟩ := Ylk ok hw hr h0 s ⟨g1, hi⟩ v ⟨f1, hv⟩ _ f3 (by rw [decide_eq_true_eq])
     exact .inr ⟨_, e, ⟨by simp only; omega, by simp only; omega, hb⟩, by simp only; omega, fun _ h => h⟩
    ·
     refine .inl ⟨(v.1, v.2.1, v.2.2.1), ?_, ?_⟩
     ·
      unfold Xbz; rw [Xao hv]
     ·
      have : decide (s.2.2.2 > 0 ∨ (s.2.2.2 = 0 ∧ v.2.2.2 > 0)) = decide (s.2.2.2 + 1 > 0) := by
       rw [decide_eq_decide]; omega
      rw [this] at f3
      exact f3) (s.1, s.2.1, s.2.2.1, 0 - r) ⟨by simp only; omega, by simp only; omega, by
    have : decide (s.2.2.2 > 0 ∨ (s.2.2.2 = 0 ∧ 0 - r > 0)) = decide (s.2.2.2 > 0) := by rw [decide_eq_decide]; omega
    simp only
    rw [this]; exact g3⟩
   rw [h, Xab]
   exact .inr ⟨_, rfl, ⟨by simp only; omega, by simp only; omega, ho⟩, by simp only; omega, fun _ h => h⟩
  ·
   rw [Xao hi]
   refine .inl ⟨_, rfl, ?_⟩
   rw [decide_eq_true (by omega)] at g3
   exact g3) (0, 0, -1, 0 - r) ⟨by simp only; omega, by simp only; omega, .inl ⟨rfl, by simp only [decide_eq_false_iff_not]; omega⟩⟩
 rw [h, Xab]
 rcases ho with ⟨_, h2⟩ | ⟨h1, h2, h3, h4, h5⟩
 ·
  cases h2
 ·
  exact ⟨_, rfl, h1, h2, h3, h4, h5 rfl⟩
theorem Xt1 (s : ByteArray) : strOfNums (Xax s) = s := by
 apply ByteArray.ext
 apply Array.ext'
 simp only [strOfNums, Xax, List.map_map]
 conv => rhs; rw [← List.map_id s.data.toList]
 refine List.map_congr_left fun c _ => ?_
 simp
def inB (B : Int) (l : List Int) : Prop := ∀ x ∈ l, -B ≤ x ∧ x ≤ B
theorem Xlk {B C : Int} {l : List Int} (h : inB B l) (hc : B ≤ C) : inB C l := fun x hx => by have := h x hx; omega
theorem Xis {B : Int} {a b : List Int} (ha : inB B a) (hb : inB B b) : inB B (a ++ b) := fun x hx => (List.mem_append.1 hx).elim (ha x) (hb x)
theorem Xqh (B : Int) : inB B [] := fun x hx => by simp at hx
theorem Ybg {B x : Int} (h : -B ≤ x ∧ x ≤ B) : inB B [x] := fun y hy => by rw [List.mem_singleton.1 hy]; exact h
theorem Yeo {B : Int} {l : List Int} (h : inB B l) (i : Nat) {y : Int} (hy : -B ≤ y ∧ y ≤ B) : inB B (l.set i y) := fun x hx => by
 rcases List.mem_or_eq_of_mem_set hx with hx | hx
 ·
  exact h x hx
 ·
  rw [hx]; exact hy
theorem Yen (n : Nat) {B : Int} (h : 0 ≤ B) : inB B (List.replicate n 0) := fun x hx => by rw [List.eq_of_mem_replicate hx]; omega
theorem Xia {B : Int} {l : List Int} (h : inB B l) {i : Nat} (hi : i < l.length) : -B ≤ l.getD i 0 ∧ l.getD i 0 ≤ B := h _ (by rw [Xee l i hi]; exact List.getElem_mem _)
theorem Yfs {B : Int} {l : List Int} (h : inB B l) (n : Nat) : inB B (l.take n) := fun x hx => h x (List.mem_of_mem_take hx)
theorem Yfq {B : Int} {l : List Int} (h : inB B l) (n : Nat) : inB B (l.drop n) := fun x hx => h x (List.mem_of_mem_drop hx)
theorem Xcr {S : Type} {f : Int × S → Option (Lp (Int × S) S)} (n : Nat) (I : Nat → S → Prop) (hs : ∀ (i : Nat) (l : S), i < n → I i l → ∃ l', f ((i : Int), l) = some (.go (((i + 1 : Nat) : Int), l')) ∧ I (i + 1) l') (he : ∀ l, f ((n : Int), l) = some (.done l)) (l0 : S) (h0 : I 0 l0) : ∃ o, loop f (0, l0) = some o ∧ I n o := by
 have key : ∀ i : Nat, i ≤ n → ∀ l, I i l → ∃ o, loop f ((i : Int), l) = some o ∧ I n o := by
  refine Xic _ ?_ ?_
  ·
   intro l h; exact ⟨l, Xkx (he l), h⟩
  ·
   intro i hi ih l h
   obtain ⟨l', e, h'⟩ := hs i l hi h
   obtain ⟨o, e2, h2⟩ := ih l' h'
   exact ⟨o, lgo e e2, h2⟩
 exact key 0 (by omega) l0 h0
theorem Xld {S : Type} {f : S × Int → Option (Lp (S × Int) S)} (n : Nat) (I : Nat → S → Prop) (hs : ∀ (i : Nat) (l : S), i < n → I i l → ∃ l', f (l, (i : Int)) = some (.go (l', ((i + 1 : Nat) : Int))) ∧ I (i + 1) l') (he : ∀ l, f (l, (n : Int)) = some (.done l)) (l0 : S) (h0 : I 0 l0) : ∃ o, loop f (l0, 0) = some o ∧ I n o := by
 have key : ∀ i : Nat, i ≤ n → ∀ l, I i l → ∃ o, loop f (l, (i : Int)) = some o ∧ I n o := by
  refine Xic _ ?_ ?_
  ·
   intro l h; exact ⟨l, Xkx (he l), h⟩
  ·
   intro i hi ih l h
   obtain ⟨l', e, h'⟩ := hs i l hi h
   obtain ⟨o, e2, h2⟩ := ih l' h'
   exact ⟨o, lgo e e2, h2⟩
 exact key 0 (by omega) l0 h0
theorem Xdm (l : List Int) (i j : Nat) (y : Int) (hi : i < l.length) : (l.set i y).getD j 0 = if i = j then y else l.getD j 0 := by
 rw [List.getD_eq_getElem?_getD, List.getElem?_set, List.getD_eq_getElem?_getD]
 by_cases h : i = j
 ·
  subst h; rw [if_pos rfl, if_pos rfl, if_pos hi]; rfl
 ·
  rw [if_neg h, if_neg h]
theorem Xi7 {f : Int × List Int → Option (Lp (Int × List Int) (List Int))} (n : Nat) (P Q : Int → Prop) (hs : ∀ (i : Nat) (l : List Int), i < n → l.length = n → P (l.getD i 0) → ∃ y, f ((i : Int), l) = some (.go (((i + 1 : Nat) : Int), l.set i y)) ∧ Q y) (he : ∀ l, f ((n : Int), l) = some (.done l)) (l0 : List Int) (h0 : l0.length = n) (hb : ∀ x ∈ l0, P x) : ∃ o, loop f (0, l0) = some o ∧ o.length = n ∧ ∀ x ∈ o, Q x := by
 obtain ⟨o, e, h1, h2, _⟩ := Xcr (f := f) n (fun i l => l.length = n ∧ (∀ j, j < i → Q (l.getD j 0)) ∧ ∀ j, i ≤ j → j < n → P (l.getD j 0)) (by
  intro i l hi ⟨g1, g2, g3⟩
  obtain ⟨y, e, hy⟩ := hs i l hi g1 (g3 i (Nat.le_refl _) hi)
  refine ⟨_, e, by rw [List.length_set]; exact g1, fun j hj => ?_, fun j hj hj2 => ?_⟩
  ·
   rw [Xdm l i j y (by omega)]
   by_cases h : i = j
   ·
    rw [if_pos h]; exact hy
   ·
    rw [if_neg h]; exact g2 j (by omega)
  ·
   rw [Xdm l i j y (by omega), if_neg (by omega)]; exact g3 j (by omega) hj2) he l0 ⟨h0, fun j hj => by omega, fun j _ hj => hb _ (by rw [Xee l0 j (by omega)]; exact List.getElem_mem _)⟩
 refine ⟨o, e, h1, fun x hx => ?_⟩
 obtain ⟨j, hj, rfl⟩ := List.getElem_of_mem hx
 have := h2 j (by omega)
 rwa [Xee o j hj] at this
theorem Xbr (l : List Int) (n B : Int) (hn : (l.length : Int) = n) (hn2 : n ≤ 1000000) (hB : 0 ≤ B ∧ B ≤ 100000000) (h : inB B l) : Xbq l n B = some true := by
 unfold Xbq
 rw [Xcp (by simp only [bne_eq_false_iff_eq]; exact hn), Xx9 l.length (f := Xdt l n B) (by
  intro i hi
  have := Xia h hi
  unfold Xdt
  rw [syA, rqA, wkA (e := 0 - B), Xah, Xab, Int.toNat_natCast, decide_eq_true (by omega), Bool.not_true, Xav, wkA]
  rfl) (by unfold Xdt; rw [snA]), Xab]
def Xse (n i : Int) (v17 : Int × Int) : Option (Lp (Int × Int) (Ou Unit Int)) :=
 sel (decide (v17.2 ≤ (Xaa .i64 ((Xaa .i64 (2 * n)) - 2)))) (
 bnd (it (Xok n i v17) 20 (v17.1, 0)) fun o47 => match o47 with
 | .out v43 => (
 some (.go (v43, Xaa .i64 (v17.2 + 1))))
 | .ret r => some (.done (.ret r))) (
 some (.done (.out ())))
theorem Ydu {n i : Int} {v : Int × Int} {x : Lp (Int × Int) (Ou Unit Int)} (h : Xse n i v = some x) : Xk2 n i v = some x := by
 unfold Xse at h
 unfold Xk2
 rcases Xgo h with ⟨hb, h⟩ | ⟨hb, h⟩
 ·
  rw [hb, Xaz]
  obtain ⟨a, h1, h2⟩ := Xbl h
  rw [Xf1.2 ⟨20, h1⟩, Xab]
  exact h2
 ·
  rw [hb, Xav]; exact h
theorem Yj4 {V O : Type} {f g : V → Option (Lp V O)} (hf : ∀ v y, f v = some y → g v = some y) {o : O} : ∀ (k : Nat) (v : V), it f k v = some o → it g k v = some o
 | 0, v, h => by cases h
 | k + 1, v, h => by
  rw [it] at h ⊢
  cases e : f v with
  | none => rw [e] at h; cases h
  | some s =>
   rw [e] at h
   rw [hf v s e]
   cases s with
   | go y => exact Yj4 hf k y h
   | done o' => exact h
def Xen (n i : Int) : Int := match it (Xse n i) 20 (0, 0) with | some (.ret q) => q | _ => -1
theorem Ykh : ∀ i : Fin 16, (0 ≤ Xen 4 (i.val : Int) ∧ Xen 4 (i.val : Int) < 16) := by decide +kernel
theorem Yki : ∀ i : Fin 64, (0 ≤ Xen 8 (i.val : Int) ∧ Xen 8 (i.val : Int) < 64) := by decide +kernel
theorem Xfa (n : Int) (hn : n = 4 ∨ n = 8) (i : Nat) (hi : (i : Int) < n * n) : 0 ≤ Xen n i ∧ Xen n i < n * n := by
 rcases hn with rfl | rfl
 ·
  exact Ykh ⟨i, by omega⟩
 ·
  exact Yki ⟨i, by omega⟩
theorem Xev (n : Int) (hn : n = 4 ∨ n = 8) (i : Nat) (hi : (i : Int) < n * n) : Xnd n i = some (Xen n i) := by
 have hp := Xfa n hn i hi
 unfold Xnd
 have hw : Xaa .i64 (n * n) = n * n := by rcases hn with rfl | rfl <;> exact wkA
 have hc : (sel (n != 4) (sel (n != 8) (some true) (sel (decide ((i : Int) < 0)) (some true) (some (decide ((i : Int) ≥ (Xaa .i64 (n * n))))))) (sel (decide ((i : Int) < 0)) (some true) (some (decide ((i : Int) ≥ (Xaa .i64 (n * n))))))) = some false := by
  rw [hw, Xao (show ¬ (i : Int) < 0 by omega), decide_eq_false (show ¬ (i : Int) ≥ n * n by omega)]
  rcases hn with rfl | rfl <;> rfl
 rw [hc, Xab, Xav]
 unfold Xen at hp ⊢
 cases e : it (Xse n i) 20 (0, 0) with
 | none => rw [e] at hp; simp only at hp; omega
 | some s =>
  rw [e] at hp
  have h := Yj4 (fun v y => Ydu (n := n) (i := i)) 20 _ e
  rw [Xf1.2 ⟨20, h⟩, Xab]
  cases s with
  | out u => simp only at hp; omega
  | ret q => rfl
theorem Xk3 (n : Int) (hn : n = 4 ∨ n = 8) (l : List Int) (B : Int) (hl : (l.length : Int) = n * n) (hb : inB B l) : ∃ o, Xfh n l = some (o, true) ∧ o.length = l.length ∧ inB B o := by
 have hm : maxLen = 9223372036854775807 := rfl
 have hw : Xaa .i64 (n * n) = n * n := by rcases hn with rfl | rfl <;> exact wkA
 have hl2 : l.length ≤ 64 := by rcases hn with rfl | rfl <;> omega
 unfold Xfh
 have hc : (sel (n != 4) (sel (n != 8) (some true) (some ((l.length : Int) != (Xaa .i64 (n * n))))) (some ((l.length : Int) != (Xaa .i64 (n * n))))) = some false := by
  rw [hw, hl, bne_self_eq_false]
  rcases hn with rfl | rfl <;> rfl
 rw [hc, Xab, Xav]
 obtain ⟨o, e, h1, h2⟩ := Xcr (f := Xc4 n l) l.length (fun i s => s.length = i ∧ inB B s) (by
  intro i s hi ⟨g1, g2⟩
  have hp := Xfa n hn i (by omega)
  have ha := Xia hb (i := (Xen n i).toNat) (by omega)
  unfold Xc4
  simp only
  rw [hw, syA, Xev n hn i (by omega), Xab, rqA, Xbb (by simp only [List.length_singleton]; omega), wkA]
  exact ⟨_, rfl, by simp; omega, Xis g2 (Ybg ha)⟩) (by intro s; unfold Xc4; simp only; rw [hw, snA]) [] ⟨rfl, Xqh B⟩
 exact ⟨o, (Xji e).trans rfl, h1, h2⟩
theorem Xd6 (n : Int) (hn : n = 4 ∨ n = 8) (l : List Int) (B : Int) (hB : 0 ≤ B) (hl : (l.length : Int) = n * n) (hb : inB B l) : ∃ o, Xds n l = some (o, true) ∧ o.length = l.length ∧ inB B o := by
 have hm : maxLen = 9223372036854775807 := rfl
 have hw : Xaa .i64 (n * n) = n * n := by rcases hn with rfl | rfl <;> exact wkA
 have hl2 : l.length ≤ 64 := by rcases hn with rfl | rfl <;> omega
 unfold Xds
 have hc : (sel (n != 4) (sel (n != 8) (some true) (some ((l.length : Int) != (Xaa .i64 (n * n))))) (some ((l.length : Int) != (Xaa .i64 (n * n))))) = some false := by
  rw [hw, hl, bne_self_eq_false]
  rcases hn with rfl | rfl <;> rfl
 rw [hc, Xab, Xav, rqA, Int.toNat_natCast]
 obtain ⟨o, e, h1, h2⟩ := Xcr (f := Xb4 n l) l.length (fun i s => s.length = l.length ∧ inB B s) (by
  intro i s hi ⟨g1, g2⟩
  have hp := Xfa n hn i (by omega)
  have ha := Xia hb hi
  unfold Xb4
  simp only
  rw [hw, syA, Xev n hn i (by omega), Xab, rqA, rqA, rqA, wkA, Int.toNat_natCast]
  exact ⟨_, rfl, by rw [List.length_set]; exact g1, Yeo g2 _ ha⟩) (by intro s; unfold Xb4; simp only; rw [hw, snA]) (List.replicate l.length 0) ⟨List.length_replicate, Yen _ hB⟩
 exact ⟨o, (Xji e).trans rfl, h1, h2⟩
def Xhs (u v : Int) : Int := match it Xjb 10 (1, (IntKind.wrap .i64 (BitVec.ofInt (IntKind.bits .i64) u &&& BitVec.ofInt (IntKind.bits .i64) v).toNat)) with | some q => q | none => 7
theorem Yi4 : ∀ u v : Fin 8, (-1 ≤ Xhs (u.val : Int) (v.val : Int) ∧ Xhs (u.val : Int) (v.val : Int) ≤ 1) := by decide +kernel
theorem Xpu (u v : Nat) (hu : u < 8) (hv : v < 8) : ∃ s, Xi0 u v = some s ∧ -1 ≤ s ∧ s ≤ 1 := by
 have h := Yi4 ⟨u, hu⟩ ⟨v, hv⟩
 simp only at h
 unfold Xi0
 rw [Xah, Xab, decide_eq_true (by omega), Xaz, Xah, Xab, decide_eq_true (by omega), Bool.not_true, Xab, Xav]
 unfold Xhs at h
 cases e : it Xjb 10 (1, (IntKind.wrap .i64 (BitVec.ofInt (IntKind.bits .i64) (u : Int) &&& BitVec.ofInt (IntKind.bits .i64) (v : Int)).toNat)) with
 | none => rw [e] at h; simp only at h; omega
 | some q =>
  rw [e] at h
  rw [Xf1.2 ⟨10, e⟩, Xab]
  exact ⟨q, rfl, h⟩
def Xnh (qp : Int) : Int := if qp.tmod 6 = 0 then 10 else if qp.tmod 6 = 1 then 11 else if qp.tmod 6 = 2 then 13 else if qp.tmod 6 = 3 then 14 else if qp.tmod 6 = 4 then 16 else 18
def Xk9 (qp : Int) : Int := match it (Xjd qp) 10 (Xnh qp, 0) with | some q => q | none => 0
theorem Yi8 : ∀ q : Fin 41, (10 ≤ Xk9 (q.val : Int) ∧ Xk9 (q.val : Int) ≤ 1152) := by decide +kernel
theorem Xpv (qp : Int) (h0 : 0 ≤ qp ∧ qp ≤ 40) : ∃ s, Xgw qp = some s ∧ 10 ≤ s ∧ s ≤ 1152 := by
 have h := Yi8 ⟨qp.toNat, by omega⟩
 simp only at h
 rw [show ((qp.toNat : Nat) : Int) = qp by omega] at h
 unfold Xgw
 rw [Xah, Xab, decide_eq_true (by omega), Bool.not_true, Xav, rqA]
 have hb : (sel ((qp.tmod 6) == 0) (some (10 : Int)) (sel ((qp.tmod 6) == 1) (some 11) (sel ((qp.tmod 6) == 2) (some 13) (sel ((qp.tmod 6) == 3) (some 14) (sel ((qp.tmod 6) == 4) (some 16) (some 18)))))) = some (Xnh qp) := by
  unfold Xnh
  simp only [Yb0, beq_iff_eq]
  repeat' split
  all_goals rfl
 rw [hb, Xab]
 unfold Xk9 at h
 cases e : it (Xjd qp) 10 (Xnh qp, 0) with
 | none => rw [e] at h; simp only at h; omega
 | some q =>
  rw [e] at h
  rw [Xf1.2 ⟨10, e⟩, Xab]
  exact ⟨q, rfl, h⟩
theorem Xl1 (p : Int) (h : 0 ≤ p ∧ p ≤ 15) : ∃ k, Xk1 p = some k ∧ 0 ≤ k ∧ k ≤ 2 := by
 unfold Xk1
 rw [Xah, Xab, decide_eq_true h, Bool.not_true, Xav, rqA, rqA, rqA, rqA, Xgv, Xab]
 cases ((Xaa .i64 (p.tdiv 4)).tmod 2 == 0 && (p.tmod 4).tmod 2 == 0) with
 | true => exact ⟨0, rfl, by omega, by omega⟩
 | false =>
  rw [Xav, Xgv, Xab]
  cases ((Xaa .i64 (p.tdiv 4)).tmod 2 == 1 && (p.tmod 4).tmod 2 == 1) with
  | true => exact ⟨1, rfl, by omega, by omega⟩
  | false => exact ⟨2, rfl, by omega, by omega⟩
theorem Xau (k a b c : Int) : ∃ x, Xay k a b c = some x ∧ (x = a ∨ x = b ∨ x = c) := by
 unfold Xay
 cases (k == 0) with
 | true => exact ⟨a, rfl, Or.inl rfl⟩
 | false =>
  cases (k == 1) with
  | true => exact ⟨b, rfl, Or.inr (Or.inl rfl)⟩
  | false => exact ⟨c, rfl, Or.inr (Or.inr rfl)⟩
theorem Yg8 (qp : Int) (h0 : 0 ≤ qp ∧ qp ≤ 40) (x : Int) (hx : 0 ≤ x ∧ x ≤ 29) : ∃ o, loop (Xd5 qp) (x, 0) = some o ∧ 0 ≤ o ∧ o ≤ 1856 := by
 obtain ⟨o, e, h1, h2⟩ := Xld (f := Xd5 qp) (qp / 6).toNat (fun i s => 0 ≤ s ∧ s ≤ 29 * 2 ^ i) (by
  intro i s hi ⟨g1, g2⟩
  have h6 : (2 : Int) ^ i ≤ 64 := by
   have : i ≤ 6 := by omega
   obtain rfl | rfl | rfl | rfl | rfl | rfl | rfl : i = 0 ∨ i = 1 ∨ i = 2 ∨ i = 3 ∨ i = 4 ∨ i = 5 ∨ i = 6 := by omega
   all_goals decide
  have h7 : (2 : Int) ^ (i + 1) = 2 * 2 ^ i := by rw [Int.pow_succ, Int.mul_comm]
  unfold Xd5
  simp only
  rw [rqA, Xbx (by omega), wkA (e := qp / 6), syA, wkA (e := 2 * s), wkA (e := (i : Int) + 1)]
  exact ⟨_, rfl, by omega, by rw [h7]; omega⟩) (by intro s; unfold Xd5; simp only; rw [rqA, Xbx (by omega), wkA (e := qp / 6), snA]) x ⟨hx.1, by simp; omega⟩
 have h6 : (2 : Int) ^ (qp / 6).toNat ≤ 64 := by
  generalize hi : (qp / 6).toNat = i
  obtain rfl | rfl | rfl | rfl | rfl | rfl | rfl : i = 0 ∨ i = 1 ∨ i = 2 ∨ i = 3 ∨ i = 4 ∨ i = 5 ∨ i = 6 := by omega
  all_goals decide
 exact ⟨o, e, h1, by omega⟩
theorem Xyd (qp p : Int) (h0 : 0 ≤ qp ∧ qp ≤ 40) (hp : 0 ≤ p ∧ p ≤ 15) : ∃ s, Xjs qp p = some s ∧ 0 ≤ s ∧ s ≤ 1856 := by
 unfold Xjs
 obtain ⟨k, e, k0, k1⟩ := Xl1 p hp
 rw [e, Xab, Xah, Xab, decide_eq_true h0, Xaz, decide_eq_false (by omega), Xab, Xav, rqA]
 obtain ⟨a1, e1, b1⟩ := Xau k 10 16 13
 obtain ⟨a2, e2, b2⟩ := Xau k 11 18 14
 obtain ⟨a3, e3, b3⟩ := Xau k 13 20 16
 obtain ⟨a4, e4, b4⟩ := Xau k 14 23 18
 obtain ⟨a5, e5, b5⟩ := Xau k 16 25 20
 obtain ⟨a6, e6, b6⟩ := Xau k 18 29 23
 rw [e1, e2, e3, e4, e5, e6]
 simp only [Xab, Yge]
 obtain ⟨o, eo, o1, o2⟩ := Yg8 qp h0 (sel (qp.tmod 6 == 0) a1 (sel (qp.tmod 6 == 1) a2 (sel (qp.tmod 6 == 2) a3 (sel (qp.tmod 6 == 3) a4 (sel (qp.tmod 6 == 4) a5 (sel (qp.tmod 6 == 5) a6 0)))))) (by
  simp only [Yb0]
  repeat' split
  all_goals omega)
 exact ⟨o, (Xji eo).trans rfl, o1, o2⟩
theorem Xye (qp p : Int) (h0 : 0 ≤ qp ∧ qp ≤ 40) (hp : 0 ≤ p ∧ p ≤ 15) : ∃ s, Xjt qp p = some s ∧ 0 ≤ s ∧ s ≤ 13107 := by
 unfold Xjt
 obtain ⟨k, e, k0, k1⟩ := Xl1 p hp
 rw [e, Xab, Xah, Xab, decide_eq_true h0, Xaz, decide_eq_false (by omega), Xab, Xav, rqA]
 obtain ⟨a1, e1, b1⟩ := Xau k 13107 5243 8066
 obtain ⟨a2, e2, b2⟩ := Xau k 11916 4660 7490
 obtain ⟨a3, e3, b3⟩ := Xau k 10082 4194 6554
 obtain ⟨a4, e4, b4⟩ := Xau k 9362 3647 5825
 obtain ⟨a5, e5, b5⟩ := Xau k 8192 3355 5243
 obtain ⟨a6, e6, b6⟩ := Xau k 7282 2893 4559
 rw [e1, e2, e3, e4, e5, e6]
 simp only [Xab, Yge]
 refine ⟨_, rfl, ?_⟩
 simp only [Yb0]
 repeat' split
 all_goals omega
theorem Yf6 {a s B : Int} (ha : -B ≤ a ∧ a ≤ B) (hs : -1 ≤ s ∧ s ≤ 1) : (-B ≤ a * s ∧ a * s ≤ B) ∧ (-B ≤ s * a ∧ s * a ≤ B) := by
 obtain rfl | rfl | rfl : s = -1 ∨ s = 0 ∨ s = 1 := by omega
 all_goals omega
theorem Xzy (p : List Int) (B : Int) (hB : 0 ≤ B ∧ B ≤ 1000000000000) (hl : p.length = 64) (hb : inB B p) (i v : Nat) (hi : i < 8) (hv : v < 8) : ∃ o, Xk6 p i v = some o ∧ -(8 * B) ≤ o ∧ o ≤ 8 * B := by
 unfold Xk6
 obtain ⟨o, e, h1, h2⟩ := Xld (f := Xdu p i v) 8 (fun k s => -(B * k) ≤ s ∧ s ≤ B * k) (by
  intro k s hk ⟨g1, g2⟩
  obtain ⟨q, eq, q0, q1⟩ := Xpu v k hv hk
  have ha := Xia hb (i := 8 * i + k) (by omega)
  have hm := (Yf6 ha ⟨q0, q1⟩).1
  have hk8 : B * k ≤ B * 8 := Int.mul_le_mul_of_nonneg_left (by omega) hB.1
  have hk0 : B * ((k + 1 : Nat) : Int) = B * k + B := by rw [Int.natCast_add, Int.mul_add]; simp
  unfold Xdu
  simp only
  rw [syA, wkA (e := 8 * (i : Int)), wkA (e := 8 * (i : Int) + (k : Int)), rqA, eq, Xab, show (8 * (i : Int) + (k : Int)).toNat = 8 * i + k by omega, wkA (e := p.getD (8 * i + k) 0 * q), wkA (e := s + p.getD (8 * i + k) 0 * q), wkA (e := (k : Int) + 1)]
  exact ⟨_, rfl, by rw [hk0]; omega, by rw [hk0]; omega⟩) (by intro s; unfold Xdu; rw [Xao (by simp)]) 0 (by simp)
 exact ⟨o, (Xji e).trans rfl, by omega, by omega⟩
theorem Xop (p : List Int) (B : Int) (hB : 0 ≤ B ∧ B ≤ 10000000000) (hl : p.length = 64) (hb : inB B p) : ∃ o, Xg8 p = some o ∧ o.length = 64 ∧ inB (64 * B) o := by
 have hm : maxLen = 9223372036854775807 := rfl
 unfold Xg8
 obtain ⟨h, eh, hh1, hh2⟩ := Xcr (f := Xcj p) 8 (fun i s => s.length = 8 * i ∧ inB (8 * B) s) (by
  intro i s hi ⟨g1, g2⟩
  obtain ⟨t, et, t1, t2⟩ := Xcr (f := Xck p ((i : Int), s)) 8 (fun v s => s.length = 8 * i + v ∧ inB (8 * B) s) (by
   intro v s hv ⟨g1, g2⟩
   obtain ⟨r, er, r1, r2⟩ := Xzy p B ⟨hB.1, by omega⟩ hl hb i v hi hv
   unfold Xck
   simp only
   rw [syA, er, Xab, Xbb (by simp only [List.length_singleton]; omega), wkA (e := (v : Int) + 1)]
   exact ⟨_, rfl, by simp; omega, Xis g2 (Ybg ⟨by omega, r2⟩)⟩) (by intro s; unfold Xck; rw [Xao (by simp)]) s ⟨by omega, g2⟩
  unfold Xcj
  simp only
  rw [syA, et, Xab, wkA (e := (i : Int) + 1)]
  exact ⟨_, rfl, by omega, t2⟩) (by intro s; unfold Xcj; rw [Xao (by simp)]) [] ⟨rfl, Xqh _⟩
 rw [eh, Xab]
 obtain ⟨o, eo, o1, o2⟩ := Xcr (f := Xb5 h) 8 (fun i s => s.length = 8 * i ∧ inB (64 * B) s) (by
  intro i s hi ⟨g1, g2⟩
  obtain ⟨t, et, t1, t2⟩ := Xcr (f := Xb6 h ((i : Int), s)) 8 (fun v s => s.length = 8 * i + v ∧ inB (64 * B) s) (by
   intro v r hv ⟨g1, g2⟩
   obtain ⟨a, ea, a1, a2⟩ := Xld (f := Xb7 h ((i : Int), s) ((v : Int), r)) 8 (fun k s => -(8 * B * k) ≤ s ∧ s ≤ 8 * B * k) (by
    intro k c hk ⟨g1, g2⟩
    obtain ⟨q, eq, q0, q1⟩ := Xpu i k hi hk
    have ha := Xia hh2 (i := 8 * k + v) (by omega)
    have hm := (Yf6 ha ⟨q0, q1⟩).2
    have hk8 : 8 * B * k ≤ 8 * B * 8 := Int.mul_le_mul_of_nonneg_left (by omega) (by omega)
    have hk0 : 8 * B * ((k + 1 : Nat) : Int) = 8 * B * k + 8 * B := by rw [Int.natCast_add, Int.mul_add]; simp
    unfold Xb7
    simp only
    rw [syA, eq, Xab, wkA (e := 8 * (k : Int)), wkA (e := 8 * (k : Int) + (v : Int)), rqA, rqA, show (8 * (k : Int) + (v : Int)).toNat = 8 * k + v by omega, wkA (e := q * h.getD (8 * k + v) 0), wkA (e := c + q * h.getD (8 * k + v) 0), wkA (e := (k : Int) + 1)]
    exact ⟨_, rfl, by rw [hk0]; omega, by rw [hk0]; omega⟩) (by intro s; unfold Xb7; rw [Xao (by simp)]) 0 (by simp)
   unfold Xb6
   simp only
   rw [syA, ea, Xab, Xbb (by simp only [List.length_singleton]; omega), wkA (e := (v : Int) + 1)]
   exact ⟨_, rfl, by simp; omega, Xis g2 (Ybg ⟨by omega, by omega⟩)⟩) (by intro s; unfold Xb6; rw [Xao (by simp)]) s ⟨by omega, g2⟩
  unfold Xb5
  simp only
  rw [syA, et, Xab, wkA (e := (i : Int) + 1)]
  exact ⟨_, rfl, by omega, t2⟩) (by intro s; unfold Xb5; rw [Xao (by simp)]) [] ⟨rfl, Xqh _⟩
 exact ⟨o, (Xji eo).trans rfl, by omega, o2⟩
theorem Xhz (a b : Int) (ha : -1000000000000 ≤ a ∧ a ≤ 1000000000000) (hb : b = 2 ∨ b = 64) : ∃ d, Xct a b = some d ∧ b * d ≤ a ∧ a < b * d + b := by
 unfold Xct
 have h1 : b * (a.tdiv b) + a.tmod b = a := Int.mul_tdiv_add_tmod a b
 have h2 : -b < a.tmod b ∧ a.tmod b < b := by
  have hb0 : 0 < b := by omega
  refine ⟨?_, Int.tmod_lt_of_pos a hb0⟩
  have := Int.lt_tmod_of_pos a hb0
  omega
 rw [rqA, rqA]
 generalize a.tmod b = m at h1 h2
 generalize a.tdiv b = t at h1 h2
 have ht : -1000000000001 ≤ t ∧ t ≤ 1000000000001 := by rcases hb with rfl | rfl <;> omega
 by_cases h : m < 0
 ·
  rw [Xbj h, Xab, wkA (e := t), wkA (e := t - 1)]
  refine ⟨_, rfl, ?_⟩
  rcases hb with rfl | rfl <;> omega
 ·
  rw [Xao h, Xab, wkA (e := t)]
  refine ⟨_, rfl, ?_⟩
  rcases hb with rfl | rfl <;> omega
theorem Xsk (p : List Int) (hl : p.length = 64) (hb : inB 255 p) : ∃ o, Xmk p = some o ∧ o.length = 64 := by
 unfold Xmk
 obtain ⟨o, e, h1, h2⟩ := Xop p 255 (by omega) hl hb
 rw [Xbr p 64 1000 (by omega) (by omega) (by omega) (Xlk hb (by omega)), Xab, Bool.not_true, Xav, e, Xab]
 exact ⟨o, rfl, h1⟩
theorem Xtu (p : List Int) (hl : p.length = 64) (hb : inB 5760000 p) : ∃ o, Xge p = some o ∧ o.length = 64 ∧ inB 10000000 o := by
 unfold Xge
 obtain ⟨o, e, h1, h2⟩ := Xop p 5760000 (by omega) hl hb
 rw [Xbr p 64 10000000 (by omega) (by omega) (by omega) (Xlk hb (by omega)), Xab, Bool.not_true, Xav, e, Xab]
 obtain ⟨r, er, r1, r2⟩ := Xi7 (f := Xfw) 64 (fun x => -368640000 ≤ x ∧ x ≤ 368640000) (fun x => -10000000 ≤ x ∧ x ≤ 10000000) (by
  intro i l hi hll hx
  obtain ⟨d, ed, d1, d2⟩ := Xhz (l.getD i 0 + 32) 64 (by omega) (Or.inr rfl)
  unfold Xfw
  simp only [Int.toNat_natCast]
  rw [syA, rqA, rqA, wkA (e := l.getD i 0 + 32), ed, Xab, rqA, rqA, wkA (e := (i : Int) + 1)]
  exact ⟨d, rfl, by omega, by omega⟩) (by intro s; unfold Xfw; rw [Xao (by simp)]) o h1 (fun x hx => by have := h2 x hx; omega)
 exact ⟨r, (Xji er).trans rfl, r1, r2⟩
theorem Xh1 (p : List Int) (B : Int) (hB : 0 ≤ B) (hl : p.length = 16) (hb : inB B p) : ∃ o, Xeb p = some o ∧ o.length = 16 ∧ inB B o := by
 unfold Xeb
 rw [rqA]
 obtain ⟨o, e, h1, h2⟩ := Xcr (f := Xc5 p) 16 (fun i s => s.length = 16 ∧ inB B s) (by
  intro i s hi ⟨g1, g2⟩
  have ha := Xia hb (i := i) (by omega)
  unfold Xc5
  simp only
  rw [syA, rqA, rqA, rqA, Xcg (by omega), Xbx (by omega), wkA (e := (i : Int) / 4), wkA (e := (i : Int) % 4 * 4), wkA (e := (i : Int) % 4 * 4 + (i : Int) / 4), rqA, rqA, wkA (e := (i : Int) + 1), Int.toNat_natCast]
  exact ⟨_, rfl, by rw [List.length_set]; exact g1, Yeo g2 _ ha⟩) (by intro s; unfold Xc5; rw [Xao (by simp)]) (List.replicate (16 : Int).toNat 0) ⟨by simp, Yen _ hB⟩
 exact ⟨o, (Xji e).trans rfl, h1, h2⟩
theorem Yfr {B a b c d : Int} (h1 : -B ≤ a ∧ a ≤ B) (h2 : -B ≤ b ∧ b ≤ B) (h3 : -B ≤ c ∧ c ≤ B) (h4 : -B ≤ d ∧ d ≤ B) : inB B [a, b, c, d] := fun x hx => by
 simp only [List.mem_cons, List.not_mem_nil, or_false] at hx
 rcases hx with rfl | rfl | rfl | rfl
 ·
  exact h1
 ·
  exact h2
 ·
  exact h3
 ·
  exact h4
theorem Xon (p : List Int) (B : Int) (hB : 0 ≤ B ∧ B ≤ 1000000000) (hl : p.length = 16) (hb : inB B p) : ∃ o, Xg7 p = some o ∧ o.length = 16 ∧ inB (6 * B) o := by
 have hm : maxLen = 9223372036854775807 := rfl
 unfold Xg7
 obtain ⟨o, e, h1, h2⟩ := Xcr (f := Xc6 p) 4 (fun i s => s.length = 4 * i ∧ inB (6 * B) s) (by
  intro i s hi ⟨g1, g2⟩
  have a0 := Xia hb (i := 4 * i) (by omega)
  have a1 := Xia hb (i := 4 * i + 1) (by omega)
  have a2 := Xia hb (i := 4 * i + 2) (by omega)
  have a3 := Xia hb (i := 4 * i + 3) (by omega)
  unfold Xc6
  simp only
  rw [syA, wkA (e := 4 * (i : Int)), wkA (e := 4 * (i : Int) + 1), wkA (e := 4 * (i : Int) + 2), wkA (e := 4 * (i : Int) + 3), rqA, rqA, rqA, rqA, show (4 * (i : Int)).toNat = 4 * i by omega, show (4 * (i : Int) + 1).toNat = 4 * i + 1 by omega, show (4 * (i : Int) + 2).toNat = 4 * i + 2 by omega, show (4 * (i : Int) + 3).toNat = 4 * i + 3 by omega]
  generalize p.getD (4 * i) 0 = a at *
  generalize p.getD (4 * i + 1) 0 = b at *
  generalize p.getD (4 * i + 2) 0 = c at *
  generalize p.getD (4 * i + 3) 0 = d at *
  rw [wkA (e := (i : Int) + 1)]
  have w1 : Xaa .i64 (Xaa .i64 (Xaa .i64 (a + b) + c) + d) = a + b + c + d := by
   rw [wkA (e := a + b), wkA (e := a + b + c), wkA]
  have w2 : Xaa .i64 (Xaa .i64 (Xaa .i64 (Xaa .i64 (2 * a) + b) - c) - Xaa .i64 (2 * d)) = 2 * a + b - c - 2 * d := by
   rw [wkA (e := 2 * a), wkA (e := 2 * d), wkA (e := 2 * a + b), wkA (e := 2 * a + b - c), wkA]
  have w3 : Xaa .i64 (Xaa .i64 (Xaa .i64 (a - b) - c) + d) = a - b - c + d := by
   rw [wkA (e := a - b), wkA (e := a - b - c), wkA]
  have w4 : Xaa .i64 (Xaa .i64 (Xaa .i64 (a - Xaa .i64 (2 * b)) + Xaa .i64 (2 * c)) - d) = a - 2 * b + 2 * c - d := by
   rw [wkA (e := 2 * b), wkA (e := 2 * c), wkA (e := a - 2 * b), wkA (e := a - 2 * b + 2 * c), wkA]
  rw [w1, w2, w3, w4, Xbb (by simp only [List.length_cons, List.length_nil]; omega)]
  exact ⟨_, rfl, by simp; omega, Xis g2 (Yfr (by omega) (by omega) (by omega) (by omega))⟩) (by intro s; unfold Xc6; rw [Xao (by simp)]) [] ⟨rfl, Xqh _⟩
 exact ⟨o, (Xji e).trans rfl, h1, h2⟩
theorem Xny (p : List Int) (B : Int) (hB : 0 ≤ B ∧ B ≤ 1000000000) (hl : p.length = 16) (hb : inB B p) : ∃ o, Xfx p = some o ∧ o.length = 16 ∧ inB (4 * B + 2) o := by
 have hm : maxLen = 9223372036854775807 := rfl
 unfold Xfx
 obtain ⟨o, e, h1, h2⟩ := Xcr (f := Xci p) 4 (fun i s => s.length = 4 * i ∧ inB (4 * B + 2) s) (by
  intro i s hi ⟨g1, g2⟩
  have a0 := Xia hb (i := 4 * i) (by omega)
  have a1 := Xia hb (i := 4 * i + 1) (by omega)
  have a2 := Xia hb (i := 4 * i + 2) (by omega)
  have a3 := Xia hb (i := 4 * i + 3) (by omega)
  obtain ⟨f, ef, f1, f2⟩ := Xhz (p.getD (4 * i + 1) 0) 2 (by omega) (Or.inl rfl)
  obtain ⟨g, eg, g1', g2'⟩ := Xhz (p.getD (4 * i + 3) 0) 2 (by omega) (Or.inl rfl)
  unfold Xci
  simp only
  rw [syA, wkA (e := 4 * (i : Int)), wkA (e := 4 * (i : Int) + 1), wkA (e := 4 * (i : Int) + 2), wkA (e := 4 * (i : Int) + 3), rqA, rqA, rqA, rqA, show (4 * (i : Int)).toNat = 4 * i by omega, show (4 * (i : Int) + 1).toNat = 4 * i + 1 by omega, show (4 * (i : Int) + 2).toNat = 4 * i + 2 by omega, show (4 * (i : Int) + 3).toNat = 4 * i + 3 by omega, ef, Xab, eg, Xab]
  generalize p.getD (4 * i) 0 = a at *
  generalize p.getD (4 * i + 1) 0 = b at *
  generalize p.getD (4 * i + 2) 0 = c at *
  generalize p.getD (4 * i + 3) 0 = d at *
  rw [wkA (e := (i : Int) + 1), wkA (e := a + c), wkA (e := a - c), wkA (e := b + g), wkA (e := f - d), wkA (e := a + c + (b + g)), wkA (e := a - c + (f - d)), wkA (e := a - c - (f - d)), wkA (e := a + c - (b + g)), Xbb (by simp only [List.length_cons, List.length_nil]; omega)]
  exact ⟨_, rfl, by simp; omega, Xis g2 (Yfr (by omega) (by omega) (by omega) (by omega))⟩) (by intro s; unfold Xci; rw [Xao (by simp)]) [] ⟨rfl, Xqh _⟩
 exact ⟨o, (Xji e).trans rfl, h1, h2⟩
theorem Xuh (p : List Int) (hl : p.length = 16) (hb : inB 255 p) : ∃ o, Xoj p = some o ∧ o.length = 16 ∧ inB 9180 o := by
 unfold Xoj
 obtain ⟨a, ea, a1, a2⟩ := Xon p 255 (by omega) hl hb
 obtain ⟨b, eb, b1, b2⟩ := Xh1 a (6 * 255) (by omega) a1 a2
 obtain ⟨c, ec, c1, c2⟩ := Xon b (6 * 255) (by omega) b1 b2
 obtain ⟨d, ed, d1, d2⟩ := Xh1 c (6 * (6 * 255)) (by omega) c1 c2
 rw [Xbr p 16 1000 (by omega) (by omega) (by omega) (Xlk hb (by omega)), Xab, Bool.not_true, Xav, ea, Xab, eb, Xab, ec, Xab, ed, Xab]
 exact ⟨d, rfl, d1, d2⟩
theorem Xnu (p : List Int) (hl : p.length = 16) (hb : inB 10000000 p) : ∃ o, Xhw p = some o ∧ o.length = 16 ∧ inB 10000000 o := by
 unfold Xhw
 obtain ⟨a, ea, a1, a2⟩ := Xny p 10000000 (by omega) hl hb
 obtain ⟨b, eb, b1, b2⟩ := Xh1 a _ (by omega) a1 a2
 obtain ⟨c, ec, c1, c2⟩ := Xny b _ (by omega) b1 b2
 obtain ⟨d, ed, d1, d2⟩ := Xh1 c _ (by omega) c1 c2
 rw [Xbr p 16 10000000 (by omega) (by omega) (by omega) hb, Xab, Bool.not_true, Xav, ea, Xab, eb, Xab, ec, Xab, ed, Xab]
 obtain ⟨r, er, r1, r2⟩ := Xi7 (f := Xgq) 16 (fun x => -160000010 ≤ x ∧ x ≤ 160000010) (fun x => -10000000 ≤ x ∧ x ≤ 10000000) (by
  intro i l hi hll hx
  obtain ⟨d, ed, d1, d2⟩ := Xhz (l.getD i 0 + 32) 64 (by omega) (Or.inr rfl)
  unfold Xgq
  simp only [Int.toNat_natCast]
  rw [syA, rqA, rqA, wkA (e := l.getD i 0 + 32), ed, Xab, rqA, rqA, wkA (e := (i : Int) + 1)]
  exact ⟨d, rfl, by omega, by omega⟩) (by intro s; unfold Xgq; rw [Xao (by simp)]) d d1 (fun x hx => by have := d2 x hx; omega)
 exact ⟨r, (Xji er).trans rfl, r1, r2⟩
theorem Xka (x : Int) (h : -1000000000000 ≤ x ∧ x ≤ 1000000000000) : Xel x = some (Xt6 x) := by
 unfold Xel Xt6
 by_cases hx : x < 0
 ·
  rw [Xbj hx, if_pos hx, wkA]; congr 1; omega
 ·
  rw [Xao hx, if_neg hx]
theorem Xmo (w x B : Int) (h : 0 ≤ x ∧ x ≤ B) (hB : B ≤ 1000000000) : ∃ o, Xgh w x = some o ∧ -B ≤ o ∧ o ≤ B := by
 unfold Xgh
 by_cases hx : w < 0
 ·
  rw [Xbj hx, wkA]; exact ⟨_, rfl, by omega, by omega⟩
 ·
  rw [Xao hx]; exact ⟨_, rfl, by omega, by omega⟩
def Ykj (qp : Int) : Int := Xaa .i64 (1 * 2 ^ min (Xaa .u64 (Xaa .i64 (15 + (Xaa .i64 (qp.tdiv 6))))).toNat (IntKind.bits .i64))
theorem Ykk : ∀ q : Fin 41, (0 ≤ Xaa .u64 (Xaa .i64 (15 + (Xaa .i64 ((q.val : Int).tdiv 6)))) ∧ 32768 ≤ Ykj (q.val : Int) ∧ Ykj (q.val : Int) ≤ 2097152) := by decide +kernel
theorem Xlq (w qp p : Int) (hw : -9180 ≤ w ∧ w ≤ 9180) (h0 : 0 ≤ qp ∧ qp ≤ 40) (hp : 0 ≤ p ∧ p ≤ 15) : ∃ o, Xfi w qp p = some o ∧ -5000 ≤ o ∧ o ≤ 5000 := by
 have hs := Ykk ⟨qp.toNat, by omega⟩
 simp only at hs
 rw [show ((qp.toNat : Nat) : Int) = qp by omega] at hs
 obtain ⟨s1, s2, s3⟩ := hs
 obtain ⟨s, es, q0, q1⟩ := Xye qp p h0 hp
 unfold Xfi
 have en : Xaa .i64 (1 * 2 ^ min (Xaa .u64 (Xaa .i64 (15 + (Xaa .i64 (qp.tdiv 6))))).toNat (IntKind.bits .i64)) = Ykj qp := rfl
 rw [Xah, Xab, decide_eq_true (by omega), Xaz, Xah, Xab, decide_eq_true h0, Xaz, Xah, Xab, decide_eq_true hp, Bool.not_true, Xab, Xav, rqA, Xbb s1, Xka w (by omega), Xab, es, Xab, rqA, en]
 generalize Ykj qp = n at *
 have ha : 0 ≤ Xt6 w ∧ Xt6 w ≤ 9180 := by unfold Xt6; split <;> omega
 generalize Xt6 w = a at *
 have hm : 0 ≤ a * s ∧ a * s ≤ 9180 * 13107 := ⟨Int.mul_nonneg ha.1 q0, Int.mul_le_mul ha.2 q1 q0 (by omega)⟩
 rw [rqA, wkA (e := a * s), Xbx (a := n) (by omega), wkA (e := n / 3), wkA (e := a * s + n / 3), Xbx (by omega)]
 have d0 : 0 ≤ (a * s + n / 3) / n := Int.ediv_nonneg (by omega) (by omega)
 have d1 : (a * s + n / 3) / n < 5000 := Int.ediv_lt_of_lt_mul (by omega) (by omega)
 rw [wkA]
 obtain ⟨o, eo, o1, o2⟩ := Xmo w _ 5000 ⟨d0, by omega⟩ (by omega)
 rw [eo, Xab]
 exact ⟨o, rfl, o1, o2⟩
theorem Xlp (w qp : Int) (h0 : 0 ≤ qp ∧ qp ≤ 40) : ∃ o, Xfg w qp = some o ∧ -5000 ≤ o ∧ o ≤ 5000 := by
 unfold Xfg
 rw [Xah, Xab]
 by_cases hw : -20000 ≤ w ∧ w ≤ 20000
 ·
  obtain ⟨s, es, q0, q1⟩ := Xpv qp h0
  rw [decide_eq_true hw, Xaz, Xah, Xab, decide_eq_true h0, Bool.not_true, Xab, Xav, es, Xab, Xka w (by omega), Xab]
  have ha : 0 ≤ Xt6 w ∧ Xt6 w ≤ 20000 := by unfold Xt6; split <;> omega
  generalize Xt6 w = a at *
  rw [rqA, rqA, Xbx (a := s) (by omega), wkA (e := s / 2), wkA (e := a + s / 2), Xbx (by omega)]
  have d0 : 0 ≤ (a + s / 2) / s := Int.ediv_nonneg (by omega) (by omega)
  have d1 : (a + s / 2) / s < 5000 := Int.ediv_lt_of_lt_mul (by omega) (by omega)
  rw [wkA]
  obtain ⟨o, eo, o1, o2⟩ := Xmo w _ 5000 ⟨d0, by omega⟩ (by omega)
  rw [eo, Xab]
  exact ⟨o, rfl, o1, o2⟩
 ·
  rw [decide_eq_false hw, Xav, Xab, Xaz]
  exact ⟨0, rfl, by omega, by omega⟩
theorem Xmm (l qp p : Int) (hl : -5000 ≤ l ∧ l ≤ 5000) (h0 : 0 ≤ qp ∧ qp ≤ 40) (hp : 0 ≤ p ∧ p ≤ 15) : ∃ o, Xgg l qp p = some o ∧ -10000000 ≤ o ∧ o ≤ 10000000 := by
 unfold Xgg
 obtain ⟨s, es, q0, q1⟩ := Xyd qp p h0 hp
 rw [Xah, Xab, decide_eq_true hl, Bool.not_true, Xav, es, Xab]
 have m1 : l * s ≤ 5000 * s := Int.mul_le_mul_of_nonneg_right hl.2 q0
 have m2 : -5000 * s ≤ l * s := Int.mul_le_mul_of_nonneg_right hl.1 q0
 rw [wkA]
 exact ⟨_, rfl, by omega, by omega⟩
theorem Xml (l qp : Int) (hl : -5000 ≤ l ∧ l ≤ 5000) (h0 : 0 ≤ qp ∧ qp ≤ 40) : ∃ o, Xgf l qp = some o ∧ -5760000 ≤ o ∧ o ≤ 5760000 := by
 unfold Xgf
 obtain ⟨s, es, q0, q1⟩ := Xpv qp h0
 rw [Xah, Xab, decide_eq_true hl, Bool.not_true, Xav, es, Xab]
 have m1 : l * s ≤ 5000 * s := Int.mul_le_mul_of_nonneg_right hl.2 (by omega)
 have m2 : -5000 * s ≤ l * s := Int.mul_le_mul_of_nonneg_right hl.1 (by omega)
 rw [wkA]
 exact ⟨_, rfl, by omega, by omega⟩
theorem Yev {l : List Int} (h1 : l.length = 64) (h2 : inB 5000 l) : Xxs l = true := by
 unfold Xxs
 rw [Bool.and_eq_true, decide_eq_true_eq, List.all_eq_true]
 exact ⟨h1, fun x hx => by unfold Yd2; rw [decide_eq_true_eq]; exact h2 x hx⟩
theorem Xxt {l : List Int} (h : Xxs l = true) : l.length = 64 ∧ inB 5000 l := by
 obtain ⟨h1, h2⟩ := Xtl h
 refine ⟨h1, fun x hx => ?_⟩
 have := List.all_eq_true.1 h2 x hx
 unfold Yd2 at this
 rwa [decide_eq_true_eq] at this
theorem Xq1 {c : Xdx} (h : Xe0 c = true) : 0 ≤ c.Qp ∧ c.Qp ≤ 40 := by
 unfold Xe0 at h
 rw [Bool.and_eq_true, decide_eq_true_eq] at h
 exact h.1
theorem Xls (p : List Int) (k : Nat) (hk : k < 4) (B : Int) (hl : p.length = 64) (hb : inB B p) : ∃ o, Xfl p k = some o ∧ o.length = 16 ∧ inB B o := by
 have hm : maxLen = 9223372036854775807 := rfl
 unfold Xfl
 obtain ⟨o, e, h1, h2⟩ := Xcr (f := Xbn p k) 16 (fun i s => s.length = i ∧ inB B s) (by
  intro i s hi ⟨g1, g2⟩
  have ha := Xia hb (i := (8 * ((k : Int) / 2 * 4 + (i : Int) / 4) + (k : Int) % 2 * 4 + (i : Int) % 4).toNat) (by omega)
  unfold Xbn
  simp only
  rw [syA, rqA, rqA, rqA, rqA, Xbx (a := (k : Int)) (by omega), Xbx (a := (i : Int)) (by omega), Xcg (a := (k : Int)) (by omega), Xcg (a := (i : Int)) (by omega), wkA (e := (k : Int) / 2), wkA (e := (k : Int) / 2 * 4), wkA (e := (i : Int) / 4), wkA (e := (k : Int) / 2 * 4 + (i : Int) / 4), wkA (e := 8 * ((k : Int) / 2 * 4 + (i : Int) / 4)), wkA (e := (k : Int) % 2 * 4), wkA (e := 8 * ((k : Int) / 2 * 4 + (i : Int) / 4) + (k : Int) % 2 * 4), wkA (e := 8 * ((k : Int) / 2 * 4 + (i : Int) / 4) + (k : Int) % 2 * 4 + (i : Int) % 4), rqA, Xbb (by simp only [List.length_singleton]; omega), wkA (e := (i : Int) + 1)]
  exact ⟨_, rfl, by simp; omega, Xis g2 (Ybg ha)⟩) (by intro s; unfold Xbn; rw [Xao (by simp)]) [] ⟨rfl, Xqh _⟩
 exact ⟨o, (Xji e).trans rfl, h1, h2⟩
end Go.Proofs.Ytlebkepfhdjnmac.A.Pure
