/- The pure statement of the law FnSquareFor: over numbers, texts and lists alone, what the law computes is true. Conditions: the sizes of what a machine holds. -/
import Derived.Test.YtlebkepfhdjnmacDFnSquareFor
namespace Go.Proofs.Ytlebkepfhdjnmac.A.Pure
open Go Go.Proofs Go.Proofs.YtlebkepfhdjnmacAL Go.RowKit
set_option linter.unusedVariables false
set_option linter.unusedSimpArgs false
set_option maxHeartbeats 1000000
noncomputable section
def Xic (p0 : Xjd) : Option Bool :=
 bnd (
 bnd (Xal p0.Qp 0 40) fun q2 =>
 sel q2 (
 sel p0.Large (
 some (!p0.Exact)) (
 some true)) (
 some false)) fun v1 =>
 some v1
def Xde (p0 : (List Int)) (p1 : Int) (p2 : Int) (v3 : Int) : Option (Lp Int (Ou Unit Bool)) :=
 sel (decide (v3 < p1)) (
 req (0 ≤ v3 ∧ v3 < p0.length) <|
 bnd (Xal (p0.getD v3.toNat 0) (Xaa .i64 (0 - p2)) p2) fun q7 =>
 sel (!q7) (
 some (.done (.ret false))) (
 some (.go (Xaa .i64 (v3 + 1))))) (
 some (.done (.out ())))
def Xbo (p0 : (List Int)) (p1 : Int) (p2 : Int) : Option Bool :=
 sel ((p0.length : Int) != p1) (
 some false) (
 bnd (loop (Xde p0 p1 p2) 0) fun o8 => match o8 with
| .out v6 => (
 some true)
| .ret r => some r)
def Xmd (p0 : Xby) : Option Bool :=
 sel (p0.Kind == 0) (
 bnd (
 sel (p0.Mode == 0) (
 sel (p0.Dx == 0) (
 sel (p0.Dy == 0) (
 some ((p0.Levels.length : Int) == 0)) (
 some false)) (
 some false)) (
 some false)) fun v1 =>
 some v1) (
 sel (p0.Kind == 1) (
 bnd (
 sel (p0.Mode == 0) (
 bnd (Xal p0.Dx (-16) 16) fun q3 =>
 sel q3 (
 bnd (Xal p0.Dy (-16) 16) fun q4 =>
 sel q4 (
 bnd (Xbo p0.Levels 64 5000) fun q5 =>
 some q5) (
 some false)) (
 some false)) (
 some false)) fun v2 =>
 some v2) (
 sel (p0.Kind == 2) (
 bnd (
 bnd (Xal p0.Mode 0 3) fun q7 =>
 sel q7 (
 sel (p0.Dx == 0) (
 sel (p0.Dy == 0) (
 bnd (Xbo p0.Levels 64 5000) fun q8 =>
 some q8) (
 some false)) (
 some false)) (
 some false)) fun v6 =>
 some v6) (
 some false)))
def Xis (p0 : Pic) (p1 : Int) (p2 : Int) (p3 : Int) (p4 : Int) : Option Bool :=
 bnd (
 bnd (Xed p0) fun q2 =>
 sel q2 (
 bnd (Xal p3 1 p0.Wide) fun q3 =>
 sel q3 (
 bnd (Xal p4 1 p0.High) fun q4 =>
 sel q4 (
 bnd (Xal p1 0 (Xaa .i64 (p0.Wide - p3))) fun q5 =>
 sel q5 (
 bnd (Xal p2 0 (Xaa .i64 (p0.High - p4))) fun q6 =>
 some q6) (
 some false)) (
 some false)) (
 some false)) (
 some false)) fun v1 =>
 some v1
def Xhh (p0 : Int) (p1 : Int) (v2 : (Int × (List Int))) : Option (Lp (Int × (List Int)) (List Int)) :=
 sel (decide (v2.1 < p0)) (
 req (0 ≤ v2.1 ∧ v2.1 < v2.2.length) <|
 req (v2.1.toNat < v2.2.length) <|
 some (.go (Xaa .i64 (v2.1 + 1), (v2.2.set v2.1.toNat p1)))) (
 some (.done v2.2))
def Xnj (p0 : Int) (p1 : Int) : Option ByteArray :=
 req (0 ≤ p0 ∧ p0 ≤ p0 ∧ p0 * 1 ≤ 281474976710656) <|
 bnd (loop (Xhh p0 p1) (0, (List.replicate p0.toNat (0 : Int)))) fun v4 =>
 some (strOfNums v4)
def Xgv (p0 : Pic) (p1 : Int) (p2 : Int) : Option Bool :=
 bnd (
 req ((8 : Int) ≠ 0) <|
 sel ((p1.tmod 8) == 0) (
 req ((8 : Int) ≠ 0) <|
 sel ((p2.tmod 8) == 0) (
 bnd (Xis p0 p1 p2 8 8) fun q2 =>
 some q2) (
 some false)) (
 some false)) fun v1 =>
 some v1
def Xdq (p0 : Pic) (p1 : Int) (p2 : Int) (v7 : (Int × (List Int) × (List Int))) : Option (Lp (Int × (List Int) × (List Int)) ((List Int) × (List Int))) :=
 sel (decide (v7.1 < 8)) (
 bnd (
 bnd (
 sel (decide (p2 > 0)) (
 bnd (Xc0 p0 (Xaa .i64 (p1 + v7.1)) (Xaa .i64 (p2 - 1))) fun q16 =>
 req ((v7.2.1.length + ([q16]).length) * 8 ≤ 140737488355328 ∧ v7.2.1.length + ([q16]).length ≤ maxLen) <|
 some (v7.2.1 ++ ([q16]))) (
 some v7.2.1)) fun v15 =>
 sel (decide (p1 > 0)) (
 bnd (Xc0 p0 (Xaa .i64 (p1 - 1)) (Xaa .i64 (p2 + v7.1))) fun q17 =>
 req ((v7.2.2.length + ([q17]).length) * 8 ≤ 140737488355328 ∧ v7.2.2.length + ([q17]).length ≤ maxLen) <|
 some (v15, (v7.2.2 ++ ([q17])))) (
 some (v15, v7.2.2))) fun v14 =>
 some (.go (Xaa .i64 (v7.1 + 1), v14.1, v14.2))) (
 some (.done (v7.2.1, v7.2.2)))
def Xdy (p0 : Pic) (p1 : Int) (p2 : Int) : Option (Xfm × Bool) :=
 bnd (Xgv p0 p1 p2) fun q1 =>
 sel (!q1) (
 some ((⟨[], [], 0⟩ : Xfm), false)) (
 bnd (loop (Xdq p0 p1 p2) (0, [], [])) fun v13 =>
 bnd (
 bnd (
 sel (decide (p1 > 0)) (
 some (decide (p2 > 0))) (
 some false)) fun v20 =>
 sel v20 (
 bnd (Xc0 p0 (Xaa .i64 (p1 - 1)) (Xaa .i64 (p2 - 1))) fun q21 =>
 some q21) (
 some (-1))) fun v19 =>
 some ((⟨v13.1, v13.2, v19⟩ : Xfm), true))
def Xni (p0 : Int) (p1 : Int) (v17 : (Int × Int)) (v38 : (Int × Int)) : Option (Lp (Int × Int) (Ou Int Int)) :=
 sel (decide (v38.2 < p0)) (
 Yg3 (fun (v44 : Int) =>
 some (.go (v44, Xaa .i64 (v38.2 + 1)))) fun j36 =>
 bnd (
 req ((2 : Int) ≠ 0) <|
 sel ((v17.2.tmod 2) == 0) (
 some (Xaa .i64 ((Xaa .i64 (p0 - 1)) - v38.2))) (
 some v38.2)) fun v45 =>
 bnd (Xal (Xaa .i64 (v17.2 - v45)) 0 (Xaa .i64 (p0 - 1))) fun q46 =>
 sel (!q46) (
 j36 v38.1) (
 sel (v38.1 == p1) (
 some (.done (.ret (Xaa .i64 ((Xaa .i64 ((Xaa .i64 (p0 * v45)) + v17.2)) - v45))))) (
 j36 (Xaa .i64 (v38.1 + 1))))) (
 some (.done (.out v38.1)))
def Xj7 (p0 : Int) (p1 : Int) (v17 : (Int × Int)) : Option (Lp (Int × Int) (Ou Unit Int)) :=
 sel (decide (v17.2 ≤ (Xaa .i64 ((Xaa .i64 (2 * p0)) - 2)))) (
 bnd (loop (Xni p0 p1 v17) (v17.1, 0)) fun o47 => match o47 with
| .out v43 => (
 some (.go (v43, Xaa .i64 (v17.2 + 1))))
| .ret r => some (.done (.ret r))) (
 some (.done (.out ())))
def Xmb (p0 : Int) (p1 : Int) : Option Int :=
 bnd (
 sel (p0 != 4) (
 sel (p0 != 8) (
 some true) (
 sel (decide (p1 < 0)) (
 some true) (
 some (decide (p1 ≥ (Xaa .i64 (p0 * p0))))))) (
 sel (decide (p1 < 0)) (
 some true) (
 some (decide (p1 ≥ (Xaa .i64 (p0 * p0))))))) fun v1 =>
 sel v1 (
 some (-1)) (
 bnd (loop (Xj7 p0 p1) (0, 0)) fun o48 => match o48 with
| .out v33 => (
 some (-1))
| .ret r => some r)
def Xa8 (p0 : Int) (p1 : (List Int)) (v4 : (Int × (List Int))) : Option (Lp (Int × (List Int)) (List Int)) :=
 sel (decide (v4.1 < (Xaa .i64 (p0 * p0)))) (
 bnd (Xmb p0 v4.1) fun q8 =>
 req (0 ≤ v4.1 ∧ v4.1 < p1.length) <|
 req (0 ≤ q8 ∧ q8 < v4.2.length) <|
 req (q8.toNat < v4.2.length) <|
 some (.go (Xaa .i64 (v4.1 + 1), (v4.2.set q8.toNat (p1.getD v4.1.toNat 0))))) (
 some (.done v4.2))
def Xca (p0 : Int) (p1 : (List Int)) : Option ((List Int) × Bool) :=
 bnd (
 sel (p0 != 4) (
 sel (p0 != 8) (
 some true) (
 some ((p1.length : Int) != (Xaa .i64 (p0 * p0))))) (
 some ((p1.length : Int) != (Xaa .i64 (p0 * p0))))) fun v1 =>
 sel v1 (
 some (([] : List Int), false)) (
 req (0 ≤ (p1.length : Int) ∧ (p1.length : Int) ≤ (p1.length : Int) ∧ (p1.length : Int) * 8 ≤ 281474976710656) <|
 bnd (loop (Xa8 p0 p1) (0, (List.replicate (p1.length : Int).toNat (0 : Int)))) fun v7 =>
 some (v7, true))
def Xiq (p0 : Int) (v4 : (Int × Int)) : Option (Lp (Int × Int) Int) :=
 req ((6 : Int) ≠ 0) <|
 sel (decide (v4.2 < (Xaa .i64 (p0.tdiv 6)))) (
 some (.go (Xaa .i64 (2 * v4.1), Xaa .i64 (v4.2 + 1)))) (
 some (.done v4.1))
def Xgk (p0 : Int) : Option Int :=
 bnd (Xal p0 0 40) fun q1 =>
 sel (!q1) (
 some 0) (
 bnd (
 req ((6 : Int) ≠ 0) <|
 sel ((p0.tmod 6) == 0) (
 some 10) (
 sel ((p0.tmod 6) == 1) (
 some 11) (
 sel ((p0.tmod 6) == 2) (
 some 13) (
 sel ((p0.tmod 6) == 3) (
 some 14) (
 sel ((p0.tmod 6) == 4) (
 some 16) (
 some 18)))))) fun v2 =>
 bnd (loop (Xiq p0) (v2, 0)) fun v6 =>
 some v6)
def Xf0 (p0 : Int) (p1 : Int) : Option Int :=
 bnd (Xal p0 (-5000) 5000) fun q1 =>
 sel (!q1) (
 some 0) (
 bnd (Xgk p1) fun q2 =>
 some (Xaa .i64 (p0 * q2)))
def Xip (v6 : (Int × Int)) : Option (Lp (Int × Int) Int) :=
 sel (decide (v6.2 > 0)) (
 bnd (
 req ((2 : Int) ≠ 0) <|
 sel ((v6.2.tmod 2) == 1) (
 some (Xaa .i64 (0 - v6.1))) (
 some v6.1)) fun v10 =>
 req ((2 : Int) ≠ 0) <|
 some (.go (v10, Xaa .i64 (v6.2.tdiv 2)))) (
 some (.done v6.1))
def Xid (p0 : Int) (p1 : Int) : Option Int :=
 bnd (
 bnd (Xal p0 0 7) fun q2 =>
 sel q2 (
 bnd (Xal p1 0 7) fun q3 =>
 some (!q3)) (
 some true)) fun v1 =>
 sel v1 (
 some 0) (
 bnd (loop (Xip) (1, (IntKind.wrap .i64 (BitVec.ofInt (IntKind.bits .i64) p0 &&& BitVec.ofInt (IntKind.bits .i64) p1).toNat))) fun v9 =>
 some v9)
def Xdf (p0 : (List Int)) (p1 : Int) (p2 : Int) (v3 : (Int × Int)) : Option (Lp (Int × Int) Int) :=
 sel (decide (v3.2 < 8)) (
 req (0 ≤ (Xaa .i64 ((Xaa .i64 (8 * p1)) + v3.2)) ∧ (Xaa .i64 ((Xaa .i64 (8 * p1)) + v3.2)) < p0.length) <|
 bnd (Xid p2 v3.2) fun q7 =>
 some (.go (Xaa .i64 (v3.1 + (Xaa .i64 ((p0.getD (Xaa .i64 ((Xaa .i64 (8 * p1)) + v3.2)).toNat 0) * q7))), Xaa .i64 (v3.2 + 1)))) (
 some (.done v3.1))
def Xkb (p0 : (List Int)) (p1 : Int) (p2 : Int) : Option Int :=
 bnd (loop (Xdf p0 p1 p2) (0, 0)) fun v6 =>
 some v6
def Xcg (p0 : (List Int)) (v10 : (Int × (List Int))) (v23 : (Int × (List Int))) : Option (Lp (Int × (List Int)) (List Int)) :=
 sel (decide (v23.1 < 8)) (
 bnd (Xkb p0 v10.1 v23.1) fun q27 =>
 req ((v23.2.length + ([q27]).length) * 8 ≤ 140737488355328 ∧ v23.2.length + ([q27]).length ≤ maxLen) <|
 some (.go (Xaa .i64 (v23.1 + 1), (v23.2 ++ ([q27]))))) (
 some (.done v23.2))
def Xcf (p0 : (List Int)) (v10 : (Int × (List Int))) : Option (Lp (Int × (List Int)) (List Int)) :=
 sel (decide (v10.1 < 8)) (
 bnd (loop (Xcg p0 v10) (0, v10.2)) fun v26 =>
 some (.go (Xaa .i64 (v10.1 + 1), v26))) (
 some (.done v10.2))
def Xb7 (v20 : (List Int)) (v60 : (Int × (List Int))) (v101 : (Int × (List Int))) (v114 : (Int × Int)) : Option (Lp (Int × Int) Int) :=
 sel (decide (v114.2 < 8)) (
 bnd (Xid v60.1 v114.2) fun q118 =>
 req (0 ≤ (Xaa .i64 ((Xaa .i64 (8 * v114.2)) + v101.1)) ∧ (Xaa .i64 ((Xaa .i64 (8 * v114.2)) + v101.1)) < v20.length) <|
 req ((Xaa .i64 ((Xaa .i64 (8 * v114.2)) + v101.1)).toNat < v20.length) <|
 some (.go (Xaa .i64 (v114.1 + (Xaa .i64 (q118 * (v20.getD ((Xaa .i64 ((Xaa .i64 (8 * v114.2)) + v101.1)).toNat) 0)))), Xaa .i64 (v114.2 + 1)))) (
 some (.done v114.1))
def Xb6 (v20 : (List Int)) (v60 : (Int × (List Int))) (v101 : (Int × (List Int))) : Option (Lp (Int × (List Int)) (List Int)) :=
 sel (decide (v101.1 < 8)) (
 bnd (loop (Xb7 v20 v60 v101) (0, 0)) fun v117 =>
 req ((v101.2.length + ([v117]).length) * 8 ≤ 140737488355328 ∧ v101.2.length + ([v117]).length ≤ maxLen) <|
 some (.go (Xaa .i64 (v101.1 + 1), (v101.2 ++ ([v117]))))) (
 some (.done v101.2))
def Xb5 (v20 : (List Int)) (v60 : (Int × (List Int))) : Option (Lp (Int × (List Int)) (List Int)) :=
 sel (decide (v60.1 < 8)) (
 bnd (loop (Xb6 v20 v60) (0, v60.2)) fun v111 =>
 some (.go (Xaa .i64 (v60.1 + 1), v111))) (
 some (.done v60.2))
def Xgu (p0 : (List Int)) : Option (List Int) :=
 bnd (loop (Xcf p0) (0, ([] : List Int))) fun v20 =>
 bnd (loop (Xb5 v20) (0, ([] : List Int))) fun v91 =>
 some v91
def Xcm (p0 : Int) (p1 : Int) : Option Int :=
 req (p1 ≠ 0) <|
 bnd (
 req (p1 ≠ 0) <|
 sel (decide ((p0.tmod p1) < 0)) (
 some (Xaa .i64 ((Xaa .i64 (p0.tdiv p1)) - 1))) (
 some (Xaa .i64 (p0.tdiv p1)))) fun v1 =>
 some v1
def Xfh (v5 : (Int × (List Int))) : Option (Lp (Int × (List Int)) (List Int)) :=
 sel (decide (v5.1 < 64)) (
 req (0 ≤ v5.1 ∧ v5.1 < v5.2.length) <|
 req (v5.1.toNat < v5.2.length) <|
 bnd (Xcm (Xaa .i64 ((v5.2.getD v5.1.toNat 0) + 32)) 64) fun q9 =>
 req (0 ≤ v5.1 ∧ v5.1 < v5.2.length) <|
 req (v5.1.toNat < v5.2.length) <|
 some (.go (Xaa .i64 (v5.1 + 1), (v5.2.set v5.1.toNat q9)))) (
 some (.done v5.2))
def Xfz (p0 : (List Int)) : Option (List Int) :=
 bnd (Xbo p0 64 10000000) fun q1 =>
 sel (!q1) (
 some ([] : List Int)) (
 bnd (Xgu p0) fun q2 =>
 bnd (loop (Xfh) (0, q2)) fun v8 =>
 some v8)
def Xj6 (p0 : Int) : Option Int :=
 bnd (Xal p0 0 15) fun q1 =>
 sel (!q1) (
 some (-1)) (
 req ((4 : Int) ≠ 0) <|
 req ((2 : Int) ≠ 0) <|
 req ((4 : Int) ≠ 0) <|
 req ((2 : Int) ≠ 0) <|
 bnd (
 sel (((Xaa .i64 (p0.tdiv 4)).tmod 2) == 0) (
 some (((p0.tmod 4).tmod 2) == 0)) (
 some false)) fun v2 =>
 sel v2 (
 some 0) (
 bnd (
 sel (((Xaa .i64 (p0.tdiv 4)).tmod 2) == 1) (
 some (((p0.tmod 4).tmod 2) == 1)) (
 some false)) fun v3 =>
 sel v3 (
 some 1) (
 some 2)))
def Xav (p0 : Int) (p1 : Int) (p2 : Int) (p3 : Int) : Option Int :=
 sel (p0 == 0) (
 some p1) (
 sel (p0 == 1) (
 some p2) (
 some p3))
def Xdr (p0 : Int) (v12 : (Int × Int)) : Option (Lp (Int × Int) Int) :=
 req ((6 : Int) ≠ 0) <|
 sel (decide (v12.2 < (Xaa .i64 (p0.tdiv 6)))) (
 some (.go (Xaa .i64 (2 * v12.1), Xaa .i64 (v12.2 + 1)))) (
 some (.done v12.1))
def Xiz (p0 : Int) (p1 : Int) : Option Int :=
 bnd (Xj6 p1) fun q1 =>
 bnd (
 bnd (Xal p0 0 40) fun q3 =>
 sel q3 (
 some (decide (q1 < 0))) (
 some true)) fun v2 =>
 sel v2 (
 some 0) (
 bnd (
 req ((6 : Int) ≠ 0) <|
 sel ((p0.tmod 6) == 0) (
 bnd (Xav q1 10 16 13) fun q5 =>
 some q5) (
 sel ((p0.tmod 6) == 1) (
 bnd (Xav q1 11 18 14) fun q6 =>
 some q6) (
 sel ((p0.tmod 6) == 2) (
 bnd (Xav q1 13 20 16) fun q7 =>
 some q7) (
 sel ((p0.tmod 6) == 3) (
 bnd (Xav q1 14 23 18) fun q8 =>
 some q8) (
 sel ((p0.tmod 6) == 4) (
 bnd (Xav q1 16 25 20) fun q9 =>
 some q9) (
 sel ((p0.tmod 6) == 5) (
 bnd (Xav q1 18 29 23) fun q10 =>
 some q10) (
 some 0))))))) fun v4 =>
 bnd (loop (Xdr p0) (v4, 0)) fun v14 =>
 some v14)
def Xf1 (p0 : Int) (p1 : Int) (p2 : Int) : Option Int :=
 bnd (Xal p0 (-5000) 5000) fun q1 =>
 sel (!q1) (
 some 0) (
 bnd (Xiz p1 p2) fun q2 =>
 some (Xaa .i64 (p0 * q2)))
def Xce (p0 : (List Int)) (v4 : (Int × (List Int))) : Option (Lp (Int × (List Int)) (List Int)) :=
 sel (decide (v4.1 < 4)) (
 req (0 ≤ (Xaa .i64 (4 * v4.1)) ∧ (Xaa .i64 (4 * v4.1)) < p0.length) <|
 req (0 ≤ (Xaa .i64 ((Xaa .i64 (4 * v4.1)) + 1)) ∧ (Xaa .i64 ((Xaa .i64 (4 * v4.1)) + 1)) < p0.length) <|
 req (0 ≤ (Xaa .i64 ((Xaa .i64 (4 * v4.1)) + 2)) ∧ (Xaa .i64 ((Xaa .i64 (4 * v4.1)) + 2)) < p0.length) <|
 req (0 ≤ (Xaa .i64 ((Xaa .i64 (4 * v4.1)) + 3)) ∧ (Xaa .i64 ((Xaa .i64 (4 * v4.1)) + 3)) < p0.length) <|
 bnd (Xcm (p0.getD (Xaa .i64 ((Xaa .i64 (4 * v4.1)) + 1)).toNat 0) 2) fun q9 =>
 bnd (Xcm (p0.getD (Xaa .i64 ((Xaa .i64 (4 * v4.1)) + 3)).toNat 0) 2) fun q10 =>
 req ((v4.2.length + ([Xaa .i64 ((Xaa .i64 ((p0.getD (Xaa .i64 (4 * v4.1)).toNat 0) + (p0.getD (Xaa .i64 ((Xaa .i64 (4 * v4.1)) + 2)).toNat 0))) + (Xaa .i64 ((p0.getD (Xaa .i64 ((Xaa .i64 (4 * v4.1)) + 1)).toNat 0) + q10))), Xaa .i64 ((Xaa .i64 ((p0.getD (Xaa .i64 (4 * v4.1)).toNat 0) - (p0.getD (Xaa .i64 ((Xaa .i64 (4 * v4.1)) + 2)).toNat 0))) + (Xaa .i64 (q9 - (p0.getD (Xaa .i64 ((Xaa .i64 (4 * v4.1)) + 3)).toNat 0)))), Xaa .i64 ((Xaa .i64 ((p0.getD (Xaa .i64 (4 * v4.1)).toNat 0) - (p0.getD (Xaa .i64 ((Xaa .i64 (4 * v4.1)) + 2)).toNat 0))) - (Xaa .i64 (q9 - (p0.getD (Xaa .i64 ((Xaa .i64 (4 * v4.1)) + 3)).toNat 0)))), Xaa .i64 ((Xaa .i64 ((p0.getD (Xaa .i64 (4 * v4.1)).toNat 0) + (p0.getD (Xaa .i64 ((Xaa .i64 (4 * v4.1)) + 2)).toNat 0))) - (Xaa .i64 ((p0.getD (Xaa .i64 ((Xaa .i64 (4 * v4.1)) + 1)).toNat 0) + q10)))]).length) * 8 ≤ 140737488355328 ∧ v4.2.length + ([Xaa .i64 ((Xaa .i64 ((p0.getD (Xaa .i64 (4 * v4.1)).toNat 0) + (p0.getD (Xaa .i64 ((Xaa .i64 (4 * v4.1)) + 2)).toNat 0))) + (Xaa .i64 ((p0.getD (Xaa .i64 ((Xaa .i64 (4 * v4.1)) + 1)).toNat 0) + q10))), Xaa .i64 ((Xaa .i64 ((p0.getD (Xaa .i64 (4 * v4.1)).toNat 0) - (p0.getD (Xaa .i64 ((Xaa .i64 (4 * v4.1)) + 2)).toNat 0))) + (Xaa .i64 (q9 - (p0.getD (Xaa .i64 ((Xaa .i64 (4 * v4.1)) + 3)).toNat 0)))), Xaa .i64 ((Xaa .i64 ((p0.getD (Xaa .i64 (4 * v4.1)).toNat 0) - (p0.getD (Xaa .i64 ((Xaa .i64 (4 * v4.1)) + 2)).toNat 0))) - (Xaa .i64 (q9 - (p0.getD (Xaa .i64 ((Xaa .i64 (4 * v4.1)) + 3)).toNat 0)))), Xaa .i64 ((Xaa .i64 ((p0.getD (Xaa .i64 (4 * v4.1)).toNat 0) + (p0.getD (Xaa .i64 ((Xaa .i64 (4 * v4.1)) + 2)).toNat 0))) - (Xaa .i64 ((p0.getD (Xaa .i64 ((Xaa .i64 (4 * v4.1)) + 1)).toNat 0) + q10)))]).length ≤ maxLen) <|
 some (.go (Xaa .i64 (v4.1 + 1), (v4.2 ++ ([Xaa .i64 ((Xaa .i64 ((p0.getD (Xaa .i64 (4 * v4.1)).toNat 0) + (p0.getD (Xaa .i64 ((Xaa .i64 (4 * v4.1)) + 2)).toNat 0))) + (Xaa .i64 ((p0.getD (Xaa .i64 ((Xaa .i64 (4 * v4.1)) + 1)).toNat 0) + q10))), Xaa .i64 ((Xaa .i64 ((p0.getD (Xaa .i64 (4 * v4.1)).toNat 0) - (p0.getD (Xaa .i64 ((Xaa .i64 (4 * v4.1)) + 2)).toNat 0))) + (Xaa .i64 (q9 - (p0.getD (Xaa .i64 ((Xaa .i64 (4 * v4.1)) + 3)).toNat 0)))), Xaa .i64 ((Xaa .i64 ((p0.getD (Xaa .i64 (4 * v4.1)).toNat 0) - (p0.getD (Xaa .i64 ((Xaa .i64 (4 * v4.1)) + 2)).toNat 0))) - (Xaa .i64 (q9 - (p0.getD (Xaa .i64 ((Xaa .i64 (4 * v4.1)) + 3)).toNat 0)))), Xaa .i64 ((Xaa .i64 ((p0.getD (Xaa .i64 (4 * v4.1)).toNat 0) + (p0.getD (Xaa .i64 ((Xaa .i64 (4 * v4.1)) + 2)).toNat 0))) - (Xaa .i64 ((p0.getD (Xaa .i64 ((Xaa .i64 (4 * v4.1)) + 1)).toNat 0) + q10)))]))))) (
 some (.done v4.2))
def Xfi (p0 : (List Int)) : Option (List Int) :=
 bnd (loop (Xce p0) (0, ([] : List Int))) fun v8 =>
 some v8
def Xcu (p0 : (List Int)) (v2 : (Int × (List Int))) : Option (Lp (Int × (List Int)) (List Int)) :=
 sel (decide (v2.1 < 16)) (
 req ((4 : Int) ≠ 0) <|
 req ((4 : Int) ≠ 0) <|
 req (0 ≤ v2.1 ∧ v2.1 < p0.length) <|
 req (0 ≤ (Xaa .i64 ((Xaa .i64 ((v2.1.tmod 4) * 4)) + (Xaa .i64 (v2.1.tdiv 4)))) ∧ (Xaa .i64 ((Xaa .i64 ((v2.1.tmod 4) * 4)) + (Xaa .i64 (v2.1.tdiv 4)))) < v2.2.length) <|
 req ((Xaa .i64 ((Xaa .i64 ((v2.1.tmod 4) * 4)) + (Xaa .i64 (v2.1.tdiv 4)))).toNat < v2.2.length) <|
 some (.go (Xaa .i64 (v2.1 + 1), (v2.2.set ((Xaa .i64 ((Xaa .i64 ((v2.1.tmod 4) * 4)) + (Xaa .i64 (v2.1.tdiv 4)))).toNat) (p0.getD v2.1.toNat 0))))) (
 some (.done v2.2))
def Xdz (p0 : (List Int)) : Option (List Int) :=
 req (0 ≤ (16 : Int) ∧ (16 : Int) ≤ (16 : Int) ∧ (16 : Int) * 8 ≤ 281474976710656) <|
 bnd (loop (Xcu p0) (0, (List.replicate (16 : Int).toNat (0 : Int)))) fun v4 =>
 some v4
def Xgc (v8 : (Int × (List Int))) : Option (Lp (Int × (List Int)) (List Int)) :=
 sel (decide (v8.1 < 16)) (
 req (0 ≤ v8.1 ∧ v8.1 < v8.2.length) <|
 req (v8.1.toNat < v8.2.length) <|
 bnd (Xcm (Xaa .i64 ((v8.2.getD v8.1.toNat 0) + 32)) 64) fun q12 =>
 req (0 ≤ v8.1 ∧ v8.1 < v8.2.length) <|
 req (v8.1.toNat < v8.2.length) <|
 some (.go (Xaa .i64 (v8.1 + 1), (v8.2.set v8.1.toNat q12)))) (
 some (.done v8.2))
def Xhg (p0 : (List Int)) : Option (List Int) :=
 bnd (Xbo p0 16 10000000) fun q1 =>
 sel (!q1) (
 some ([] : List Int)) (
 bnd (Xfi p0) fun q2 =>
 bnd (Xdz q2) fun q3 =>
 bnd (Xfi q3) fun q4 =>
 bnd (Xdz q4) fun q5 =>
 bnd (loop (Xgc) (0, q5)) fun v11 =>
 some v11)
def Xa3 (p1 : Xjd) (v8 : (Int × (List Int))) : Option (Lp (Int × (List Int)) (List Int)) :=
 sel (decide (v8.1 < 64)) (
 req (0 ≤ v8.1 ∧ v8.1 < v8.2.length) <|
 req (v8.1.toNat < v8.2.length) <|
 bnd (Xf0 (v8.2.getD v8.1.toNat 0) p1.Qp) fun q12 =>
 req (0 ≤ v8.1 ∧ v8.1 < v8.2.length) <|
 req (v8.1.toNat < v8.2.length) <|
 some (.go (Xaa .i64 (v8.1 + 1), (v8.2.set v8.1.toNat q12)))) (
 some (.done v8.2))
def Xaz (p1 : Xjd) (v52 : (Int × (List Int))) : Option (Lp (Int × (List Int)) (List Int)) :=
 sel (decide (v52.1 < 16)) (
 req (0 ≤ v52.1 ∧ v52.1 < v52.2.length) <|
 req (v52.1.toNat < v52.2.length) <|
 bnd (Xf1 (v52.2.getD v52.1.toNat 0) p1.Qp v52.1) fun q56 =>
 req (0 ≤ v52.1 ∧ v52.1 < v52.2.length) <|
 req (v52.1.toNat < v52.2.length) <|
 some (.go (Xaa .i64 (v52.1 + 1), (v52.2.set v52.1.toNat q56)))) (
 some (.done v52.2))
def Xa5 (v31 : (Int × (List Int))) (q58 : (List Int)) (v60 : (Int × (List Int))) : Option (Lp (Int × (List Int)) (List Int)) :=
 sel (decide (v60.1 < 16)) (
 req ((2 : Int) ≠ 0) <|
 req ((4 : Int) ≠ 0) <|
 req ((2 : Int) ≠ 0) <|
 req ((4 : Int) ≠ 0) <|
 req (0 ≤ v60.1 ∧ v60.1 < q58.length) <|
 req (v60.1.toNat < q58.length) <|
 req (0 ≤ (Xaa .i64 ((Xaa .i64 ((Xaa .i64 (8 * (Xaa .i64 ((Xaa .i64 ((Xaa .i64 (v31.1.tdiv 2)) * 4)) + (Xaa .i64 (v60.1.tdiv 4)))))) + (Xaa .i64 ((v31.1.tmod 2) * 4)))) + (v60.1.tmod 4))) ∧ (Xaa .i64 ((Xaa .i64 ((Xaa .i64 (8 * (Xaa .i64 ((Xaa .i64 ((Xaa .i64 (v31.1.tdiv 2)) * 4)) + (Xaa .i64 (v60.1.tdiv 4)))))) + (Xaa .i64 ((v31.1.tmod 2) * 4)))) + (v60.1.tmod 4))) < v60.2.length) <|
 req ((Xaa .i64 ((Xaa .i64 ((Xaa .i64 (8 * (Xaa .i64 ((Xaa .i64 ((Xaa .i64 (v31.1.tdiv 2)) * 4)) + (Xaa .i64 (v60.1.tdiv 4)))))) + (Xaa .i64 ((v31.1.tmod 2) * 4)))) + (v60.1.tmod 4))).toNat < v60.2.length) <|
 some (.go (Xaa .i64 (v60.1 + 1), (v60.2.set ((Xaa .i64 ((Xaa .i64 ((Xaa .i64 (8 * (Xaa .i64 ((Xaa .i64 ((Xaa .i64 (v31.1.tdiv 2)) * 4)) + (Xaa .i64 (v60.1.tdiv 4)))))) + (Xaa .i64 ((v31.1.tmod 2) * 4)))) + (v60.1.tmod 4))).toNat) (q58.getD v60.1.toNat 0))))) (
 some (.done v60.2))
def Xb4 (p0 : (List Int)) (p1 : Xjd) (v31 : (Int × (List Int))) : Option (Lp (Int × (List Int)) (List Int)) :=
 sel (decide (v31.1 < 4)) (
 req (0 ≤ (Xaa .i64 (16 * v31.1)) ∧ (Xaa .i64 (16 * v31.1)) ≤ (Xaa .i64 ((Xaa .i64 (16 * v31.1)) + 16)) ∧ (Xaa .i64 ((Xaa .i64 (16 * v31.1)) + 16)) ≤ (p0.length : Int)) <|
 bnd (Xca 4 ((p0.drop (Xaa .i64 (16 * v31.1)).toNat).take ((Xaa .i64 ((Xaa .i64 (16 * v31.1)) + 16)).toNat - (Xaa .i64 (16 * v31.1)).toNat))) fun q49 =>
 bnd (loop (Xaz p1) (0, q49.1)) fun v55 =>
 bnd (Xhg v55) fun q58 =>
 bnd (loop (Xa5 v31 q58) (0, v31.2)) fun v62 =>
 some (.go (Xaa .i64 (v31.1 + 1), v62))) (
 some (.done v31.2))
def Xbl (p0 : (List Int)) (p1 : Xjd) : Option ((List Int) × Bool) :=
 bnd (
 bnd (Xic p1) fun q2 =>
 sel q2 (
 bnd (Xbo p0 64 5000) fun q3 =>
 some (!q3)) (
 some true)) fun v1 =>
 sel v1 (
 some (([] : List Int), false)) (
 sel p1.Exact (
 bnd (Xca 8 p0) fun q4 =>
 some (q4.1, q4.2)) (
 sel p1.Large (
 bnd (Xca 8 p0) fun q5 =>
 bnd (loop (Xa3 p1) (0, q5.1)) fun v11 =>
 bnd (Xfz v11) fun q14 =>
 some (q14, true)) (
 req (0 ≤ (64 : Int) ∧ (64 : Int) ≤ (64 : Int) ∧ (64 : Int) * 8 ≤ 281474976710656) <|
 bnd (loop (Xb4 p0 p1) (0, (List.replicate (64 : Int).toNat (0 : Int)))) fun v48 =>
 some (v48, true))))
def Xho (p0 : (List Int)) (v4 : Int) : Option (Lp Int (Ou Unit Bool)) :=
 sel (decide (v4 < (p0.length : Int))) (
 req (0 ≤ v4 ∧ v4 < p0.length) <|
 bnd (Xal (p0.getD v4.toNat 0) 0 255) fun q8 =>
 sel (!q8) (
 some (.done (.ret false))) (
 some (.go (Xaa .i64 (v4 + 1))))) (
 some (.done (.out ())))
def Xks (p0 : (List Int)) : Option Bool :=
 bnd (
 sel ((p0.length : Int) != 0) (
 some ((p0.length : Int) != 8)) (
 some false)) fun v1 =>
 sel v1 (
 some false) (
 bnd (loop (Xho p0) 0) fun o9 => match o9 with
| .out v7 => (
 some true)
| .ret r => some r)
def Xkp (p0 : Xfm) : Option Bool :=
 bnd (
 bnd (Xks p0.Above) fun q2 =>
 sel q2 (
 bnd (Xks p0.Left) fun q3 =>
 sel q3 (
 bnd (Xal p0.Corner (-1) 255) fun q4 =>
 some q4) (
 some false)) (
 some false)) fun v1 =>
 some v1
def Xdg (p0 : (List Int)) (p1 : Int) : Option Int :=
 sel ((p0.length : Int) == 0) (
 some 128) (
 req (0 ≤ p1 ∧ p1 < p0.length) <|
 some (p0.getD p1.toNat 0))
def Xf3 (p0 : Xfm) (v2 : (Int × Int)) : Option (Lp (Int × Int) Int) :=
 sel (decide (v2.2 < (p0.Above.length : Int))) (
 req (0 ≤ v2.2 ∧ v2.2 < p0.Above.length) <|
 some (.go (Xaa .i64 (v2.1 + (p0.Above.getD v2.2.toNat 0)), Xaa .i64 (v2.2 + 1)))) (
 some (.done v2.1))
def Xf4 (p0 : Xfm) (v7 : (Int × Int)) : Option (Lp (Int × Int) Int) :=
 sel (decide (v7.2 < (p0.Left.length : Int))) (
 req (0 ≤ v7.2 ∧ v7.2 < p0.Left.length) <|
 some (.go (Xaa .i64 (v7.1 + (p0.Left.getD v7.2.toNat 0)), Xaa .i64 (v7.2 + 1)))) (
 some (.done v7.1))
def Xkc (p0 : Xfm) : Option Int :=
 sel ((Xaa .i64 ((p0.Above.length : Int) + (p0.Left.length : Int))) == 0) (
 some 128) (
 req ((2 : Int) ≠ 0) <|
 bnd (loop (Xf3 p0) (Xaa .i64 ((Xaa .i64 ((p0.Above.length : Int) + (p0.Left.length : Int))).tdiv 2), 0)) fun v4 =>
 bnd (loop (Xf4 p0) (v4, 0)) fun v9 =>
 req ((Xaa .i64 ((p0.Above.length : Int) + (p0.Left.length : Int))) ≠ 0) <|
 some (Xaa .i64 (v9.tdiv (Xaa .i64 ((p0.Above.length : Int) + (p0.Left.length : Int))))))
def Xct (p0 : Int) (p1 : Xfm) (v4 : Int) (v11 : (Int × (List Int))) : Option (Lp (Int × (List Int)) (List Int)) :=
 sel (decide (v11.1 < 64)) (
 bnd (
 req ((8 : Int) ≠ 0) <|
 bnd (Xdg p1.Above (v11.1.tmod 8)) fun q20 =>
 req ((8 : Int) ≠ 0) <|
 bnd (Xdg p1.Left (Xaa .i64 (v11.1.tdiv 8))) fun q21 =>
 sel (p0 == 0) (
 bnd (Xkc p1) fun q22 =>
 req ((v11.2.length + ([q22]).length) * 8 ≤ 140737488355328 ∧ v11.2.length + ([q22]).length ≤ maxLen) <|
 some (v11.2 ++ ([q22]))) (
 sel (p0 == 1) (
 req ((v11.2.length + ([q20]).length) * 8 ≤ 140737488355328 ∧ v11.2.length + ([q20]).length ≤ maxLen) <|
 some (v11.2 ++ ([q20]))) (
 sel (p0 == 2) (
 req ((v11.2.length + ([q21]).length) * 8 ≤ 140737488355328 ∧ v11.2.length + ([q21]).length ≤ maxLen) <|
 some (v11.2 ++ ([q21]))) (
 bnd (Xda (Xaa .i64 ((Xaa .i64 (q21 + q20)) - v4)) 0 255) fun q23 =>
 req ((v11.2.length + ([q23]).length) * 8 ≤ 140737488355328 ∧ v11.2.length + ([q23]).length ≤ maxLen) <|
 some (v11.2 ++ ([q23])))))) fun v19 =>
 some (.go (Xaa .i64 (v11.1 + 1), v19))) (
 some (.done v11.2))
def Xck (p0 : Int) (p1 : Xfm) : Option (List Int) :=
 bnd (
 bnd (Xkp p1) fun q2 =>
 sel q2 (
 bnd (Xal p0 0 3) fun q3 =>
 some (!q3)) (
 some true)) fun v1 =>
 sel v1 (
 some ([] : List Int)) (
 bnd (
 sel (decide (p1.Corner < 0)) (
 some 128) (
 some p1.Corner)) fun v4 =>
 bnd (loop (Xct p0 p1 v4) (0, ([] : List Int))) fun v18 =>
 some v18)
def Xcw (p0 : (List Int)) (v3 : Int) : Option (Lp Int (Ou Unit Bool)) :=
 sel (decide (v3 < 64)) (
 req (0 ≤ v3 ∧ v3 < p0.length) <|
 bnd (Xal (p0.getD v3.toNat 0) 0 255) fun q7 =>
 sel (!q7) (
 some (.done (.ret false))) (
 some (.go (Xaa .i64 (v3 + 1))))) (
 some (.done (.out ())))
def Xd0 (p0 : (List Int)) : Option Bool :=
 sel ((p0.length : Int) != 64) (
 some false) (
 bnd (loop (Xcw p0) 0) fun o8 => match o8 with
| .out v6 => (
 some true)
| .ret r => some r)
def Xb9 (p0 : (List Int)) (p1 : (List Int)) (v6 : (Int × (List Int))) : Option (Lp (Int × (List Int)) (List Int)) :=
 sel (decide (v6.1 < 64)) (
 req (0 ≤ v6.1 ∧ v6.1 < p0.length) <|
 req (0 ≤ v6.1 ∧ v6.1 < p1.length) <|
 bnd (Xda (Xaa .i64 ((p0.getD v6.1.toNat 0) + (p1.getD v6.1.toNat 0))) 0 255) fun q10 =>
 req ((v6.2.length + ([q10]).length) * 8 ≤ 140737488355328 ∧ v6.2.length + ([q10]).length ≤ maxLen) <|
 some (.go (Xaa .i64 (v6.1 + 1), (v6.2 ++ ([q10]))))) (
 some (.done v6.2))
def Xez (p0 : (List Int)) (p1 : (List Int)) : Option (List Int) :=
 bnd (
 bnd (Xd0 p0) fun q2 =>
 sel q2 (
 bnd (Xbo p1 64 10000000) fun q3 =>
 some (!q3)) (
 some true)) fun v1 =>
 sel v1 (
 some ([] : List Int)) (
 bnd (loop (Xb9 p0 p1) (0, ([] : List Int))) fun v9 =>
 some v9)
def Xds (p0 : Pic) (p1 : Pic) (p2 : Int) (p3 : Int) (p4 : Xjd) (p5 : Int) (p6 : Int) (p7 : Xby) : Option ((List Int) × Bool) :=
 bnd (
 bnd (Xgv p0 p5 p6) fun q2 =>
 sel q2 (
 bnd (Xal p2 0 256) fun q3 =>
 sel q3 (
 bnd (Xal p3 0 256) fun q4 =>
 sel q4 (
 bnd (Xmd p7) fun q5 =>
 sel q5 (
 bnd (Xic p4) fun q6 =>
 some (!q6)) (
 some true)) (
 some true)) (
 some true)) (
 some true)) fun v1 =>
 sel v1 (
 some (([] : List Int), false)) (
 sel (p7.Kind == 2) (
 bnd (Xdy p0 p5 p6) fun q7 =>
 bnd (Xbl p7.Levels p4) fun q8 =>
 bnd (Xck p7.Mode q7.1) fun q9 =>
 bnd (Xez q9 q8.1) fun q10 =>
 some (q10, true)) (
 bnd (
 sel p4.Key (
 some true) (
 bnd (Xed p1) fun q12 =>
 some (!q12))) fun v11 =>
 sel v11 (
 some (([] : List Int), false)) (
 bnd (Xc9 p1 (Xaa .i64 ((Xaa .i64 (p2 + p5)) + p7.Dx)) (Xaa .i64 ((Xaa .i64 (p3 + p6)) + p7.Dy))) fun q13 =>
 sel (p7.Kind == 0) (
 some (q13, true)) (
 bnd (Xbl p7.Levels p4) fun q14 =>
 bnd (Xez q13 q14.1) fun q15 =>
 some (q15, true)))))
def Xku (p0 : Pic) (p1 : Pic) : Option Bool :=
 bnd (
 bnd (Xed p0) fun q2 =>
 sel q2 (
 bnd (Xed p1) fun q3 =>
 sel q3 (
 sel (p0.Wide == p1.Wide) (
 some (p0.High == p1.High)) (
 some false)) (
 some false)) (
 some false)) fun v1 =>
 some v1
def Xkd (p0 : (List Int)) (p1 : (List Int)) (v2 : (Int × (List Int))) : Option (Lp (Int × (List Int)) (List Int)) :=
 sel (decide (v2.1 < 64)) (
 req (0 ≤ v2.1 ∧ v2.1 < p0.length) <|
 req (0 ≤ v2.1 ∧ v2.1 < p1.length) <|
 req ((v2.2.length + ([Xaa .i64 ((p0.getD v2.1.toNat 0) - (p1.getD v2.1.toNat 0))]).length) * 8 ≤ 140737488355328 ∧ v2.2.length + ([Xaa .i64 ((p0.getD v2.1.toNat 0) - (p1.getD v2.1.toNat 0))]).length ≤ maxLen) <|
 some (.go (Xaa .i64 (v2.1 + 1), (v2.2 ++ ([Xaa .i64 ((p0.getD v2.1.toNat 0) - (p1.getD v2.1.toNat 0))]))))) (
 some (.done v2.2))
def Xi3 (p0 : (List Int)) (p1 : (List Int)) : Option (List Int) :=
 bnd (loop (Xkd p0 p1) (0, ([] : List Int))) fun v4 =>
 some v4
def Xhs (p0 : (List Int)) (v2 : Int) : Option (Lp Int (Ou Unit Bool)) :=
 sel (decide (v2 < (p0.length : Int))) (
 req (0 ≤ v2 ∧ v2 < p0.length) <|
 sel ((p0.getD v2.toNat 0) != 0) (
 some (.done (.ret false))) (
 some (.go (Xaa .i64 (v2 + 1))))) (
 some (.done (.out ())))
def Xkv (p0 : (List Int)) : Option Bool :=
 bnd (loop (Xhs p0) 0) fun o5 => match o5 with
| .out v4 => (
 some true)
| .ret r => some r
def Xd7 (p0 : Int) : Option Int :=
 sel (decide (p0 < 0)) (
 some (Xaa .i64 (0 - p0))) (
 some p0)
def Xjk (p0 : (List Int)) (p1 : (List Int)) (v6 : (Int × Int)) : Option (Lp (Int × Int) Int) :=
 sel (decide (v6.2 < 64)) (
 req (0 ≤ v6.2 ∧ v6.2 < p0.length) <|
 req (0 ≤ v6.2 ∧ v6.2 < p1.length) <|
 bnd (Xd7 (Xaa .i64 ((p0.getD v6.2.toNat 0) - (p1.getD v6.2.toNat 0)))) fun q10 =>
 some (.go (Xaa .i64 (v6.1 + q10), Xaa .i64 (v6.2 + 1)))) (
 some (.done v6.1))
def Xnz (p0 : (List Int)) (p1 : (List Int)) : Option Int :=
 bnd (
 bnd (Xbo p0 64 1000) fun q2 =>
 sel q2 (
 bnd (Xbo p1 64 1000) fun q3 =>
 some (!q3)) (
 some true)) fun v1 =>
 sel v1 (
 some (-1)) (
 bnd (loop (Xjk p0 p1) (0, 0)) fun v9 =>
 some v9)
def Xhi (v2 : (Int × ByteArray)) : Option (Lp (Int × ByteArray) ByteArray) :=
 sel (decide (v2.1 > 0)) (
 req ((2 : Int) ≠ 0) <|
 req ((strOfNums ([Xaa .u8 (Xaa .i64 (48 + (v2.1.tmod 2)))])).size + v2.2.size ≤ 9223372036854775807) <|
 req ((2 : Int) ≠ 0) <|
 some (.go (Xaa .i64 (v2.1.tdiv 2), ((strOfNums ([Xaa .u8 (Xaa .i64 (48 + (v2.1.tmod 2)))])) ++ v2.2)))) (
 some (.done v2.2))
def Xlq (p0 : Int) : Option ByteArray :=
 bnd (loop (Xhi) (Xaa .i64 (p0 + 1), ⟨#[]⟩)) fun v4 =>
 bnd (Xnj (Xaa .i64 ((v4.size : Int) - 1)) 48) fun q6 =>
 req (q6.size + v4.size ≤ 9223372036854775807) <|
 some (q6 ++ v4)
def Xsb (p0 : Int) : Option (ByteArray × Bool) :=
 bnd (Xal p0 0 1000000) fun q1 =>
 sel (!q1) (
 some (⟨#[]⟩, false)) (
 bnd (Xlq p0) fun q2 =>
 some (q2, true))
def Xie (p0 : Int) : Option Int :=
 bnd (Xsb p0) fun q1 =>
 some (q1.1.size : Int)
def Xcn (p0 : (List Int)) (p1 : Xfm) (v16 : (Int × Int × Int)) : Option (Lp (Int × Int × Int) (Int × Int)) :=
 sel (decide (v16.2.2 < 4)) (
 bnd (
 bnd (Xck v16.2.2 p1) fun q25 =>
 bnd (Xnz p0 q25) fun q26 =>
 bnd (Xie v16.2.2) fun q27 =>
 bnd (
 sel (decide (v16.2.1 < 0)) (
 some true) (
 some (decide ((Xaa .i64 (q26 + q27)) < v16.2.1)))) fun v28 =>
 sel v28 (
 some (v16.2.2, Xaa .i64 (q26 + q27))) (
 some (v16.1, v16.2.1))) fun v24 =>
 some (.go (v24.1, v24.2, Xaa .i64 (v16.2.2 + 1)))) (
 some (.done (v16.1, v16.2.1)))
def Xfy (p0 : (List Int)) (p1 : Xfm) : Option (Int × Int) :=
 bnd (
 bnd (Xkp p1) fun q2 =>
 sel q2 (
 bnd (Xd0 p0) fun q3 =>
 some (!q3)) (
 some true)) fun v1 =>
 sel v1 (
 some (0, (-1))) (
 bnd (loop (Xcn p0 p1) (0, (-1), 0)) fun v23 =>
 some (v23.1, v23.2))
def Xpj (p0 : Int) : Option (Int × Bool) :=
 bnd (Xal p0 (-500000) 500000) fun q1 =>
 sel (!q1) (
 some (0, false)) (
 sel (decide (p0 > 0)) (
 some (Xaa .i64 ((Xaa .i64 (2 * p0)) - 1), true)) (
 some (Xaa .i64 ((-2) * p0), true)))
def Xse (p0 : Int) : Option ByteArray :=
 bnd (Xpj p0) fun q1 =>
 bnd (Xlq q1.1) fun q2 =>
 some q2
def Xyg (p0 : Int) : Option (ByteArray × Bool) :=
 bnd (Xal p0 (-500000) 500000) fun q1 =>
 sel (!q1) (
 some (⟨#[]⟩, false)) (
 bnd (Xse p0) fun q2 =>
 some (q2, true))
def Xmc (p0 : Int) : Option Int :=
 bnd (Xyg p0) fun q1 =>
 some (q1.1.size : Int)
def Xib (p0 : Pic) (p1 : (List Int)) (p2 : Int) (p3 : Int) (p4 : Int) (v32 : (Int × Int × Int × Int)) (v69 : (Int × Int × Int × Int)) : Option (Lp (Int × Int × Int × Int) (Int × Int × Int)) :=
 sel (decide (v69.2.2.2 ≤ p4)) (
 bnd (
 bnd (Xis p0 (Xaa .i64 (p2 + v69.2.2.2)) (Xaa .i64 (p3 + v32.2.2.2)) 8 8) fun q80 =>
 sel (!q80) (
 some (v69.1, v69.2.1, v69.2.2.1)) (
 bnd (Xc9 p0 (Xaa .i64 (p2 + v69.2.2.2)) (Xaa .i64 (p3 + v32.2.2.2))) fun q81 =>
 bnd (Xnz p1 q81) fun q82 =>
 bnd (Xmc v69.2.2.2) fun q83 =>
 bnd (Xmc v32.2.2.2) fun q84 =>
 bnd (
 sel (decide (v69.2.2.1 < 0)) (
 some true) (
 some (decide ((Xaa .i64 ((Xaa .i64 (q82 + q83)) + q84)) < v69.2.2.1)))) fun v85 =>
 sel v85 (
 some (v69.2.2.2, v32.2.2.2, Xaa .i64 ((Xaa .i64 (q82 + q83)) + q84))) (
 some (v69.1, v69.2.1, v69.2.2.1)))) fun v79 =>
 some (.go (v79.1, v79.2.1, v79.2.2, Xaa .i64 (v69.2.2.2 + 1)))) (
 some (.done (v69.1, v69.2.1, v69.2.2.1)))
def Xia (p0 : Pic) (p1 : (List Int)) (p2 : Int) (p3 : Int) (p4 : Int) (v32 : (Int × Int × Int × Int)) : Option (Lp (Int × Int × Int × Int) (Int × Int × Int)) :=
 sel (decide (v32.2.2.2 ≤ p4)) (
 bnd (loop (Xib p0 p1 p2 p3 p4 v32) (v32.1, v32.2.1, v32.2.2.1, Xaa .i64 (0 - p4))) fun v78 =>
 some (.go (v78.1, v78.2.1, v78.2.2, Xaa .i64 (v32.2.2.2 + 1)))) (
 some (.done (v32.1, v32.2.1, v32.2.2.1)))
def Xjj (p0 : Pic) (p1 : (List Int)) (p2 : Int) (p3 : Int) (p4 : Int) : Option (Int × Int × Int) :=
 bnd (
 bnd (Xd0 p1) fun q2 =>
 sel q2 (
 bnd (Xal p4 0 4) fun q3 =>
 sel q3 (
 bnd (Xgv p0 p2 p3) fun q4 =>
 some (!q4)) (
 some true)) (
 some true)) fun v1 =>
 sel v1 (
 some (0, 0, (-1))) (
 bnd (loop (Xia p0 p1 p2 p3 p4) (0, 0, (-1), Xaa .i64 (0 - p4))) fun v60 =>
 some (v60.1, v60.2.1, v60.2.2))
def Xbm (p0 : Int) (p1 : (List Int)) (v4 : (Int × (List Int))) : Option (Lp (Int × (List Int)) (List Int)) :=
 sel (decide (v4.1 < (Xaa .i64 (p0 * p0)))) (
 bnd (Xmb p0 v4.1) fun q8 =>
 req (0 ≤ q8 ∧ q8 < p1.length) <|
 req ((v4.2.length + ([(p1.getD q8.toNat 0)]).length) * 8 ≤ 140737488355328 ∧ v4.2.length + ([(p1.getD q8.toNat 0)]).length ≤ maxLen) <|
 some (.go (Xaa .i64 (v4.1 + 1), (v4.2 ++ ([(p1.getD q8.toNat 0)]))))) (
 some (.done v4.2))
def Xdb (p0 : Int) (p1 : (List Int)) : Option ((List Int) × Bool) :=
 bnd (
 sel (p0 != 4) (
 sel (p0 != 8) (
 some true) (
 some ((p1.length : Int) != (Xaa .i64 (p0 * p0))))) (
 some ((p1.length : Int) != (Xaa .i64 (p0 * p0))))) fun v1 =>
 sel v1 (
 some (([] : List Int), false)) (
 bnd (loop (Xbm p0 p1) (0, ([] : List Int))) fun v7 =>
 some (v7, true))
def Xln (p0 : (List Int)) : Option (List Int) :=
 bnd (Xbo p0 64 1000) fun q1 =>
 sel (!q1) (
 some ([] : List Int)) (
 bnd (Xgu p0) fun q2 =>
 some q2)
def Xf2 (p0 : Int) (p1 : Int) : Option Int :=
 sel (decide (p0 < 0)) (
 some (Xaa .i64 (0 - p1))) (
 some p1)
def Xe0 (p0 : Int) (p1 : Int) : Option Int :=
 bnd (
 bnd (Xal p0 (-20000) 20000) fun q2 =>
 sel q2 (
 bnd (Xal p1 0 40) fun q3 =>
 some (!q3)) (
 some true)) fun v1 =>
 sel v1 (
 some 0) (
 bnd (Xgk p1) fun q4 =>
 bnd (Xd7 p0) fun q5 =>
 req ((2 : Int) ≠ 0) <|
 req (q4 ≠ 0) <|
 bnd (Xf2 p0 (Xaa .i64 ((Xaa .i64 (q5 + (Xaa .i64 (q4.tdiv 2)))).tdiv q4))) fun q6 =>
 some q6)
def Xbh (p0 : (List Int)) (p1 : Int) (v2 : (Int × (List Int))) : Option (Lp (Int × (List Int)) (List Int)) :=
 sel (decide (v2.1 < 16)) (
 req ((2 : Int) ≠ 0) <|
 req ((4 : Int) ≠ 0) <|
 req ((2 : Int) ≠ 0) <|
 req ((4 : Int) ≠ 0) <|
 req (0 ≤ (Xaa .i64 ((Xaa .i64 ((Xaa .i64 (8 * (Xaa .i64 ((Xaa .i64 ((Xaa .i64 (p1.tdiv 2)) * 4)) + (Xaa .i64 (v2.1.tdiv 4)))))) + (Xaa .i64 ((p1.tmod 2) * 4)))) + (v2.1.tmod 4))) ∧ (Xaa .i64 ((Xaa .i64 ((Xaa .i64 (8 * (Xaa .i64 ((Xaa .i64 ((Xaa .i64 (p1.tdiv 2)) * 4)) + (Xaa .i64 (v2.1.tdiv 4)))))) + (Xaa .i64 ((p1.tmod 2) * 4)))) + (v2.1.tmod 4))) < p0.length) <|
 req ((v2.2.length + ([(p0.getD (Xaa .i64 ((Xaa .i64 ((Xaa .i64 (8 * (Xaa .i64 ((Xaa .i64 ((Xaa .i64 (p1.tdiv 2)) * 4)) + (Xaa .i64 (v2.1.tdiv 4)))))) + (Xaa .i64 ((p1.tmod 2) * 4)))) + (v2.1.tmod 4))).toNat 0)]).length) * 8 ≤ 140737488355328 ∧ v2.2.length + ([(p0.getD (Xaa .i64 ((Xaa .i64 ((Xaa .i64 (8 * (Xaa .i64 ((Xaa .i64 ((Xaa .i64 (p1.tdiv 2)) * 4)) + (Xaa .i64 (v2.1.tdiv 4)))))) + (Xaa .i64 ((p1.tmod 2) * 4)))) + (v2.1.tmod 4))).toNat 0)]).length ≤ maxLen) <|
 some (.go (Xaa .i64 (v2.1 + 1), (v2.2 ++ ([(p0.getD (Xaa .i64 ((Xaa .i64 ((Xaa .i64 (8 * (Xaa .i64 ((Xaa .i64 ((Xaa .i64 (p1.tdiv 2)) * 4)) + (Xaa .i64 (v2.1.tdiv 4)))))) + (Xaa .i64 ((p1.tmod 2) * 4)))) + (v2.1.tmod 4))).toNat 0)]))))) (
 some (.done v2.2))
def Xe4 (p0 : (List Int)) (p1 : Int) : Option (List Int) :=
 bnd (loop (Xbh p0 p1) (0, ([] : List Int))) fun v4 =>
 some v4
def Xcv (p0 : (List Int)) (v2 : (Int × (List Int))) : Option (Lp (Int × (List Int)) (List Int)) :=
 sel (decide (v2.1 < 4)) (
 req (0 ≤ (Xaa .i64 (4 * v2.1)) ∧ (Xaa .i64 (4 * v2.1)) < p0.length) <|
 req (0 ≤ (Xaa .i64 ((Xaa .i64 (4 * v2.1)) + 1)) ∧ (Xaa .i64 ((Xaa .i64 (4 * v2.1)) + 1)) < p0.length) <|
 req (0 ≤ (Xaa .i64 ((Xaa .i64 (4 * v2.1)) + 2)) ∧ (Xaa .i64 ((Xaa .i64 (4 * v2.1)) + 2)) < p0.length) <|
 req (0 ≤ (Xaa .i64 ((Xaa .i64 (4 * v2.1)) + 3)) ∧ (Xaa .i64 ((Xaa .i64 (4 * v2.1)) + 3)) < p0.length) <|
 req ((v2.2.length + ([Xaa .i64 ((Xaa .i64 ((Xaa .i64 ((p0.getD (Xaa .i64 (4 * v2.1)).toNat 0) + (p0.getD (Xaa .i64 ((Xaa .i64 (4 * v2.1)) + 1)).toNat 0))) + (p0.getD (Xaa .i64 ((Xaa .i64 (4 * v2.1)) + 2)).toNat 0))) + (p0.getD (Xaa .i64 ((Xaa .i64 (4 * v2.1)) + 3)).toNat 0)), Xaa .i64 ((Xaa .i64 ((Xaa .i64 ((Xaa .i64 (2 * (p0.getD (Xaa .i64 (4 * v2.1)).toNat 0))) + (p0.getD (Xaa .i64 ((Xaa .i64 (4 * v2.1)) + 1)).toNat 0))) - (p0.getD (Xaa .i64 ((Xaa .i64 (4 * v2.1)) + 2)).toNat 0))) - (Xaa .i64 (2 * (p0.getD (Xaa .i64 ((Xaa .i64 (4 * v2.1)) + 3)).toNat 0)))), Xaa .i64 ((Xaa .i64 ((Xaa .i64 ((p0.getD (Xaa .i64 (4 * v2.1)).toNat 0) - (p0.getD (Xaa .i64 ((Xaa .i64 (4 * v2.1)) + 1)).toNat 0))) - (p0.getD (Xaa .i64 ((Xaa .i64 (4 * v2.1)) + 2)).toNat 0))) + (p0.getD (Xaa .i64 ((Xaa .i64 (4 * v2.1)) + 3)).toNat 0)), Xaa .i64 ((Xaa .i64 ((Xaa .i64 ((p0.getD (Xaa .i64 (4 * v2.1)).toNat 0) - (Xaa .i64 (2 * (p0.getD (Xaa .i64 ((Xaa .i64 (4 * v2.1)) + 1)).toNat 0))))) + (Xaa .i64 (2 * (p0.getD (Xaa .i64 ((Xaa .i64 (4 * v2.1)) + 2)).toNat 0))))) - (p0.getD (Xaa .i64 ((Xaa .i64 (4 * v2.1)) + 3)).toNat 0))]).length) * 8 ≤ 140737488355328 ∧ v2.2.length + ([Xaa .i64 ((Xaa .i64 ((Xaa .i64 ((p0.getD (Xaa .i64 (4 * v2.1)).toNat 0) + (p0.getD (Xaa .i64 ((Xaa .i64 (4 * v2.1)) + 1)).toNat 0))) + (p0.getD (Xaa .i64 ((Xaa .i64 (4 * v2.1)) + 2)).toNat 0))) + (p0.getD (Xaa .i64 ((Xaa .i64 (4 * v2.1)) + 3)).toNat 0)), Xaa .i64 ((Xaa .i64 ((Xaa .i64 ((Xaa .i64 (2 * (p0.getD (Xaa .i64 (4 * v2.1)).toNat 0))) + (p0.getD (Xaa .i64 ((Xaa .i64 (4 * v2.1)) + 1)).toNat 0))) - (p0.getD (Xaa .i64 ((Xaa .i64 (4 * v2.1)) + 2)).toNat 0))) - (Xaa .i64 (2 * (p0.getD (Xaa .i64 ((Xaa .i64 (4 * v2.1)) + 3)).toNat 0)))), Xaa .i64 ((Xaa .i64 ((Xaa .i64 ((p0.getD (Xaa .i64 (4 * v2.1)).toNat 0) - (p0.getD (Xaa .i64 ((Xaa .i64 (4 * v2.1)) + 1)).toNat 0))) - (p0.getD (Xaa .i64 ((Xaa .i64 (4 * v2.1)) + 2)).toNat 0))) + (p0.getD (Xaa .i64 ((Xaa .i64 (4 * v2.1)) + 3)).toNat 0)), Xaa .i64 ((Xaa .i64 ((Xaa .i64 ((p0.getD (Xaa .i64 (4 * v2.1)).toNat 0) - (Xaa .i64 (2 * (p0.getD (Xaa .i64 ((Xaa .i64 (4 * v2.1)) + 1)).toNat 0))))) + (Xaa .i64 (2 * (p0.getD (Xaa .i64 ((Xaa .i64 (4 * v2.1)) + 2)).toNat 0))))) - (p0.getD (Xaa .i64 ((Xaa .i64 (4 * v2.1)) + 3)).toNat 0))]).length ≤ maxLen) <|
 some (.go (Xaa .i64 (v2.1 + 1), (v2.2 ++ ([Xaa .i64 ((Xaa .i64 ((Xaa .i64 ((p0.getD (Xaa .i64 (4 * v2.1)).toNat 0) + (p0.getD (Xaa .i64 ((Xaa .i64 (4 * v2.1)) + 1)).toNat 0))) + (p0.getD (Xaa .i64 ((Xaa .i64 (4 * v2.1)) + 2)).toNat 0))) + (p0.getD (Xaa .i64 ((Xaa .i64 (4 * v2.1)) + 3)).toNat 0)), Xaa .i64 ((Xaa .i64 ((Xaa .i64 ((Xaa .i64 (2 * (p0.getD (Xaa .i64 (4 * v2.1)).toNat 0))) + (p0.getD (Xaa .i64 ((Xaa .i64 (4 * v2.1)) + 1)).toNat 0))) - (p0.getD (Xaa .i64 ((Xaa .i64 (4 * v2.1)) + 2)).toNat 0))) - (Xaa .i64 (2 * (p0.getD (Xaa .i64 ((Xaa .i64 (4 * v2.1)) + 3)).toNat 0)))), Xaa .i64 ((Xaa .i64 ((Xaa .i64 ((p0.getD (Xaa .i64 (4 * v2.1)).toNat 0) - (p0.getD (Xaa .i64 ((Xaa .i64 (4 * v2.1)) + 1)).toNat 0))) - (p0.getD (Xaa .i64 ((Xaa .i64 (4 * v2.1)) + 2)).toNat 0))) + (p0.getD (Xaa .i64 ((Xaa .i64 (4 * v2.1)) + 3)).toNat 0)), Xaa .i64 ((Xaa .i64 ((Xaa .i64 ((p0.getD (Xaa .i64 (4 * v2.1)).toNat 0) - (Xaa .i64 (2 * (p0.getD (Xaa .i64 ((Xaa .i64 (4 * v2.1)) + 1)).toNat 0))))) + (Xaa .i64 (2 * (p0.getD (Xaa .i64 ((Xaa .i64 (4 * v2.1)) + 2)).toNat 0))))) - (p0.getD (Xaa .i64 ((Xaa .i64 (4 * v2.1)) + 3)).toNat 0))]))))) (
 some (.done v2.2))
def Xgt (p0 : (List Int)) : Option (List Int) :=
 bnd (loop (Xcv p0) (0, ([] : List Int))) fun v4 =>
 some v4
def Xnh (p0 : (List Int)) : Option (List Int) :=
 bnd (Xbo p0 16 1000) fun q1 =>
 sel (!q1) (
 some ([] : List Int)) (
 bnd (Xgt p0) fun q2 =>
 bnd (Xdz q2) fun q3 =>
 bnd (Xgt q3) fun q4 =>
 bnd (Xdz q4) fun q5 =>
 some q5)
def Xi0 (p0 : Int) (p1 : Int) : Option Int :=
 bnd (Xj6 p1) fun q1 =>
 bnd (
 bnd (Xal p0 0 40) fun q3 =>
 sel q3 (
 some (decide (q1 < 0))) (
 some true)) fun v2 =>
 sel v2 (
 some 0) (
 req ((6 : Int) ≠ 0) <|
 sel ((p0.tmod 6) == 0) (
 bnd (Xav q1 13107 5243 8066) fun q4 =>
 some q4) (
 sel ((p0.tmod 6) == 1) (
 bnd (Xav q1 11916 4660 7490) fun q5 =>
 some q5) (
 sel ((p0.tmod 6) == 2) (
 bnd (Xav q1 10082 4194 6554) fun q6 =>
 some q6) (
 sel ((p0.tmod 6) == 3) (
 bnd (Xav q1 9362 3647 5825) fun q7 =>
 some q7) (
 sel ((p0.tmod 6) == 4) (
 bnd (Xav q1 8192 3355 5243) fun q8 =>
 some q8) (
 bnd (Xav q1 7282 2893 4559) fun q9 =>
 some q9))))))
def Xe1 (p0 : Int) (p1 : Int) (p2 : Int) : Option Int :=
 bnd (
 bnd (Xal p0 (-20000) 20000) fun q2 =>
 sel q2 (
 bnd (Xal p1 0 40) fun q3 =>
 sel q3 (
 bnd (Xal p2 0 15) fun q4 =>
 some (!q4)) (
 some true)) (
 some true)) fun v1 =>
 sel v1 (
 some 0) (
 req ((6 : Int) ≠ 0) <|
 req (0 ≤ (Xaa .u64 (Xaa .i64 (15 + (Xaa .i64 (p1.tdiv 6)))))) <|
 bnd (Xd7 p0) fun q5 =>
 bnd (Xi0 p1 p2) fun q6 =>
 req ((3 : Int) ≠ 0) <|
 req ((Xaa .i64 (1 * 2 ^ min (Xaa .u64 (Xaa .i64 (15 + (Xaa .i64 (p1.tdiv 6))))).toNat (IntKind.bits .i64))) ≠ 0) <|
 bnd (Xf2 p0 (Xaa .i64 ((Xaa .i64 ((Xaa .i64 (q5 * q6)) + (Xaa .i64 ((Xaa .i64 (1 * 2 ^ min (Xaa .u64 (Xaa .i64 (15 + (Xaa .i64 (p1.tdiv 6))))).toNat (IntKind.bits .i64))).tdiv 3)))).tdiv (Xaa .i64 (1 * 2 ^ min (Xaa .u64 (Xaa .i64 (15 + (Xaa .i64 (p1.tdiv 6))))).toNat (IntKind.bits .i64)))))) fun q7 =>
 some q7)
def Xbn (p1 : Xjd) (v8 : (Int × (List Int))) : Option (Lp (Int × (List Int)) (List Int)) :=
 sel (decide (v8.1 < 64)) (
 req (0 ≤ v8.1 ∧ v8.1 < v8.2.length) <|
 req (v8.1.toNat < v8.2.length) <|
 bnd (Xe0 (v8.2.getD v8.1.toNat 0) p1.Qp) fun q12 =>
 req (0 ≤ v8.1 ∧ v8.1 < v8.2.length) <|
 req (v8.1.toNat < v8.2.length) <|
 some (.go (Xaa .i64 (v8.1 + 1), (v8.2.set v8.1.toNat q12)))) (
 some (.done v8.2))
def Xbf (p1 : Xjd) (v45 : (Int × (List Int))) : Option (Lp (Int × (List Int)) (List Int)) :=
 sel (decide (v45.1 < 16)) (
 req (0 ≤ v45.1 ∧ v45.1 < v45.2.length) <|
 req (v45.1.toNat < v45.2.length) <|
 bnd (Xe1 (v45.2.getD v45.1.toNat 0) p1.Qp v45.1) fun q49 =>
 req (0 ≤ v45.1 ∧ v45.1 < v45.2.length) <|
 req (v45.1.toNat < v45.2.length) <|
 some (.go (Xaa .i64 (v45.1 + 1), (v45.2.set v45.1.toNat q49)))) (
 some (.done v45.2))
def Xco (p0 : (List Int)) (p1 : Xjd) (v27 : (Int × (List Int))) : Option (Lp (Int × (List Int)) (List Int)) :=
 sel (decide (v27.1 < 4)) (
 bnd (Xe4 p0 v27.1) fun q41 =>
 bnd (Xnh q41) fun q42 =>
 bnd (loop (Xbf p1) (0, q42)) fun v48 =>
 bnd (Xdb 4 v48) fun q51 =>
 req ((v27.2.length + q51.1.length) * 8 ≤ 140737488355328 ∧ v27.2.length + q51.1.length ≤ maxLen) <|
 some (.go (Xaa .i64 (v27.1 + 1), (v27.2 ++ q51.1)))) (
 some (.done v27.2))
def Xbv (p0 : (List Int)) (p1 : Xjd) : Option ((List Int) × Bool) :=
 bnd (
 bnd (Xic p1) fun q2 =>
 sel q2 (
 bnd (Xbo p0 64 255) fun q3 =>
 some (!q3)) (
 some true)) fun v1 =>
 sel v1 (
 some (([] : List Int), false)) (
 sel p1.Exact (
 bnd (Xdb 8 p0) fun q4 =>
 some (q4.1, q4.2)) (
 sel p1.Large (
 bnd (Xln p0) fun q5 =>
 bnd (loop (Xbn p1) (0, q5)) fun v11 =>
 bnd (Xdb 8 v11) fun q14 =>
 some (q14.1, q14.2)) (
 bnd (loop (Xco p0 p1) (0, ([] : List Int))) fun v40 =>
 some (v40, true))))
def Xk6 (p0 : Pic) (p1 : Pic) (p2 : (List Int)) (p3 : Int) (p4 : Int) (p5 : Xjd) (p6 : Int) : Option Xby :=
 bnd (
 sel p5.Key (
 some false) (
 bnd (Xc9 p1 p3 p4) fun q2 =>
 bnd (Xi3 p2 q2) fun q3 =>
 bnd (Xkv q3) fun q4 =>
 some q4)) fun v1 =>
 sel v1 (
 some (⟨0, 0, 0, 0, []⟩ : Xby)) (
 bnd (Xdy p0 p3 p4) fun q5 =>
 bnd (Xfy p2 q5.1) fun q6 =>
 Yg3 (fun (v7 : Unit) =>
 bnd (Xck q6.1 q5.1) fun q14 =>
 bnd (Xi3 p2 q14) fun q15 =>
 bnd (Xbv q15 p5) fun q16 =>
 some (⟨2, q6.1, 0, 0, q16.1⟩ : Xby)) fun j1 =>
 sel (!p5.Key) (
 bnd (Xjj p1 p2 p3 p4 p6) fun q8 =>
 sel (decide (q8.2.2 ≤ q6.2)) (
 bnd (Xc9 p1 (Xaa .i64 (p3 + q8.1)) (Xaa .i64 (p4 + q8.2.1))) fun q9 =>
 bnd (Xi3 p2 q9) fun q10 =>
 bnd (Xbv q10 p5) fun q11 =>
 bnd (
 sel (q8.1 == 0) (
 sel (q8.2.1 == 0) (
 bnd (Xkv q11.1) fun q13 =>
 some q13) (
 some false)) (
 some false)) fun v12 =>
 sel v12 (
 some (⟨0, 0, 0, 0, []⟩ : Xby)) (
 some (⟨1, 0, q8.1, q8.2.1, q11.1⟩ : Xby))) (
 j1 ())) (
 j1 ()))
def Xos (p0 : Pic) (p1 : Pic) (p2 : (List Int)) (p3 : Int) (p4 : Int) (p5 : Xjd) (p6 : Int) : Option (Xby × (List Int) × Bool) :=
 bnd (
 bnd (Xgv p0 p3 p4) fun q2 =>
 sel q2 (
 bnd (Xd0 p2) fun q3 =>
 sel q3 (
 bnd (Xic p5) fun q4 =>
 sel q4 (
 bnd (Xal p6 0 4) fun q5 =>
 sel q5 (
 sel p5.Key (
 some false) (
 bnd (Xku p0 p1) fun q6 =>
 some (!q6))) (
 some true)) (
 some true)) (
 some true)) (
 some true)) fun v1 =>
 sel v1 (
 some ((⟨0, 0, 0, 0, []⟩ : Xby), ([] : List Int), false)) (
 bnd (Xk6 p0 p1 p2 p3 p4 p5 p6) fun q7 =>
 bnd (Xds p0 p1 0 0 p5 p3 p4 q7) fun q8 =>
 some (q7, q8.1, true))
end
theorem Xab {α β : Type} (a : α) (f : α → Option β) : bnd (some a) f = f a := rfl
theorem Xk9 {α β : Type} {x : Option α} {a : α} {f : α → Option β} (h : x = some a) : bnd x f = f a := by subst h; rfl
theorem Xaw {β : Type} (x y : β) : sel true x y = x := rfl
theorem Xas {β : Type} (x y : β) : sel false x y = y := rfl
theorem Yhf {β : Type} (b : Bool) (x y : β) : sel (!b) x y = sel b y x := by cases b <;> rfl
theorem Xhc (b x : Bool) : sel b (some x) (some false) = some (b && x) := by cases b <;> rfl
theorem Yf0 (b x : Bool) : sel b (some true) (some x) = some (b || x) := by cases b <;> rfl
theorem Yfz (b x : Bool) : sel b (some x) (some true) = some (!b || x) := by cases b <;> rfl
theorem Ydl {β : Type} (b : Bool) (x y : β) : sel b (some x) (some y) = some (sel b x y) := by cases b <;> rfl
theorem Xzv {β : Type} (b : Bool) (x y : β) : sel b x y = if b = true then x else y := by cases b <;> rfl
theorem Yeh {β : Type} (p : Prop) [Decidable p] (x y : β) : sel (decide p) x y = if p then x else y := by
 by_cases h : p <;> simp [h, sel]
theorem Xeu {β : Type} {b : Bool} {x y : β} (h : b = true) : sel b x y = x := by subst h; rfl
theorem Xd5 {β : Type} {b : Bool} {x y : β} (h : b = false) : sel b x y = y := by subst h; rfl
theorem Xbk {β : Type} {p : Prop} [Decidable p] {x y : β} (h : p) : sel (decide p) x y = x := by simp [h, sel]
theorem Xan {β : Type} {p : Prop} [Decidable p] {x y : β} (h : ¬ p) : sel (decide p) x y = y := by simp [h, sel]
theorem Xbj {β : Type} {c : Prop} [Decidable c] {k : Option β} (h : c) : req c k = k := if_pos h
theorem wk {e : Int} (h1 : -9223372036854775808 ≤ e) (h2 : e ≤ 9223372036854775807) : Xaa .i64 e = e := by
 show wrap64 e = e
 unfold wrap64; omega
theorem rqA {β : Type} {c : Prop} [Decidable c] {k : Option β} (h : c := by omega) : req c k = k := Xbj h
theorem syA {β : Type} {c : Prop} [Decidable c] {x y : β} (h : c := by omega) : sel (decide c) x y = x := Xbk h
theorem snA {β : Type} {c : Prop} [Decidable c] {x y : β} (h : ¬ c := by omega) : sel (decide c) x y = y := Xan h
theorem wkA {e : Int} (h1 : -9223372036854775808 ≤ e := by omega) (h2 : e ≤ 9223372036854775807 := by omega) : Xaa .i64 e = e := wk h1 h2
theorem w8 {e : Int} (h1 : 0 ≤ e) (h2 : e ≤ 255) : Xaa .u8 e = e := by
 show IntKind.wrap .u8 e = e
 simp [IntKind.wrap, IntKind.signed, IntKind.bits]; omega
theorem Yfm : maxLen = 9223372036854775807 := rfl
theorem Xcy {a b : Int} (h : 0 ≤ a) : Int.tmod a b = a % b := Int.tmod_eq_emod_of_nonneg h
theorem Xcb {a b : Int} (h : 0 ≤ a) : Int.tdiv a b = a / b := Int.tdiv_eq_ediv_of_nonneg h
theorem Xjt {P : Nat → Prop} (n : Nat) (h0 : P n) (hs : ∀ i, i < n → P (i + 1) → P i) : ∀ i, i ≤ n → P i := by
 intro i hi
 obtain ⟨k, rfl⟩ : ∃ k, n = i + k := ⟨n - i, by omega⟩
 clear hi
 induction k generalizing i with
 | zero => exact h0
 | succ k ih =>
  refine hs i (by omega) ?_
  exact ih (i + 1) (by rw [show i + 1 + k = i + (k + 1) by omega]; exact h0) (fun j hj => hs j (by omega))
theorem lgo {V O : Type} {f : V → Option (Lp V O)} {x y : V} {r : Option O} (h : f x = some (.go y)) (k : loop f y = r) : loop f x = r := by rw [Xzl h]; exact k
theorem Xnb {V O : Type} {f : V → Option (Lp V O)} {x : V} {o : O} (h : f x = some (.done o)) : loop f x = some o := Xnd h
theorem Xko {V O : Type} {f : V → Option (Lp V O)} (I : V → Prop) (m : V → Nat) (Q : V → O → Prop) (h : ∀ v, I v → (∃ o, f v = some (.done o) ∧ Q v o) ∨ ∃ v', f v = some (.go v') ∧ I v' ∧ m v' < m v ∧ ∀ o, Q v' o → Q v o) : ∀ v, I v → ∃ o, loop f v = some o ∧ Q v o := by
 intro v
 generalize hn : m v = n
 induction n using Nat.strongRecOn generalizing v with
 | _ n ih =>
  intro hv
  rcases h v hv with ⟨o, h1, h2⟩ | ⟨v', h1, h2, h3, h4⟩
  ·
   exact ⟨o, Xnd h1, h2⟩
  ·
   obtain ⟨o, h5, h6⟩ := ih (m v') (by omega) v' rfl h2
   exact ⟨o, by rw [Xzl h1]; exact h5, h4 o h6⟩
theorem Xee {α : Type} (l : List α) (i : Nat) (h : i < l.length) (d : α) : l.getD i d = l[i] := by
 simp [List.getD_eq_getElem?_getD, List.getElem?_eq_getElem h]
theorem Xam (a b c : Int) : Xak a b c = some (decide (b ≤ a ∧ a ≤ c)) := by
 unfold Xak
 by_cases h : b ≤ a <;> simp [bnd, sel, h]
theorem Xag (a b c : Int) : Xal a b c = some (decide (b ≤ a ∧ a ≤ c)) := by
 unfold Xal
 by_cases h : b ≤ a <;> simp [bnd, sel, h]
theorem Yf1 {α : Type} (a : List α) (x y : α) (b : List α) : (a ++ x :: b).set a.length y = a ++ y :: b := by
 induction a with
 | nil => rfl
 | cons z a ih => simp only [List.cons_append, List.length_cons, List.set_cons_succ, ih]
theorem Yg1 {α : Type} (a : List α) (x d : α) (b : List α) : (a ++ x :: b).getD a.length d = x := by
 induction a with
 | nil => rfl
 | cons z a ih => simp
theorem Xqx {f : Int → Option (Lp Int (Ou Unit Bool))} (n : Nat) (h : ∀ i : Nat, i < n → f i = some (.go ((i + 1 : Nat) : Int))) (h0 : f n = some (.done (.out ()))) : loop f 0 = some (.out ()) :=
 Xjt (P := fun i => loop f (i : Int) = some (.out ())) n (Xnd h0) (fun i hi ih => by rw [Xzl (h i hi)]; exact ih) 0 (by omega)
theorem Xul (y : Int) : 0 ≤ IntKind.wrap .i64 (BitVec.ofInt (IntKind.bits .i64) y &&& BitVec.ofInt (IntKind.bits .i64) 255).toNat ∧ IntKind.wrap .i64 (BitVec.ofInt (IntKind.bits .i64) y &&& BitVec.ofInt (IntKind.bits .i64) 255).toNat ≤ 255 := by
 have h : (BitVec.ofInt (IntKind.bits .i64) y &&& BitVec.ofInt (IntKind.bits .i64) 255).toNat ≤ 255 := by
  rw [BitVec.toNat_and]
  exact Nat.le_trans Nat.and_le_right (by decide)
 generalize (BitVec.ofInt (IntKind.bits .i64) y &&& BitVec.ofInt (IntKind.bits .i64) 255).toNat = n at h ⊢
 rw [← Xn1, wkA]
 omega
def Xi7 (c : Xa0) : Prop := c.b_.length ≤ 1048576 ∧ 0 ≤ c.i_
theorem Xk5 (b : List Int) (hb : b.length ≤ 1048576) : ∃ c, Xgl b = some c ∧ Xi7 c := by
 unfold Xgl
 obtain ⟨o, h, _⟩ := Xko (f := Xir b) (fun v => 0 ≤ v.2) (fun v => b.length - v.2.toNat) (fun _ _ => True) (by
  intro ⟨h, i⟩ hi
  unfold Xir
  simp only [Xhc, Xab] at hi ⊢
  by_cases h1 : i < b.length ∧ i < 4000
  ·
   rw [Xeu (by simp; exact h1), Xbj ⟨hi, h1.1⟩]
   refine .inr ⟨_, rfl, ?_, ?_, fun _ _ => trivial⟩
   ·
    simp only; rw [wkA]; omega
   ·
    simp only; rw [wkA]; omega
  ·
   rw [Xd5 (by simp; omega)]
   exact .inl ⟨_, rfl, trivial⟩) (Xaa .i64 (94701 + (b.length : Int)), 0) (by simp)
 rw [h]
 exact ⟨_, rfl, hb, by simp⟩
theorem Xcd (c : Xa0) (hc : Xi7 c) : ∃ x c', Xbg c = some (x, c') ∧ 0 ≤ x ∧ x ≤ 255 ∧ Xi7 c' := by
 unfold Xbg
 rw [Xbj (by decide), Xbj (by decide)]
 obtain ⟨h1, h2⟩ := hc
 by_cases h : c.i_ < c.b_.length
 ·
  rw [Xbk h, Xbj ⟨h2, h⟩, Xab]
  refine ⟨_, _, rfl, (Xul _).1, (Xul _).2, h1, ?_⟩
  simp only; rw [wkA]; omega
 ·
  rw [Xan h, Xab]
  exact ⟨_, _, rfl, (Xul _).1, (Xul _).2, h1, h2⟩
theorem Xa2 (c : Xa0) (n : Int) (hc : Xi7 c) : ∃ x c', Xay c n = some (x, c') ∧ 0 ≤ x ∧ (0 < n → x < n) ∧ (n ≤ 0 → x = 0) ∧ Xi7 c' := by
 unfold Xay
 by_cases h0 : n ≤ 0
 ·
  rw [Xbk h0]; exact ⟨_, _, rfl, by omega, fun h => by omega, fun _ => rfl, hc⟩
 ·
  rw [Xan h0]
  obtain ⟨x, c1, e1, a1, b1, hc1⟩ := Xcd c hc
  by_cases h1 : n ≤ 256
  ·
   rw [Xbk h1, e1, Xab, rqA]
   refine ⟨_, _, rfl, ?_, fun _ => ?_, fun h => by omega, hc1⟩
   ·
    simp only; rw [Xcy a1]; exact Int.emod_nonneg _ (by omega)
   ·
    simp only; rw [Xcy a1]; exact Int.emod_lt_of_pos _ (by omega)
  ·
   obtain ⟨y, c2, e2, a2, b2, hc2⟩ := Xcd c1 hc1
   obtain ⟨z, c3, e3, a3, b3, hc3⟩ := Xcd c2 hc2
   obtain ⟨u, c4, e4, a4, b4, hc4⟩ := Xcd c3 hc3
   rw [Xan h1, e1, Xab]
   simp only
   rw [e2, Xab]
   simp only
   rw [e3, Xab]
   simp only
   rw [e4, Xab, rqA]
   simp only
   rw [wkA (e := x * 16777216), wkA (e := y * 65536), wkA (e := z * 256), wkA (e := x * 16777216 + y * 65536), wkA (e := x * 16777216 + y * 65536 + z * 256), wkA, Xcy (by omega)]
   exact ⟨_, _, rfl, Int.emod_nonneg _ (by omega), fun _ => Int.emod_lt_of_pos _ (by omega), fun h => by omega, hc4⟩
theorem Xka (c : Xa0) (n : Int) (hc : Xi7 c) : ∃ x c', Xe2 c n = some (x, c') ∧ Xi7 c' := by
 unfold Xe2
 obtain ⟨x, c', e, _, _, _, h⟩ := Xa2 c n hc
 rw [e, Xab]; exact ⟨_, _, rfl, h⟩
theorem Ycb (l : List Int) : Xua l = some (decide ((l.length : Int) > 1048576)) := rfl
theorem Xq1 (b : List Int) (hb : b.length ≤ 1048576) : ∃ l, Xex b = some l ∧ l.length = 12 ∧ ∀ x ∈ l, 0 ≤ x ∧ x < 10000 := by
 unfold Xex
 obtain ⟨c, e, hc⟩ := Xk5 b hb
 obtain ⟨x, c1, e1, _, _, hc1⟩ := Xcd c hc
 rw [e, Xab, e1, Xab]
 obtain ⟨o, h, h2⟩ := Xko (f := Xeg) (fun v => 0 ≤ v.1 ∧ v.1 ≤ 12 ∧ Xi7 ⟨v.2.1, v.2.2.1, v.2.2.2.1⟩ ∧ (v.2.2.2.2.length : Int) = v.1 ∧ ∀ x ∈ v.2.2.2.2, 0 ≤ x ∧ x < 10000) (fun v => 12 - v.1.toNat) (fun _ o => o.length = 12 ∧ ∀ x ∈ o, 0 ≤ x ∧ x < 10000) (by
  intro ⟨i, b, j, h, l⟩ ⟨h1, h2, h3, h4, h5⟩
  unfold Xeg
  simp only at h1 h2 h3 h4 h5 ⊢
  by_cases hi : i < 12
  ·
   obtain ⟨x, c', ex, x0, x1, _, hx⟩ := Xa2 _ 10000 h3
   rw [Xbk hi, ex, Xab, Xbj (by rw [Yfm]; simp only [List.length_singleton]; omega)]
   refine .inr ⟨_, rfl, ?_, ?_, fun _ h => h⟩
   ·
    rw [wkA]
    refine ⟨by omega, by omega, hx, by simp; omega, ?_⟩
    intro y hy
    rcases List.mem_append.1 hy with hy | hy
    ·
     exact h5 y hy
    ·
     rw [List.mem_singleton.1 hy]; exact ⟨x0, x1 (by omega)⟩
   ·
    rw [wkA]; omega
  ·
   rw [Xan hi]
   exact .inl ⟨_, rfl, by omega, h5⟩) (0, c1.b_, c1.i_, c1.h_, []) ⟨by simp, by simp, hc1, by simp, by simp⟩
 rw [h]
 exact ⟨_, rfl, h2⟩
def Xbs (n a b : Int) : Int := if b < a ∨ n < a then a else if n > b then b else n
theorem Xgy (n a b : Int) : Xc3 n a b = some (Xbs n a b) := by
 unfold Xc3 Xbs
 congr 1
 repeat' split
 all_goals omega
theorem Xjo {n a b : Int} (h : a ≤ b) : a ≤ Xbs n a b ∧ Xbs n a b ≤ b := by
 unfold Xbs
 repeat' split
 all_goals omega
theorem Xcs (n a b : Int) : Xda n a b = some (Xbs n a b) := by
 unfold Xda Xbs
 rw [Yf0, Xab]
 by_cases h : b < a ∨ n < a
 ·
  rw [if_pos h, Xeu (by simpa using h)]
 ·
  rw [if_neg h, Xd5 (by simp; omega), Yeh]; split <;> rfl
def Yip (p : Par) : Bool := decide (0 ≤ p.Qp ∧ p.Qp ≤ 40) && !(p.Large && p.Exact)
def Xdu (p : Pic) : Bool := decide (1 ≤ p.Wide ∧ p.Wide ≤ 256) && (decide (1 ≤ p.High ∧ p.High ≤ 256) && ((p.Dots.size : Int) == p.Wide * p.High))
theorem Xk8 {w h : Int} (h1 : 1 ≤ w ∧ w ≤ 256) (h2 : 1 ≤ h ∧ h ≤ 256) : 1 ≤ w * h ∧ w * h ≤ 65536 := by
 have a : w * 1 ≤ w * h := Int.mul_le_mul_of_nonneg_left h2.1 (by omega)
 have b : w * h ≤ 256 * h := Int.mul_le_mul_of_nonneg_right h1.2 (by omega)
 omega
theorem Xd6 (p : Pic) : Xed p = some (Xdu p) := by
 unfold Xed Xdu
 simp only [Xag, Xab, Xhc]
 by_cases h1 : 1 ≤ p.Wide ∧ p.Wide ≤ 256
 ·
  by_cases h2 : 1 ≤ p.High ∧ p.High ≤ 256
  ·
   have := Xk8 h1 h2
   rw [wkA]
  ·
   rw [decide_eq_false h2, Bool.false_and, Bool.false_and]
 ·
  rw [decide_eq_false h1, Bool.false_and, Bool.false_and]
theorem Xd3 (p : Pic) : Xdl p = some (Xdu p) := by
 unfold Xdl Xdu
 simp only [Xam, Xab, Xhc]
 by_cases h1 : 1 ≤ p.Wide ∧ p.Wide ≤ 256
 ·
  by_cases h2 : 1 ≤ p.High ∧ p.High ≤ 256
  ·
   have := Xk8 h1 h2
   rw [wkA]
  ·
   rw [decide_eq_false h2, Bool.false_and, Bool.false_and]
 ·
  rw [decide_eq_false h1, Bool.false_and, Bool.false_and]
theorem Xyi (a b : List Int) : strOfNums a ++ strOfNums b = strOfNums (a ++ b) := by
 unfold strOfNums
 rw [List.map_append]
 apply ByteArray.ext
 simp
theorem Yi0 : (⟨#[]⟩ : ByteArray) = strOfNums [] := rfl
theorem Ykb (y : Int) : IntKind.wrap .i64 (BitVec.ofInt (IntKind.bits .i64) y &&& BitVec.ofInt (IntKind.bits .i64) 1).toNat = y % 2 := by
 have h : (BitVec.ofInt 64 y &&& BitVec.ofInt 64 1).toNat = (y % 2).toNat := by
  rw [BitVec.toNat_and]
  have e1 : (BitVec.ofInt 64 1).toNat = 1 := by decide
  rw [e1, Nat.and_one_is_mod, BitVec.toNat_ofInt]
  omega
 show IntKind.wrap .i64 ((BitVec.ofInt 64 y &&& BitVec.ofInt 64 1).toNat : Int) = _
 rw [h, ← Xn1, wkA]
 omega
def Yh1 : Nat → Int → List Int
 | 0, _ => []
 | w + 1, n => Yh1 w (n / 2) ++ [48 + n % 2]
theorem Yei (w : Nat) : ∀ (k : Nat) (n : Int) (s : List Int), 0 ≤ n → n ≤ 9223372036854775807 → k + s.length ≤ 100000 → loop Xg6 (n, (k : Int) - 1, List.replicate k 0 ++ s) = some (Yh1 k n ++ s) := by
 intro k
 induction k with
 | zero =>
  intro n s h0 h1 hl
  refine Xnb ?_
  unfold Xg6
  simp only
  rw [snA]
  simp [Yh1]
 | succ k ih =>
  intro n s h0 h1 hl
  have e1 : List.replicate (k + 1) (0 : Int) ++ s = List.replicate k 0 ++ 0 :: s := by rw [List.replicate_succ', List.append_assoc]; rfl
  have e2 := Yf1 (List.replicate k (0 : Int)) 0 (48 + n % 2) s
  rw [List.length_replicate] at e2
  refine lgo (y := (n / 2, (k : Int) - 1, List.replicate k 0 ++ (48 + n % 2) :: s)) ?_ ?_
  ·
   unfold Xg6
   have e3 : (((k + 1 : Nat) : Int) - 1).toNat = k := by omega
   simp only [e1, e3]
   rw [syA, Xbj (by simp; omega), Xbj (by simp), Xbj (by decide), Ykb, wkA (e := 48 + n % 2), w8 (by omega) (by omega), e2, wkA]
   rw [show ((k + 1 : Nat) : Int) - 1 - 1 = (k : Int) - 1 by omega]
   rfl
  ·
   rw [ih (n / 2) ((48 + n % 2) :: s) (by omega) (by omega) (by simp; omega), Yh1, List.append_assoc]; rfl
theorem Xy7 (n : Int) (w : Nat) (h0 : 0 ≤ n) (h1 : n ≤ 9223372036854775807) (hw : w ≤ 1000) : Xlf n (w : Int) = some (strOfNums (Yh1 w n)) := by
 unfold Xlf
 rw [rqA, wkA, Int.toNat_natCast]
 have := Yei w w n [] h0 h1 (by simp; omega)
 rw [List.append_nil, List.append_nil] at this
 rw [this, Xab]
def Xt8 (m : Nat) : Nat := if h : m = 0 then 0 else Xt8 (m / 2) + 1
termination_by m
decreasing_by omega
def Ygi (m : Nat) : List Int := if h : m = 0 then [] else Ygi (m / 2) ++ [48 + ((m % 2 : Nat) : Int)]
termination_by m
decreasing_by omega
theorem Ycu (m : Nat) : (Ygi m).length = Xt8 m := by
 induction m using Nat.strongRecOn with
 | _ m ih =>
  rw [Ygi, Xt8]
  by_cases h : m = 0
  ·
   rw [dif_pos h, dif_pos h]; rfl
  ·
   rw [dif_neg h, dif_neg h, List.length_append, ih (m / 2) (by omega)]; rfl
theorem Yb2 {m j : Nat} (h : m < 2 ^ j) : Xt8 m ≤ j := by
 induction j generalizing m with
 | zero => rw [Xt8, dif_pos (by simp at h; omega)]; omega
 | succ j ih =>
  rw [Xt8]
  split
  ·
   omega
  ·
   have := ih (m := m / 2) (by rw [Nat.pow_succ] at h; omega)
   omega
theorem Xyx {m : Nat} (h : 0 < m) : 1 ≤ Xt8 m := by rw [Xt8, dif_neg (by omega)]; omega
theorem Ygv (z m : Nat) : Yh1 (Xt8 m + z) m = List.replicate z 48 ++ Ygi m := by
 induction m using Nat.strongRecOn with
 | _ m ih =>
  rw [Ygi, Xt8]
  by_cases h : m = 0
  ·
   rw [dif_pos h, dif_pos h, h, List.append_nil, Nat.zero_add]
   clear ih h
   induction z with
   | zero => rfl
   | succ z iz => rw [Yh1, show ((0 : Nat) : Int) / 2 = ((0 : Nat) : Int) from rfl, iz, List.replicate_succ']; rfl
  ·
   rw [dif_neg h, dif_neg h, show Xt8 (m / 2) + 1 + z = Xt8 (m / 2) + z + 1 by omega, Yh1, show (m : Int) / 2 = ((m / 2 : Nat) : Int) by omega, ih (m / 2) (by omega), List.append_assoc, show (m : Int) % 2 = ((m % 2 : Nat) : Int) by omega]
def ueL (n : Nat) : List Int := List.replicate (Xt8 (n + 1) - 1) 48 ++ Ygi (n + 1)
theorem Ygd (n : Nat) (h : n ≤ 1000000) : (ueL n).length ≤ 39 ∧ 1 ≤ (ueL n).length := by
 unfold ueL
 rw [List.length_append, List.length_replicate, Ycu]
 have := Yb2 (m := n + 1) (j := 20) (by omega)
 have := Xyx (m := n + 1) (by omega)
 omega
theorem Xww : ∀ (m : Nat) (k : Int), 0 ≤ k → k ≤ 1000 → m ≤ 9223372036854775807 → loop Xb0 ((m : Int), k) = some (k + Xt8 m) := by
 have main : ∀ (j m : Nat) (k : Int), m < 2 ^ j → j ≤ 63 → 0 ≤ k → k + j ≤ 2000 → loop Xb0 ((m : Int), k) = some (k + Xt8 m) := by
  intro j
  induction j with
  | zero =>
   intro m k hm _ _ _
   have : m = 0 := by simp at hm; omega
   subst this
   refine Xnb ?_
   unfold Xb0
   simp only
   rw [snA, Xt8, dif_pos rfl]; simp
  | succ j ih =>
   intro m k hm hj h0 h1
   by_cases h : m = 0
   ·
    subst h
    refine Xnb ?_
    unfold Xb0
    simp only
    rw [snA, Xt8, dif_pos rfl]; simp
   ·
    refine lgo (y := (((m / 2 : Nat) : Int), k + 1)) ?_ ?_
    ·
     unfold Xb0
     simp only
     rw [syA, Xbj (by decide), wkA]
     show some (Lp.go ((m : Int) / 2, k + 1)) = _
     congr 3
    ·
     rw [ih (m / 2) (k + 1) (by rw [Nat.pow_succ] at hm; omega) (by omega) (by omega) (by omega), Xt8.eq_def m, dif_neg h]
     congr 1; omega
 intro m k h0 h1 hm
 exact main 63 m k (by omega) (by omega) h0 (by omega)
theorem Xx6 (n : Nat) (h : n ≤ 1000000) : Xrz (n : Int) = some (strOfNums (ueL n)) := by
 unfold Xrz Xil
 rw [wkA (e := (n : Int) + 1)]
 have := Xww (n + 1) 0 (by omega) (by omega) (by omega)
 rw [show ((n + 1 : Nat) : Int) = (n : Int) + 1 by omega, Int.zero_add] at this
 rw [this, Xab, Xab]
 have h1 := Yb2 (m := n + 1) (j := 20) (by omega)
 have h2 := Xyx (m := n + 1) (by omega)
 rw [wkA (e := 2 * (Xt8 (n + 1) : Int)), wkA, show 2 * (Xt8 (n + 1) : Int) - 1 = ((Xt8 (n + 1) + (Xt8 (n + 1) - 1) : Nat) : Int) by omega, Xy7 _ _ (by omega) (by omega) (by omega), Xab,
  show (n : Int) + 1 = ((n + 1 : Nat) : Int) by omega, Ygv]
 rfl
theorem Xv6 (n : Nat) (x : Int) (h : n ≤ 1000000000) : Xnj (n : Int) x = some (strOfNums (List.replicate n x)) := by
 unfold Xnj
 rw [rqA, Int.toNat_natCast]
 have key : ∀ (k a : Nat), k + a = n → loop (Xhh (n : Int) x) ((a : Int), List.replicate a x ++ List.replicate k 0) = some (List.replicate n x) := by
  intro k
  induction k with
  | zero =>
   intro a ha
   refine Xnb ?_
   unfold Xhh
   simp only
   rw [snA]
   simp; omega
  | succ k ih =>
   intro a ha
   have e2 := Yf1 (List.replicate a x) 0 x (List.replicate k 0)
   rw [List.length_replicate] at e2
   refine lgo (y := (((a + 1 : Nat) : Int), List.replicate (a + 1) x ++ List.replicate k 0)) ?_ (ih (a + 1) (by omega))
   unfold Xhh
   simp only [List.replicate_succ (n := k), Int.toNat_natCast]
   rw [syA, Xbj (by simp; omega), Xbj (by simp), e2, wkA, List.replicate_succ' (n := a), List.append_assoc]
   rfl
 have := key n 0 rfl
 rw [List.replicate_zero, List.nil_append] at this
 exact Xk9 this
theorem Xme (n : Nat) (h : n ≤ 1000000) : Xlq (n : Int) = some (strOfNums (ueL n)) := by
 have main : ∀ (j m : Nat) (s : List Int), m < 2 ^ j → j ≤ 63 → s.length + j ≤ 1000 → loop Xhi ((m : Int), strOfNums s) = some (strOfNums (Ygi m ++ s)) := by
  intro j
  induction j with
  | zero =>
   intro m s hm _ _
   have : m = 0 := by simp at hm; omega
   subst this
   refine Xnb ?_
   unfold Xhi
   simp only
   rw [snA, Ygi, dif_pos rfl]; rfl
  | succ j ih =>
   intro m s hm hj hl
   by_cases h : m = 0
   ·
    subst h
    refine Xnb ?_
    unfold Xhi
    simp only
    rw [snA, Ygi, dif_pos rfl]; rfl
   ·
    have hlt : (m : Int) < 2 ^ (j + 1) := by exact_mod_cast hm
    have hle : (2 : Int) ^ (j + 1) ≤ 2 ^ 63 := by
     have := Nat.pow_le_pow_right (n := 2) (by omega) hj
     exact_mod_cast this
    have hbd : (m : Int) < 9223372036854775808 := Int.lt_of_lt_of_le hlt (by simpa using hle)
    refine lgo (y := (((m / 2 : Nat) : Int), strOfNums ((48 + ((m % 2 : Nat) : Int)) :: s))) ?_ ?_
    ·
     unfold Xhi
     simp only
     rw [syA, Xbj (by decide), Xcy (by omega), Xcb (by omega), wkA (e := 48 + (m : Int) % 2), w8 (by omega) (by omega), Xbj (by simp only [strOfNums_size, List.length_singleton]; omega), Xbj (by decide), wkA, Xyi]
     congr 3
    ·
     rw [ih (m / 2) _ (by rw [Nat.pow_succ] at hm; omega) (by omega) (by simp; omega)]
     conv => rhs; rw [Ygi, dif_neg h]
     rw [List.append_assoc]; rfl
 unfold Xlq
 have h1 := Yb2 (m := n + 1) (j := 20) (by omega)
 have h2 := Xyx (m := n + 1) (by omega)
 rw [wkA (e := (n : Int) + 1), Yi0, show (n : Int) + 1 = ((n + 1 : Nat) : Int) by omega, main 63 (n + 1) [] (by omega) (by omega) (by simp), Xab, List.append_nil, strOfNums_size, Ycu, wkA, show (Xt8 (n + 1) : Int) - 1 = ((Xt8 (n + 1) - 1 : Nat) : Int) by omega, Xv6 _ _ (by omega), Xab,
  Xbj (by simp only [strOfNums_size, List.length_replicate]; omega), Xyi]
 rfl
def Yal (n : Int) : Nat := if n > 0 then (2 * n - 1).toNat else (-2 * n).toNat
theorem Xw0 (n : Int) (h : -500000 ≤ n ∧ n ≤ 500000) : Xjv n = some ((Yal n : Int), true) := by
 unfold Xjv Yal
 rw [Xam, Xab, Yhf, Xbk h, Yeh, wkA (e := 2 * n), wkA, wkA]
 split
 ·
  rw [Int.toNat_of_nonneg (by omega)]
 ·
  rw [Int.toNat_of_nonneg (by omega)]
theorem Xxl (n : Int) (h : -500000 ≤ n ∧ n ≤ 500000) : Xpj n = some ((Yal n : Int), true) := by
 unfold Xpj Yal
 rw [Xag, Xab, Yhf, Xbk h, Yeh, wkA (e := 2 * n), wkA, wkA]
 split
 ·
  rw [Int.toNat_of_nonneg (by omega)]
 ·
  rw [Int.toNat_of_nonneg (by omega)]
theorem Xyy (n : Int) (h : -500000 ≤ n ∧ n ≤ 500000) : Yal n ≤ 1000000 := by unfold Yal; split <;> omega
def seL (n : Int) : List Int := ueL (Yal n)
theorem Xzz (n : Int) (h : -500000 ≤ n ∧ n ≤ 500000) : Xse n = some (strOfNums (seL n)) := by
 unfold Xse
 rw [Xxl n h, Xab, Xme _ (Xyy n h), Xab]; rfl
theorem Xy4 (n : Int) (h : -500000 ≤ n ∧ n ≤ 500000) : Xlb n = some (strOfNums (seL n), true) := by
 have := Xyy n h
 unfold Xlb
 rw [Xw0 n h, Xab, Yhf, Xaw]
 unfold Xjq
 rw [Xam, Xab, Yhf, syA, Xx6 _ this, Xab, Xab]; rfl
def Yim (x : Int) : Bool := decide (-5000 ≤ x ∧ x ≤ 5000)
def Xwp (l : List Int) : Bool := decide (l.length = 64) && l.all Yim
theorem Xt5 (p : Int → Bool) (l : List Int) (f : Int → Option (Lp Int (Ou Unit Bool))) (h : ∀ i : Nat, i < l.length → f (i : Int) = sel (!(p (l.getD i 0))) (some (.done (.ret false))) (some (.go ((i + 1 : Nat) : Int)))) (h0 : f (l.length : Int) = some (.done (.out ()))) :
  loop f 0 = some (if l.all p = true then .out () else .ret false) := by
 have key : ∀ (r a : List Int), l = a ++ r → loop f (a.length : Int) = some (if r.all p = true then .out () else .ret false) := by
  intro r
  induction r with
  | nil => intro a ha; rw [List.append_nil] at ha; rw [← ha, Xnd h0]; rfl
  | cons x r ih =>
   intro a ha
   have hlen : a.length < l.length := by rw [ha]; simp
   have hx : l.getD a.length 0 = x := by rw [ha]; exact Yg1 a x _ r
   have hs := h a.length hlen
   rw [hx] at hs
   cases e : p x with
   | true =>
    rw [e] at hs
    have := ih (a ++ [x]) (by rw [ha]; simp)
    rw [List.length_append, List.length_singleton] at this
    rw [Xzl hs, this, List.all_cons, e, Bool.true_and]
   | false => rw [e] at hs; rw [Xnd hs, List.all_cons, e, Bool.false_and]; rfl
 exact key l [] rfl
theorem Xxt (l : List Int) : Xbo l 64 5000 = some (Xwp l) := by
 unfold Xbo Xwp
 by_cases h : l.length = 64
 ·
  rw [Xd5 (by simp only [bne_eq_false_iff_eq]; omega), Xt5 Yim l (Xde l 64 5000) (by
   intro i hi
   unfold Xde
   rw [syA, rqA, wkA (e := 0 - 5000), Xag, Xab, wkA, Int.toNat_natCast]
   rfl) (by unfold Xde; rw [snA]), Xab, decide_eq_true h, Bool.true_and]
  cases l.all Yim <;> rfl
 ·
  rw [Xeu (by simp only [bne_iff_ne, ne_eq]; omega), decide_eq_false h, Bool.false_and]
theorem Xg3 (l : List Int) (n lo hi : Int) (hl : l.length ≤ 9223372036854775806) : Xa4 l n lo hi = some (l.all (fun x => decide (lo ≤ x ∧ x ≤ hi)) && ((l.length : Int) == n)) := by
 unfold Xa4
 rw [Xt5 (fun x => decide (lo ≤ x ∧ x ≤ hi)) l (Xg4 l lo hi) (by
   intro i hi
   unfold Xg4
   rw [syA, rqA, Xam, Xab, wkA, Int.toNat_natCast]
   rfl) (by unfold Xg4; rw [snA]), Xab]
 cases l.all (fun x => decide (lo ≤ x ∧ x ≤ hi)) <;> rfl
theorem Xlc (l : List Int) (hl : l.length ≤ 9223372036854775806) : Xdd l = some (Xwp l) := by
 unfold Xdd Xwp
 rw [Xg3 l _ _ _ hl, Xab]
 show some (l.all Yim && ((l.length : Int) == 64)) = _
 have : ((l.length : Int) == 64) = decide (l.length = 64) := by rw [Bool.eq_iff_iff]; simp only [beq_iff_eq, decide_eq_true_eq]; omega
 rw [this, Bool.and_comm]
theorem Yd8 {l : List Int} (h : Xwp l = true) : l.length = 64 ∧ l.all Yim = true := by
 unfold Xwp at h; rw [Bool.and_eq_true, decide_eq_true_eq] at h; exact h
def Xje (c : Xjd) : Bool := decide (0 ≤ c.Qp ∧ c.Qp ≤ 40) && !(c.Large && c.Exact)
theorem Xb8 (c : Xjd) : Xic c = some (Xje c) := by
 unfold Xic Xje
 rw [Xag, Xab, Yfz, Xhc, Xab]
 cases c.Large <;> cases c.Exact <;> rfl
theorem Xii (c : Xjd) : Xej c = some (Xje c) := by
 unfold Xej Xje
 rw [Xam, Xab, Yfz, Xhc, Xab]
 cases c.Large <;> cases c.Exact <;> rfl
def Xxw (s : Xby) : Bool :=
 if s.Kind = 0 then decide (s.Mode = 0 ∧ s.Dx = 0 ∧ s.Dy = 0 ∧ s.Levels.length = 0)
 else if s.Kind = 1 then decide (s.Mode = 0) && (decide (-16 ≤ s.Dx ∧ s.Dx ≤ 16) && (decide (-16 ≤ s.Dy ∧ s.Dy ≤ 16) && Xwp s.Levels))
 else if s.Kind = 2 then decide (0 ≤ s.Mode ∧ s.Mode ≤ 3) && (decide (s.Dx = 0) && (decide (s.Dy = 0) && Xwp s.Levels))
 else false
theorem Ye5 (a b : Int) : (a == b) = decide (a = b) := by rw [Bool.eq_iff_iff]; simp
theorem Xmt (s : Xby) : Xmd s = some (Xxw s) := by
 unfold Xmd Xxw
 simp only [Xag, Xxt, Xab, Xhc, Ye5]
 simp only [Yeh]
 by_cases h0 : s.Kind = 0
 ·
  rw [if_pos h0, if_pos h0]; congr 1; rw [Bool.eq_iff_iff]; simp
 ·
  rw [if_neg h0, if_neg h0]
  by_cases h1 : s.Kind = 1
  ·
   rw [if_pos h1, if_pos h1]
  ·
   rw [if_neg h1, if_neg h1]
   by_cases h2 : s.Kind = 2
   ·
    rw [decide_eq_true h2, Bool.true_and, if_pos h2]
   ·
    rw [decide_eq_false h2, Bool.false_and, if_neg h2]
theorem Xmm (s : Xby) (hl : s.Levels.length ≤ 9223372036854775806) : Xe9 s = some (Xxw s) := by
 unfold Xe9 Xxw
 simp only [Xam, Xlc _ hl, Xab, Xhc, Ye5]
 simp only [Yeh]
 by_cases h0 : s.Kind = 0
 ·
  rw [if_pos h0, if_pos h0]; congr 1; rw [Bool.eq_iff_iff]; simp
 ·
  rw [if_neg h0, if_neg h0]
  by_cases h1 : s.Kind = 1
  ·
   rw [if_pos h1, if_pos h1]
  ·
   rw [if_neg h1, if_neg h1]
   by_cases h2 : s.Kind = 2
   ·
    rw [decide_eq_true h2, Bool.true_and, if_pos h2]
   ·
    rw [decide_eq_false h2, Bool.false_and, if_neg h2]
def Xwh (s : Xby) (c : Xjd) : Bool := !c.Key || s.Kind == 2
theorem Xwi {s : Xby} (h : Xxw s = true) : 0 ≤ s.Kind ∧ s.Kind ≤ 2 := by
 unfold Xxw at h
 repeat' split at h
 all_goals first | omega | simp at h
theorem Xz0 {s : Xby} (h : Xxw s = true) (h1 : s.Kind = 1) : (-16 ≤ s.Dx ∧ s.Dx ≤ 16) ∧ (-16 ≤ s.Dy ∧ s.Dy ≤ 16) ∧ Xwp s.Levels = true := by
 unfold Xxw at h
 rw [if_neg (by omega), if_pos h1] at h
 simp only [Bool.and_eq_true, decide_eq_true_eq] at h
 exact ⟨h.2.1, h.2.2.1, h.2.2.2⟩
theorem Ydn {s : Xby} (h : Xxw s = true) (h1 : s.Kind = 2) : (0 ≤ s.Mode ∧ s.Mode ≤ 3) ∧ Xwp s.Levels = true := by
 unfold Xxw at h
 rw [if_neg (by omega), if_neg (by omega), if_pos h1] at h
 simp only [Bool.and_eq_true, decide_eq_true_eq] at h
 exact ⟨h.1, h.2.2.2⟩
theorem Xys (b : ByteArray) (i : Int) : 0 ≤ Ygs b i ∧ Ygs b i ≤ 255 := by
 unfold Ygs
 split
 ·
  rename_i h
  have := (b[i.toNat]'h).toNat_lt
  omega
 ·
  omega
theorem Xb2 {p : Pic} (h : Xdu p = true) : (1 ≤ p.Wide ∧ p.Wide ≤ 256) ∧ (1 ≤ p.High ∧ p.High ≤ 256) ∧ (p.Dots.size : Int) = p.Wide * p.High := by
 unfold Xdu at h
 simp only [Bool.and_eq_true, decide_eq_true_eq, beq_iff_eq] at h
 exact ⟨h.1, h.2.1, h.2.2⟩
theorem Ydg {p : Pic} (h1 : 1 ≤ p.Wide ∧ p.Wide ≤ 256) (h2 : 1 ≤ p.High ∧ p.High ≤ 256) (h3 : (p.Dots.size : Int) = p.Wide * p.High) : Xdu p = true := by
 unfold Xdu
 simp only [Bool.and_eq_true, decide_eq_true_eq, beq_iff_eq]
 exact ⟨h1, h2, h3⟩
def Xyv (p : Pic) (x y : Int) : Int := Ygs p.Dots (Xbs y 0 (p.High - 1) * p.Wide + Xbs x 0 (p.Wide - 1))
theorem Xlw (p : Pic) (x y : Int) : 0 ≤ Xyv p x y ∧ Xyv p x y ≤ 255 := Xys _ _
theorem Yag {p : Pic} (ok : Xdu p = true) (x y : Int) : 0 ≤ Xbs y 0 (p.High - 1) * p.Wide + Xbs x 0 (p.Wide - 1) ∧ Xbs y 0 (p.High - 1) * p.Wide + Xbs x 0 (p.Wide - 1) < p.Dots.size ∧ 0 ≤ Xbs y 0 (p.High - 1) * p.Wide ∧ Xbs y 0 (p.High - 1) * p.Wide ≤ 65536 := by
 obtain ⟨h1, h2, h3⟩ := Xb2 ok
 have b1 := Xjo (n := y) (a := 0) (b := p.High - 1) (by omega)
 have b2 := Xjo (n := x) (a := 0) (b := p.Wide - 1) (by omega)
 have m1 := Int.mul_nonneg b1.1 (show 0 ≤ p.Wide by omega)
 have m2 := Int.mul_le_mul_of_nonneg_right b1.2 (show 0 ≤ p.Wide by omega)
 have m3 : (p.High - 1) * p.Wide = p.Wide * p.High - p.Wide := by rw [Int.sub_mul, Int.one_mul, Int.mul_comm]
 have m4 := (Xk8 h1 h2).2
 omega
theorem Xve {p : Pic} (ok : Xdu p = true) (x y : Int) : Xc7 p x y = some (Xyv p x y) := by
 obtain ⟨h1, h2, h3⟩ := Xb2 ok
 unfold Xc7 Xyv
 rw [Xgy, Xab, Xgy, Xab, wkA (e := p.High - 1), wkA (e := p.Wide - 1)]
 obtain ⟨p1, p2, p3, p4⟩ := Yag ok x y
 have b2 := Xjo (n := x) (a := 0) (b := p.Wide - 1) (by omega)
 have br := Xys p.Dots (Xbs y 0 (p.High - 1) * p.Wide + Xbs x 0 (p.Wide - 1))
 rw [wkA (e := Xbs y 0 (p.High - 1) * p.Wide), wkA (e := Xbs y 0 (p.High - 1) * p.Wide + Xbs x 0 (p.Wide - 1)), Xbj ⟨p1, p2⟩, wkA]
theorem Xfg {p : Pic} (ok : Xdu p = true) (x y : Int) : Xc0 p x y = some (Xyv p x y) := by
 obtain ⟨h1, h2, h3⟩ := Xb2 ok
 unfold Xc0 Xyv
 rw [Xd6, Xab, ok, Bool.not_true, Xas, Xcs, Xab, Xcs, Xab, wkA (e := p.High - 1), wkA (e := p.Wide - 1)]
 obtain ⟨p1, p2, p3, p4⟩ := Yag ok x y
 have b2 := Xjo (n := x) (a := 0) (b := p.Wide - 1) (by omega)
 have br := Xys p.Dots (Xbs y 0 (p.High - 1) * p.Wide + Xbs x 0 (p.Wide - 1))
 rw [wkA (e := Xbs y 0 (p.High - 1) * p.Wide), wkA (e := Xbs y 0 (p.High - 1) * p.Wide + Xbs x 0 (p.Wide - 1)), Xbj ⟨p1, p2⟩, wkA]
def Ydy (p : Pic) (x y : Int) (i : Nat) : Int := Xyv p (x + ((i % 8 : Nat) : Int)) (y + ((i / 8 : Nat) : Int))
def Xn2 (p : Pic) (x y : Int) (n : Nat) : List Int := (List.range n).map (Ydy p x y)
theorem Yac (p : Pic) (x y : Int) (n : Nat) : Xn2 p x y (n + 1) = Xn2 p x y n ++ [Ydy p x y n] := by simp [Xn2, List.range_succ]
theorem Xgf (p : Pic) (x y : Int) (n : Nat) : (Xn2 p x y n).length = n := by simp [Xn2]
def Yb0 (x : Int) : Bool := decide (0 ≤ x ∧ x ≤ 255)
def Xa9 (l : List Int) : Bool := decide (l.length = 64) && l.all Yb0
theorem Xa6 {l : List Int} (h : Xa9 l = true) : l.length = 64 ∧ ∀ i : Nat, i < 64 → 0 ≤ l.getD i 0 ∧ l.getD i 0 ≤ 255 := by
 simp only [Xa9, Bool.and_eq_true, decide_eq_true_eq] at h
 refine ⟨h.1, fun i hi => ?_⟩
 have := List.all_eq_true.1 h.2 (l.getD i 0) (by rw [Xee l i (by omega)]; exact List.getElem_mem _)
 simpa [Yb0] using this
theorem Xd8 (p : Pic) (x y : Int) : Xa9 (Xn2 p x y 64) = true := by
 simp only [Xa9, Xgf, decide_true, Bool.true_and, List.all_eq_true]
 intro z hz
 obtain ⟨i, _, rfl⟩ := List.mem_map.1 hz
 simp only [Yb0, decide_eq_true_eq]
 exact Xlw _ _ _
theorem Xdp {p : Pic} (ok : Xdu p = true) (x y : Int) (hx : -1000 ≤ x ∧ x ≤ 1000) (hy : -1000 ≤ y ∧ y ≤ 1000) : Xc9 p x y = some (Xn2 p x y 64) := by
 have hm : maxLen = 9223372036854775807 := rfl
 unfold Xc9
 rw [Xd6, Xab, ok, Xaw, Xag, Xab, syA, Xag, Xab, Xab, decide_eq_true (by omega), Bool.not_true, Xas]
 have key : ∀ i : Nat, i ≤ 64 → loop (Xew p x y) ((i : Int), Xn2 p x y i) = some (Xn2 p x y 64) := by
  refine Xjt _ ?_ ?_
  ·
   exact Xnb (by unfold Xew; rw [Xan (by simp)])
  ·
   intro i hi ih
   refine lgo (y := (((i + 1 : Nat) : Int), Xn2 p x y (i + 1))) ?_ ih
   unfold Xew
   simp only
   rw [syA, rqA, rqA, Xcy (by omega), Xcb (by omega), wkA (e := (i : Int) / 8), wkA (e := x + (i : Int) % 8), wkA (e := y + (i : Int) / 8), Xfg ok, Xab, Xbj (by rw [Xgf]; simp only [List.length_singleton]; omega), wkA (e := (i : Int) + 1)]
   have e2 : Xyv p (x + (i : Int) % 8) (y + (i : Int) / 8) = Ydy p x y i := by unfold Ydy; congr 1
   rw [e2, ← Yac]
   rfl
 have := key 0 (by omega)
 exact (Xk9 this).trans rfl
theorem Xfb {p : Pic} (ok : Xdu p = true) (x y : Int) (hx : -1000 ≤ x ∧ x ≤ 1000) (hy : -1000 ≤ y ∧ y ≤ 1000) : Xbi p x y = some (Xn2 p x y 64) := by
 have hm : maxLen = 9223372036854775807 := rfl
 unfold Xbi
 rw [rqA]
 have key : ∀ r : Nat, r ≤ 8 → loop (Xc5 p x y) ((r : Int), Xn2 p x y (8 * r)) = some (Xn2 p x y 64) := by
  refine Xjt _ ?_ ?_
  ·
   exact Xnb (by unfold Xc5; rw [Xan (by simp)])
  ·
   intro r hr ih
   refine lgo (y := (((r + 1 : Nat) : Int), Xn2 p x y (8 * (r + 1)))) ?_ ih
   unfold Xc5
   simp only
   have inner : ∀ c : Nat, c ≤ 8 → loop (Xc6 p x y ((r : Int), Xn2 p x y (8 * r))) ((c : Int), Xn2 p x y (8 * r + c)) = some (Xn2 p x y (8 * (r + 1))) := by
    refine Xjt _ ?_ ?_
    ·
     exact Xnb (by unfold Xc6; rw [Xan (by simp)]; rfl)
    ·
     intro c hc ih2
     refine lgo (y := (((c + 1 : Nat) : Int), Xn2 p x y (8 * r + (c + 1)))) ?_ ih2
     unfold Xc6
     simp only
     rw [syA, wkA (e := x + (c : Int)), wkA (e := y + (r : Int)), Xve ok, Xab, Xbj (by rw [Xgf]; simp only [List.length_singleton]; omega), wkA (e := (c : Int) + 1)]
     have e2 : Xyv p (x + (c : Int)) (y + (r : Int)) = Ydy p x y (8 * r + c) := by
      unfold Ydy
      rw [show (8 * r + c) % 8 = c by omega, show (8 * r + c) / 8 = r by omega]
     rw [e2, ← Yac]
     rfl
   have i0 := inner 0 (by omega)
   rw [syA]
   refine (Xk9 i0).trans ?_
   rw [wkA (e := (r : Int) + 1)]
   rfl
 have := key 0 (by omega)
 exact (Xk9 this).trans rfl
def Xsl (x : Int) : Int := if x < 0 then -x else x
def Xju (a b : List Int) : Nat → Int
 | 0 => 0
 | n + 1 => Xju a b n + Xsl (a.getD n 0 - b.getD n 0)
theorem Xgm {a b : List Int} (ha : Xa9 a = true) (hb : Xa9 b = true) : ∀ n : Nat, n ≤ 64 → 0 ≤ Xju a b n ∧ Xju a b n ≤ 255 * n
 | 0, _ => by simp [Xju]
 | n + 1, h => by
  have ih := Xgm ha hb n (by omega)
  have p := (Xa6 ha).2 n (by omega)
  have q := (Xa6 hb).2 n (by omega)
  simp only [Xju, Xsl]
  split <;> omega
theorem Xl2 {a b : List Int} (ha : Xa9 a = true) (hb : Xa9 b = true) : Xkl a b = some (Xju a b 64) := by
 unfold Xkl
 have la := (Xa6 ha).1
 have lb := (Xa6 hb).1
 have key : ∀ i : Nat, i ≤ 64 → loop (Xjy a b) (Xju a b i, (i : Int)) = some (Xju a b 64) := by
  refine Xjt _ ?_ ?_
  ·
   exact Xnb (by unfold Xjy; rw [Xan (by simp only; omega)])
  ·
   intro i hi ih
   refine lgo (y := (Xju a b (i + 1), ((i + 1 : Nat) : Int))) ?_ ih
   have p := (Xa6 ha).2 i hi
   have q := (Xa6 hb).2 i hi
   have g := Xgm ha hb i (by omega)
   unfold Xjy Xiv
   simp only [Int.toNat_natCast]
   rw [syA, rqA, rqA, wkA (e := a.getD i 0 - b.getD i 0), wkA (e := 0 - (a.getD i 0 - b.getD i 0)), Xab]
   have e : (if 0 - (a.getD i 0 - b.getD i 0) > a.getD i 0 - b.getD i 0 then 0 - (a.getD i 0 - b.getD i 0) else a.getD i 0 - b.getD i 0) = Xsl (a.getD i 0 - b.getD i 0) := by
    unfold Xsl; split <;> split <;> omega
   have ab : 0 ≤ Xsl (a.getD i 0 - b.getD i 0) ∧ Xsl (a.getD i 0 - b.getD i 0) ≤ 255 := by unfold Xsl; split <;> omega
   rw [e, wkA (e := Xju a b i + Xsl (a.getD i 0 - b.getD i 0)), wkA (e := (i : Int) + 1)]
   rfl
 exact (Xk9 (key 0 (by omega))).trans rfl
theorem Xep (l : List Int) (hl : l.length ≤ 9223372036854775806) : Xa4 l 64 0 255 = some (Xa9 l) := by
 rw [Xg3 l _ _ _ hl]
 have : ((l.length : Int) == 64) = decide (l.length = 64) := by rw [Bool.eq_iff_iff]; simp only [beq_iff_eq, decide_eq_true_eq]; omega
 rw [this, Bool.and_comm]
 rfl
def Yes (d : Int) : Int := ((seL d).length : Int)
theorem Xik (d : Int) (h : -500000 ≤ d ∧ d ≤ 500000) : Xhy d = some (Yes d) := by
 unfold Xhy Yes
 rw [Xy4 d h, Xab, strOfNums_size]
theorem Xny (d : Int) (h : -500000 ≤ d ∧ d ≤ 500000) : 1 ≤ Yes d ∧ Yes d ≤ 39 := by
 unfold Yes seL
 have := Ygd (Yal d) (Xyy d h)
 omega
theorem Xwa (c : Xa0) (n : Int) (hc : Xi7 c) (h0 : 0 ≤ n) (h1 : n ≤ 100000) : ∃ s c', Xi1 c n = some (s, c') ∧ (s.size : Int) = n ∧ Xi7 c' := by
 have hm : maxLen = 9223372036854775807 := rfl
 unfold Xi1
 obtain ⟨z, c0, ez, z0, z1, hz⟩ := Xcd c hc
 rw [ez, Xab]
 simp only
 obtain ⟨o, h, h2, h3⟩ := Xko (f := Xhm n) (fun v => (0 ≤ v.1 ∧ v.1 ≤ 255) ∧ 0 ≤ v.2.1 ∧ v.2.1 ≤ n ∧ Xi7 ⟨v.2.2.1, v.2.2.2.1, v.2.2.2.2.1⟩ ∧ (v.2.2.2.2.2.length : Int) = v.2.1) (fun v => (n - v.2.1).toNat) (fun _ o => (o.1.length : Int) = n ∧ Xi7 ⟨o.2.1, o.2.2.1, o.2.2.2⟩) (by
  intro ⟨w, i, b, j, h, l⟩ ⟨hw, h1, h2, h3, h4⟩
  unfold Xhm
  simp only at hw h1 h2 h3 h4 ⊢
  by_cases hi : i < n
  ·
   rw [Xbk hi]
   obtain ⟨x, c', ex, x0, x1, _, hx⟩ := Xa2 _ 6 h3
   rw [ex, Xab]
   simp only
   have step : ∃ w' c2, (sel (x == 0) (bnd (Xbg c') fun q16 => some (q16.1, q16.2.b_, q16.2.i_, q16.2.h_)) (sel (x == 1) (bnd (Xay c' 9) fun q17 => some ((IntKind.wrap .i64 (BitVec.ofInt (IntKind.bits .i64) (Xaa .i64 ((Xaa .i64 (w + q17.1)) + 252)) &&& BitVec.ofInt (IntKind.bits .i64) 255).toNat), q17.2.b_, q17.2.i_, q17.2.h_)) (some (w, c'.b_, c'.i_, c'.h_)))) = some (w', c2.b_, c2.i_, c2.h_) ∧ (0 ≤ w' ∧ w' ≤ 255) ∧ Xi7 c2 := by
    cases e0 : (x == 0) with
    | true =>
     obtain ⟨y, c2, ey, y0, y1, hy⟩ := Xcd c' hx
     rw [Xaw, ey, Xab]
     exact ⟨y, c2, rfl, ⟨y0, y1⟩, hy⟩
    | false =>
     rw [Xas]
     cases e1 : (x == 1) with
     | true =>
      obtain ⟨y, c2, ey, y0, y1, _, hy⟩ := Xa2 c' 9 hx
      rw [Xaw, ey, Xab]
      exact ⟨_, c2, rfl, Xul _, hy⟩
     | false => rw [Xas]; exact ⟨w, c', rfl, hw, hx⟩
   obtain ⟨w', c2, es, hw', hc2⟩ := step
   rw [es, Xab, Xbj (by rw [hm]; simp only [List.length_singleton]; omega)]
   refine .inr ⟨_, rfl, ?_, ?_, fun _ h => h⟩
   ·
    simp only
    rw [wkA (e := i + 1)]
    exact ⟨hw', by omega, by omega, hc2, by simp; omega⟩
   ·
    simp only; rw [wkA (e := i + 1)]; omega
  ·
   rw [Xan hi]
   exact .inl ⟨_, rfl, by simp only; omega, h3⟩) (z, 0, c0.b_, c0.i_, c0.h_, []) ⟨⟨z0, z1⟩, by simp, h0, hz, by simp⟩
 rw [h, Xab]
 exact ⟨_, _, rfl, by rw [strOfNums_size]; exact h2, h3⟩
theorem Xt0 (c : Xa0) (w h : Int) (hc : Xi7 c) (hw : 1 ≤ w ∧ w ≤ 256) (hh : 1 ≤ h ∧ h ≤ 256) : ∃ p c', Xhn c w h = some (p, c') ∧ p.Wide = w ∧ p.High = h ∧ Xdu p = true ∧ Xi7 c' := by
 have a := Xk8 hw hh
 unfold Xhn
 rw [wkA (e := w * h)]
 obtain ⟨s, c', e, hs, hc'⟩ := Xwa c (w * h) hc (by omega) (by omega)
 rw [e, Xab]
 exact ⟨_, _, rfl, rfl, rfl, Ydg hw hh hs, hc'⟩
theorem Xq5 (c : Xa0) (hc : Xi7 c) : ∃ p c', Xe3 c = some (p, c') ∧ (p.Wide = 8 ∨ p.Wide = 16) ∧ (p.High = 8 ∨ p.High = 16) ∧ Xdu p = true ∧ Xi7 c' := by
 unfold Xe3
 obtain ⟨x, c1, e1, x0, x1, _, h1⟩ := Xa2 c 2 hc
 obtain ⟨y, c2, e2, y0, y1, _, h2⟩ := Xa2 c1 2 h1
 have x1' := x1 (by omega)
 have y1' := y1 (by omega)
 rw [e1, Xab]
 simp only
 rw [e2, Xab]
 simp only
 rw [wkA (e := 8 * x), wkA (e := 8 + 8 * x), wkA (e := 8 * y), wkA (e := 8 + 8 * y)]
 obtain ⟨p, c3, e3, pw, ph, ok, h3⟩ := Xt0 c2 (8 + 8 * x) (8 + 8 * y) h2 (by omega) (by omega)
 rw [e3, Xab]
 exact ⟨_, _, rfl, by simp only; omega, by simp only; omega, ok, h3⟩
theorem Xwg (c : Xa0) (p : Pic) (hc : Xi7 c) (ok : Xdu p = true) : ∃ q c', Xi4 c p = some (q, c') ∧ q.Wide = p.Wide ∧ q.High = p.High ∧ Xdu q = true ∧ Xi7 c' := by
 have hm : maxLen = 9223372036854775807 := rfl
 obtain ⟨k1, k2, k3⟩ := Xb2 ok
 have ar := Xk8 k1 k2
 unfold Xi4
 obtain ⟨x, c1, e1, x0, x1, _, h1⟩ := Xa2 c 7 hc
 obtain ⟨y, c2, e2, y0, y1, _, h2⟩ := Xa2 c1 5 h1
 obtain ⟨z, c3, e3, h3⟩ := Xka c2 3 h2
 have x1' := x1 (by omega)
 have y1' := y1 (by omega)
 rw [e1, Xab]
 simp only
 rw [e2, Xab]
 simp only
 rw [e3, Xab]
 simp only
 rw [wkA (e := x - 3), wkA (e := y - 2)]
 have hv : ∃ a b : Int, (-10 ≤ a ∧ a ≤ 10) ∧ (-10 ≤ b ∧ b ≤ 10) ∧ sel z (some ((0 : Int), (0 : Int), c3.b_, c3.i_, c3.h_)) (some (x - 3, y - 2, c3.b_, c3.i_, c3.h_)) = some (a, b, c3.b_, c3.i_, c3.h_) := by
  cases z with
  | true => exact ⟨0, 0, by omega, by omega, rfl⟩
  | false => exact ⟨x - 3, y - 2, by omega, by omega, rfl⟩
 obtain ⟨a, b, ha, hb, hv⟩ := hv
 rw [hv, Xab]
 obtain ⟨o, h, ho⟩ := Xko (f := Xhq p (a, b, c3.b_, c3.i_, c3.h_)) (fun v => 0 ≤ v.1 ∧ v.1 ≤ (p.Dots.size : Int) ∧ (v.2.length : Int) = v.1) (fun v => ((p.Dots.size : Int) - v.1).toNat) (fun _ o => (o.length : Int) = (p.Dots.size : Int)) (by
  intro ⟨i, l⟩ ⟨g1, g2, g3⟩
  unfold Xhq
  simp only at g1 g2 g3 ⊢
  by_cases hi : i < (p.Dots.size : Int)
  ·
   rw [Xbk hi, rqA, rqA, Xfg ok, Xab, Xbj (by rw [hm]; simp only [List.length_singleton]; omega), wkA (e := i + 1)]
   exact .inr ⟨_, rfl, ⟨by simp only; omega, by simp only; omega, by simp; omega⟩, by simp only; omega, fun _ h => h⟩
  ·
   rw [Xan hi]
   exact .inl ⟨_, rfl, by omega⟩) (0, []) ⟨by simp, by simp, by simp⟩
 rw [h, Xab]
 obtain ⟨o2, h', g1, g2⟩ := Xko (f := Xhr) (fun v => 0 ≤ v.1 ∧ v.1 ≤ 6 ∧ Xi7 ⟨v.2.1, v.2.2.1, v.2.2.2.1⟩ ∧ (v.2.2.2.2.length : Int) = p.Dots.size) (fun v => (6 - v.1).toNat) (fun _ o => (o.1.length : Int) = p.Dots.size ∧ Xi7 ⟨o.2.1, o.2.2.1, o.2.2.2⟩) (by
  intro ⟨i, b, j, h, l⟩ ⟨g1, g2, g3, g4⟩
  unfold Xhr
  simp only at g1 g2 g3 g4 ⊢
  obtain ⟨x, c', ex, x0, x1, _, hx⟩ := Xa2 _ 6 g3
  have x1' := x1 (by omega)
  rw [ex, Xab]
  simp only
  by_cases hi : i < x
  ·
   obtain ⟨y, c2, ey, y0, y1, _, hy⟩ := Xa2 c' l.length hx
   have y1' := y1 (by omega)
   obtain ⟨z, c3, ez, z0, z1, hz⟩ := Xcd c2 hy
   rw [Xbk hi, ey, Xab]
   simp only
   rw [ez, Xab]
   simp only
   rw [rqA, rqA, wkA (e := i + 1)]
   exact .inr ⟨_, rfl, ⟨by simp only; omega, by simp only; omega, hz, by simp only [List.length_set]; omega⟩, by simp only; omega, fun _ h => h⟩
  ·
   rw [Xan hi]
   exact .inl ⟨_, rfl, g4, hx⟩) (0, c3.b_, c3.i_, c3.h_, o) ⟨by simp, by simp, h3, by simp only; omega⟩
 rw [h', Xab]
 refine ⟨_, _, rfl, rfl, rfl, Ydg k1 k2 ?_, g2⟩
 simp only
 rw [strOfNums_size]; omega
theorem Xts (b : List Int) (hb : b.length ≤ 1048576) : ∃ p q, Xhf b = some (p, q) ∧ (p.Wide = 8 ∨ p.Wide = 16) ∧ (p.High = 8 ∨ p.High = 16) ∧ Xdu p = true ∧ q.Wide = p.Wide ∧ q.High = p.High ∧ Xdu q = true := by
 unfold Xhf
 obtain ⟨c, e, hc⟩ := Xk5 b hb
 obtain ⟨p, c1, e1, pw, ph, ok, h1⟩ := Xq5 c hc
 obtain ⟨q, c2, e2, qw, qh, ok2, _⟩ := Xwg c1 p h1 ok
 rw [e, Xab, e1, Xab]
 simp only
 rw [e2, Xab]
 exact ⟨_, _, rfl, pw, ph, ok, qw, qh, ok2⟩
def Xcj (p : Pic) (x y : Int) : Bool := decide (0 ≤ x ∧ x ≤ p.Wide - 8 ∧ 0 ≤ y ∧ y ≤ p.High - 8)
theorem Xsn {p : Pic} (ok : Xdu p = true) (x y : Int) : Xfs p ⟨x, y, 8, 8⟩ = some (Xcj p x y) := by
 obtain ⟨k1, k2, k3⟩ := Xb2 ok
 unfold Xfs Xcj
 simp only
 rw [Xam, Xab, Xam, Xab, wkA (e := p.Wide - 8), wkA (e := p.High - 8), Xam, Xab, Xam, Xab]
 simp only [Xhc, Xab]
 congr 1
 rw [Bool.eq_iff_iff]
 simp only [Bool.and_eq_true, decide_eq_true_eq]
 omega
theorem Xi9 {p : Pic} (ok : Xdu p = true) (x y : Int) (hx : x.tmod 8 = 0) (hy : y.tmod 8 = 0) (h : Xcj p x y = true) : Xbc p x y = some true := by
 obtain ⟨k1, k2, k3⟩ := Xb2 ok
 unfold Xcj at h
 rw [decide_eq_true_eq] at h
 unfold Xbc
 rw [rqA, hx, rqA, hy, wkA (e := p.Wide - 8), wkA (e := p.High - 8), Xam, Xab, Xam, Xab, decide_eq_true (by omega), decide_eq_true (by omega)]
 rfl
def Xin (p : Pic) (w : List Int) (x y dx dy : Int) : Int := Xju w (Xn2 p (x + dx) (y + dy) 64) 64 + Yes dx + Yes dy
def BmI (p : Pic) (w : List Int) (x y r : Int) (past : Bool) (b : Int × Int × Int) : Prop :=
 (b = (0, 0, -1) ∧ past = false) ∨
 ((-r ≤ b.1 ∧ b.1 ≤ r) ∧ (-r ≤ b.2.1 ∧ b.2.1 ≤ r) ∧ Xcj p (x + b.1) (y + b.2.1) = true ∧ b.2.2 = Xin p w x y b.1 b.2.1 ∧ (past = true → b.2.2 ≤ Xin p w x y 0 0))
theorem Xok {p : Pic} {w : List Int} (hw : Xa9 w = true) (x y dx dy : Int) (hx : -100 ≤ dx ∧ dx ≤ 100) (hy : -100 ≤ dy ∧ dy ≤ 100) : 2 ≤ Xin p w x y dx dy ∧ Xin p w x y dx dy ≤ 20000 := by
 have g := Xgm hw (Xd8 p (x + dx) (y + dy)) 64 (by omega)
 have a := Xny dx (by omega)
 have b := Xny dy (by omega)
 unfold Xin; omega
theorem Yie {p : Pic} {w : List Int} {x y r : Int} (ok : Xdu p = true) (hw : Xa9 w = true) (hr : 0 ≤ r ∧ r ≤ 4) (h0 : Xcj p x y = true) (s : Int × Int × Int × Int) (hs : -r ≤ s.2.2.2 ∧ s.2.2.2 ≤ r) (v : Int × Int × Int × Int) (hv : -r ≤ v.2.2.2 ∧ v.2.2.2 ≤ r)
  (past : Bool) (hi : BmI p w x y r past (v.1, v.2.1, v.2.2.1)) (hp : past = true ↔ (s.2.2.2 > 0 ∨ (s.2.2.2 = 0 ∧ v.2.2.2 > 0))) :
  ∃ b, Xbz p w x y r s v = some (.go (b.1, b.2.1, b.2.2, v.2.2.2 + 1)) ∧ BmI p w x y r (decide (s.2.2.2 > 0 ∨ (s.2.2.2 = 0 ∧ v.2.2.2 + 1 > 0))) b := by
 obtain ⟨k1, k2, k3⟩ := Xb2 ok
 have h0' := h0
 unfold Xcj at h0'
 rw [decide_eq_true_eq] at h0'
 unfold Xbz
 rw [Xbk hv.2, wkA (e := x + v.2.2.2), wkA (e := y + s.2.2.2), wkA (e := v.2.2.2 + 1), Xsn ok, Xab]
 cases hh : Xcj p (x + v.2.2.2) (y + s.2.2.2) with
 | false =>
  refine ⟨(v.1, v.2.1, v.2.2.1), rfl, ?_⟩
  have ne : ¬ (s.2.2.2 = 0 ∧ v.2.2.2 = 0) := by
   intro ⟨e1, e2⟩
   rw [e1, e2, Int.add_zero, Int.add_zero, h0] at hh
   cases hh
  rcases hi with ⟨h1, h2⟩ | ⟨h1, h2, h3, h4, h5⟩
  ·
   refine .inl ⟨h1, ?_⟩
   rw [decide_eq_false_iff_not]
   intro h
   have := hp.2 (by omega)
   rw [h2] at this; cases this
  ·
   refine .inr ⟨h1, h2, h3, h4, fun h => h5 (hp.2 ?_)⟩
   rw [decide_eq_true_eq] at h
   omega
 | true =>
  have hh' := hh
  unfold Xcj at hh'
  rw [decide_eq_true_eq] at hh'
  have hb := Xd8 p (x + v.2.2.2) (y + s.2.2.2)
  have g := Xgm hw hb 64 (by omega)
  have z1 := Xny v.2.2.2 (by omega)
  have z2 := Xny s.2.2.2 (by omega)
  rw [Bool.not_true, Xas, Xfb ok _ _ (by omega) (by omega), Xab, Xl2 hw hb, Xab, Xik _ (by omega), Xab, Xik _ (by omega), Xab, wkA (e := Xju w (Xn2 p (x + v.2.2.2) (y + s.2.2.2) 64) 64 + Yes v.2.2.2), wkA, Yf0, Xab]
  have mc : Xju w (Xn2 p (x + v.2.2.2) (y + s.2.2.2) 64) 64 + Yes v.2.2.2 + Yes s.2.2.2 = Xin p w x y v.2.2.2 s.2.2.2 := rfl
  rw [mc]
  have m1 := Xok (p := p) (w := w) hw x y v.2.2.2 s.2.2.2 (by omega) (by omega)
  cases hc : (decide (v.2.2.1 < 0) || decide (Xin p w x y v.2.2.2 s.2.2.2 < v.2.2.1)) with
  | true =>
   refine ⟨(v.2.2.2, s.2.2.2, Xin p w x y v.2.2.2 s.2.2.2), rfl, .inr ⟨hv, hs, hh, rfl, fun h => ?_⟩⟩
   rw [decide_eq_true_eq] at h
   by_cases e0 : s.2.2.2 = 0 ∧ v.2.2.2 = 0
   ·
    rw [e0.1, e0.2]; exact Int.le_refl _
   ·
    have hpast := hp.2 (by omega)
    rcases hi with ⟨h1, h2⟩ | ⟨h1, h2, h3, h4, h5⟩
    ·
     rw [h2] at hpast; cases hpast
    ·
     have h5' := h5 hpast
     simp only at h4 h5' ⊢
     have n1 := Xok (p := p) (w := w) hw x y v.1 v.2.1 (by simp only at h1; omega) (by simp only at h2; omega)
     simp only [Bool.or_eq_true, decide_eq_true_eq] at hc
     omega
  | false =>
   refine ⟨(v.1, v.2.1, v.2.2.1), rfl, ?_⟩
   simp only [Bool.or_eq_false_iff, decide_eq_false_iff_not] at hc
   rcases hi with ⟨h1, h2⟩ | ⟨h1, h2, h3, h4, h5⟩
   ·
    simp only [Prod.mk.injEq] at h1
    omega
   ·
    refine .inr ⟨h1, h2, h3, h4, fun h => ?_⟩
    rw [decide_eq_true_eq] at h
    by_cases e0 : s.2.2.2 = 0 ∧ v.2.2.2 = 0
    ·
     have := hc.2
     rw [e0.1, e0.2] at this
     simp only; omega
    ·
     exact h5 (hp.2 (by omega))
theorem Xsy {p : Pic} {w : List Int} {x y r : Int} (ok : Xdu p = true) (hw : Xa9 w = true) (hr : 0 ≤ r ∧ r ≤ 4) (hx : x.tmod 8 = 0) (hy : y.tmod 8 = 0) (h0 : Xcj p x y = true) :
  ∃ b, Xch p w x y r = some b ∧ (-r ≤ b.1 ∧ b.1 ≤ r) ∧ (-r ≤ b.2.1 ∧ b.2.1 ≤ r) ∧ Xcj p (x + b.1) (y + b.2.1) = true ∧ b.2.2 = Xin p w x y b.1 b.2.1 ∧ b.2.2 ≤ Xin p w x y 0 0 := by
 have hwl := (Xa6 hw).1
 unfold Xch
 rw [Xd3, Xab, ok, Xaw, Xep w (by omega), Xab, hw, Xaw, Xam, Xab, decide_eq_true (by omega), Xaw, Xi9 ok x y hx hy h0, Xab, Bool.not_true, Xab, Xas, wkA (e := 0 - r)]
 obtain ⟨o, h, ho⟩ := Xko (f := Xdi p w x y r) (fun s => -r ≤ s.2.2.2 ∧ s.2.2.2 ≤ r + 1 ∧ BmI p w x y r (decide (s.2.2.2 > 0)) (s.1, s.2.1, s.2.2.1)) (fun s => (r + 1 - s.2.2.2).toNat) (fun _ b => BmI p w x y r true b) (by
  intro s ⟨g1, g2, g3⟩
  unfold Xdi
  by_cases hi : s.2.2.2 ≤ r
  ·
   rw [Xbk hi, wkA (e := s.2.2.2 + 1), wkA (e := 0 - r)]
   obtain ⟨o, h, ho⟩ := Xko (f := Xbz p w x y r s) (fun v => -r ≤ v.2.2.2 ∧ v.2.2.2 ≤ r + 1 ∧ BmI p w x y r (decide (s.2.2.2 > 0 ∨ (s.2.2.2 = 0 ∧ v.2.2.2 > 0))) (v.1, v.2.1, v.2.2.1)) (fun v => (r + 1 - v.2.2.2).toNat) (fun _ b => BmI p w x y r (decide (s.2.2.2 + 1 > 0)) b) (by
    intro v ⟨f1, f2, f3⟩
    by_cases hv : v.2.2.2 ≤ r
    ·
     obtain ⟨b, e, hb⟩ := Yie ok hw hr h0 s ⟨g1, hi⟩ v ⟨f1, hv⟩ _ f3 (by rw [decide_eq_true_eq])
     exact .inr ⟨_, e, ⟨by simp only; omega, by simp only; omega, hb⟩, by simp only; omega, fun _ h => h⟩
    ·
     refine .inl ⟨(v.1, v.2.1, v.2.2.1), ?_, ?_⟩
     ·
      unfold Xbz; rw [Xan hv]
     ·
      have : decide (s.2.2.2 > 0 ∨ (s.2.2.2 = 0 ∧ v.2.2.2 > 0)) = decide (s.2.2.2 + 1 > 0) := by
       rw [decide_eq_decide]; omega
      rw [this] at f3
      exact f3) (s.1, s.2.1, s.2.2.1, 0 - r) ⟨by simp only; omega, by simp only; omega, by
    have : decide (s.2.2.2 > 0 ∨ (s.2.2.2 = 0 ∧ 0 - r > 0)) = decide (s.2.2.2 > 0) := by rw [decide_eq_decide]; omega
    simp only
    rw [this]; exact g3⟩
   rw [h, Xab]
   exact .inr ⟨_, rfl, ⟨by simp only; omega, by simp only; omega, ho⟩, by simp only; omega, fun _ h => h⟩
  ·
   rw [Xan hi]
   refine .inl ⟨_, rfl, ?_⟩
   rw [decide_eq_true (by omega)] at g3
   exact g3) (0, 0, -1, 0 - r) ⟨by simp only; omega, by simp only; omega, .inl ⟨rfl, by simp only [decide_eq_false_iff_not]; omega⟩⟩
 rw [h, Xab]
 rcases ho with ⟨_, h2⟩ | ⟨h1, h2, h3, h4, h5⟩
 ·
  cases h2
 ·
  exact ⟨_, rfl, h1, h2, h3, h4, h5 rfl⟩
def inB (B : Int) (l : List Int) : Prop := ∀ x ∈ l, -B ≤ x ∧ x ≤ B
theorem Xkm {B C : Int} {l : List Int} (h : inB B l) (hc : B ≤ C) : inB C l := fun x hx => by have := h x hx; omega
theorem Xh6 {B : Int} {a b : List Int} (ha : inB B a) (hb : inB B b) : inB B (a ++ b) := fun x hx => (List.mem_append.1 hx).elim (ha x) (hb x)
theorem Xpc (B : Int) : inB B [] := fun x hx => by simp at hx
theorem Xzd {B x : Int} (h : -B ≤ x ∧ x ≤ B) : inB B [x] := fun y hy => by rw [List.mem_singleton.1 hy]; exact h
theorem Yb8 {B : Int} {l : List Int} (h : inB B l) (i : Nat) {y : Int} (hy : -B ≤ y ∧ y ≤ B) : inB B (l.set i y) := fun x hx => by
 rcases List.mem_or_eq_of_mem_set hx with hx | hx
 ·
  exact h x hx
 ·
  rw [hx]; exact hy
theorem Yb7 (n : Nat) {B : Int} (h : 0 ≤ B) : inB B (List.replicate n 0) := fun x hx => by rw [List.eq_of_mem_replicate hx]; omega
theorem Xht {B : Int} {l : List Int} (h : inB B l) {i : Nat} (hi : i < l.length) : -B ≤ l.getD i 0 ∧ l.getD i 0 ≤ B := h _ (by rw [Xee l i hi]; exact List.getElem_mem _)
theorem Yc2 {B : Int} {l : List Int} (h : inB B l) (n : Nat) : inB B (l.take n) := fun x hx => h x (List.mem_of_mem_take hx)
theorem Yc0 {B : Int} {l : List Int} (h : inB B l) (n : Nat) : inB B (l.drop n) := fun x hx => h x (List.mem_of_mem_drop hx)
theorem Xcx {S : Type} {f : Int × S → Option (Lp (Int × S) S)} (n : Nat) (I : Nat → S → Prop) (hs : ∀ (i : Nat) (l : S), i < n → I i l → ∃ l', f ((i : Int), l) = some (.go (((i + 1 : Nat) : Int), l')) ∧ I (i + 1) l') (he : ∀ l, f ((n : Int), l) = some (.done l)) (l0 : S) (h0 : I 0 l0) : ∃ o, loop f (0, l0) = some o ∧ I n o := by
 have key : ∀ i : Nat, i ≤ n → ∀ l, I i l → ∃ o, loop f ((i : Int), l) = some o ∧ I n o := by
  refine Xjt _ ?_ ?_
  ·
   intro l h; exact ⟨l, Xnb (he l), h⟩
  ·
   intro i hi ih l h
   obtain ⟨l', e, h'⟩ := hs i l hi h
   obtain ⟨o, e2, h2⟩ := ih l' h'
   exact ⟨o, lgo e e2, h2⟩
 exact key 0 (by omega) l0 h0
theorem Xkh {S : Type} {f : S × Int → Option (Lp (S × Int) S)} (n : Nat) (I : Nat → S → Prop) (hs : ∀ (i : Nat) (l : S), i < n → I i l → ∃ l', f (l, (i : Int)) = some (.go (l', ((i + 1 : Nat) : Int))) ∧ I (i + 1) l') (he : ∀ l, f (l, (n : Int)) = some (.done l)) (l0 : S) (h0 : I 0 l0) : ∃ o, loop f (l0, 0) = some o ∧ I n o := by
 have key : ∀ i : Nat, i ≤ n → ∀ l, I i l → ∃ o, loop f (l, (i : Int)) = some o ∧ I n o := by
  refine Xjt _ ?_ ?_
  ·
   intro l h; exact ⟨l, Xnb (he l), h⟩
  ·
   intro i hi ih l h
   obtain ⟨l', e, h'⟩ := hs i l hi h
   obtain ⟨o, e2, h2⟩ := ih l' h'
   exact ⟨o, lgo e e2, h2⟩
 exact key 0 (by omega) l0 h0
theorem Xei (l : List Int) (i j : Nat) (y : Int) (hi : i < l.length) : (l.set i y).getD j 0 = if i = j then y else l.getD j 0 := by
 rw [List.getD_eq_getElem?_getD, List.getElem?_set, List.getD_eq_getElem?_getD]
 by_cases h : i = j
 ·
  subst h; rw [if_pos rfl, if_pos rfl, if_pos hi]; rfl
 ·
  rw [if_neg h, if_neg h]
theorem Xim {f : Int × List Int → Option (Lp (Int × List Int) (List Int))} (n : Nat) (P Q : Int → Prop) (hs : ∀ (i : Nat) (l : List Int), i < n → l.length = n → P (l.getD i 0) → ∃ y, f ((i : Int), l) = some (.go (((i + 1 : Nat) : Int), l.set i y)) ∧ Q y) (he : ∀ l, f ((n : Int), l) = some (.done l)) (l0 : List Int) (h0 : l0.length = n) (hb : ∀ x ∈ l0, P x) : ∃ o, loop f (0, l0) = some o ∧ o.length = n ∧ ∀ x ∈ o, Q x := by
 obtain ⟨o, e, h1, h2, _⟩ := Xcx (f := f) n (fun i l => l.length = n ∧ (∀ j, j < i → Q (l.getD j 0)) ∧ ∀ j, i ≤ j → j < n → P (l.getD j 0)) (by
  intro i l hi ⟨g1, g2, g3⟩
  obtain ⟨y, e, hy⟩ := hs i l hi g1 (g3 i (Nat.le_refl _) hi)
  refine ⟨_, e, by rw [List.length_set]; exact g1, fun j hj => ?_, fun j hj hj2 => ?_⟩
  ·
   rw [Xei l i j y (by omega)]
   by_cases h : i = j
   ·
    rw [if_pos h]; exact hy
   ·
    rw [if_neg h]; exact g2 j (by omega)
  ·
   rw [Xei l i j y (by omega), if_neg (by omega)]; exact g3 j (by omega) hj2) he l0 ⟨h0, fun j hj => by omega, fun j _ hj => hb _ (by rw [Xee l0 j (by omega)]; exact List.getElem_mem _)⟩
 refine ⟨o, e, h1, fun x hx => ?_⟩
 obtain ⟨j, hj, rfl⟩ := List.getElem_of_mem hx
 have := h2 j (by omega)
 rwa [Xee o j hj] at this
theorem Xbe (l : List Int) (n B : Int) (hn : (l.length : Int) = n) (hn2 : n ≤ 1000000) (hB : 0 ≤ B ∧ B ≤ 100000000) (h : inB B l) : Xbo l n B = some true := by
 unfold Xbo
 rw [Xd5 (by simp only [bne_eq_false_iff_eq]; exact hn), Xqx l.length (f := Xde l n B) (by
  intro i hi
  have := Xht h hi
  unfold Xde
  rw [syA, rqA, wkA (e := 0 - B), Xag, Xab, Int.toNat_natCast, decide_eq_true (by omega), Bool.not_true, Xas, wkA]
  rfl) (by unfold Xde; rw [snA]), Xab]
def Xqw (n i : Int) (v17 : Int × Int) : Option (Lp (Int × Int) (Ou Unit Int)) :=
 sel (decide (v17.2 ≤ (Xaa .i64 ((Xaa .i64 (2 * n)) - 2)))) (
 bnd (it (Xni n i v17) 20 (v17.1, 0)) fun o47 => match o47 with
 | .out v43 => (
 some (.go (v43, Xaa .i64 (v17.2 + 1))))
 | .ret r => some (.done (.ret r))) (
 some (.done (.out ())))
theorem Ybl {n i : Int} {v : Int × Int} {x : Lp (Int × Int) (Ou Unit Int)} (h : Xqw n i v = some x) : Xj7 n i v = some x := by
 unfold Xqw at h
 unfold Xj7
 rcases Xga h with ⟨hb, h⟩ | ⟨hb, h⟩
 ·
  rw [hb, Xaw]
  obtain ⟨a, h1, h2⟩ := Xbr h
  rw [Xfk.2 ⟨20, h1⟩, Xab]
  exact h2
 ·
  rw [hb, Xas]; exact h
theorem Yg2 {V O : Type} {f g : V → Option (Lp V O)} (hf : ∀ v y, f v = some y → g v = some y) {o : O} : ∀ (k : Nat) (v : V), it f k v = some o → it g k v = some o
 | 0, v, h => by cases h
 | k + 1, v, h => by
  rw [it] at h ⊢
  cases e : f v with
  | none => rw [e] at h; cases h
  | some s =>
   rw [e] at h
   rw [hf v s e]
   cases s with
   | go y => exact Yg2 hf k y h
   | done o' => exact h
def Xbq (n i : Int) : Int := match it (Xqw n i) 20 (0, 0) with | some (.ret q) => q | _ => -1
theorem Yhd : ∀ i : Fin 16, (0 ≤ Xbq 4 (i.val : Int) ∧ Xbq 4 (i.val : Int) < 16) := by decide +kernel
theorem Yhe : ∀ i : Fin 64, (0 ≤ Xbq 8 (i.val : Int) ∧ Xbq 8 (i.val : Int) < 64) := by decide +kernel
theorem Xc8 (n : Int) (hn : n = 4 ∨ n = 8) (i : Nat) (hi : (i : Int) < n * n) : 0 ≤ Xbq n i ∧ Xbq n i < n * n := by
 rcases hn with rfl | rfl
 ·
  exact Yhd ⟨i, by omega⟩
 ·
  exact Yhe ⟨i, by omega⟩
theorem Xcl (n : Int) (hn : n = 4 ∨ n = 8) (i : Nat) (hi : (i : Int) < n * n) : Xmb n i = some (Xbq n i) := by
 have hp := Xc8 n hn i hi
 unfold Xmb
 have hw : Xaa .i64 (n * n) = n * n := by rcases hn with rfl | rfl <;> exact wkA
 have hc : (sel (n != 4) (sel (n != 8) (some true) (sel (decide ((i : Int) < 0)) (some true) (some (decide ((i : Int) ≥ (Xaa .i64 (n * n))))))) (sel (decide ((i : Int) < 0)) (some true) (some (decide ((i : Int) ≥ (Xaa .i64 (n * n))))))) = some false := by
  rw [hw, Xan (show ¬ (i : Int) < 0 by omega), decide_eq_false (show ¬ (i : Int) ≥ n * n by omega)]
  rcases hn with rfl | rfl <;> rfl
 rw [hc, Xab, Xas]
 unfold Xbq at hp ⊢
 cases e : it (Xqw n i) 20 (0, 0) with
 | none => rw [e] at hp; simp only at hp; omega
 | some s =>
  rw [e] at hp
  have h := Yg2 (fun v y => Ybl (n := n) (i := i)) 20 _ e
  rw [Xfk.2 ⟨20, h⟩, Xab]
  cases s with
  | out u => simp only at hp; omega
  | ret q => rfl
theorem Xj8 (n : Int) (hn : n = 4 ∨ n = 8) (l : List Int) (B : Int) (hl : (l.length : Int) = n * n) (hb : inB B l) : ∃ o, Xdb n l = some (o, true) ∧ o.length = l.length ∧ inB B o := by
 have hm : maxLen = 9223372036854775807 := rfl
 have hw : Xaa .i64 (n * n) = n * n := by rcases hn with rfl | rfl <;> exact wkA
 have hl2 : l.length ≤ 64 := by rcases hn with rfl | rfl <;> omega
 unfold Xdb
 have hc : (sel (n != 4) (sel (n != 8) (some true) (some ((l.length : Int) != (Xaa .i64 (n * n))))) (some ((l.length : Int) != (Xaa .i64 (n * n))))) = some false := by
  rw [hw, hl, bne_self_eq_false]
  rcases hn with rfl | rfl <;> rfl
 rw [hc, Xab, Xas]
 obtain ⟨o, e, h1, h2⟩ := Xcx (f := Xbm n l) l.length (fun i s => s.length = i ∧ inB B s) (by
  intro i s hi ⟨g1, g2⟩
  have hp := Xc8 n hn i (by omega)
  have ha := Xht hb (i := (Xbq n i).toNat) (by omega)
  unfold Xbm
  simp only
  rw [hw, syA, Xcl n hn i (by omega), Xab, rqA, Xbj (by simp only [List.length_singleton]; omega), wkA]
  exact ⟨_, rfl, by simp; omega, Xh6 g2 (Xzd ha)⟩) (by intro s; unfold Xbm; simp only; rw [hw, snA]) [] ⟨rfl, Xpc B⟩
 exact ⟨o, (Xk9 e).trans rfl, h1, h2⟩
theorem Xdt (n : Int) (hn : n = 4 ∨ n = 8) (l : List Int) (B : Int) (hB : 0 ≤ B) (hl : (l.length : Int) = n * n) (hb : inB B l) : ∃ o, Xca n l = some (o, true) ∧ o.length = l.length ∧ inB B o := by
 have hm : maxLen = 9223372036854775807 := rfl
 have hw : Xaa .i64 (n * n) = n * n := by rcases hn with rfl | rfl <;> exact wkA
 have hl2 : l.length ≤ 64 := by rcases hn with rfl | rfl <;> omega
 unfold Xca
 have hc : (sel (n != 4) (sel (n != 8) (some true) (some ((l.length : Int) != (Xaa .i64 (n * n))))) (some ((l.length : Int) != (Xaa .i64 (n * n))))) = some false := by
  rw [hw, hl, bne_self_eq_false]
  rcases hn with rfl | rfl <;> rfl
 rw [hc, Xab, Xas, rqA, Int.toNat_natCast]
 obtain ⟨o, e, h1, h2⟩ := Xcx (f := Xa8 n l) l.length (fun i s => s.length = l.length ∧ inB B s) (by
  intro i s hi ⟨g1, g2⟩
  have hp := Xc8 n hn i (by omega)
  have ha := Xht hb hi
  unfold Xa8
  simp only
  rw [hw, syA, Xcl n hn i (by omega), Xab, rqA, rqA, rqA, wkA, Int.toNat_natCast]
  exact ⟨_, rfl, by rw [List.length_set]; exact g1, Yb8 g2 _ ha⟩) (by intro s; unfold Xa8; simp only; rw [hw, snA]) (List.replicate l.length 0) ⟨List.length_replicate, Yb7 _ hB⟩
 exact ⟨o, (Xk9 e).trans rfl, h1, h2⟩
def Xhd (u v : Int) : Int := match it Xip 10 (1, (IntKind.wrap .i64 (BitVec.ofInt (IntKind.bits .i64) u &&& BitVec.ofInt (IntKind.bits .i64) v).toNat)) with | some q => q | none => 7
theorem Yf3 : ∀ u v : Fin 8, (-1 ≤ Xhd (u.val : Int) (v.val : Int) ∧ Xhd (u.val : Int) (v.val : Int) ≤ 1) := by decide +kernel
theorem Xor (u v : Nat) (hu : u < 8) (hv : v < 8) : ∃ s, Xid u v = some s ∧ -1 ≤ s ∧ s ≤ 1 := by
 have h := Yf3 ⟨u, hu⟩ ⟨v, hv⟩
 simp only at h
 unfold Xid
 rw [Xag, Xab, decide_eq_true (by omega), Xaw, Xag, Xab, decide_eq_true (by omega), Bool.not_true, Xab, Xas]
 unfold Xhd at h
 cases e : it Xip 10 (1, (IntKind.wrap .i64 (BitVec.ofInt (IntKind.bits .i64) (u : Int) &&& BitVec.ofInt (IntKind.bits .i64) (v : Int)).toNat)) with
 | none => rw [e] at h; simp only at h; omega
 | some q =>
  rw [e] at h
  rw [Xfk.2 ⟨10, e⟩, Xab]
  exact ⟨q, rfl, h⟩
def Xmf (qp : Int) : Int := if qp.tmod 6 = 0 then 10 else if qp.tmod 6 = 1 then 11 else if qp.tmod 6 = 2 then 13 else if qp.tmod 6 = 3 then 14 else if qp.tmod 6 = 4 then 16 else 18
def Xke (qp : Int) : Int := match it (Xiq qp) 10 (Xmf qp, 0) with | some q => q | none => 0
theorem Yf7 : ∀ q : Fin 41, (10 ≤ Xke (q.val : Int) ∧ Xke (q.val : Int) ≤ 1152) := by decide +kernel
theorem Xot (qp : Int) (h0 : 0 ≤ qp ∧ qp ≤ 40) : ∃ s, Xgk qp = some s ∧ 10 ≤ s ∧ s ≤ 1152 := by
 have h := Yf7 ⟨qp.toNat, by omega⟩
 simp only at h
 rw [show ((qp.toNat : Nat) : Int) = qp by omega] at h
 unfold Xgk
 rw [Xag, Xab, decide_eq_true (by omega), Bool.not_true, Xas, rqA]
 have hb : (sel ((qp.tmod 6) == 0) (some (10 : Int)) (sel ((qp.tmod 6) == 1) (some 11) (sel ((qp.tmod 6) == 2) (some 13) (sel ((qp.tmod 6) == 3) (some 14) (sel ((qp.tmod 6) == 4) (some 16) (some 18)))))) = some (Xmf qp) := by
  unfold Xmf
  simp only [Xzv, beq_iff_eq]
  repeat' split
  all_goals rfl
 rw [hb, Xab]
 unfold Xke at h
 cases e : it (Xiq qp) 10 (Xmf qp, 0) with
 | none => rw [e] at h; simp only at h; omega
 | some q =>
  rw [e] at h
  rw [Xfk.2 ⟨10, e⟩, Xab]
  exact ⟨q, rfl, h⟩
theorem Xk3 (p : Int) (h : 0 ≤ p ∧ p ≤ 15) : ∃ k, Xj6 p = some k ∧ 0 ≤ k ∧ k ≤ 2 := by
 unfold Xj6
 rw [Xag, Xab, decide_eq_true h, Bool.not_true, Xas, rqA, rqA, rqA, rqA, Xhc, Xab]
 cases ((Xaa .i64 (p.tdiv 4)).tmod 2 == 0 && (p.tmod 4).tmod 2 == 0) with
 | true => exact ⟨0, rfl, by omega, by omega⟩
 | false =>
  rw [Xas, Xhc, Xab]
  cases ((Xaa .i64 (p.tdiv 4)).tmod 2 == 1 && (p.tmod 4).tmod 2 == 1) with
  | true => exact ⟨1, rfl, by omega, by omega⟩
  | false => exact ⟨2, rfl, by omega, by omega⟩
theorem Xaq (k a b c : Int) : ∃ x, Xav k a b c = some x ∧ (x = a ∨ x = b ∨ x = c) := by
 unfold Xav
 cases (k == 0) with
 | true => exact ⟨a, rfl, Or.inl rfl⟩
 | false =>
  cases (k == 1) with
  | true => exact ⟨b, rfl, Or.inr (Or.inl rfl)⟩
  | false => exact ⟨c, rfl, Or.inr (Or.inr rfl)⟩
theorem Yeg (qp : Int) (h0 : 0 ≤ qp ∧ qp ≤ 40) (x : Int) (hx : 0 ≤ x ∧ x ≤ 29) : ∃ o, loop (Xdr qp) (x, 0) = some o ∧ 0 ≤ o ∧ o ≤ 1856 := by
 obtain ⟨o, e, h1, h2⟩ := Xkh (f := Xdr qp) (qp / 6).toNat (fun i s => 0 ≤ s ∧ s ≤ 29 * 2 ^ i) (by
  intro i s hi ⟨g1, g2⟩
  have h6 : (2 : Int) ^ i ≤ 64 := by
   have : i ≤ 6 := by omega
   obtain rfl | rfl | rfl | rfl | rfl | rfl | rfl : i = 0 ∨ i = 1 ∨ i = 2 ∨ i = 3 ∨ i = 4 ∨ i = 5 ∨ i = 6 := by omega
   all_goals decide
  have h7 : (2 : Int) ^ (i + 1) = 2 * 2 ^ i := by rw [Int.pow_succ, Int.mul_comm]
  unfold Xdr
  simp only
  rw [rqA, Xcb (by omega), wkA (e := qp / 6), syA, wkA (e := 2 * s), wkA (e := (i : Int) + 1)]
  exact ⟨_, rfl, by omega, by rw [h7]; omega⟩) (by intro s; unfold Xdr; simp only; rw [rqA, Xcb (by omega), wkA (e := qp / 6), snA]) x ⟨hx.1, by simp; omega⟩
 have h6 : (2 : Int) ^ (qp / 6).toNat ≤ 64 := by
  generalize hi : (qp / 6).toNat = i
  obtain rfl | rfl | rfl | rfl | rfl | rfl | rfl : i = 0 ∨ i = 1 ∨ i = 2 ∨ i = 3 ∨ i = 4 ∨ i = 5 ∨ i = 6 := by omega
  all_goals decide
 exact ⟨o, e, h1, by omega⟩
theorem Xv4 (qp p : Int) (h0 : 0 ≤ qp ∧ qp ≤ 40) (hp : 0 ≤ p ∧ p ≤ 15) : ∃ s, Xiz qp p = some s ∧ 0 ≤ s ∧ s ≤ 1856 := by
 unfold Xiz
 obtain ⟨k, e, k0, k1⟩ := Xk3 p hp
 rw [e, Xab, Xag, Xab, decide_eq_true h0, Xaw, decide_eq_false (by omega), Xab, Xas, rqA]
 obtain ⟨a1, e1, b1⟩ := Xaq k 10 16 13
 obtain ⟨a2, e2, b2⟩ := Xaq k 11 18 14
 obtain ⟨a3, e3, b3⟩ := Xaq k 13 20 16
 obtain ⟨a4, e4, b4⟩ := Xaq k 14 23 18
 obtain ⟨a5, e5, b5⟩ := Xaq k 16 25 20
 obtain ⟨a6, e6, b6⟩ := Xaq k 18 29 23
 rw [e1, e2, e3, e4, e5, e6]
 simp only [Xab, Ydl]
 obtain ⟨o, eo, o1, o2⟩ := Yeg qp h0 (sel (qp.tmod 6 == 0) a1 (sel (qp.tmod 6 == 1) a2 (sel (qp.tmod 6 == 2) a3 (sel (qp.tmod 6 == 3) a4 (sel (qp.tmod 6 == 4) a5 (sel (qp.tmod 6 == 5) a6 0)))))) (by
  simp only [Xzv]
  repeat' split
  all_goals omega)
 exact ⟨o, (Xk9 eo).trans rfl, o1, o2⟩
theorem Xv5 (qp p : Int) (h0 : 0 ≤ qp ∧ qp ≤ 40) (hp : 0 ≤ p ∧ p ≤ 15) : ∃ s, Xi0 qp p = some s ∧ 0 ≤ s ∧ s ≤ 13107 := by
 unfold Xi0
 obtain ⟨k, e, k0, k1⟩ := Xk3 p hp
 rw [e, Xab, Xag, Xab, decide_eq_true h0, Xaw, decide_eq_false (by omega), Xab, Xas, rqA]
 obtain ⟨a1, e1, b1⟩ := Xaq k 13107 5243 8066
 obtain ⟨a2, e2, b2⟩ := Xaq k 11916 4660 7490
 obtain ⟨a3, e3, b3⟩ := Xaq k 10082 4194 6554
 obtain ⟨a4, e4, b4⟩ := Xaq k 9362 3647 5825
 obtain ⟨a5, e5, b5⟩ := Xaq k 8192 3355 5243
 obtain ⟨a6, e6, b6⟩ := Xaq k 7282 2893 4559
 rw [e1, e2, e3, e4, e5, e6]
 simp only [Xab, Ydl]
 refine ⟨_, rfl, ?_⟩
 simp only [Xzv]
 repeat' split
 all_goals omega
theorem Yde {a s B : Int} (ha : -B ≤ a ∧ a ≤ B) (hs : -1 ≤ s ∧ s ≤ 1) : (-B ≤ a * s ∧ a * s ≤ B) ∧ (-B ≤ s * a ∧ s * a ≤ B) := by
 obtain rfl | rfl | rfl : s = -1 ∨ s = 0 ∨ s = 1 := by omega
 all_goals omega
theorem Xxv (p : List Int) (B : Int) (hB : 0 ≤ B ∧ B ≤ 1000000000000) (hl : p.length = 64) (hb : inB B p) (i v : Nat) (hi : i < 8) (hv : v < 8) : ∃ o, Xkb p i v = some o ∧ -(8 * B) ≤ o ∧ o ≤ 8 * B := by
 unfold Xkb
 obtain ⟨o, e, h1, h2⟩ := Xkh (f := Xdf p i v) 8 (fun k s => -(B * k) ≤ s ∧ s ≤ B * k) (by
  intro k s hk ⟨g1, g2⟩
  obtain ⟨q, eq, q0, q1⟩ := Xor v k hv hk
  have ha := Xht hb (i := 8 * i + k) (by omega)
  have hm := (Yde ha ⟨q0, q1⟩).1
  have hk8 : B * k ≤ B * 8 := Int.mul_le_mul_of_nonneg_left (by omega) hB.1
  have hk0 : B * ((k + 1 : Nat) : Int) = B * k + B := by rw [Int.natCast_add, Int.mul_add]; simp
  unfold Xdf
  simp only
  rw [syA, wkA (e := 8 * (i : Int)), wkA (e := 8 * (i : Int) + (k : Int)), rqA, eq, Xab, show (8 * (i : Int) + (k : Int)).toNat = 8 * i + k by omega, wkA (e := p.getD (8 * i + k) 0 * q), wkA (e := s + p.getD (8 * i + k) 0 * q), wkA (e := (k : Int) + 1)]
  exact ⟨_, rfl, by rw [hk0]; omega, by rw [hk0]; omega⟩) (by intro s; unfold Xdf; rw [Xan (by simp)]) 0 (by simp)
 exact ⟨o, (Xk9 e).trans rfl, by omega, by omega⟩
theorem Xnn (p : List Int) (B : Int) (hB : 0 ≤ B ∧ B ≤ 10000000000) (hl : p.length = 64) (hb : inB B p) : ∃ o, Xgu p = some o ∧ o.length = 64 ∧ inB (64 * B) o := by
 have hm : maxLen = 9223372036854775807 := rfl
 unfold Xgu
 obtain ⟨h, eh, hh1, hh2⟩ := Xcx (f := Xcf p) 8 (fun i s => s.length = 8 * i ∧ inB (8 * B) s) (by
  intro i s hi ⟨g1, g2⟩
  obtain ⟨t, et, t1, t2⟩ := Xcx (f := Xcg p ((i : Int), s)) 8 (fun v s => s.length = 8 * i + v ∧ inB (8 * B) s) (by
   intro v s hv ⟨g1, g2⟩
   obtain ⟨r, er, r1, r2⟩ := Xxv p B ⟨hB.1, by omega⟩ hl hb i v hi hv
   unfold Xcg
   simp only
   rw [syA, er, Xab, Xbj (by simp only [List.length_singleton]; omega), wkA (e := (v : Int) + 1)]
   exact ⟨_, rfl, by simp; omega, Xh6 g2 (Xzd ⟨by omega, r2⟩)⟩) (by intro s; unfold Xcg; rw [Xan (by simp)]) s ⟨by omega, g2⟩
  unfold Xcf
  simp only
  rw [syA, et, Xab, wkA (e := (i : Int) + 1)]
  exact ⟨_, rfl, by omega, t2⟩) (by intro s; unfold Xcf; rw [Xan (by simp)]) [] ⟨rfl, Xpc _⟩
 rw [eh, Xab]
 obtain ⟨o, eo, o1, o2⟩ := Xcx (f := Xb5 h) 8 (fun i s => s.length = 8 * i ∧ inB (64 * B) s) (by
  intro i s hi ⟨g1, g2⟩
  obtain ⟨t, et, t1, t2⟩ := Xcx (f := Xb6 h ((i : Int), s)) 8 (fun v s => s.length = 8 * i + v ∧ inB (64 * B) s) (by
   intro v r hv ⟨g1, g2⟩
   obtain ⟨a, ea, a1, a2⟩ := Xkh (f := Xb7 h ((i : Int), s) ((v : Int), r)) 8 (fun k s => -(8 * B * k) ≤ s ∧ s ≤ 8 * B * k) (by
    intro k c hk ⟨g1, g2⟩
    obtain ⟨q, eq, q0, q1⟩ := Xor i k hi hk
    have ha := Xht hh2 (i := 8 * k + v) (by omega)
    have hm := (Yde ha ⟨q0, q1⟩).2
    have hk8 : 8 * B * k ≤ 8 * B * 8 := Int.mul_le_mul_of_nonneg_left (by omega) (by omega)
    have hk0 : 8 * B * ((k + 1 : Nat) : Int) = 8 * B * k + 8 * B := by rw [Int.natCast_add, Int.mul_add]; simp
    unfold Xb7
    simp only
    rw [syA, eq, Xab, wkA (e := 8 * (k : Int)), wkA (e := 8 * (k : Int) + (v : Int)), rqA, rqA, show (8 * (k : Int) + (v : Int)).toNat = 8 * k + v by omega, wkA (e := q * h.getD (8 * k + v) 0), wkA (e := c + q * h.getD (8 * k + v) 0), wkA (e := (k : Int) + 1)]
    exact ⟨_, rfl, by rw [hk0]; omega, by rw [hk0]; omega⟩) (by intro s; unfold Xb7; rw [Xan (by simp)]) 0 (by simp)
   unfold Xb6
   simp only
   rw [syA, ea, Xab, Xbj (by simp only [List.length_singleton]; omega), wkA (e := (v : Int) + 1)]
   exact ⟨_, rfl, by simp; omega, Xh6 g2 (Xzd ⟨by omega, by omega⟩)⟩) (by intro s; unfold Xb6; rw [Xan (by simp)]) s ⟨by omega, g2⟩
  unfold Xb5
  simp only
  rw [syA, et, Xab, wkA (e := (i : Int) + 1)]
  exact ⟨_, rfl, by omega, t2⟩) (by intro s; unfold Xb5; rw [Xan (by simp)]) [] ⟨rfl, Xpc _⟩
 exact ⟨o, (Xk9 eo).trans rfl, by omega, o2⟩
theorem Xhj (a b : Int) (ha : -1000000000000 ≤ a ∧ a ≤ 1000000000000) (hb : b = 2 ∨ b = 64) : ∃ d, Xcm a b = some d ∧ b * d ≤ a ∧ a < b * d + b := by
 unfold Xcm
 have h1 : b * (a.tdiv b) + a.tmod b = a := Int.mul_tdiv_add_tmod a b
 have h2 : -b < a.tmod b ∧ a.tmod b < b := by
  have hb0 : 0 < b := by omega
  refine ⟨?_, Int.tmod_lt_of_pos a hb0⟩
  have := Int.lt_tmod_of_pos a hb0
  omega
 rw [rqA, rqA]
 generalize a.tmod b = m at h1 h2
 generalize a.tdiv b = t at h1 h2
 have ht : -1000000000001 ≤ t ∧ t ≤ 1000000000001 := by rcases hb with rfl | rfl <;> omega
 by_cases h : m < 0
 ·
  rw [Xbk h, Xab, wkA (e := t), wkA (e := t - 1)]
  refine ⟨_, rfl, ?_⟩
  rcases hb with rfl | rfl <;> omega
 ·
  rw [Xan h, Xab, wkA (e := t)]
  refine ⟨_, rfl, ?_⟩
  rcases hb with rfl | rfl <;> omega
theorem Xq2 (p : List Int) (hl : p.length = 64) (hb : inB 255 p) : ∃ o, Xln p = some o ∧ o.length = 64 := by
 unfold Xln
 obtain ⟨o, e, h1, h2⟩ := Xnn p 255 (by omega) hl hb
 rw [Xbe p 64 1000 (by omega) (by omega) (by omega) (Xkm hb (by omega)), Xab, Bool.not_true, Xas, e, Xab]
 exact ⟨o, rfl, h1⟩
theorem Xsa (p : List Int) (hl : p.length = 64) (hb : inB 5760000 p) : ∃ o, Xfz p = some o ∧ o.length = 64 ∧ inB 10000000 o := by
 unfold Xfz
 obtain ⟨o, e, h1, h2⟩ := Xnn p 5760000 (by omega) hl hb
 rw [Xbe p 64 10000000 (by omega) (by omega) (by omega) (Xkm hb (by omega)), Xab, Bool.not_true, Xas, e, Xab]
 obtain ⟨r, er, r1, r2⟩ := Xim (f := Xfh) 64 (fun x => -368640000 ≤ x ∧ x ≤ 368640000) (fun x => -10000000 ≤ x ∧ x ≤ 10000000) (by
  intro i l hi hll hx
  obtain ⟨d, ed, d1, d2⟩ := Xhj (l.getD i 0 + 32) 64 (by omega) (Or.inr rfl)
  unfold Xfh
  simp only [Int.toNat_natCast]
  rw [syA, rqA, rqA, wkA (e := l.getD i 0 + 32), ed, Xab, rqA, rqA, wkA (e := (i : Int) + 1)]
  exact ⟨d, rfl, by omega, by omega⟩) (by intro s; unfold Xfh; rw [Xan (by simp)]) o h1 (fun x hx => by have := h2 x hx; omega)
 exact ⟨r, (Xk9 er).trans rfl, r1, r2⟩
theorem Xhl (p : List Int) (B : Int) (hB : 0 ≤ B) (hl : p.length = 16) (hb : inB B p) : ∃ o, Xdz p = some o ∧ o.length = 16 ∧ inB B o := by
 unfold Xdz
 rw [rqA]
 obtain ⟨o, e, h1, h2⟩ := Xcx (f := Xcu p) 16 (fun i s => s.length = 16 ∧ inB B s) (by
  intro i s hi ⟨g1, g2⟩
  have ha := Xht hb (i := i) (by omega)
  unfold Xcu
  simp only
  rw [syA, rqA, rqA, rqA, Xcy (by omega), Xcb (by omega), wkA (e := (i : Int) / 4), wkA (e := (i : Int) % 4 * 4), wkA (e := (i : Int) % 4 * 4 + (i : Int) / 4), rqA, rqA, wkA (e := (i : Int) + 1), Int.toNat_natCast]
  exact ⟨_, rfl, by rw [List.length_set]; exact g1, Yb8 g2 _ ha⟩) (by intro s; unfold Xcu; rw [Xan (by simp)]) (List.replicate (16 : Int).toNat 0) ⟨by simp, Yb7 _ hB⟩
 exact ⟨o, (Xk9 e).trans rfl, h1, h2⟩
theorem Yc1 {B a b c d : Int} (h1 : -B ≤ a ∧ a ≤ B) (h2 : -B ≤ b ∧ b ≤ B) (h3 : -B ≤ c ∧ c ≤ B) (h4 : -B ≤ d ∧ d ≤ B) : inB B [a, b, c, d] := fun x hx => by
 simp only [List.mem_cons, List.not_mem_nil, or_false] at hx
 rcases hx with rfl | rfl | rfl | rfl
 ·
  exact h1
 ·
  exact h2
 ·
  exact h3
 ·
  exact h4
theorem Xnl (p : List Int) (B : Int) (hB : 0 ≤ B ∧ B ≤ 1000000000) (hl : p.length = 16) (hb : inB B p) : ∃ o, Xgt p = some o ∧ o.length = 16 ∧ inB (6 * B) o := by
 have hm : maxLen = 9223372036854775807 := rfl
 unfold Xgt
 obtain ⟨o, e, h1, h2⟩ := Xcx (f := Xcv p) 4 (fun i s => s.length = 4 * i ∧ inB (6 * B) s) (by
  intro i s hi ⟨g1, g2⟩
  have a0 := Xht hb (i := 4 * i) (by omega)
  have a1 := Xht hb (i := 4 * i + 1) (by omega)
  have a2 := Xht hb (i := 4 * i + 2) (by omega)
  have a3 := Xht hb (i := 4 * i + 3) (by omega)
  unfold Xcv
  simp only
  rw [syA, wkA (e := 4 * (i : Int)), wkA (e := 4 * (i : Int) + 1), wkA (e := 4 * (i : Int) + 2), wkA (e := 4 * (i : Int) + 3), rqA, rqA, rqA, rqA, show (4 * (i : Int)).toNat = 4 * i by omega, show (4 * (i : Int) + 1).toNat = 4 * i + 1 by omega, show (4 * (i : Int) + 2).toNat = 4 * i + 2 by omega, show (4 * (i : Int) + 3).toNat = 4 * i + 3 by omega]
  generalize p.getD (4 * i) 0 = a at *
  generalize p.getD (4 * i + 1) 0 = b at *
  generalize p.getD (4 * i + 2) 0 = c at *
  generalize p.getD (4 * i + 3) 0 = d at *
  rw [wkA (e := (i : Int) + 1)]
  have w1 : Xaa .i64 (Xaa .i64 (Xaa .i64 (a + b) + c) + d) = a + b + c + d := by
   rw [wkA (e := a + b), wkA (e := a + b + c), wkA]
  have w2 : Xaa .i64 (Xaa .i64 (Xaa .i64 (Xaa .i64 (2 * a) + b) - c) - Xaa .i64 (2 * d)) = 2 * a + b - c - 2 * d := by
   rw [wkA (e := 2 * a), wkA (e := 2 * d), wkA (e := 2 * a + b), wkA (e := 2 * a + b - c), wkA]
  have w3 : Xaa .i64 (Xaa .i64 (Xaa .i64 (a - b) - c) + d) = a - b - c + d := by
   rw [wkA (e := a - b), wkA (e := a - b - c), wkA]
  have w4 : Xaa .i64 (Xaa .i64 (Xaa .i64 (a - Xaa .i64 (2 * b)) + Xaa .i64 (2 * c)) - d) = a - 2 * b + 2 * c - d := by
   rw [wkA (e := 2 * b), wkA (e := 2 * c), wkA (e := a - 2 * b), wkA (e := a - 2 * b + 2 * c), wkA]
  rw [w1, w2, w3, w4, Xbj (by simp only [List.length_cons, List.length_nil]; omega)]
  exact ⟨_, rfl, by simp; omega, Xh6 g2 (Yc1 (by omega) (by omega) (by omega) (by omega))⟩) (by intro s; unfold Xcv; rw [Xan (by simp)]) [] ⟨rfl, Xpc _⟩
 exact ⟨o, (Xk9 e).trans rfl, h1, h2⟩
theorem Xmv (p : List Int) (B : Int) (hB : 0 ≤ B ∧ B ≤ 1000000000) (hl : p.length = 16) (hb : inB B p) : ∃ o, Xfi p = some o ∧ o.length = 16 ∧ inB (4 * B + 2) o := by
 have hm : maxLen = 9223372036854775807 := rfl
 unfold Xfi
 obtain ⟨o, e, h1, h2⟩ := Xcx (f := Xce p) 4 (fun i s => s.length = 4 * i ∧ inB (4 * B + 2) s) (by
  intro i s hi ⟨g1, g2⟩
  have a0 := Xht hb (i := 4 * i) (by omega)
  have a1 := Xht hb (i := 4 * i + 1) (by omega)
  have a2 := Xht hb (i := 4 * i + 2) (by omega)
  have a3 := Xht hb (i := 4 * i + 3) (by omega)
  obtain ⟨f, ef, f1, f2⟩ := Xhj (p.getD (4 * i + 1) 0) 2 (by omega) (Or.inl rfl)
  obtain ⟨g, eg, g1', g2'⟩ := Xhj (p.getD (4 * i + 3) 0) 2 (by omega) (Or.inl rfl)
  unfold Xce
  simp only
  rw [syA, wkA (e := 4 * (i : Int)), wkA (e := 4 * (i : Int) + 1), wkA (e := 4 * (i : Int) + 2), wkA (e := 4 * (i : Int) + 3), rqA, rqA, rqA, rqA, show (4 * (i : Int)).toNat = 4 * i by omega, show (4 * (i : Int) + 1).toNat = 4 * i + 1 by omega, show (4 * (i : Int) + 2).toNat = 4 * i + 2 by omega, show (4 * (i : Int) + 3).toNat = 4 * i + 3 by omega, ef, Xab, eg, Xab]
  generalize p.getD (4 * i) 0 = a at *
  generalize p.getD (4 * i + 1) 0 = b at *
  generalize p.getD (4 * i + 2) 0 = c at *
  generalize p.getD (4 * i + 3) 0 = d at *
  rw [wkA (e := (i : Int) + 1), wkA (e := a + c), wkA (e := a - c), wkA (e := b + g), wkA (e := f - d), wkA (e := a + c + (b + g)), wkA (e := a - c + (f - d)), wkA (e := a - c - (f - d)), wkA (e := a + c - (b + g)), Xbj (by simp only [List.length_cons, List.length_nil]; omega)]
  exact ⟨_, rfl, by simp; omega, Xh6 g2 (Yc1 (by omega) (by omega) (by omega) (by omega))⟩) (by intro s; unfold Xce; rw [Xan (by simp)]) [] ⟨rfl, Xpc _⟩
 exact ⟨o, (Xk9 e).trans rfl, h1, h2⟩
theorem Xsu (p : List Int) (hl : p.length = 16) (hb : inB 255 p) : ∃ o, Xnh p = some o ∧ o.length = 16 ∧ inB 9180 o := by
 unfold Xnh
 obtain ⟨a, ea, a1, a2⟩ := Xnl p 255 (by omega) hl hb
 obtain ⟨b, eb, b1, b2⟩ := Xhl a (6 * 255) (by omega) a1 a2
 obtain ⟨c, ec, c1, c2⟩ := Xnl b (6 * 255) (by omega) b1 b2
 obtain ⟨d, ed, d1, d2⟩ := Xhl c (6 * (6 * 255)) (by omega) c1 c2
 rw [Xbe p 16 1000 (by omega) (by omega) (by omega) (Xkm hb (by omega)), Xab, Bool.not_true, Xas, ea, Xab, eb, Xab, ec, Xab, ed, Xab]
 exact ⟨d, rfl, d1, d2⟩
theorem Xmr (p : List Int) (hl : p.length = 16) (hb : inB 10000000 p) : ∃ o, Xhg p = some o ∧ o.length = 16 ∧ inB 10000000 o := by
 unfold Xhg
 obtain ⟨a, ea, a1, a2⟩ := Xmv p 10000000 (by omega) hl hb
 obtain ⟨b, eb, b1, b2⟩ := Xhl a _ (by omega) a1 a2
 obtain ⟨c, ec, c1, c2⟩ := Xmv b _ (by omega) b1 b2
 obtain ⟨d, ed, d1, d2⟩ := Xhl c _ (by omega) c1 c2
 rw [Xbe p 16 10000000 (by omega) (by omega) (by omega) hb, Xab, Bool.not_true, Xas, ea, Xab, eb, Xab, ec, Xab, ed, Xab]
 obtain ⟨r, er, r1, r2⟩ := Xim (f := Xgc) 16 (fun x => -160000010 ≤ x ∧ x ≤ 160000010) (fun x => -10000000 ≤ x ∧ x ≤ 10000000) (by
  intro i l hi hll hx
  obtain ⟨d, ed, d1, d2⟩ := Xhj (l.getD i 0 + 32) 64 (by omega) (Or.inr rfl)
  unfold Xgc
  simp only [Int.toNat_natCast]
  rw [syA, rqA, rqA, wkA (e := l.getD i 0 + 32), ed, Xab, rqA, rqA, wkA (e := (i : Int) + 1)]
  exact ⟨d, rfl, by omega, by omega⟩) (by intro s; unfold Xgc; rw [Xan (by simp)]) d d1 (fun x hx => by have := d2 x hx; omega)
 exact ⟨r, (Xk9 er).trans rfl, r1, r2⟩
theorem Xjc (x : Int) (h : -1000000000000 ≤ x ∧ x ≤ 1000000000000) : Xd7 x = some (Xsl x) := by
 unfold Xd7 Xsl
 by_cases hx : x < 0
 ·
  rw [Xbk hx, if_pos hx, wkA]; congr 1; omega
 ·
  rw [Xan hx, if_neg hx]
theorem Xlr (w x B : Int) (h : 0 ≤ x ∧ x ≤ B) (hB : B ≤ 1000000000) : ∃ o, Xf2 w x = some o ∧ -B ≤ o ∧ o ≤ B := by
 unfold Xf2
 by_cases hx : w < 0
 ·
  rw [Xbk hx, wkA]; exact ⟨_, rfl, by omega, by omega⟩
 ·
  rw [Xan hx]; exact ⟨_, rfl, by omega, by omega⟩
def Yhg (qp : Int) : Int := Xaa .i64 (1 * 2 ^ min (Xaa .u64 (Xaa .i64 (15 + (Xaa .i64 (qp.tdiv 6))))).toNat (IntKind.bits .i64))
theorem Yhh : ∀ q : Fin 41, (0 ≤ Xaa .u64 (Xaa .i64 (15 + (Xaa .i64 ((q.val : Int).tdiv 6)))) ∧ 32768 ≤ Yhg (q.val : Int) ∧ Yhg (q.val : Int) ≤ 2097152) := by decide +kernel
theorem Xkr (w qp p : Int) (hw : -9180 ≤ w ∧ w ≤ 9180) (h0 : 0 ≤ qp ∧ qp ≤ 40) (hp : 0 ≤ p ∧ p ≤ 15) : ∃ o, Xe1 w qp p = some o ∧ -5000 ≤ o ∧ o ≤ 5000 := by
 have hs := Yhh ⟨qp.toNat, by omega⟩
 simp only at hs
 rw [show ((qp.toNat : Nat) : Int) = qp by omega] at hs
 obtain ⟨s1, s2, s3⟩ := hs
 obtain ⟨s, es, q0, q1⟩ := Xv5 qp p h0 hp
 unfold Xe1
 have en : Xaa .i64 (1 * 2 ^ min (Xaa .u64 (Xaa .i64 (15 + (Xaa .i64 (qp.tdiv 6))))).toNat (IntKind.bits .i64)) = Yhg qp := rfl
 rw [Xag, Xab, decide_eq_true (by omega), Xaw, Xag, Xab, decide_eq_true h0, Xaw, Xag, Xab, decide_eq_true hp, Bool.not_true, Xab, Xas, rqA, Xbj s1, Xjc w (by omega), Xab, es, Xab, rqA, en]
 generalize Yhg qp = n at *
 have ha : 0 ≤ Xsl w ∧ Xsl w ≤ 9180 := by unfold Xsl; split <;> omega
 generalize Xsl w = a at *
 have hm : 0 ≤ a * s ∧ a * s ≤ 9180 * 13107 := ⟨Int.mul_nonneg ha.1 q0, Int.mul_le_mul ha.2 q1 q0 (by omega)⟩
 rw [rqA, wkA (e := a * s), Xcb (a := n) (by omega), wkA (e := n / 3), wkA (e := a * s + n / 3), Xcb (by omega)]
 have d0 : 0 ≤ (a * s + n / 3) / n := Int.ediv_nonneg (by omega) (by omega)
 have d1 : (a * s + n / 3) / n < 5000 := Int.ediv_lt_of_lt_mul (by omega) (by omega)
 rw [wkA]
 obtain ⟨o, eo, o1, o2⟩ := Xlr w _ 5000 ⟨d0, by omega⟩ (by omega)
 rw [eo, Xab]
 exact ⟨o, rfl, o1, o2⟩
theorem Xkq (w qp : Int) (h0 : 0 ≤ qp ∧ qp ≤ 40) : ∃ o, Xe0 w qp = some o ∧ -5000 ≤ o ∧ o ≤ 5000 := by
 unfold Xe0
 rw [Xag, Xab]
 by_cases hw : -20000 ≤ w ∧ w ≤ 20000
 ·
  obtain ⟨s, es, q0, q1⟩ := Xot qp h0
  rw [decide_eq_true hw, Xaw, Xag, Xab, decide_eq_true h0, Bool.not_true, Xab, Xas, es, Xab, Xjc w (by omega), Xab]
  have ha : 0 ≤ Xsl w ∧ Xsl w ≤ 20000 := by unfold Xsl; split <;> omega
  generalize Xsl w = a at *
  rw [rqA, rqA, Xcb (a := s) (by omega), wkA (e := s / 2), wkA (e := a + s / 2), Xcb (by omega)]
  have d0 : 0 ≤ (a + s / 2) / s := Int.ediv_nonneg (by omega) (by omega)
  have d1 : (a + s / 2) / s < 5000 := Int.ediv_lt_of_lt_mul (by omega) (by omega)
  rw [wkA]
  obtain ⟨o, eo, o1, o2⟩ := Xlr w _ 5000 ⟨d0, by omega⟩ (by omega)
  rw [eo, Xab]
  exact ⟨o, rfl, o1, o2⟩
 ·
  rw [decide_eq_false hw, Xas, Xab, Xaw]
  exact ⟨0, rfl, by omega, by omega⟩
theorem Xlp (l qp p : Int) (hl : -5000 ≤ l ∧ l ≤ 5000) (h0 : 0 ≤ qp ∧ qp ≤ 40) (hp : 0 ≤ p ∧ p ≤ 15) : ∃ o, Xf1 l qp p = some o ∧ -10000000 ≤ o ∧ o ≤ 10000000 := by
 unfold Xf1
 obtain ⟨s, es, q0, q1⟩ := Xv4 qp p h0 hp
 rw [Xag, Xab, decide_eq_true hl, Bool.not_true, Xas, es, Xab]
 have m1 : l * s ≤ 5000 * s := Int.mul_le_mul_of_nonneg_right hl.2 q0
 have m2 : -5000 * s ≤ l * s := Int.mul_le_mul_of_nonneg_right hl.1 q0
 rw [wkA]
 exact ⟨_, rfl, by omega, by omega⟩
theorem Xlo (l qp : Int) (hl : -5000 ≤ l ∧ l ≤ 5000) (h0 : 0 ≤ qp ∧ qp ≤ 40) : ∃ o, Xf0 l qp = some o ∧ -5760000 ≤ o ∧ o ≤ 5760000 := by
 unfold Xf0
 obtain ⟨s, es, q0, q1⟩ := Xot qp h0
 rw [Xag, Xab, decide_eq_true hl, Bool.not_true, Xas, es, Xab]
 have m1 : l * s ≤ 5000 * s := Int.mul_le_mul_of_nonneg_right hl.2 (by omega)
 have m2 : -5000 * s ≤ l * s := Int.mul_le_mul_of_nonneg_right hl.1 (by omega)
 rw [wkA]
 exact ⟨_, rfl, by omega, by omega⟩
theorem Ycf {l : List Int} (h1 : l.length = 64) (h2 : inB 5000 l) : Xwp l = true := by
 unfold Xwp
 rw [Bool.and_eq_true, decide_eq_true_eq, List.all_eq_true]
 exact ⟨h1, fun x hx => by unfold Yim; rw [decide_eq_true_eq]; exact h2 x hx⟩
theorem Xr1 {l : List Int} (h : Xwp l = true) : l.length = 64 ∧ inB 5000 l := by
 obtain ⟨h1, h2⟩ := Yd8 h
 refine ⟨h1, fun x hx => ?_⟩
 have := List.all_eq_true.1 h2 x hx
 unfold Yim at this
 rwa [decide_eq_true_eq] at this
theorem Xpt {c : Xjd} (h : Xje c = true) : 0 ≤ c.Qp ∧ c.Qp ≤ 40 := by
 unfold Xje at h
 rw [Bool.and_eq_true, decide_eq_true_eq] at h
 exact h.1
theorem Xkt (p : List Int) (k : Nat) (hk : k < 4) (B : Int) (hl : p.length = 64) (hb : inB B p) : ∃ o, Xe4 p k = some o ∧ o.length = 16 ∧ inB B o := by
 have hm : maxLen = 9223372036854775807 := rfl
 unfold Xe4
 obtain ⟨o, e, h1, h2⟩ := Xcx (f := Xbh p k) 16 (fun i s => s.length = i ∧ inB B s) (by
  intro i s hi ⟨g1, g2⟩
  have ha := Xht hb (i := (8 * ((k : Int) / 2 * 4 + (i : Int) / 4) + (k : Int) % 2 * 4 + (i : Int) % 4).toNat) (by omega)
  unfold Xbh
  simp only
  rw [syA, rqA, rqA, rqA, rqA, Xcb (a := (k : Int)) (by omega), Xcb (a := (i : Int)) (by omega), Xcy (a := (k : Int)) (by omega), Xcy (a := (i : Int)) (by omega), wkA (e := (k : Int) / 2), wkA (e := (k : Int) / 2 * 4), wkA (e := (i : Int) / 4), wkA (e := (k : Int) / 2 * 4 + (i : Int) / 4), wkA (e := 8 * ((k : Int) / 2 * 4 + (i : Int) / 4)), wkA (e := (k : Int) % 2 * 4), wkA (e := 8 * ((k : Int) / 2 * 4 + (i : Int) / 4) + (k : Int) % 2 * 4), wkA (e := 8 * ((k : Int) / 2 * 4 + (i : Int) / 4) + (k : Int) % 2 * 4 + (i : Int) % 4), rqA, Xbj (by simp only [List.length_singleton]; omega), wkA (e := (i : Int) + 1)]
  exact ⟨_, rfl, by simp; omega, Xh6 g2 (Xzd ha)⟩) (by intro s; unfold Xbh; rw [Xan (by simp)]) [] ⟨rfl, Xpc _⟩
 exact ⟨o, (Xk9 e).trans rfl, h1, h2⟩
theorem Xms (p : List Int) (c : Xjd) (hc : Xje c = true) (hl : p.length = 64) (hb : inB 255 p) : ∃ o, Xbv p c = some (o, true) ∧ Xwp o = true := by
 have hm : maxLen = 9223372036854775807 := rfl
 have hq := Xpt hc
 unfold Xbv
 rw [Xb8, Xab, hc, Xaw, Xbe p 64 255 (by omega) (by omega) (by omega) hb, Xab, Bool.not_true, Xab, Xas]
 cases hE : c.Exact with
 | true =>
  obtain ⟨o, e, h1, h2⟩ := Xj8 8 (Or.inr rfl) p 255 (by omega) hb
  rw [Xaw, e, Xab]
  exact ⟨o, rfl, Ycf (by omega) (Xkm h2 (by omega))⟩
 | false =>
  rw [Xas]
  cases hL : c.Large with
  | true =>
   obtain ⟨w, ew, w1⟩ := Xq2 p hl hb
   obtain ⟨l, el, l1, l2⟩ := Xim (f := Xbn c) 64 (fun _ => True) (fun x => -5000 ≤ x ∧ x ≤ 5000) (by
    intro i l hi hll _
    obtain ⟨d, ed, d1, d2⟩ := Xkq (l.getD i 0) c.Qp hq
    unfold Xbn
    simp only [Int.toNat_natCast]
    rw [syA, rqA, rqA, ed, Xab, rqA, rqA, wkA (e := (i : Int) + 1)]
    exact ⟨d, rfl, d1, d2⟩) (by intro s; unfold Xbn; rw [Xan (by simp)]) w w1 (fun _ _ => trivial)
   obtain ⟨o, e, h1, h2⟩ := Xj8 8 (Or.inr rfl) l 5000 (by omega) l2
   rw [Xaw, ew, Xab, el, Xab, e, Xab]
   exact ⟨o, rfl, Ycf (by omega) h2⟩
  | false =>
   obtain ⟨o, eo, o1, o2⟩ := Xcx (f := Xco p c) 4 (fun k s => s.length = 16 * k ∧ inB 5000 s) (by
    intro k s hk ⟨g1, g2⟩
    obtain ⟨a, ea, a1, a2⟩ := Xkt p k hk 255 hl hb
    obtain ⟨b, eb, b1, b2⟩ := Xsu a a1 a2
    obtain ⟨l, el, l1, l2⟩ := Xim (f := Xbf c) 16 (fun x => -9180 ≤ x ∧ x ≤ 9180) (fun x => -5000 ≤ x ∧ x ≤ 5000) (by
     intro i l hi hll hx
     obtain ⟨d, ed, d1, d2⟩ := Xkr (l.getD i 0) c.Qp i hx hq (by omega)
     unfold Xbf
     simp only [Int.toNat_natCast]
     rw [syA, rqA, rqA, ed, Xab, rqA, rqA, wkA (e := (i : Int) + 1)]
     exact ⟨d, rfl, d1, d2⟩) (by intro s; unfold Xbf; rw [Xan (by simp)]) b b1 b2
    obtain ⟨r, er, r1, r2⟩ := Xj8 4 (Or.inl rfl) l 5000 (by omega) l2
    unfold Xco
    simp only
    rw [syA, ea, Xab, eb, Xab, el, Xab, er, Xab]
    simp only
    rw [rqA, wkA (e := (k : Int) + 1)]
    exact ⟨_, rfl, by rw [List.length_append]; omega, Xh6 g2 r2⟩) (by intro s; unfold Xco; rw [Xan (by simp)]) [] ⟨rfl, Xpc _⟩
   rw [Xas, eo, Xab]
   exact ⟨o, rfl, Ycf (by omega) o2⟩
theorem Xeh (p : List Int) (c : Xjd) (hc : Xje c = true) (hp : Xwp p = true) : ∃ o, Xbl p c = some (o, true) ∧ o.length = 64 ∧ inB 10000000 o := by
 have hm : maxLen = 9223372036854775807 := rfl
 have hq := Xpt hc
 obtain ⟨hl, hb⟩ := Xr1 hp
 unfold Xbl
 rw [Xb8, Xab, hc, Xaw, Xbe p 64 5000 (by omega) (by omega) (by omega) hb, Xab, Bool.not_true, Xab, Xas]
 cases hE : c.Exact with
 | true =>
  obtain ⟨o, e, h1, h2⟩ := Xdt 8 (Or.inr rfl) p 5000 (by omega) (by omega) hb
  rw [Xaw, e, Xab]
  exact ⟨o, rfl, by omega, Xkm h2 (by omega)⟩
 | false =>
  rw [Xas]
  cases hL : c.Large with
  | true =>
   obtain ⟨w, ew, w1, w2⟩ := Xdt 8 (Or.inr rfl) p 5000 (by omega) (by omega) hb
   obtain ⟨l, el, l1, l2⟩ := Xim (f := Xa3 c) 64 (fun x => -5000 ≤ x ∧ x ≤ 5000) (fun x => -5760000 ≤ x ∧ x ≤ 5760000) (by
    intro i l hi hll hx
    obtain ⟨d, ed, d1, d2⟩ := Xlo (l.getD i 0) c.Qp hx hq
    unfold Xa3
    simp only [Int.toNat_natCast]
    rw [syA, rqA, rqA, ed, Xab, rqA, rqA, wkA (e := (i : Int) + 1)]
    exact ⟨d, rfl, d1, d2⟩) (by intro s; unfold Xa3; rw [Xan (by simp)]) w (by omega) w2
   obtain ⟨o, e, h1, h2⟩ := Xsa l l1 l2
   rw [Xaw, ew, Xab, el, Xab, e, Xab]
   exact ⟨o, rfl, h1, h2⟩
  | false =>
   obtain ⟨o, eo, o1, o2⟩ := Xcx (f := Xb4 p c) 4 (fun k s => s.length = 64 ∧ inB 10000000 s) (by
    intro k s hk ⟨g1, g2⟩
    have hcut : ((p.drop (16 * k)).take 16).length = 16 := by rw [List.length_take, List.length_drop]; omega
    obtain ⟨a, ea, a1, a2⟩ := Xdt 4 (Or.inl rfl) ((p.drop (16 * k)).take 16) 5000 (by omega) (by omega) (Yc2 (Yc0 hb _) _)
    obtain ⟨l, el, l1, l2⟩ := Xim (f := Xaz c) 16 (fun x => -5000 ≤ x ∧ x ≤ 5000) (fun x => -10000000 ≤ x ∧ x ≤ 10000000) (by
     intro i l hi hll hx
     obtain ⟨d, ed, d1, d2⟩ := Xlp (l.getD i 0) c.Qp i hx hq (by omega)
     unfold Xaz
     simp only [Int.toNat_natCast]
     rw [syA, rqA, rqA, ed, Xab, rqA, rqA, wkA (e := (i : Int) + 1)]
     exact ⟨d, rfl, d1, d2⟩) (by intro s; unfold Xaz; rw [Xan (by simp)]) a (by omega) a2
    obtain ⟨b, eb, b1, b2⟩ := Xmr l l1 l2
    obtain ⟨r, er, r1, r2⟩ := Xcx (f := Xa5 ((k : Int), s) b) 16 (fun i s => s.length = 64 ∧ inB 10000000 s) (by
     intro i s hi ⟨g1, g2⟩
     have ha := Xht b2 (i := i) (by omega)
     unfold Xa5
     simp only
     rw [syA, rqA, rqA, rqA, rqA, rqA, rqA, Xcb (a := (k : Int)) (by omega), Xcb (a := (i : Int)) (by omega), Xcy (a := (k : Int)) (by omega), Xcy (a := (i : Int)) (by omega), wkA (e := (k : Int) / 2), wkA (e := (k : Int) / 2 * 4), wkA (e := (i : Int) / 4), wkA (e := (k : Int) / 2 * 4 + (i : Int) / 4), wkA (e := 8 * ((k : Int) / 2 * 4 + (i : Int) / 4)), wkA (e := (k : Int) % 2 * 4), wkA (e := 8 * ((k : Int) / 2 * 4 + (i : Int) / 4) + (k : Int) % 2 * 4), wkA (e := 8 * ((k : Int) / 2 * 4 + (i : Int) / 4) + (k : Int) % 2 * 4 + (i : Int) % 4), rqA, rqA, wkA (e := (i : Int) + 1), Int.toNat_natCast]
     exact ⟨_, rfl, by rw [List.length_set]; exact g1, Yb8 g2 _ ha⟩) (by intro s; unfold Xa5; rw [Xan (by simp)]) s ⟨g1, g2⟩
    unfold Xb4
    simp only
    rw [syA, wkA (e := 16 * (k : Int)), wkA (e := 16 * (k : Int) + 16), rqA, show (16 * (k : Int)).toNat = 16 * k by omega, show (16 * (k : Int) + 16).toNat - 16 * k = 16 by omega, ea, Xab, el, Xab, eb, Xab, er, Xab, wkA (e := (k : Int) + 1)]
    exact ⟨_, rfl, r1, r2⟩) (by intro s; unfold Xb4; rw [Xan (by simp)]) (List.replicate (64 : Int).toNat 0) ⟨by simp, Yb7 _ (by omega)⟩
   rw [Xas, rqA, eo, Xab]
   exact ⟨o, rfl, o1, o2⟩
theorem Xc1 (l : List Int) (h : Xa9 l = true) : Xd0 l = some true := by
 obtain ⟨h1, h2⟩ := Xa6 h
 unfold Xd0
 rw [Xd5 (by simp only [bne_eq_false_iff_eq]; omega), Xqx l.length (f := Xcw l) (by
  intro i hi
  have := h2 i (by omega)
  unfold Xcw
  rw [syA, rqA, Xag, Xab, Int.toNat_natCast, decide_eq_true this, Bool.not_true, Xas, wkA]
  rfl) (by unfold Xcw; rw [snA]), Xab]
theorem Yah {l : List Int} (h1 : l.length = 64) (h2 : ∀ x ∈ l, 0 ≤ x ∧ x ≤ 255) : Xa9 l = true := by
 unfold Xa9
 rw [Bool.and_eq_true, decide_eq_true_eq, List.all_eq_true]
 exact ⟨h1, fun x hx => by unfold Yb0; rw [decide_eq_true_eq]; exact h2 x hx⟩
theorem Xoo (g b : List Int) (hg : Xa9 g = true) (hl : b.length = 64) (hb : inB 10000000 b) : ∃ o, Xez g b = some o ∧ Xa9 o = true := by
 have hm : maxLen = 9223372036854775807 := rfl
 obtain ⟨g1, g2⟩ := Xa6 hg
 unfold Xez
 rw [Xc1 g hg, Xab, Xaw, Xbe b 64 10000000 (by omega) (by omega) (by omega) hb, Xab, Bool.not_true, Xab, Xas]
 obtain ⟨o, e, h1, h2⟩ := Xcx (f := Xb9 g b) 64 (fun i s => s.length = i ∧ ∀ x ∈ s, 0 ≤ x ∧ x ≤ 255) (by
  intro i s hi ⟨k1, k2⟩
  have ha := Xht hb (i := i) (by omega)
  have hd := g2 i hi
  have br := Xjo (n := g.getD i 0 + b.getD i 0) (a := 0) (b := 255) (by omega)
  unfold Xb9
  simp only [Int.toNat_natCast]
  rw [syA, rqA, rqA, wkA (e := g.getD i 0 + b.getD i 0), Xcs, Xab, Xbj (by simp only [List.length_singleton]; omega), wkA (e := (i : Int) + 1)]
  refine ⟨_, rfl, by simp; omega, fun x hx => ?_⟩
  rcases List.mem_append.1 hx with hx | hx
  ·
   exact k2 x hx
  ·
   rw [List.mem_singleton.1 hx]; exact br) (by intro s; unfold Xb9; rw [Xan (by simp)]) [] ⟨rfl, fun x hx => by simp at hx⟩
 exact ⟨o, (Xk9 e).trans rfl, Yah h1 h2⟩
def Xmh (e : Xfm) : Prop := (e.Above.length = 0 ∨ e.Above.length = 8) ∧ (e.Left.length = 0 ∨ e.Left.length = 8) ∧ (∀ x ∈ e.Above, 0 ≤ x ∧ x ≤ 255) ∧ (∀ x ∈ e.Left, 0 ≤ x ∧ x ≤ 255) ∧ -1 ≤ e.Corner ∧ e.Corner ≤ 255
theorem Xmw {p : Pic} (ok : Xdu p = true) (x y : Int) : Xis p x y 8 8 = some (Xcj p x y) := by
 obtain ⟨k1, k2, k3⟩ := Xb2 ok
 unfold Xis Xcj
 rw [Xd6, Xab, ok, Xaw, Xag, Xab, Xag, Xab, wkA (e := p.Wide - 8), wkA (e := p.High - 8), Xag, Xab, Xag, Xab]
 simp only [Xhc, Xab]
 congr 1
 rw [Bool.eq_iff_iff]
 simp only [Bool.and_eq_true, decide_eq_true_eq]
 omega
theorem Xc2 {p : Pic} (ok : Xdu p = true) {x y : Int} (hx : x.tmod 8 = 0) (hy : y.tmod 8 = 0) (h : Xcj p x y = true) : Xgv p x y = some true := by
 unfold Xgv
 rw [rqA, hx, rqA, hy, Xmw ok, Xab, h]
 rfl
theorem Xj5 {p : Pic} (ok : Xdu p = true) {x y : Int} (hx : x.tmod 8 = 0) (hy : y.tmod 8 = 0) (h : Xcj p x y = true) : ∃ e, Xdy p x y = some (e, true) ∧ Xmh e := by
 have hm : maxLen = 9223372036854775807 := rfl
 obtain ⟨k1, k2, k3⟩ := Xb2 ok
 have h' := h
 unfold Xcj at h'
 rw [decide_eq_true_eq] at h'
 unfold Xdy
 rw [Xc2 ok hx hy h, Xab, Bool.not_true, Xas]
 obtain ⟨o, e, o1, o2, o3, o4, o5, o6⟩ := Xcx (f := Xdq p x y) 8 (fun i s => (y > 0 → s.1.length = i) ∧ (¬ y > 0 → s.1.length = 0) ∧ (x > 0 → s.2.length = i) ∧ (¬ x > 0 → s.2.length = 0) ∧ (∀ z ∈ s.1, 0 ≤ z ∧ z ≤ 255) ∧ (∀ z ∈ s.2, 0 ≤ z ∧ z ≤ 255)) (by
  intro i s hi ⟨g1, g2, g3, g4, g5, g6⟩
  obtain ⟨a, b⟩ := s
  simp only at g1 g2 g3 g4 g5 g6
  have d1 := Xlw p (x + i) (y - 1)
  have d2 := Xlw p (x - 1) (y + i)
  have st1 : ∃ a', (sel (decide (y > 0)) (bnd (Xc0 p (Xaa .i64 (x + (i : Int))) (Xaa .i64 (y - 1))) fun q16 => req ((a.length + ([q16]).length) * 8 ≤ 140737488355328 ∧ a.length + ([q16]).length ≤ maxLen) <| some (a ++ ([q16]))) (some a)) = some a' ∧ (y > 0 → a'.length = i + 1) ∧ (¬ y > 0 → a'.length = 0) ∧ (∀ z ∈ a', 0 ≤ z ∧ z ≤ 255) := by
   by_cases c : y > 0
   ·
    rw [Xbk c, wkA (e := x + (i : Int)), wkA (e := y - 1), Xfg ok, Xab, Xbj (by simp only [List.length_singleton]; have := g1 c; omega)]
    refine ⟨_, rfl, fun _ => by simp; exact g1 c, fun hn => absurd c hn, fun z hz => ?_⟩
    rcases List.mem_append.1 hz with hz | hz
    ·
     exact g5 z hz
    ·
     rw [List.mem_singleton.1 hz]; exact d1
   ·
    rw [Xan c]
    exact ⟨_, rfl, fun hn => absurd hn c, fun _ => g2 c, g5⟩
  obtain ⟨a', ea, a1, a2, a3⟩ := st1
  have st2 : ∃ b', (sel (decide (x > 0)) (bnd (Xc0 p (Xaa .i64 (x - 1)) (Xaa .i64 (y + (i : Int)))) fun q17 => req ((b.length + ([q17]).length) * 8 ≤ 140737488355328 ∧ b.length + ([q17]).length ≤ maxLen) <| some (a', (b ++ ([q17])))) (some (a', b))) = some (a', b') ∧ (x > 0 → b'.length = i + 1) ∧ (¬ x > 0 → b'.length = 0) ∧ (∀ z ∈ b', 0 ≤ z ∧ z ≤ 255) := by
   by_cases c : x > 0
   ·
    rw [Xbk c, wkA (e := y + (i : Int)), wkA (e := x - 1), Xfg ok, Xab, Xbj (by simp only [List.length_singleton]; have := g3 c; omega)]
    refine ⟨_, rfl, fun _ => by simp; exact g3 c, fun hn => absurd c hn, fun z hz => ?_⟩
    rcases List.mem_append.1 hz with hz | hz
    ·
     exact g6 z hz
    ·
     rw [List.mem_singleton.1 hz]; exact d2
   ·
    rw [Xan c]
    exact ⟨_, rfl, fun hn => absurd hn c, fun _ => g4 c, g6⟩
  obtain ⟨b', eb, b1, b2, b3⟩ := st2
  unfold Xdq
  simp only
  rw [syA, ea, Xab, eb, Xab, wkA (e := (i : Int) + 1)]
  exact ⟨(a', b'), rfl, a1, a2, b1, b2, a3, b3⟩) (by intro s; unfold Xdq; rw [Xan (by simp)]) ([], []) ⟨fun _ => rfl, fun _ => rfl, fun _ => rfl, fun _ => rfl, fun z hz => by simp at hz, fun z hz => by simp at hz⟩
 rw [e, Xab, Xhc, Xab]
 have d3 := Xlw p (x - 1) (y - 1)
 have ha : o.1.length = 0 ∨ o.1.length = 8 := by
  by_cases c : y > 0
  ·
   exact Or.inr (o1 c)
  ·
   exact Or.inl (o2 c)
 have hb : o.2.length = 0 ∨ o.2.length = 8 := by
  by_cases c : x > 0
  ·
   exact Or.inr (o3 c)
  ·
   exact Or.inl (o4 c)
 cases hc : (decide (x > 0) && decide (y > 0)) with
 | true =>
  rw [Xaw, wkA (e := x - 1), wkA (e := y - 1), Xfg ok, Xab, Xab]
  exact ⟨_, rfl, ha, hb, o5, o6, by simp only; omega, by simp only; omega⟩
 | false =>
  rw [Xas, Xab]
  exact ⟨_, rfl, ha, hb, o5, o6, by simp only; omega, by simp only; omega⟩
theorem Xmx (l : List Int) (hl : l.length = 0 ∨ l.length = 8) (h : ∀ x ∈ l, 0 ≤ x ∧ x ≤ 255) : Xks l = some true := by
 unfold Xks
 have hc : (sel ((l.length : Int) != 0) (some ((l.length : Int) != 8)) (some false)) = some false := by
  rcases hl with e | e
  ·
   rw [e]; rfl
  ·
   rw [e]; rfl
 rw [hc, Xab, Xas, Xqx l.length (f := Xho l) (by
  intro i hi
  have := h (l.getD i 0) (by rw [Xee l i hi]; exact List.getElem_mem _)
  unfold Xho
  rw [syA, rqA, Xag, Xab, Int.toNat_natCast, decide_eq_true this, Bool.not_true, Xas, wkA]
  rfl) (by unfold Xho; rw [snA]), Xab]
theorem Xgb {e : Xfm} (h : Xmh e) : Xkp e = some true := by
 obtain ⟨h1, h2, h3, h4, h5, h6⟩ := h
 unfold Xkp
 rw [Xmx _ h1 h3, Xab, Xaw, Xmx _ h2 h4, Xab, Xaw, Xag, Xab, decide_eq_true ⟨h5, h6⟩, Xab]
theorem Xls (l : List Int) (k : Nat) (hk : k < 8) (hl : l.length = 0 ∨ l.length = 8) (h : ∀ x ∈ l, 0 ≤ x ∧ x ≤ 255) : ∃ x, Xdg l k = some x ∧ 0 ≤ x ∧ x ≤ 255 := by
 unfold Xdg
 rcases hl with e | e
 ·
  rw [Xeu (by rw [e]; rfl)]; exact ⟨_, rfl, by omega, by omega⟩
 ·
  rw [Xd5 (by rw [e]; rfl), rqA, Int.toNat_natCast]
  exact ⟨_, rfl, h _ (by rw [Xee l k (by omega)]; exact List.getElem_mem _)⟩
theorem Xou {e : Xfm} (h : Xmh e) : ∃ x, Xkc e = some x ∧ 0 ≤ x ∧ x ≤ 255 := by
 obtain ⟨h1, h2, h3, h4, _, _⟩ := h
 unfold Xkc
 rw [wkA (e := (e.Above.length : Int) + (e.Left.length : Int))]
 by_cases hz : (e.Above.length : Int) + (e.Left.length : Int) = 0
 ·
  rw [Xeu (by simpa using hz)]; exact ⟨_, rfl, by omega, by omega⟩
 ·
  rw [Xd5 (by simpa using hz), rqA, Xcb (by omega), wkA (e := ((e.Above.length : Int) + (e.Left.length : Int)) / 2)]
  obtain ⟨a, ea, a1, a2⟩ := Xkh (f := Xf3 e) e.Above.length (fun i s => 0 ≤ s ∧ s ≤ ((e.Above.length : Int) + (e.Left.length : Int)) / 2 + 255 * i) (by
   intro i s hi ⟨g1, g2⟩
   have := h3 (e.Above.getD i 0) (by rw [Xee _ i hi]; exact List.getElem_mem _)
   unfold Xf3
   simp only [Int.toNat_natCast]
   rw [syA, rqA, wkA (e := s + e.Above.getD i 0), wkA (e := (i : Int) + 1)]
   exact ⟨_, rfl, by omega, by omega⟩) (by intro s; unfold Xf3; rw [Xan (by simp)]) (((e.Above.length : Int) + (e.Left.length : Int)) / 2) ⟨by omega, by omega⟩
  obtain ⟨b, eb, b1, b2⟩ := Xkh (f := Xf4 e) e.Left.length (fun i s => 0 ≤ s ∧ s ≤ ((e.Above.length : Int) + (e.Left.length : Int)) / 2 + 255 * e.Above.length + 255 * i) (by
   intro i s hi ⟨g1, g2⟩
   have := h4 (e.Left.getD i 0) (by rw [Xee _ i hi]; exact List.getElem_mem _)
   unfold Xf4
   simp only [Int.toNat_natCast]
   rw [syA, rqA, wkA (e := s + e.Left.getD i 0), wkA (e := (i : Int) + 1)]
   exact ⟨_, rfl, by omega, by omega⟩) (by intro s; unfold Xf4; rw [Xan (by simp)]) a ⟨by omega, by omega⟩
  rw [ea, Xab, eb, Xab, Xbj hz, Xcb b1]
  have hn : (e.Above.length : Int) + (e.Left.length : Int) = 8 ∨ (e.Above.length : Int) + (e.Left.length : Int) = 16 := by omega
  have hr : 0 ≤ b / ((e.Above.length : Int) + (e.Left.length : Int)) ∧ b / ((e.Above.length : Int) + (e.Left.length : Int)) ≤ 255 := by
   rcases hn with hn | hn <;> rw [hn] <;> omega
  rw [wkA]
  exact ⟨_, rfl, hr⟩
theorem Xey (m : Int) (hm0 : 0 ≤ m ∧ m ≤ 3) {e : Xfm} (h : Xmh e) : ∃ g, Xck m e = some g ∧ Xa9 g = true := by
 have hm : maxLen = 9223372036854775807 := rfl
 have h' := h
 obtain ⟨h1, h2, h3, h4, h5, h6⟩ := h'
 obtain ⟨mid, em, m1, m2⟩ := Xou h
 unfold Xck
 rw [Xgb h, Xab, Xaw, Xag, Xab, decide_eq_true hm0, Bool.not_true, Xab, Xas]
 have hc : ∃ v, sel (decide (e.Corner < 0)) (some (128 : Int)) (some e.Corner) = some v ∧ 0 ≤ v ∧ v ≤ 255 := by
  by_cases c : e.Corner < 0
  ·
   rw [Xbk c]; exact ⟨_, rfl, by omega, by omega⟩
  ·
   rw [Xan c]; exact ⟨_, rfl, by omega, by omega⟩
 obtain ⟨v, ev, v1, v2⟩ := hc
 rw [ev, Xab]
 obtain ⟨o, eo, o1, o2⟩ := Xcx (f := Xct m e v) 64 (fun i s => s.length = i ∧ ∀ x ∈ s, 0 ≤ x ∧ x ≤ 255) (by
  intro i s hi ⟨g1, g2⟩
  obtain ⟨a, ea, a1, a2⟩ := Xls e.Above (i % 8) (by omega) h1 h3
  obtain ⟨b, eb, b1, b2⟩ := Xls e.Left (i / 8) (by omega) h2 h4
  have br := Xjo (n := b + a - v) (a := 0) (b := 255) (by omega)
  have put : ∀ z : Int, 0 ≤ z ∧ z ≤ 255 → (s ++ [z]).length = i + 1 ∧ ∀ x ∈ s ++ [z], 0 ≤ x ∧ x ≤ 255 := by
   intro z hz
   refine ⟨by simp; omega, fun x hx => ?_⟩
   rcases List.mem_append.1 hx with hx | hx
   ·
    exact g2 x hx
   ·
    rw [List.mem_singleton.1 hx]; exact hz
  unfold Xct
  simp only
  rw [syA, rqA, Xcy (by omega), show (i : Int) % 8 = ((i % 8 : Nat) : Int) by omega, ea, Xab, rqA, Xcb (by omega), wkA (e := (i : Int) / 8), show (i : Int) / 8 = ((i / 8 : Nat) : Int) by omega, eb, Xab, wkA (e := (i : Int) + 1), em]
  cases (m == 0) with
  | true =>
   rw [Xaw, Xab, Xbj (by simp only [List.length_singleton]; omega), Xab]
   exact ⟨_, rfl, put _ ⟨m1, m2⟩⟩
  | false =>
   rw [Xas]
   cases (m == 1) with
   | true =>
    rw [Xaw, Xbj (by simp only [List.length_singleton]; omega), Xab]
    exact ⟨_, rfl, put _ ⟨a1, a2⟩⟩
   | false =>
    rw [Xas]
    cases (m == 2) with
    | true =>
     rw [Xaw, Xbj (by simp only [List.length_singleton]; omega), Xab]
     exact ⟨_, rfl, put _ ⟨b1, b2⟩⟩
    | false =>
     rw [Xas, wkA (e := b + a), wkA (e := b + a - v), Xcs, Xab, Xbj (by simp only [List.length_singleton]; omega), Xab]
     exact ⟨_, rfl, put _ br⟩) (by intro s; unfold Xct; rw [Xan (by simp)]) [] ⟨rfl, fun x hx => by simp at hx⟩
 exact ⟨o, (Xk9 eo).trans rfl, Yah o1 o2⟩
theorem Ycz {l : List Int} (h : Xa9 l = true) : l.length = 64 ∧ inB 1000 l := by
 simp only [Xa9, Bool.and_eq_true, decide_eq_true_eq] at h
 refine ⟨h.1, fun x hx => ?_⟩
 have := List.all_eq_true.1 h.2 x hx
 simp only [Yb0, decide_eq_true_eq] at this
 omega
theorem Xma {a b : List Int} (ha : Xa9 a = true) (hb : Xa9 b = true) : Xnz a b = some (Xju a b 64) := by
 have la := Ycz ha
 have lb := Ycz hb
 unfold Xnz
 rw [Xbe a 64 1000 (by omega) (by omega) (by omega) la.2, Xab, Xaw, Xbe b 64 1000 (by omega) (by omega) (by omega) lb.2, Xab, Bool.not_true, Xab, Xas]
 have key : ∀ i : Nat, i ≤ 64 → loop (Xjk a b) (Xju a b i, (i : Int)) = some (Xju a b 64) := by
  refine Xjt _ ?_ ?_
  ·
   exact Xnb (by unfold Xjk; rw [Xan (by simp)])
  ·
   intro i hi ih
   refine lgo (y := (Xju a b (i + 1), ((i + 1 : Nat) : Int))) ?_ ih
   have p := (Xa6 ha).2 i hi
   have q := (Xa6 hb).2 i hi
   have g := Xgm ha hb i (by omega)
   have ab : 0 ≤ Xsl (a.getD i 0 - b.getD i 0) ∧ Xsl (a.getD i 0 - b.getD i 0) ≤ 255 := by unfold Xsl; split <;> omega
   unfold Xjk
   simp only [Int.toNat_natCast]
   rw [syA, rqA, rqA, wkA (e := a.getD i 0 - b.getD i 0), Xjc _ (by omega), Xab, wkA (e := Xju a b i + Xsl (a.getD i 0 - b.getD i 0)), wkA (e := (i : Int) + 1)]
   rfl
 exact (Xk9 (key 0 (by omega))).trans rfl
theorem Xxq (m : Int) (h : 0 ≤ m ∧ m ≤ 3) : ∃ s, Xie m = some s ∧ 0 ≤ s ∧ s ≤ 39 := by
 have := Ygd m.toNat (by omega)
 unfold Xie Xsb
 rw [Xag, Xab, decide_eq_true (by omega), Bool.not_true, Xas, show m = ((m.toNat : Nat) : Int) by omega, Xme _ (by omega), Xab, Xab]
 refine ⟨_, rfl, ?_⟩
 rw [strOfNums_size]; omega
theorem Xr5 {w : List Int} (hw : Xa9 w = true) {e : Xfm} (h : Xmh e) : ∃ m c, Xfy w e = some (m, c) ∧ 0 ≤ m ∧ m ≤ 3 := by
 unfold Xfy
 rw [Xgb h, Xab, Xaw, Xc1 w hw, Xab, Bool.not_true, Xab, Xas]
 obtain ⟨o, eo, o1, o2⟩ := Xko (f := Xcn w e) (fun v => (0 ≤ v.1 ∧ v.1 ≤ 3) ∧ 0 ≤ v.2.2 ∧ v.2.2 ≤ 4) (fun v => (4 - v.2.2).toNat) (fun _ o => 0 ≤ o.1 ∧ o.1 ≤ 3) (by
  intro ⟨m, c, i⟩ ⟨g1, g2, g3⟩
  simp only at g1 g2 g3
  unfold Xcn
  simp only
  by_cases hi : i < 4
  ·
   obtain ⟨g, eg, hg⟩ := Xey i ⟨g2, by omega⟩ h
   obtain ⟨s, es, s1, s2⟩ := Xxq i ⟨g2, by omega⟩
   rw [Xbk hi, eg, Xab, Xma hw hg, Xab, es, Xab, Yf0, Xab, wkA (e := i + 1)]
   cases (decide (c < 0) || decide (Xaa IntKind.i64 (Xju w g 64 + s) < c)) with
   | true => exact .inr ⟨_, rfl, ⟨by simp only; omega, by simp only; omega, by simp only; omega⟩, by simp only; omega, fun _ h => h⟩
   | false => exact .inr ⟨_, rfl, ⟨by simp only; omega, by simp only; omega, by simp only; omega⟩, by simp only; omega, fun _ h => h⟩
  ·
   rw [Xan hi]
   exact .inl ⟨_, rfl, g1⟩) (0, -1, 0) ⟨by simp, by simp, by simp⟩
 exact ⟨o.1, o.2, (Xk9 eo).trans rfl, o1, o2⟩
theorem Xop (d : Int) (h : -500000 ≤ d ∧ d ≤ 500000) : Xmc d = some (Yes d) := by
 unfold Xmc Xyg Yes
 rw [Xag, Xab, decide_eq_true h, Bool.not_true, Xas, Xzz d h, Xab, Xab, strOfNums_size]
theorem Yeo {m : Int} {l : List Int} (hm : 0 ≤ m ∧ m ≤ 3) (hl : Xwp l = true) : Xxw ⟨2, m, 0, 0, l⟩ = true := by
 unfold Xxw
 simp only
 rw [if_neg (by omega), if_neg (by omega), if_pos trivial, hl, decide_eq_true hm]
 rfl
theorem Yf6 {dx dy : Int} {l : List Int} (hx : -16 ≤ dx ∧ dx ≤ 16) (hy : -16 ≤ dy ∧ dy ≤ 16) (hl : Xwp l = true) : Xxw ⟨1, 0, dx, dy, l⟩ = true := by
 unfold Xxw
 simp only
 rw [if_neg (by omega), if_pos trivial, hl, decide_eq_true hx, decide_eq_true hy]
 rfl
def Yg4 (p q : Pic) : Bool := Xdu p && (Xdu q && ((p.Wide == q.Wide) && (p.High == q.High)))
theorem Xwe (p q : Pic) : Xku p q = some (Yg4 p q) := by
 unfold Xku Yg4
 rw [Xd6, Xab, Xd6, Xab]
 simp only [Xhc, Xab]
theorem Yg5 {p q : Pic} (h1 : Xdu p = true) (h2 : Xdu q = true) (h3 : q.Wide = p.Wide) (h4 : q.High = p.High) : Yg4 p q = true := by
 unfold Yg4
 simp only [Bool.and_eq_true, beq_iff_eq]
 exact ⟨h1, h2, h3.symm, h4.symm⟩
theorem Xpl (c : Xa0) (hc : Xi7 c) : ∃ p c', Xeb c = some (p, c') ∧ Yip p = true ∧ Xi7 c' := by
 unfold Xeb
 obtain ⟨x, c1, e1, x0, x1, _, h1⟩ := Xa2 c 41 hc
 obtain ⟨b, c2, e2, h2⟩ := Xka c1 4 h1
 obtain ⟨y, c3, e3, y0, y1, _, h3⟩ := Xa2 c2 3 h2
 have x1' := x1 (by omega)
 rw [e1, Xab]
 simp only
 rw [e2, Xab]
 simp only
 rw [e3, Xab]
 simp only
 have po : ∀ (l e f : Bool), (l && e) = false → Yip ⟨x, l, e, f⟩ = true := by
  intro l e f h
  unfold Yip
  rw [Bool.and_eq_true, decide_eq_true_eq]
  exact ⟨by simp only; omega, by simp only [h]; rfl⟩
 cases (y == 0) with
 | true => exact ⟨_, _, rfl, po _ _ _ rfl, h3⟩
 | false =>
  cases (y == 1) with
  | true => exact ⟨_, _, rfl, po _ _ _ rfl, h3⟩
  | false => exact ⟨_, _, rfl, po _ _ _ rfl, h3⟩
theorem Xze {V O : Type} {f g : V → Option (Lp V O)} (I : V → Prop) (h : ∀ v, I v → f v = g v) (hI : ∀ v v', I v → g v = some (.go v') → I v') : ∀ (k : Nat) (v : V), I v → it f k v = it g k v
 | 0, _, _ => rfl
 | k + 1, v, hv => by
  rw [it, it, h v hv]
  cases e : g v with
  | none => rfl
  | some s =>
   cases s with
   | go y => exact Xze I h hI k y (hI v y hv e)
   | done o => rfl
theorem Xh7 {V O : Type} {f g : V → Option (Lp V O)} (I : V → Prop) (h : ∀ v, I v → f v = g v) (hI : ∀ v v', I v → g v = some (.go v') → I v') {v : V} (hv : I v) : loop f v = loop g v := by
 apply Option.ext
 intro o
 rw [Xfk, Xfk]
 exact ⟨fun ⟨k, hk⟩ => ⟨k, by rw [← Xze I h hI k v hv]; exact hk⟩, fun ⟨k, hk⟩ => ⟨k, by rw [Xze I h hI k v hv]; exact hk⟩⟩
theorem Yce {V O : Type} {f : V → Option (Lp V O)} {v : V} {o : O} (k : Nat) (h : it f k v = some o) : loop f v = some o := Xfk.2 ⟨k, h⟩
theorem Xnc {a b : List Int} {n : Nat} (ha : a.length = n) (hb : b.length = n) (h : ∀ i : Nat, i < n → a.getD i 0 = b.getD i 0) : a = b := by
 apply List.ext_getElem (by omega)
 intro i h1 h2
 have := h i (by omega)
 rwa [Xee a i h1, Xee b i h2] at this
theorem Xf5 {n : Nat} (g : Nat → Int) {i : Nat} (h : i < n) : ((List.range n).map g).getD i 0 = g i := by
 rw [Xee _ i (by simpa using h)]; simp
theorem Xyp {α : Type} {f : Int × List α → Option (Lp (Int × List α) (List α))} (n : Nat) (g : Nat → α) (a : List α) (hs : ∀ i : Nat, i < n → f ((i : Int), a ++ (List.range i).map g) = some (.go (((i + 1 : Nat) : Int), a ++ (List.range i).map g ++ [g i]))) (he : f ((n : Int), a ++ (List.range n).map g) = some (.done (a ++ (List.range n).map g))) : loop f (0, a) = some (a ++ (List.range n).map g) := by
 have key : ∀ i : Nat, i ≤ n → loop f ((i : Int), a ++ (List.range i).map g) = some (a ++ (List.range n).map g) := by
  refine Xjt _ (Xnb he) ?_
  intro i hi ih
  refine lgo (hs i hi) ?_
  rw [List.append_assoc, show (List.range i).map g ++ [g i] = (List.range (i + 1)).map g by simp [List.range_succ]]
  exact ih
 have := key 0 (by omega)
 simpa using this
theorem Xjm {S : Type} {f : Int × S → Option (Lp (Int × S) S)} (n : Nat) (I : Nat → S → Prop) (hs : ∀ (i : Nat) (l : S), i < n → I i l → ∃ l', f ((i : Int), l) = some (.go (((i + 1 : Nat) : Int), l')) ∧ I (i + 1) l') (he : ∀ l, I n l → f ((n : Int), l) = some (.done l)) (l0 : S) (h0 : I 0 l0) : ∃ o, loop f (0, l0) = some o ∧ I n o := by
 have key : ∀ i : Nat, i ≤ n → ∀ l, I i l → ∃ o, loop f ((i : Int), l) = some o ∧ I n o := by
  refine Xjt _ ?_ ?_
  ·
   intro l h; exact ⟨l, Xnb (he l h), h⟩
  ·
   intro i hi ih l h
   obtain ⟨l', e, h'⟩ := hs i l hi h
   obtain ⟨o, e2, h2⟩ := ih l' h'
   exact ⟨o, lgo e e2, h2⟩
 exact key 0 (by omega) l0 h0
theorem Yb3 : Xjr = Xcm := rfl
theorem Xxp (qp : Int) (h0 : 0 ≤ qp ∧ qp ≤ 40) : Xgk qp = some (Xke qp) := by
 have h := Yf7 ⟨qp.toNat, by omega⟩
 simp only at h
 rw [show ((qp.toNat : Nat) : Int) = qp by omega] at h
 unfold Xgk
 rw [Xag, Xab, decide_eq_true (by omega), Bool.not_true, Xas, rqA]
 have hb : (sel ((qp.tmod 6) == 0) (some (10 : Int)) (sel ((qp.tmod 6) == 1) (some 11) (sel ((qp.tmod 6) == 2) (some 13) (sel ((qp.tmod 6) == 3) (some 14) (sel ((qp.tmod 6) == 4) (some 16) (some 18)))))) = some (Xmf qp) := by
  unfold Xmf
  simp only [Xzv, beq_iff_eq]
  repeat' split
  all_goals rfl
 rw [hb, Xab]
 unfold Xke at h ⊢
 cases e : it (Xiq qp) 10 (Xmf qp, 0) with
 | none => rw [e] at h; simp only at h; omega
 | some q => rw [Xfk.2 ⟨10, e⟩, Xab]
theorem Xza : ∀ q : Fin 41, Xgj (q.val : Int) = some (Xke (q.val : Int)) := by decide +kernel
theorem Xw6 (qp : Int) (h0 : 0 ≤ qp ∧ qp ≤ 40) : Xgj qp = some (Xke qp) := by
 have := Xza ⟨qp.toNat, by omega⟩
 simp only at this
 rwa [show ((qp.toNat : Nat) : Int) = qp by omega] at this
theorem Xsk (qp : Int) (h0 : 0 ≤ qp ∧ qp ≤ 40) : Xgj qp = Xgk qp := by rw [Xw6 qp h0, Xxp qp h0]
theorem Xoq (u v : Nat) (hu : u < 8) (hv : v < 8) : Xid u v = some (Xhd u v) := by
 have h := Yf3 ⟨u, hu⟩ ⟨v, hv⟩
 simp only at h
 unfold Xid
 rw [Xag, Xab, decide_eq_true (by omega), Xaw, Xag, Xab, decide_eq_true (by omega), Bool.not_true, Xab, Xas]
 unfold Xhd at h ⊢
 cases e : it Xip 10 (1, (IntKind.wrap .i64 (BitVec.ofInt (IntKind.bits .i64) (u : Int) &&& BitVec.ofInt (IntKind.bits .i64) (v : Int)).toNat)) with
 | none => rw [e] at h; simp only at h; omega
 | some q => rw [Xfk.2 ⟨10, e⟩, Xab]
theorem Xy5 : ∀ u v : Fin 8, Xhz (u.val : Int) (v.val : Int) = some (Xhd (u.val : Int) (v.val : Int)) := by decide +kernel
theorem Xsj (u v : Nat) (hu : u < 8) (hv : v < 8) : Xhz u v = some (Xhd u v) := Xy5 ⟨u, hu⟩ ⟨v, hv⟩
def Xzu (qp p : Int) : Option Int :=
 bnd (Xj6 p) fun q1 => bnd (Xav q1 10 16 13) fun a1 => bnd (Xav q1 11 18 14) fun a2 => bnd (Xav q1 13 20 16) fun a3 => bnd (Xav q1 14 23 18) fun a4 => bnd (Xav q1 16 25 20) fun a5 => bnd (Xav q1 18 29 23) fun a6 =>
 it (Xdr qp) 10 ((sel (qp.tmod 6 == 0) a1 (sel (qp.tmod 6 == 1) a2 (sel (qp.tmod 6 == 2) a3 (sel (qp.tmod 6 == 3) a4 (sel (qp.tmod 6 == 4) a5 (sel (qp.tmod 6 == 5) a6 0)))))), 0)
theorem Yfw : ∀ q : Fin 41, ∀ p : Fin 16, (Xzu (q.val : Int) (p.val : Int)).isSome = true ∧ Xit (q.val : Int) (p.val : Int) = Xzu (q.val : Int) (p.val : Int) := by decide +kernel
theorem Xyk (qp p : Int) (h0 : 0 ≤ qp ∧ qp ≤ 40) (hp : 0 ≤ p ∧ p ≤ 15) : Xit qp p = Xiz qp p := by
 have := Yfw ⟨qp.toNat, by omega⟩ ⟨p.toNat, by omega⟩
 simp only at this
 rw [show ((qp.toNat : Nat) : Int) = qp by omega, show ((p.toNat : Nat) : Int) = p by omega] at this
 obtain ⟨h1, h2⟩ := this
 rw [h2]
 cases e : Xzu qp p with
 | none => rw [e] at h1; cases h1
 | some o =>
  unfold Xzu at e
  unfold Xiz
  obtain ⟨k, ek, k0, k1⟩ := Xk3 p hp
  rw [ek, Xab] at e ⊢
  rw [Xag, Xab, decide_eq_true h0, Xaw, decide_eq_false (by omega), Xab, Xas, rqA]
  obtain ⟨a1, e1, b1⟩ := Xaq k 10 16 13
  obtain ⟨a2, e2, b2⟩ := Xaq k 11 18 14
  obtain ⟨a3, e3, b3⟩ := Xaq k 13 20 16
  obtain ⟨a4, e4, b4⟩ := Xaq k 14 23 18
  obtain ⟨a5, e5, b5⟩ := Xaq k 16 25 20
  obtain ⟨a6, e6, b6⟩ := Xaq k 18 29 23
  rw [e1, e2, e3, e4, e5, e6] at e ⊢
  simp only [Xab, Ydl] at e ⊢
  rw [Yce 10 e, Xab]
def Xlm (n : Int) (v16 : Int × List Int) : Option (Lp (Int × List Int) (List Int)) :=
 sel (decide (v16.1 ≤ (Xaa .i64 ((Xaa .i64 (2 * n)) - 2)))) (
 bnd (it (Xg5 n v16) 20 (0, v16.2)) fun v42 =>
 some (.go (Xaa .i64 (v16.1 + 1), v42))) (
 some (.done v16.2))
theorem Ybn {n : Int} {v : Int × List Int} {x : Lp (Int × List Int) (List Int)} (h : Xlm n v = some x) : Xef n v = some x := by
 unfold Xlm at h
 unfold Xef
 rcases Xga h with ⟨hb, h⟩ | ⟨hb, h⟩
 ·
  rw [hb, Xaw]
  obtain ⟨a, h1, h2⟩ := Xbr h
  rw [Xfk.2 ⟨20, h1⟩, Xab]
  exact h2
 ·
  rw [hb, Xas]; exact h
def Xtj (n : Int) : List Int := (it (Xlm n) 20 (0, [])).getD []
theorem Yix : (it (Xlm 4) 20 (0, [])).isSome = true ∧ (Xtj 4).length = 16 := by decide +kernel
theorem Yiy : (it (Xlm 8) 20 (0, [])).isSome = true ∧ (Xtj 8).length = 64 := by decide +kernel
theorem Yfy : ∀ i : Fin 16, (Xtj 4).getD i.val 0 = Xbq 4 (i.val : Int) := by decide +kernel
theorem Ybm : ∀ i : Fin 64, (Xtj 8).getD i.val 0 = Xbq 8 (i.val : Int) := by decide +kernel
theorem Xle (n : Int) (hn : n = 4 ∨ n = 8) : Xec n = some (Xtj n) ∧ ((Xtj n).length : Int) = n * n ∧ ∀ i : Nat, (i : Int) < n * n → (Xtj n).getD i 0 = Xbq n i := by
 have h : (it (Xlm n) 20 (0, [])).isSome = true ∧ ((Xtj n).length : Int) = n * n := by
  rcases hn with rfl | rfl
  ·
   have := Yix; exact ⟨this.1, by omega⟩
  ·
   have := Yiy; exact ⟨this.1, by omega⟩
 refine ⟨?_, h.2, fun i hi => ?_⟩
 ·
  obtain ⟨o, ho⟩ := Option.isSome_iff_exists.1 h.1
  have hl := Yce 20 (Yg2 (fun v y => Ybn (n := n)) 20 _ ho)
  unfold Xec
  rw [hl, Xab]
  unfold Xtj; rw [ho]; rfl
 ·
  rcases hn with rfl | rfl
  ·
   exact Yfy ⟨i, by omega⟩
  ·
   exact Ybm ⟨i, by omega⟩
theorem Xmy (n : Int) (hn : n = 4 ∨ n = 8) (l : List Int) (hl : (l.length : Int) = n * n) : Xdc n l = Xca n l := by
 obtain ⟨e, h1, h2⟩ := Xle n hn
 have hw : Xaa .i64 (n * n) = n * n := by rcases hn with rfl | rfl <;> exact wkA
 have hn2 : n * n ≤ 64 := by rcases hn with rfl | rfl <;> omega
 unfold Xdc Xca
 rw [e]
 have : loop (Xfa l (Xtj n)) (0, List.replicate (l.length : Int).toNat 0) = loop (Xa8 n l) (0, List.replicate (l.length : Int).toNat 0) := by
  refine Xh7 (fun v => (∃ i : Nat, v.1 = (i : Int) ∧ i ≤ l.length) ∧ v.2.length = l.length) ?_ ?_ ⟨⟨0, rfl, by omega⟩, by simp⟩
  ·
   intro ⟨i, s⟩ ⟨⟨k, ek, hk⟩, hs⟩
   simp only at hs ek
   subst ek
   unfold Xfa Xa8
   simp only [Int.toNat_natCast]
   rw [hw]
   by_cases hi : (k : Int) < n * n
   ·
    have hp := Xc8 n hn k hi
    have h3 := h2 k hi
    simp only [h3]
    rw [syA, Xbk hi, Xcl n hn k hi, Xab, rqA, rqA]
   ·
    rw [snA, Xan hi]
  ·
   intro ⟨i, s⟩ v' ⟨⟨k, ek, hk⟩, hs⟩ he
   simp only at hs ek
   subst ek
   unfold Xa8 at he
   simp only [Int.toNat_natCast] at he
   rw [hw] at he
   by_cases hi : (k : Int) < n * n
   ·
    have hp := Xc8 n hn k hi
    rw [Xbk hi, Xcl n hn k hi, Xab, rqA, rqA, rqA, wkA] at he
    cases he
    exact ⟨⟨k + 1, rfl, by omega⟩, by rw [List.length_set]; exact hs⟩
   ·
    rw [Xan hi] at he; cases he
 simp only [Xab, this]
theorem Xlv (n : Int) (hn : n = 4 ∨ n = 8) (l : List Int) (hl : (l.length : Int) = n * n) : Xem n l = Xdb n l := by
 have hm : maxLen = 9223372036854775807 := rfl
 obtain ⟨e, h1, h2⟩ := Xle n hn
 have hw : Xaa .i64 (n * n) = n * n := by rcases hn with rfl | rfl <;> exact wkA
 have hn2 : n * n ≤ 64 := by rcases hn with rfl | rfl <;> omega
 unfold Xem Xdb
 rw [e]
 have : loop (Xg2 l (Xtj n)) (0, ([] : List Int)) = loop (Xbm n l) (0, ([] : List Int)) := by
  refine Xh7 (fun v => ∃ i : Nat, v.1 = (i : Int) ∧ i ≤ l.length) ?_ ?_ ⟨0, rfl, by omega⟩
  ·
   intro ⟨i, s⟩ ⟨k, ek, hk⟩
   simp only at ek
   subst ek
   unfold Xg2 Xbm
   simp only [Int.toNat_natCast]
   rw [hw]
   by_cases hi : (k : Int) < n * n
   ·
    have hp := Xc8 n hn k hi
    have h3 := h2 k hi
    simp only [h3]
    rw [syA, Xbk hi, Xcl n hn k hi, Xab, rqA, rqA]
   ·
    rw [snA, Xan hi]
  ·
   intro ⟨i, s⟩ v' ⟨k, ek, hk⟩ he
   simp only at ek
   subst ek
   unfold Xbm at he
   simp only [Int.toNat_natCast] at he
   rw [hw] at he
   by_cases hi : (k : Int) < n * n
   ·
    have hp := Xc8 n hn k hi
    rw [Xbk hi, Xcl n hn k hi, Xab, rqA] at he
    obtain ⟨_, he⟩ := Xar he
    rw [wkA] at he
    cases he
    exact ⟨k + 1, rfl, by omega⟩
   ·
    rw [Xan hi] at he; cases he
 simp only [Xab, this]
def Xz6 (t : Nat → Int) : Nat → Int
 | 0 => 0
 | k + 1 => Xaa .i64 (Xz6 t k + t k)
def Yiu (p : List Int) (i v k : Nat) : Int := Xaa .i64 (Xhd v k * p.getD (8 * i + k) 0)
def Yig (p : List Int) (u v k : Nat) : Int := Xaa .i64 (Xhd u k * p.getD (8 * k + v) 0)
def Xm1 (p : List Int) : List Int := (List.range 64).map fun j => Xz6 (Yiu p (j / 8) (j % 8)) 8
def Yeq (p : List Int) : List Int := (List.range 64).map fun j => Xz6 (Yig (Xm1 p) (j / 8) (j % 8)) 8
theorem Yap (p : List Int) : (Xm1 p).length = 64 := by simp [Xm1]
theorem Yf9 (p : List Int) : (Yeq p).length = 64 := by simp [Yeq]
theorem Ybs {f1 : Int × List Int → Option (Lp (Int × List Int) (List Int))} {f2 : Int × List Int → Int × List Int → Option (Lp (Int × List Int) (List Int))} {f3 : Int × List Int → Int × List Int → Int × List Int → Option (Lp (Int × List Int) (List Int))} (t : Nat → Nat → Nat → Int)
  (h1 : ∀ v, f1 v = sel (decide (v.1 < 8)) (bnd (loop (f2 v) (0, v.2)) fun w => some (.go (Xaa .i64 (v.1 + 1), w))) (some (.done v.2)))
  (h2 : ∀ v w, f2 v w = sel (decide (w.1 < 8)) (bnd (loop (f3 v w) (0, w.2)) fun x => some (.go (Xaa .i64 (w.1 + 1), x))) (some (.done w.2)))
  (h3 : ∀ (i v k : Nat) (a b s : List Int), i < 8 → v < 8 → k < 8 → s.length = 64 → f3 ((i : Int), a) ((v : Int), b) ((k : Int), s) = some (.go (((k + 1 : Nat) : Int), s.set (8 * i + v) (Xaa .i64 (s.getD (8 * i + v) 0 + t i v k)))))
  (h4 : ∀ (i v : Nat) (a b s : List Int), f3 ((i : Int), a) ((v : Int), b) (8, s) = some (.done s)) : loop f1 (0, List.replicate 64 0) = some ((List.range 64).map fun j => Xz6 (t (j / 8) (j % 8)) 8) := by
 obtain ⟨o, e, o1, o2, _⟩ := Xjm (f := f1) 8 (fun i s => s.length = 64 ∧ (∀ j, j < 8 * i → s.getD j 0 = Xz6 (t (j / 8) (j % 8)) 8) ∧ ∀ j, 8 * i ≤ j → s.getD j 0 = 0) (by
  intro i s hi ⟨g1, g2, g3⟩
  obtain ⟨r, er, r1, r2, r3⟩ := Xjm (f := f2 ((i : Int), s)) 8 (fun v s => s.length = 64 ∧ (∀ j, j < 8 * i + v → s.getD j 0 = Xz6 (t (j / 8) (j % 8)) 8) ∧ ∀ j, 8 * i + v ≤ j → s.getD j 0 = 0) (by
   intro v s' hv ⟨k1, k2, k3⟩
   obtain ⟨q, eq, q1, q2, q3⟩ := Xjm (f := f3 ((i : Int), s) ((v : Int), s')) 8 (fun k s => s.length = 64 ∧ (∀ j, j ≠ 8 * i + v → s.getD j 0 = s'.getD j 0) ∧ s.getD (8 * i + v) 0 = Xz6 (t i v) k) (by
    intro k s'' hk ⟨m1, m2, m3⟩
    refine ⟨_, h3 i v k s s' s'' hi hv hk m1, by rw [List.length_set]; exact m1, fun j hj => ?_, ?_⟩
    ·
     rw [Xei _ _ _ _ (by omega), if_neg (fun h => hj h.symm)]; exact m2 j hj
    ·
     rw [Xei _ _ _ _ (by omega), if_pos rfl, m3]; rfl) (fun z _ => h4 i v s s' z) s' ⟨k1, fun _ _ => rfl, by rw [k3 _ (Nat.le_refl _)]; rfl⟩
   refine ⟨q, by rw [h2, Xbk (by simp only; omega), eq, Xab, wk (by simp only; omega) (by simp only; omega)]; rfl, q1, fun j hj => ?_, fun j hj => ?_⟩
   ·
    by_cases h : j = 8 * i + v
    ·
     rw [h, q3, show (8 * i + v) / 8 = i by omega, show (8 * i + v) % 8 = v by omega]
    ·
     rw [q2 j h]; exact k2 j (by omega)
   ·
    rw [q2 j (by omega)]; exact k3 j (by omega)) (fun z _ => by rw [h2, Xan (by simp)]) s ⟨g1, g2, g3⟩
  refine ⟨r, by rw [h1, Xbk (by simp only; omega), er, Xab, wk (by simp only; omega) (by simp only; omega)]; rfl, r1, fun j hj => r2 j (by omega), fun j hj => r3 j (by omega)⟩) (fun z _ => by rw [h1, Xan (by simp)]) (List.replicate 64 0) ⟨by simp, fun j hj => by omega, fun j _ => by
   by_cases h : j < 64
   ·
    rw [Xee _ _ (by rw [List.length_replicate]; exact h)]; exact List.getElem_replicate ..
   ·
    rw [List.getD_eq_getElem?_getD, List.getElem?_eq_none (by rw [List.length_replicate]; omega)]; rfl⟩
 rw [e]
 congr 1
 exact Xnc o1 (by simp) fun j hj => by rw [o2 j (by omega), Xf5 (fun j => Xz6 (t (j / 8) (j % 8)) 8) hj]
theorem Xsp (p : List Int) (hp : p.length = 64) : Xlg p = some (Yeq p) := by
 unfold Xlg
 rw [rqA]
 have e1 : loop (Xl4 p) (0, List.replicate (64 : Int).toNat 0) = some (Xm1 p) :=
  Ybs (f2 := Xl5 p) (f3 := Xg7 p) (fun i v k => Yiu p i v k) (fun _ => rfl) (fun _ _ => rfl) (fun i v k a b s hi hv hk hs => by
   unfold Xg7
   simp only
   rw [syA, wkA (e := 8 * (i : Int)), wkA (e := 8 * (i : Int) + (v : Int)), wkA (e := 8 * (i : Int) + (k : Int)), rqA, rqA, Xsj v k hv hk, Xab, rqA, rqA, rqA, wkA (e := (k : Int) + 1), show (8 * (i : Int) + (v : Int)).toNat = 8 * i + v by omega, show (8 * (i : Int) + (k : Int)).toNat = 8 * i + k by omega]
   rfl) (fun i v a b s => by unfold Xg7; rw [Xan (by simp)])
 have e2 : loop (Xky (Xm1 p)) (0, List.replicate (64 : Int).toNat 0) = some (Yeq p) :=
  Ybs (f2 := Xkz (Xm1 p)) (f3 := Xfv (Xm1 p)) (fun i v k => Yig (Xm1 p) i v k) (fun _ => rfl) (fun _ _ => rfl) (fun i v k a b s hi hv hk hs => by
   have hl := Yap p
   unfold Xfv
   simp only
   rw [syA, wkA (e := 8 * (i : Int)), wkA (e := 8 * (i : Int) + (v : Int)), wkA (e := 8 * (k : Int)), wkA (e := 8 * (k : Int) + (v : Int)), rqA, rqA, Xsj i k hi hk, Xab, rqA, rqA, rqA, rqA, wkA (e := (k : Int) + 1), show (8 * (i : Int) + (v : Int)).toNat = 8 * i + v by omega, show (8 * (k : Int) + (v : Int)).toNat = 8 * k + v by omega]
   rfl) (fun i v a b s => by unfold Xfv; rw [Xan (by simp)])
 rw [e1, Xab, rqA, e2, Xab]
theorem Xxu (p : List Int) (hp : p.length = 64) (i v : Nat) (hi : i < 8) (hv : v < 8) : Xkb p i v = some (Xz6 (Yiu p i v) 8) := by
 obtain ⟨o, e, h⟩ := Xkh (f := Xdf p i v) 8 (fun k s => s = Xz6 (Yiu p i v) k) (by
  intro k s hk g
  subst g
  unfold Xdf
  simp only
  rw [syA, wkA (e := 8 * (i : Int)), wkA (e := 8 * (i : Int) + (k : Int)), rqA, Xoq v k hv hk, Xab, wkA (e := (k : Int) + 1), show (8 * (i : Int) + (k : Int)).toNat = 8 * i + k by omega, Int.mul_comm (p.getD _ _)]
  exact ⟨_, rfl, rfl⟩) (by intro s; unfold Xdf; rw [Xan (by simp)]) 0 rfl
 unfold Xkb
 rw [e, Xab, h]
theorem Xnm (p : List Int) (hp : p.length = 64) : Xgu p = some (Yeq p) := by
 have hm : maxLen = 9223372036854775807 := rfl
 unfold Xgu
 obtain ⟨o, e, ho⟩ := Xcx (f := Xcf p) 8 (fun i s => s = (List.range (8 * i)).map fun j => Xz6 (Yiu p (j / 8) (j % 8)) 8) (by
  intro i s hi g
  subst g
  obtain ⟨r, er, hr⟩ := Xcx (f := Xcg p ((i : Int), (List.range (8 * i)).map fun j => Xz6 (Yiu p (j / 8) (j % 8)) 8)) 8 (fun v s => s = (List.range (8 * i + v)).map fun j => Xz6 (Yiu p (j / 8) (j % 8)) 8) (by
   intro v s hv g
   subst g
   unfold Xcg
   simp only
   rw [syA, Xxu p hp i v hi hv, Xab, Xbj (by simp only [List.length_singleton, List.length_map, List.length_range]; omega), wkA (e := (v : Int) + 1)]
   refine ⟨_, rfl, ?_⟩
   rw [show 8 * i + (v + 1) = (8 * i + v) + 1 by omega, List.range_succ, List.map_append, List.map_singleton, show (8 * i + v) / 8 = i by omega, show (8 * i + v) % 8 = v by omega]) (by intro s; unfold Xcg; rw [Xan (by simp)]) _ rfl
  rw [Nat.add_zero] at er
  unfold Xcf
  simp only
  rw [syA, er, Xab, wkA (e := (i : Int) + 1)]
  exact ⟨_, rfl, by rw [hr, show 8 * (i + 1) = 8 * i + 8 by omega]⟩) (by intro s; unfold Xcf; rw [Xan (by simp)]) [] rfl
 have ho' : o = Xm1 p := by rw [ho]; rfl
 rw [e, Xab, ho']
 obtain ⟨o2, e2, ho2⟩ := Xcx (f := Xb5 (Xm1 p)) 8 (fun i s => s = (List.range (8 * i)).map fun j => Xz6 (Yig (Xm1 p) (j / 8) (j % 8)) 8) (by
  intro i s hi g
  subst g
  obtain ⟨r, er, hr⟩ := Xcx (f := Xb6 (Xm1 p) ((i : Int), (List.range (8 * i)).map fun j => Xz6 (Yig (Xm1 p) (j / 8) (j % 8)) 8)) 8 (fun v s => s = (List.range (8 * i + v)).map fun j => Xz6 (Yig (Xm1 p) (j / 8) (j % 8)) 8) (by
   intro v s hv g
   obtain ⟨c, ec, hc⟩ := Xkh (f := Xb7 (Xm1 p) ((i : Int), (List.range (8 * i)).map fun j => Xz6 (Yig (Xm1 p) (j / 8) (j % 8)) 8) ((v : Int), s)) 8 (fun k x => x = Xz6 (Yig (Xm1 p) i v) k) (by
    intro k x hk g
    subst g
    have hl := Yap p
    unfold Xb7
    simp only
    rw [syA, Xoq i k hi hk, Xab, wkA (e := 8 * (k : Int)), wkA (e := 8 * (k : Int) + (v : Int)), rqA, rqA, wkA (e := (k : Int) + 1), show (8 * (k : Int) + (v : Int)).toNat = 8 * k + v by omega]
    exact ⟨_, rfl, rfl⟩) (by intro s; unfold Xb7; rw [Xan (by simp)]) 0 rfl
   subst g
   unfold Xb6
   simp only
   rw [syA, ec, Xab, Xbj (by simp only [List.length_singleton, List.length_map, List.length_range]; omega), wkA (e := (v : Int) + 1)]
   refine ⟨_, rfl, ?_⟩
   rw [hc, show 8 * i + (v + 1) = (8 * i + v) + 1 by omega, List.range_succ, List.map_append, List.map_singleton, show (8 * i + v) / 8 = i by omega, show (8 * i + v) % 8 = v by omega]) (by intro s; unfold Xb6; rw [Xan (by simp)]) _ rfl
  rw [Nat.add_zero] at er
  unfold Xb5
  simp only
  rw [syA, er, Xab, wkA (e := (i : Int) + 1)]
  exact ⟨_, rfl, by rw [hr, show 8 * (i + 1) = 8 * i + 8 by omega]⟩) (by intro s; unfold Xb5; rw [Xan (by simp)]) [] rfl
 rw [e2, Xab, ho2]
 rfl
theorem Xk7 (l : List Int) (n B : Int) (hn : (l.length : Int) = n) (hn2 : n ≤ 1000000) (h : inB B l) : Xa4 l n (-B) B = some true := by
 rw [Xg3 l n (-B) B (by omega), hn, beq_self_eq_true, Bool.and_true]
 congr 1
 rw [List.all_eq_true]
 intro x hx
 rw [decide_eq_true_eq]; exact h x hx
theorem Xqy (o : List Int) {f : Int × List Int → Option (Lp (Int × List Int) (List Int))} (n : Nat) (hn : n ≤ 64) (hl : o.length = n) (hf : ∀ v : Int × List Int, f v = sel (decide (v.1 < (n : Int))) (req (0 ≤ v.1 ∧ v.1 < v.2.length) <| req (v.1.toNat < v.2.length) <| bnd (Xcm (Xaa .i64 ((v.2.getD v.1.toNat 0) + 32)) 64) fun q => req (0 ≤ v.1 ∧ v.1 < v.2.length) <| req (v.1.toNat < v.2.length) <| some (.go (Xaa .i64 (v.1 + 1), (v.2.set v.1.toNat q)))) (some (.done v.2))) : bnd (Xgq o) (fun q => some q.2) = bnd (loop f (0, o)) fun q => some q := by
 unfold Xgq
 have : Xj0 o = f := by
  funext v
  rw [hf, ← hl]; rfl
 rw [this]
 cases loop f (0, o) <;> rfl
theorem Xug (p : List Int) (hl : p.length = 64) (hb : inB 10000000 p) : Xfq p = Xfz p := by
 unfold Xfq Xfz
 rw [Xk7 p 64 10000000 (by omega) (by omega) hb, Xbe p 64 10000000 (by omega) (by omega) (by omega) hb, Xab, Xab, Bool.not_true, Xas, Xas, Xsp p hl, Xnm p hl, Xab, Xab]
 exact Xqy (Yeq p) 64 (by omega) (Yf9 p) (fun _ => rfl)
theorem Ybt (p : List Int) (hl : p.length = 64) (hb : inB 1000 p) : Xla p = Xln p := by
 unfold Xla Xln
 rw [Xk7 p 64 1000 (by omega) (by omega) hb, Xbe p 64 1000 (by omega) (by omega) (by omega) hb, Xab, Xab, Bool.not_true, Xas, Xas, Xsp p hl, Xnm p hl, Xab]
def tgA (q : Int → Int → Int → Int → Option (Int × Int × Int × Int)) (v4 : (Int × (List Int))) : Option (Lp (Int × (List Int)) (List Int)) :=
 sel (decide (v4.1 < 16)) (
 req (0 ≤ v4.1 ∧ v4.1 < v4.2.length) <|
 req (v4.1.toNat < v4.2.length) <|
 req (0 ≤ (Xaa .i64 (v4.1 + 1)) ∧ (Xaa .i64 (v4.1 + 1)) < v4.2.length) <|
 req ((Xaa .i64 (v4.1 + 1)).toNat < v4.2.length) <|
 req (0 ≤ (Xaa .i64 (v4.1 + 2)) ∧ (Xaa .i64 (v4.1 + 2)) < v4.2.length) <|
 req ((Xaa .i64 (v4.1 + 2)).toNat < v4.2.length) <|
 req (0 ≤ (Xaa .i64 (v4.1 + 3)) ∧ (Xaa .i64 (v4.1 + 3)) < v4.2.length) <|
 req ((Xaa .i64 (v4.1 + 3)).toNat < v4.2.length) <|
 bnd (q (v4.2.getD v4.1.toNat 0) (v4.2.getD ((Xaa .i64 (v4.1 + 1)).toNat) 0) (v4.2.getD ((Xaa .i64 (v4.1 + 2)).toNat) 0) (v4.2.getD ((Xaa .i64 (v4.1 + 3)).toNat) 0)) fun q8 =>
 req (0 ≤ v4.1 ∧ v4.1 ≤ (Xaa .i64 (v4.1 + 4)) ∧ (Xaa .i64 (v4.1 + 4)) ≤ (v4.2.length : Int)) <|
 req ((v4.1.toNat + ((Xaa .i64 (v4.1 + 4)).toNat - v4.1.toNat) ≤ v4.2.length ∧ ([q8.1, q8.2.1, q8.2.2.1, q8.2.2.2]).length ≤ ((Xaa .i64 (v4.1 + 4)).toNat - v4.1.toNat))) <|
 some (.go (Xaa .i64 (v4.1 + 4), (over v4.2 v4.1.toNat ([q8.1, q8.2.1, q8.2.2.1, q8.2.2.2]))))) (
 some (.done v4.2))
def tgB (v17 : (Int × (List Int))) (q26 : (Int × Int × Int × Int)) (v28 : (Int × (List Int))) : Option (Lp (Int × (List Int)) (List Int)) :=
 sel (decide (v28.1 < 4)) (
 req (0 ≤ v28.1 ∧ v28.1 < ([q26.1, q26.2.1, q26.2.2.1, q26.2.2.2] : List Int).length) <|
 req (0 ≤ (Xaa .i64 (v17.1 + (Xaa .i64 (4 * v28.1)))) ∧ (Xaa .i64 (v17.1 + (Xaa .i64 (4 * v28.1)))) < v28.2.length) <|
 req ((Xaa .i64 (v17.1 + (Xaa .i64 (4 * v28.1)))).toNat < v28.2.length) <|
 some (.go (Xaa .i64 (v28.1 + 1), (v28.2.set ((Xaa .i64 (v17.1 + (Xaa .i64 (4 * v28.1)))).toNat) (([q26.1, q26.2.1, q26.2.2.1, q26.2.2.2] : List Int).getD v28.1.toNat 0))))) (
 some (.done v28.2))
noncomputable def tgC (q : Int → Int → Int → Int → Option (Int × Int × Int × Int)) (v17 : (Int × (List Int))) : Option (Lp (Int × (List Int)) (List Int)) :=
 sel (decide (v17.1 < 4)) (
 req (0 ≤ v17.1 ∧ v17.1 < v17.2.length) <|
 req (v17.1.toNat < v17.2.length) <|
 req (0 ≤ (Xaa .i64 (v17.1 + 4)) ∧ (Xaa .i64 (v17.1 + 4)) < v17.2.length) <|
 req ((Xaa .i64 (v17.1 + 4)).toNat < v17.2.length) <|
 req (0 ≤ (Xaa .i64 (v17.1 + 8)) ∧ (Xaa .i64 (v17.1 + 8)) < v17.2.length) <|
 req ((Xaa .i64 (v17.1 + 8)).toNat < v17.2.length) <|
 req (0 ≤ (Xaa .i64 (v17.1 + 12)) ∧ (Xaa .i64 (v17.1 + 12)) < v17.2.length) <|
 req ((Xaa .i64 (v17.1 + 12)).toNat < v17.2.length) <|
 bnd (q (v17.2.getD v17.1.toNat 0) (v17.2.getD ((Xaa .i64 (v17.1 + 4)).toNat) 0) (v17.2.getD ((Xaa .i64 (v17.1 + 8)).toNat) 0) (v17.2.getD ((Xaa .i64 (v17.1 + 12)).toNat) 0)) fun q26 =>
 bnd (loop (tgB v17 q26) (0, v17.2)) fun v30 =>
 some (.go (Xaa .i64 (v17.1 + 1), v30))) (
 some (.done v17.2))
noncomputable def Yhr (q : Int → Int → Int → Int → Option (Int × Int × Int × Int)) (p0 : (List Int)) : Option (List Int) :=
 bnd (Xfc p0) fun q1 =>
 bnd (loop (tgA q) (0, q1)) fun v7 =>
 bnd (loop (tgC q) (0, v7)) fun v25 =>
 some v25
theorem Ygb : Xbt = Yhr Xcp := rfl
theorem Ygc : Xci = Yhr Xhv := rfl
abbrev Q4 := Int × Int × Int × Int
def Ybb (q : Q4) (i : Nat) : Int := [q.1, q.2.1, q.2.2.1, q.2.2.2].getD i 0
def Xn6 (t : Int → Int → Int → Int → Q4) (p : List Int) : List Int := (List.range 16).map fun j => Ybb (t (p.getD (4 * (j / 4)) 0) (p.getD (4 * (j / 4) + 1) 0) (p.getD (4 * (j / 4) + 2) 0) (p.getD (4 * (j / 4) + 3) 0)) (j % 4)
def Xpv (p : List Int) : List Int := (List.range 16).map fun j => p.getD (j % 4 * 4 + j / 4) 0
theorem Xll (t : Int → Int → Int → Int → Q4) (p : List Int) : (Xn6 t p).length = 16 := by simp [Xn6]
theorem Xm0 (p : List Int) : (Xpv p).length = 16 := by simp [Xpv]
theorem Ya9 {l m : List Int} {i : Nat} (h : i + m.length ≤ l.length) (j : Nat) : (over l i m).getD j 0 = if i ≤ j ∧ j < i + m.length then m.getD (j - i) 0 else l.getD j 0 := by
 rw [List.getD_eq_getElem?_getD, Ydf h]
 split <;> rw [List.getD_eq_getElem?_getD]
theorem Yds {q : Int → Int → Int → Int → Option Q4} {t : Int → Int → Int → Int → Q4} (hq : ∀ a b c d, q a b c d = some (t a b c d)) (p : List Int) (hp : p.length = 16) : Yhr q p = some (Xpv (Xn6 t (Xpv (Xn6 t p)))) := by
 have hm : maxLen = 9223372036854775807 := rfl
 unfold Yhr Xfc
 rw [Xbj (by simp only [List.length_nil]; omega), Xab, List.nil_append]
 have hA : loop (tgA q) (0, p) = some (Xn6 t p) := by
  have key : ∀ r : Nat, r ≤ 4 → ∀ s : List Int, s.length = 16 → (∀ j, j < 4 * r → s.getD j 0 = (Xn6 t p).getD j 0) → (∀ j, 4 * r ≤ j → s.getD j 0 = p.getD j 0) → loop (tgA q) (((4 * r : Nat) : Int), s) = some (Xn6 t p) := by
   refine Xjt _ ?_ ?_
   ·
    intro s h1 h2 _
    refine Xnb ?_
    unfold tgA
    rw [Xan (by simp), Xnc h1 (Xll t p) h2]
   ·
    intro r hr ih s h1 h2 h3
    refine lgo (y := (((4 * (r + 1) : Nat) : Int), over s (4 * r) [Ybb (t (p.getD (4 * r) 0) (p.getD (4 * r + 1) 0) (p.getD (4 * r + 2) 0) (p.getD (4 * r + 3) 0)) 0, Ybb (t (p.getD (4 * r) 0) (p.getD (4 * r + 1) 0) (p.getD (4 * r + 2) 0) (p.getD (4 * r + 3) 0)) 1, Ybb (t (p.getD (4 * r) 0) (p.getD (4 * r + 1) 0) (p.getD (4 * r + 2) 0) (p.getD (4 * r + 3) 0)) 2, Ybb (t (p.getD (4 * r) 0) (p.getD (4 * r + 1) 0) (p.getD (4 * r + 2) 0) (p.getD (4 * r + 3) 0)) 3])) ?_ (ih _ ?_ ?_ ?_)
    ·
     unfold tgA
     simp only
     rw [syA, wkA (e := ((4 * r : Nat) : Int) + 1), wkA (e := ((4 * r : Nat) : Int) + 2), wkA (e := ((4 * r : Nat) : Int) + 3), wkA (e := ((4 * r : Nat) : Int) + 4)]
     rw [rqA, rqA, rqA, rqA, rqA, rqA, rqA, rqA, hq, Xab, rqA, Xbj (by simp only [List.length_cons, List.length_nil]; omega)]
     rw [show (((4 * r : Nat) : Int) + 1).toNat = 4 * r + 1 by omega, show (((4 * r : Nat) : Int) + 2).toNat = 4 * r + 2 by omega, show (((4 * r : Nat) : Int) + 3).toNat = 4 * r + 3 by omega, Int.toNat_natCast, h3 _ (by omega), h3 _ (by omega), h3 _ (by omega), h3 _ (by omega)]
     rfl
    ·
     rw [Xvq (by simp only [List.length_cons, List.length_nil]; omega)]; exact h1
    ·
     intro j hj
     rw [Ya9 (by simp only [List.length_cons, List.length_nil]; omega)]
     simp only [List.length_cons, List.length_nil]
     by_cases h : 4 * r ≤ j
     ·
      rw [if_pos (by omega)]
      unfold Xn6
      rw [Xf5 _ (by omega), show 4 * (j / 4) = 4 * r by omega]
      obtain h | h | h | h : j = 4 * r ∨ j = 4 * r + 1 ∨ j = 4 * r + 2 ∨ j = 4 * r + 3 := by omega
      ·
       rw [h, show 4 * r - 4 * r = 0 by omega, show (4 * r) % 4 = 0 by omega]; rfl
      ·
       rw [h, show 4 * r + 1 - 4 * r = 1 by omega, show (4 * r + 1) % 4 = 1 by omega]; rfl
      ·
       rw [h, show 4 * r + 2 - 4 * r = 2 by omega, show (4 * r + 2) % 4 = 2 by omega]; rfl
      ·
       rw [h, show 4 * r + 3 - 4 * r = 3 by omega, show (4 * r + 3) % 4 = 3 by omega]; rfl
     ·
      rw [if_neg (by omega)]; exact h2 j (by omega)
    ·
     intro j hj
     rw [Ya9 (by simp only [List.length_cons, List.length_nil]; omega), if_neg (by simp only [List.length_cons, List.length_nil]; omega)]
     exact h3 j (by omega)
  exact key 0 (by omega) p hp (fun j hj => by omega) fun _ _ => rfl
 rw [hA, Xab]
 generalize hR : Xn6 t p = R
 have hl : R.length = 16 := by rw [← hR]; exact Xll t p
 have hC : loop (tgC q) (0, R) = some (Xpv (Xn6 t (Xpv R))) := by
  have at4 : ∀ j : Nat, j < 16 → (Xpv (Xn6 t (Xpv R))).getD j 0 = Ybb (t (R.getD (j % 4) 0) (R.getD (j % 4 + 4) 0) (R.getD (j % 4 + 8) 0) (R.getD (j % 4 + 12) 0)) (j / 4) := by
   intro j hj
   rw [Xpv, Xf5 _ hj, Xn6, Xf5 _ (by omega), Xpv, Xf5 _ (by omega), Xf5 _ (by omega), Xf5 _ (by omega), Xf5 _ (by omega)]
   rw [show (j % 4 * 4 + j / 4) / 4 = j % 4 by omega, show (j % 4 * 4 + j / 4) % 4 = j / 4 by omega, show 4 * (j % 4) % 4 * 4 + 4 * (j % 4) / 4 = j % 4 by omega, show (4 * (j % 4) + 1) % 4 * 4 + (4 * (j % 4) + 1) / 4 = j % 4 + 4 by omega, show (4 * (j % 4) + 2) % 4 * 4 + (4 * (j % 4) + 2) / 4 = j % 4 + 8 by omega, show (4 * (j % 4) + 3) % 4 * 4 + (4 * (j % 4) + 3) / 4 = j % 4 + 12 by omega]
  obtain ⟨o, e, o1, o2, _⟩ := Xjm (f := tgC q) 4 (fun c s => s.length = 16 ∧ (∀ j, j < 16 → j % 4 < c → s.getD j 0 = (Xpv (Xn6 t (Xpv R))).getD j 0) ∧ ∀ j, j < 16 → c ≤ j % 4 → s.getD j 0 = R.getD j 0) (by
   intro c s hc ⟨g1, g2, g3⟩
   obtain ⟨r, er, r1, r2, r3⟩ := Xjm (f := tgB ((c : Int), s) (t (R.getD c 0) (R.getD (c + 4) 0) (R.getD (c + 8) 0) (R.getD (c + 12) 0))) 4 (fun i s' => s'.length = 16 ∧ (∀ j, j < 16 → j % 4 ≠ c → s'.getD j 0 = s.getD j 0) ∧ ∀ j, j < 16 → j % 4 = c → j / 4 < i → s'.getD j 0 = Ybb (t (R.getD c 0) (R.getD (c + 4) 0) (R.getD (c + 8) 0) (R.getD (c + 12) 0)) (j / 4)) (by
    intro i s' hi ⟨k1, k2, k3⟩
    unfold tgB
    simp only
    rw [syA, Xbj (by simp only [List.length_cons, List.length_nil]; omega), wkA (e := 4 * (i : Int)), wkA (e := (c : Int) + 4 * (i : Int)), rqA, rqA, wkA (e := (i : Int) + 1), show ((c : Int) + 4 * (i : Int)).toNat = c + 4 * i by omega, Int.toNat_natCast]
    refine ⟨_, rfl, by rw [List.length_set]; exact k1, fun j hj hjc => ?_, fun j hj hjc hji => ?_⟩
    ·
     rw [Xei _ _ _ _ (by omega), if_neg (by omega)]; exact k2 j hj hjc
    ·
     rw [Xei _ _ _ _ (by omega)]
     by_cases h : c + 4 * i = j
     ·
      rw [if_pos h, show j / 4 = i by omega]; rfl
     ·
      rw [if_neg h]; exact k3 j hj hjc (by omega)) (fun z _ => by unfold tgB; rw [Xan (by simp)]) s ⟨g1, fun _ _ _ => rfl, fun j hj hjc hji => by omega⟩
   unfold tgC
   simp only
   rw [syA, wkA (e := (c : Int) + 4), wkA (e := (c : Int) + 8), wkA (e := (c : Int) + 12), rqA, rqA, rqA, rqA, rqA, rqA, rqA, rqA, hq, Xab, show ((c : Int) + 4).toNat = c + 4 by omega, show ((c : Int) + 8).toNat = c + 8 by omega, show ((c : Int) + 12).toNat = c + 12 by omega, Int.toNat_natCast, g3 c (by omega) (by omega), g3 (c + 4) (by omega) (by omega), g3 (c + 8) (by omega) (by omega), g3 (c + 12) (by omega) (by omega), er, Xab, wkA (e := (c : Int) + 1)]
   refine ⟨r, rfl, r1, fun j hj hjc => ?_, fun j hj hjc => ?_⟩
   ·
    by_cases h : j % 4 = c
    ·
     rw [r3 j hj h (by omega), at4 j hj, h]
    ·
     rw [r2 j hj h]; exact g2 j hj (by omega)
   ·
    rw [r2 j hj (by omega)]; exact g3 j hj (by omega)) (fun z _ => by unfold tgC; rw [Xan (by simp)]) R ⟨hl, fun j hj hjc => by omega, fun _ _ _ => rfl⟩
  rw [e]
  congr 1
  exact Xnc o1 (Xm0 _) fun j hj => o2 j hj (by omega)
 rw [hC, Xab]
theorem Xhk (p : List Int) (hl : p.length = 16) : Xdz p = some (Xpv p) := by
 unfold Xdz
 rw [rqA]
 obtain ⟨o, e, o1, o2⟩ := Xjm (f := Xcu p) 16 (fun i s => s.length = 16 ∧ ∀ j, j < 16 → j % 4 * 4 + j / 4 < i → s.getD j 0 = p.getD (j % 4 * 4 + j / 4) 0) (by
  intro i s hi ⟨g1, g2⟩
  unfold Xcu
  simp only
  rw [syA, rqA, rqA, rqA, Xcy (by omega), Xcb (by omega), wkA (e := (i : Int) / 4), wkA (e := (i : Int) % 4 * 4), wkA (e := (i : Int) % 4 * 4 + (i : Int) / 4), rqA, rqA, wkA (e := (i : Int) + 1), Int.toNat_natCast, show ((i : Int) % 4 * 4 + (i : Int) / 4).toNat = i % 4 * 4 + i / 4 by omega]
  refine ⟨_, rfl, by rw [List.length_set]; exact g1, fun j hj hji => ?_⟩
  rw [Xei _ _ _ _ (by omega)]
  by_cases h : i % 4 * 4 + i / 4 = j
  ·
   rw [if_pos h, show j % 4 * 4 + j / 4 = i by omega]
  ·
   rw [if_neg h]; exact g2 j hj (by omega)) (fun z _ => by unfold Xcu; rw [Xan (by simp)]) (List.replicate (16 : Int).toNat 0) ⟨by simp, fun j hj h => by omega⟩
 rw [e, Xab]
 congr 1
 exact Xnc o1 (Xm0 p) fun j hj => by rw [o2 j hj (by omega), Xpv, Xf5 _ hj]
theorem Ybf {f : Int × List Int → Option (Lp (Int × List Int) (List Int))} {t : Int → Int → Int → Int → Q4} (p : List Int) (h : ∀ (i : Nat) (s : List Int), i < 4 → s.length = 4 * i → f ((i : Int), s) = some (.go (((i + 1 : Nat) : Int), s ++ [(t (p.getD (4 * i) 0) (p.getD (4 * i + 1) 0) (p.getD (4 * i + 2) 0) (p.getD (4 * i + 3) 0)).1, (t (p.getD (4 * i) 0) (p.getD (4 * i + 1) 0) (p.getD (4 * i + 2) 0) (p.getD (4 * i + 3) 0)).2.1, (t (p.getD (4 * i) 0) (p.getD (4 * i + 1) 0) (p.getD (4 * i + 2) 0) (p.getD (4 * i + 3) 0)).2.2.1, (t (p.getD (4 * i) 0) (p.getD (4 * i + 1) 0) (p.getD (4 * i + 2) 0) (p.getD (4 * i + 3) 0)).2.2.2]))) (he : ∀ s, f (4, s) = some (.done s)) : loop f (0, []) = some (Xn6 t p) := by
 obtain ⟨o, e, ho⟩ := Xjm (f := f) 4 (fun i s => s = (List.range (4 * i)).map fun j => Ybb (t (p.getD (4 * (j / 4)) 0) (p.getD (4 * (j / 4) + 1) 0) (p.getD (4 * (j / 4) + 2) 0) (p.getD (4 * (j / 4) + 3) 0)) (j % 4)) (by
  intro i s hi g
  refine ⟨_, h i s hi (by rw [g]; simp), ?_⟩
  rw [g, show 4 * (i + 1) = 4 * i + 1 + 1 + 1 + 1 by omega]
  simp only [List.range_succ, List.map_append, List.map_singleton, List.append_assoc]
  rw [show (4 * i + 1 + 1 + 1) / 4 = i by omega, show (4 * i + 1 + 1) / 4 = i by omega, show (4 * i + 1) / 4 = i by omega, show 4 * i / 4 = i by omega, show (4 * i + 1 + 1 + 1) % 4 = 3 by omega, show (4 * i + 1 + 1) % 4 = 2 by omega, show (4 * i + 1) % 4 = 1 by omega, show 4 * i % 4 = 0 by omega]
  rfl) (fun z _ => he z) [] rfl
 rw [e, ho]; rfl
def t4F (a b c d : Int) : Q4 := (Xaa .i64 ((Xaa .i64 ((Xaa .i64 (a + b)) + c)) + d), Xaa .i64 ((Xaa .i64 ((Xaa .i64 ((Xaa .i64 (2 * a)) + b)) - c)) - (Xaa .i64 (2 * d))), Xaa .i64 ((Xaa .i64 ((Xaa .i64 (a - b)) - c)) + d), Xaa .i64 ((Xaa .i64 ((Xaa .i64 (a - (Xaa .i64 (2 * b)))) + (Xaa .i64 (2 * c)))) - d))
theorem Xw1 (a b c d : Int) : Xhv a b c d = some (t4F a b c d) := rfl
def Xx4 (a b : Int) : Int := Xaa .i64 (if a.tmod b < 0 then Xaa .i64 (a.tdiv b) - 1 else a.tdiv b)
theorem Xnt (a b : Int) (hb : b ≠ 0) : Xcm a b = some (Xx4 a b) := by
 unfold Xcm Xx4
 rw [Xbj hb, Xbj hb, Yeh]
 split <;> rfl
def t4B (a b c d : Int) : Q4 := (Xaa .i64 ((Xaa .i64 (a + c)) + (Xaa .i64 (b + Xx4 d 2))), Xaa .i64 ((Xaa .i64 (a - c)) + (Xaa .i64 (Xx4 b 2 - d))), Xaa .i64 ((Xaa .i64 (a - c)) - (Xaa .i64 (Xx4 b 2 - d))), Xaa .i64 ((Xaa .i64 (a + c)) - (Xaa .i64 (b + Xx4 d 2))))
theorem Xp1 (a b c d : Int) : Xcp a b c d = some (t4B a b c d) := by
 unfold Xcp
 rw [Yb3, Xnt b 2 (by omega), Xnt d 2 (by omega), Xab, Xab]; rfl
theorem Xmu (p : List Int) (hl : p.length = 16) : Xfi p = some (Xn6 t4B p) := by
 have hm : maxLen = 9223372036854775807 := rfl
 unfold Xfi
 rw [Ybf (f := Xce p) (t := t4B) p (by
  intro i s hi hs
  unfold Xce
  simp only
  rw [syA, wkA (e := 4 * (i : Int)), wkA (e := 4 * (i : Int) + 1), wkA (e := 4 * (i : Int) + 2), wkA (e := 4 * (i : Int) + 3), rqA, rqA, rqA, rqA, show (4 * (i : Int)).toNat = 4 * i by omega, show (4 * (i : Int) + 1).toNat = 4 * i + 1 by omega, show (4 * (i : Int) + 2).toNat = 4 * i + 2 by omega, show (4 * (i : Int) + 3).toNat = 4 * i + 3 by omega, Xnt _ 2 (by omega), Xab, Xnt _ 2 (by omega), Xab, wkA (e := (i : Int) + 1), Xbj (by simp only [List.length_cons, List.length_nil]; omega)]
  rfl) (by intro s; unfold Xce; rw [Xan (by simp)]), Xab]
theorem Xnk (p : List Int) (hl : p.length = 16) : Xgt p = some (Xn6 t4F p) := by
 have hm : maxLen = 9223372036854775807 := rfl
 unfold Xgt
 rw [Ybf (f := Xcv p) (t := t4F) p (by
  intro i s hi hs
  unfold Xcv
  simp only
  rw [syA, wkA (e := 4 * (i : Int)), wkA (e := 4 * (i : Int) + 1), wkA (e := 4 * (i : Int) + 2), wkA (e := 4 * (i : Int) + 3), rqA, rqA, rqA, rqA, show (4 * (i : Int)).toNat = 4 * i by omega, show (4 * (i : Int) + 1).toNat = 4 * i + 1 by omega, show (4 * (i : Int) + 2).toNat = 4 * i + 2 by omega, show (4 * (i : Int) + 3).toNat = 4 * i + 3 by omega, wkA (e := (i : Int) + 1), Xbj (by simp only [List.length_cons, List.length_nil]; omega)]
  rfl) (by intro s; unfold Xcv; rw [Xan (by simp)]), Xab]
theorem Xwr (p : List Int) (hl : p.length = 16) (hb : inB 10000000 p) : Xg0 p = Xhg p := by
 unfold Xg0 Xhg
 rw [Xk7 p 16 10000000 (by omega) (by omega) hb, Xbe p 16 10000000 (by omega) (by omega) (by omega) hb, Xab, Xab, Bool.not_true, Xas, Xas, Ygb, Yds Xp1 p hl, Xmu p hl, Xab, Xab, Xhk _ (Xll _ _), Xab, Xmu _ (Xm0 _), Xab, Xhk _ (Xll _ _), Xab]
 exact Xqy _ 16 (by omega) (Xm0 _) (fun _ => rfl)
theorem Ydu (p : List Int) (hl : p.length = 16) (hb : inB 1000 p) : Xm4 p = Xnh p := by
 unfold Xm4 Xnh
 rw [Xk7 p 16 1000 (by omega) (by omega) hb, Xbe p 16 1000 (by omega) (by omega) (by omega) hb, Xab, Xab, Bool.not_true, Xas, Xas, Ygc, Yds Xw1 p hl, Xnk p hl, Xab, Xab, Xhk _ (Xll _ _), Xab, Xnk _ (Xm0 _), Xab, Xhk _ (Xll _ _), Xab]
theorem Yed {β : Type} {c : Prop} [Decidable c] {k k' : Option β} (h : c → k = k') : req c k = req c k' := by
 by_cases hc : c
 ·
  rw [Xbj hc, Xbj hc, h hc]
 ·
  unfold req; rw [if_neg hc, if_neg hc]
theorem Xhu {β : Type} {c : Prop} [Decidable c] {k k' : Option β} (h0 : c) (h : k = k') : req c k = k' := by rw [Xbj h0, h]
theorem Xr4 {β : Type} {b : Bool} {x x' y y' : β} (h : b = true → x = x') (h2 : b = false → y = y') : sel b x y = sel b x' y' := by
 cases b
 ·
  exact h2 rfl
 ·
  exact h rfl
theorem Ydz {α β : Type} {x x' : Option α} {f f' : α → Option β} (h : x = x') (h2 : ∀ a, x' = some a → f a = f' a) : bnd x f = bnd x' f' := by
 subst h
 cases x with
 | none => rfl
 | some a => exact h2 a rfl
theorem Yfk {V O : Type} {f : V → Option (Lp V O)} (I : V → Prop) (J : O → Prop) (h1 : ∀ v v', I v → f v = some (.go v') → I v') (h2 : ∀ v o, I v → f v = some (.done o) → J o) {v : V} {o : O} (h : loop f v = some o) (hv : I v) : J o := by
 obtain ⟨k, hk⟩ := Xfk.1 h
 clear h
 induction k generalizing v with
 | zero => cases hk
 | succ k ih =>
  rw [it] at hk
  cases e : f v with
  | none => rw [e] at hk; cases hk
  | some s =>
   rw [e] at hk
   cases s with
   | go y => exact ih (h1 v y hv e) hk
   | done o' => cases hk; exact h2 v o hv e
theorem Xui (l qp p : Int) (h0 : 0 ≤ qp ∧ qp ≤ 40) (hp : 0 ≤ p ∧ p ≤ 15) : Xft l qp p = Xf1 l qp p := by
 unfold Xft Xf1
 rw [Xam, Xag, Xyk qp p h0 hp]
theorem Xuh (l qp : Int) (h0 : 0 ≤ qp ∧ qp ≤ 40) : Xfr l qp = Xf0 l qp := by
 unfold Xfr Xf0
 rw [Xam, Xag, Xsk qp h0]
theorem Xv0 (x : Int) (h : -1000000000000 ≤ x ∧ x ≤ 1000000000000) : Xiv x = Xd7 x := by
 unfold Xiv Xd7
 rw [wkA]
 by_cases hx : x < 0
 ·
  rw [Xbk hx, if_pos (by omega)]
 ·
  rw [Xan hx, if_neg (by omega)]
theorem Yf2 : ∀ q : Fin 41, ∀ p : Fin 16, Xiu (q.val : Int) (p.val : Int) = Xi0 (q.val : Int) (p.val : Int) := by decide +kernel
theorem Xyl (qp p : Int) (h0 : 0 ≤ qp ∧ qp ≤ 40) (hp : 0 ≤ p ∧ p ≤ 15) : Xiu qp p = Xi0 qp p := by
 have := Yf2 ⟨qp.toNat, by omega⟩ ⟨p.toNat, by omega⟩
 simp only at this
 rwa [show ((qp.toNat : Nat) : Int) = qp by omega, show ((p.toNat : Nat) : Int) = p by omega] at this
theorem Ybo (x w : Int) : Xj1 x w = Xf2 w x := rfl
theorem Xsv (w qp : Int) (h0 : 0 ≤ qp ∧ qp ≤ 40) : Xek w qp = Xe0 w qp := by
 unfold Xek Xe0
 rw [Xam, Xag, Xam, Xag, Xsk qp h0]
 by_cases hw : -20000 ≤ w ∧ w ≤ 20000
 ·
  rw [Xv0 w (by omega)]; rfl
 ·
  rw [decide_eq_false hw]; rfl
theorem Ykr (qp : Int) (h0 : 0 ≤ qp ∧ qp ≤ 40) : Xaa .u64 (Xaa .i64 (15 + (Xaa .i64 (qp.tdiv 6)))) = Xaa .i64 (15 + (Xaa .i64 (qp.tdiv 6))) := by
 have h : ∀ q : Fin 41, Xaa .u64 (Xaa .i64 (15 + (Xaa .i64 ((q.val : Int).tdiv 6)))) = Xaa .i64 (15 + (Xaa .i64 ((q.val : Int).tdiv 6))) := by decide +kernel
 have := h ⟨qp.toNat, by omega⟩
 simp only at this
 rwa [show ((qp.toNat : Nat) : Int) = qp by omega] at this
theorem Xsw (w qp p : Int) (h0 : 0 ≤ qp ∧ qp ≤ 40) (hp : 0 ≤ p ∧ p ≤ 15) : Xen w qp p = Xe1 w qp p := by
 unfold Xen Xe1
 have h15 := Ykr qp h0
 simp only [Xam, Xag, Xyl qp p h0 hp, h15, Ybo]
 by_cases hw : -20000 ≤ w ∧ w ≤ 20000
 ·
  simp only [Xv0 w (by omega)]
 ·
  simp only [decide_eq_false hw, Xab, Xas, Xaw]
def Xqu (k : Int) (v7 : Int × List Int) : Option (Lp (Int × List Int) (List Int)) :=
 sel (decide (v7.1 < 4)) (
 bnd (it (Xja k v7) 10 (0, v7.2)) fun v18 =>
 some (.go (Xaa .i64 (v7.1 + 1), v18))) (
 some (.done v7.2))
theorem Ybd {k : Int} {v : Int × List Int} {x : Lp (Int × List Int) (List Int)} (h : Xqu k v = some x) : Xf8 k v = some x := by
 unfold Xqu at h
 unfold Xf8
 rcases Xga h with ⟨hb, h⟩ | ⟨hb, h⟩
 ·
  rw [hb, Xaw]
  obtain ⟨a, h1, h2⟩ := Xbr h
  rw [Xfk.2 ⟨10, h1⟩, Xab]
  exact h2
 ·
  rw [hb, Xas]; exact h
def Xha (k : Int) : List Int := (it (Xqu k) 10 (0, [])).getD []
def Xiy (k i : Int) : Int := (Xaa .i64 ((Xaa .i64 ((Xaa .i64 (8 * (Xaa .i64 ((Xaa .i64 ((Xaa .i64 (k.tdiv 2)) * 4)) + (Xaa .i64 (i.tdiv 4)))))) + (Xaa .i64 ((k.tmod 2) * 4)))) + (i.tmod 4)))
theorem Yci : ∀ k : Fin 4, (it (Xqu (k.val : Int)) 10 (0, [])).isSome = true ∧ (Xha (k.val : Int)).length = 16 ∧ ∀ i : Fin 16, (Xha (k.val : Int)).getD i.val 0 = Xiy (k.val : Int) (i.val : Int) ∧ 0 ≤ Xiy (k.val : Int) (i.val : Int) ∧ Xiy (k.val : Int) (i.val : Int) < 64 := by decide +kernel
theorem Xjz (k : Nat) (hk : k < 4) : Xgp k = some (Xha k) ∧ (Xha k).length = 16 ∧ ∀ i : Nat, i < 16 → (Xha k).getD i 0 = Xiy k i ∧ 0 ≤ Xiy k i ∧ Xiy k i < 64 := by
 obtain ⟨h1, h2, h3⟩ := Yci ⟨k, hk⟩
 refine ⟨?_, h2, fun i hi => h3 ⟨i, hi⟩⟩
 obtain ⟨o, ho⟩ := Option.isSome_iff_exists.1 h1
 have hl := Yce 10 (Yg2 (fun v y => Ybd (k := (k : Int))) 10 _ ho)
 unfold Xgp
 rw [hl, Xab]
 unfold Xha; simp only at ho; rw [ho]; rfl
theorem Xmg (p : List Int) (c : Xjd) (hc : Xje c = true) (hp : Xwp p = true) : Xel p c = Xbl p c := by
 have hq := Xpt hc
 obtain ⟨hl, hb⟩ := Xr1 hp
 unfold Xel Xbl
 rw [Xb8, Xii, Xlc p (by omega), hp, hc, Xbe p 64 5000 (by omega) (by omega) (by omega) hb]
 simp only [Xab, Xaw, Bool.not_true, Xas]
 rw [Xmy 8 (Or.inr rfl) p (by omega)]
 refine Xr4 (fun _ => rfl) fun _ => Xr4 (fun _ => ?_) fun _ => ?_
 ·
  obtain ⟨w, ew, w1, w2⟩ := Xdt 8 (Or.inr rfl) p 5000 (by omega) (by omega) hb
  rw [ew, Xab, Xab]
  have hloop : loop (Xc4 c (w, true)) (0, (w, true).1) = loop (Xa3 c) (0, (w, true).1) := by
   have : Xc4 c (w, true) = Xa3 c := by
    funext v
    unfold Xc4 Xa3
    simp only [Xuh _ _ hq, w1, hl]
    rfl
   rw [this]
  rw [hloop]
  obtain ⟨l, el, l1, l2⟩ := Xim (f := Xa3 c) 64 (fun x => -5000 ≤ x ∧ x ≤ 5000) (fun x => -5760000 ≤ x ∧ x ≤ 5760000) (by
   intro i l hi hll hx
   obtain ⟨d, ed, d1, d2⟩ := Xlo (l.getD i 0) c.Qp hx hq
   unfold Xa3
   simp only [Int.toNat_natCast]
   rw [syA, rqA, rqA, ed, Xab, rqA, rqA, wkA (e := (i : Int) + 1)]
   exact ⟨d, rfl, d1, d2⟩) (by intro s; unfold Xa3; rw [Xan (by simp)]) w (by omega) w2
  simp only [el, Xab]
  rw [Xug l l1 (Xkm l2 (by omega))]
 ·
  refine Yed fun _ => Ydz ?_ fun _ _ => rfl
  refine Xh7 (fun v => (∃ k : Nat, v.1 = (k : Int) ∧ k ≤ 4) ∧ v.2.length = 64) ?_ ?_ ⟨⟨0, rfl, by omega⟩, by simp⟩
  ·
   intro ⟨k0, s⟩ ⟨⟨k, ek, hk⟩, hs⟩
   simp only at ek hs
   subst ek
   unfold Xgi Xb4
   simp only
   refine Xr4 (fun hk4 => ?_) fun _ => rfl
   have hk4 : k < 4 := by have := of_decide_eq_true hk4; omega
   rw [wkA (e := 16 * (k : Int)), wkA (e := 16 * (k : Int) + 16)]
   refine Yed fun _ => ?_
   rw [show (16 * (k : Int)).toNat = 16 * k by omega, show (16 * (k : Int) + 16).toNat - 16 * k = 16 by omega]
   have hcut : ((p.drop (16 * k)).take 16).length = 16 := by rw [List.length_take, List.length_drop]; omega
   obtain ⟨a, ea, a1, a2⟩ := Xdt 4 (Or.inl rfl) ((p.drop (16 * k)).take 16) 5000 (by omega) (by omega) (Yc2 (Yc0 hb _) _)
   rw [Xmy 4 (Or.inl rfl) _ (by omega), ea, Xab, Xab]
   have hloop : loop (Xcq c (a, true)) (0, (a, true).1) = loop (Xaz c) (0, (a, true).1) := by
    have : Xcq c (a, true) = Xaz c := by
     funext v
     unfold Xcq Xaz
     simp only [show ((a.length : Nat) : Int) = 16 by omega]
     refine Xr4 (fun h16 => ?_) fun _ => rfl
     have := of_decide_eq_true h16
     refine Yed fun h0 => Yed fun _ => ?_
     rw [Xui _ _ _ hq (by omega)]
    rw [this]
   rw [hloop]
   obtain ⟨l, el, l1, l2⟩ := Xim (f := Xaz c) 16 (fun x => -5000 ≤ x ∧ x ≤ 5000) (fun x => -10000000 ≤ x ∧ x ≤ 10000000) (by
    intro i l hi hll hx
    obtain ⟨d, ed, d1, d2⟩ := Xlp (l.getD i 0) c.Qp i hx hq (by omega)
    unfold Xaz
    simp only [Int.toNat_natCast]
    rw [syA, rqA, rqA, ed, Xab, rqA, rqA, wkA (e := (i : Int) + 1)]
    exact ⟨d, rfl, d1, d2⟩) (by intro s; unfold Xaz; rw [Xan (by simp)]) a (by omega) a2
   obtain ⟨b, eb, b1, b2⟩ := Xmr l l1 l2
   obtain ⟨q1, q2, q3⟩ := Xjz k hk4
   simp only [el, Xab]
   rw [Xwr l l1 l2, eb, Xab, Xab, q1, Xab]
   refine Ydz ?_ fun _ _ => rfl
   have : Xd1 b (Xha k) = Xa5 ((k : Int), s) b := by
    funext v
    unfold Xd1 Xa5
    simp only [show (((Xha k).length : Nat) : Int) = 16 by omega]
    refine Xr4 (fun h16 => ?_) fun _ => rfl
    have h16 := of_decide_eq_true h16
    by_cases h0 : 0 ≤ v.1
    ·
     obtain ⟨i, hi⟩ : ∃ i : Nat, v.1 = (i : Int) := ⟨v.1.toNat, by omega⟩
     obtain ⟨v1, v2⟩ := v
     simp only at hi h0 h16
     subst hi
     obtain ⟨r1, r2, r3⟩ := q3 i (by omega)
     have e1 : (Xaa .i64 ((Xaa .i64 ((Xaa .i64 (8 * (Xaa .i64 ((Xaa .i64 ((Xaa .i64 ((k : Int).tdiv 2)) * 4)) + (Xaa .i64 ((i : Int).tdiv 4)))))) + (Xaa .i64 (((k : Int).tmod 2) * 4)))) + ((i : Int).tmod 4))) = Xiy k i := rfl
     simp only [Int.toNat_natCast, r1, e1]
     refine Xhu (by omega) (Xhu (by omega) (Xhu (by omega) (Xhu (by omega) ?_)))
     refine (Xhu (by omega) (Xhu (by omega) (Xhu (by omega) (Xhu (by omega) (Xhu (by omega) (Xhu (by omega) ?_)))))).symm
     rfl
    ·
     unfold req
     rw [if_neg (by omega), if_pos (by omega), if_pos (by omega), if_pos (by omega), if_pos (by omega), if_neg (by omega)]
   rw [this]
  ·
   intro ⟨k0, s⟩ v' ⟨⟨k, ek, hk⟩, hs⟩ he
   simp only at ek hs
   subst ek
   unfold Xb4 at he
   simp only at he
   rcases Xga he with ⟨hb4, he⟩ | ⟨_, he⟩
   ·
    have hk4 : k < 4 := by have := of_decide_eq_true hb4; omega
    obtain ⟨_, he⟩ := Xar he
    obtain ⟨a, _, he⟩ := Xbr he
    obtain ⟨l, _, he⟩ := Xbr he
    obtain ⟨b, _, he⟩ := Xbr he
    obtain ⟨r, hr, he⟩ := Xbr he
    rw [wkA (e := (k : Int) + 1)] at he
    cases he
    refine ⟨⟨k + 1, rfl, by omega⟩, ?_⟩
    refine Yfk (f := Xa5 ((k : Int), s) b) (fun v => v.2.length = 64) (fun o => o.length = 64) ?_ ?_ hr hs
    ·
     intro v v' hv he
     unfold Xa5 at he
     rcases Xga he with ⟨_, he⟩ | ⟨_, he⟩
     ·
      obtain ⟨_, he⟩ := Xar he
      obtain ⟨_, he⟩ := Xar he
      obtain ⟨_, he⟩ := Xar he
      obtain ⟨_, he⟩ := Xar he
      obtain ⟨_, he⟩ := Xar he
      obtain ⟨_, he⟩ := Xar he
      obtain ⟨_, he⟩ := Xar he
      obtain ⟨_, he⟩ := Xar he
      cases he
      simp only [List.length_set]; exact hv
     ·
      cases he
    ·
     intro v o hv he
     unfold Xa5 at he
     rcases Xga he with ⟨_, he⟩ | ⟨_, he⟩
     ·
      obtain ⟨_, he⟩ := Xar he
      obtain ⟨_, he⟩ := Xar he
      obtain ⟨_, he⟩ := Xar he
      obtain ⟨_, he⟩ := Xar he
      obtain ⟨_, he⟩ := Xar he
      obtain ⟨_, he⟩ := Xar he
      obtain ⟨_, he⟩ := Xar he
      obtain ⟨_, he⟩ := Xar he
      cases he
     ·
      cases he; exact hv
   ·
    cases he
theorem Ydb {S O : Type} {f g : Int × S → Option (Lp (Int × S) O)} (n : Nat) (I : Nat → S → Prop) (h : ∀ (i : Nat) (s : S), i ≤ n → I i s → f ((i : Int), s) = g ((i : Int), s)) (hI : ∀ (i : Nat) (s : S) (v' : Int × S), i ≤ n → I i s → g ((i : Int), s) = some (.go v') → v'.1 = ((i + 1 : Nat) : Int) ∧ i + 1 ≤ n ∧ I (i + 1) v'.2) {s0 : S} (h0 : I 0 s0) : loop f (0, s0) = loop g (0, s0) := by
 refine Xh7 (fun v => ∃ i : Nat, v.1 = (i : Int) ∧ i ≤ n ∧ I i v.2) ?_ ?_ ⟨0, rfl, by omega, h0⟩
 ·
  intro ⟨k, s⟩ ⟨i, e, hi, hs⟩
  simp only at e hs
  subst e
  exact h i s hi hs
 ·
  intro ⟨k, s⟩ v' ⟨i, e, hi, hs⟩ he
  simp only at e hs
  subst e
  obtain ⟨a, b, c⟩ := hI i s v' hi hs he
  exact ⟨i + 1, a, b, c⟩
theorem Ybe (p : List Int) (hl : p.length = 64) (k : Nat) (hk : k < 4) : loop (Xdk p (Xha k)) (0, ([] : List Int)) = Xe4 p k := by
 obtain ⟨q1, q2, q3⟩ := Xjz k hk
 unfold Xe4
 rw [Ydb (f := Xdk p (Xha k)) (g := Xbh p k) 16 (fun _ _ => True) ?_ ?_ trivial]
 ·
  cases loop (Xbh p k) (0, ([] : List Int)) <;> rfl
 ·
  intro i s hi _
  unfold Xdk Xbh
  simp only [show (((Xha k).length : Nat) : Int) = 16 by omega]
  refine Xr4 (fun h16 => ?_) fun _ => rfl
  have h16 := of_decide_eq_true h16
  obtain ⟨r1, r2, r3⟩ := q3 i (by omega)
  have e1 : (Xaa .i64 ((Xaa .i64 ((Xaa .i64 (8 * (Xaa .i64 ((Xaa .i64 ((Xaa .i64 ((k : Int).tdiv 2)) * 4)) + (Xaa .i64 ((i : Int).tdiv 4)))))) + (Xaa .i64 (((k : Int).tmod 2) * 4)))) + ((i : Int).tmod 4))) = Xiy k i := rfl
  simp only [Int.toNat_natCast, r1, e1]
  refine Xhu (by omega) (Xhu (by omega) (Xhu (by omega) ?_))
  refine (Xhu (by omega) (Xhu (by omega) (Xhu (by omega) (Xhu (by omega) (Xhu (by omega) ?_))))).symm
  rfl
 ·
  intro i s v' hi _ he
  unfold Xbh at he
  rcases Xga he with ⟨hb, he⟩ | ⟨_, he⟩
  ·
   have h16 := of_decide_eq_true hb
   simp only at h16 he
   obtain ⟨_, he⟩ := Xar he
   obtain ⟨_, he⟩ := Xar he
   obtain ⟨_, he⟩ := Xar he
   obtain ⟨_, he⟩ := Xar he
   obtain ⟨_, he⟩ := Xar he
   obtain ⟨_, he⟩ := Xar he
   injection he with he
   injection he with he
   subst he
   exact ⟨wkA, by omega, trivial⟩
  ·
   cases he
theorem Xn9 (p : List Int) (c : Xjd) (hc : Xje c = true) (hl : p.length = 64) (hb : inB 255 p) : Xd2 p c = Xbv p c := by
 have hq := Xpt hc
 unfold Xd2 Xbv
 rw [Xb8, Xii, Xk7 p 64 255 (by omega) (by omega) hb, hc, Xbe p 64 255 (by omega) (by omega) (by omega) hb]
 simp only [Xab, Xaw, Bool.not_true, Xas]
 rw [Xlv 8 (Or.inr rfl) p (by omega)]
 refine Xr4 (fun _ => rfl) fun _ => Xr4 (fun _ => ?_) fun _ => ?_
 ·
  obtain ⟨w, ew, w1⟩ := Xq2 p hl hb
  rw [Ybt p hl (Xkm hb (by omega)), ew, Xab, Xab]
  have : Xf6 c w = Xbn c := by
   funext v
   unfold Xf6 Xbn
   simp only [Xsv _ _ hq, w1]
   rfl
  rw [this]
  obtain ⟨l, el, l1, l2⟩ := Xim (f := Xbn c) 64 (fun _ => True) (fun x => -5000 ≤ x ∧ x ≤ 5000) (by
   intro i l hi hll _
   obtain ⟨d, ed, d1, d2⟩ := Xkq (l.getD i 0) c.Qp hq
   unfold Xbn
   simp only [Int.toNat_natCast]
   rw [syA, rqA, rqA, ed, Xab, rqA, rqA, wkA (e := (i : Int) + 1)]
   exact ⟨d, rfl, d1, d2⟩) (by intro s; unfold Xbn; rw [Xan (by simp)]) w w1 (fun _ _ => trivial)
  rw [el, Xab, Xab, Xlv 8 (Or.inr rfl) l (by omega)]
 ·
  refine Ydz ?_ fun _ _ => rfl
  refine Ydb 4 (fun _ _ => True) ?_ ?_ trivial
  ·
   intro k s hk _
   unfold Xhx Xco
   refine Xr4 (fun h4 => ?_) fun _ => rfl
   have hk4 : k < 4 := by have := of_decide_eq_true h4; simp only at this; omega
   obtain ⟨q1, q2, q3⟩ := Xjz k hk4
   simp only [q1, Xab]
   rw [Ybe p hl k hk4]
   obtain ⟨a, ea, a1, a2⟩ := Xkt p k hk4 255 hl hb
   obtain ⟨b, eb, b1, b2⟩ := Xsu a a1 a2
   rw [ea, Xab, Xab, Ydu a a1 (Xkm a2 (by omega)), eb, Xab, Xab]
   have : Xe7 c b = Xbf c := by
    funext v
    unfold Xe7 Xbf
    simp only [show ((b.length : Nat) : Int) = 16 by omega]
    refine Xr4 (fun h16 => ?_) fun _ => rfl
    have := of_decide_eq_true h16
    refine Yed fun h0 => Yed fun _ => ?_
    rw [Xsw _ _ _ hq (by omega)]
   rw [this]
   obtain ⟨l, el, l1, l2⟩ := Xim (f := Xbf c) 16 (fun x => -9180 ≤ x ∧ x ≤ 9180) (fun x => -5000 ≤ x ∧ x ≤ 5000) (by
    intro i l hi hll hx
    obtain ⟨d, ed, d1, d2⟩ := Xkr (l.getD i 0) c.Qp i hx hq (by omega)
    unfold Xbf
    simp only [Int.toNat_natCast]
    rw [syA, rqA, rqA, ed, Xab, rqA, rqA, wkA (e := (i : Int) + 1)]
    exact ⟨d, rfl, d1, d2⟩) (by intro s; unfold Xbf; rw [Xan (by simp)]) b b1 b2
   rw [el, Xab, Xab, Xlv 4 (Or.inl rfl) l (by omega)]
  ·
   intro k s v' hk _ he
   unfold Xco at he
   rcases Xga he with ⟨hb4, he⟩ | ⟨_, he⟩
   ·
    have hk4 := of_decide_eq_true hb4
    simp only at hk4 he
    obtain ⟨a, _, he⟩ := Xbr he
    obtain ⟨l, _, he⟩ := Xbr he
    obtain ⟨b, _, he⟩ := Xbr he
    obtain ⟨r, _, he⟩ := Xbr he
    obtain ⟨_, he⟩ := Xar he
    injection he with he
    injection he with he
    subst he
    exact ⟨wkA, by omega, trivial⟩
   ·
    cases he
theorem Yaf {p : Pic} (ok : Xdu p = true) (x y : Int) : Xc7 p x y = Xc0 p x y := by rw [Xve ok, Xfg ok]
theorem Xna {p : Pic} (ok : Xdu p = true) {x y : Int} (hx : x.tmod 8 = 0) (hy : y.tmod 8 = 0) (h : Xcj p x y = true) : Xbc p x y = some true := Xi9 ok x y hx hy h
theorem Xpp {p : Pic} (ok : Xdu p = true) {x y : Int} (hx : x.tmod 8 = 0) (hy : y.tmod 8 = 0) (h : Xcj p x y = true) : Xgn p x y = Xdy p x y := by
 unfold Xgn Xdy
 rw [Xd3, ok, Xna ok hx hy h, Xc2 ok hx hy h]
 have : Xgz p x y = Xdq p x y := by
  funext v
  unfold Xgz Xdq
  simp only [Yaf ok]
 simp only [Xab, Xaw, Bool.not_true, Xas, this, Yaf ok]
theorem Xuf {e : Xfm} (h : Xmh e) : Xgo e = some true := by
 obtain ⟨h1, h2, h3, h4, h5, h6⟩ := h
 have side : ∀ l : List Int, (l.length = 0 ∨ l.length = 8) → (∀ x ∈ l, 0 ≤ x ∧ x ≤ 255) → bnd (sel (decide ((l.length : Int) > 0)) (bnd (Xa4 l 8 0 255) fun q10 => some (!q10)) (some false)) (fun v9 => some v9) = some false := by
  intro l hl hb
  rcases hl with e | e
  ·
   rw [snA]; rfl
  ·
   rw [syA, Xg3 l 8 0 255 (by omega)]
   have : (l.all fun x => decide (0 ≤ x ∧ x ≤ 255)) = true := List.all_eq_true.2 fun x hx => decide_eq_true (hb x hx)
   rw [this, e]; rfl
 have go : ∀ (i : Nat) (l : List Int), i < 2 → ([e.Above, e.Left]).getD i Xt7 = l → (l.length = 0 ∨ l.length = 8) → (∀ x ∈ l, 0 ≤ x ∧ x ≤ 255) → Xdj e (i : Int) = some (.go ((i + 1 : Nat) : Int)) := by
  intro i l hi hg hl hb
  unfold Xdj
  simp only [Int.toNat_natCast, hg]
  have hs := side l hl hb
  rw [Xbk (by simp only [List.length_cons, List.length_nil]; omega), Xbj (by simp only [List.length_cons, List.length_nil]; omega), Xbj (by simp only [List.length_cons, List.length_nil]; omega)]
  obtain ⟨a, ea, hs⟩ := Xbr hs
  injection hs with hs
  subst hs
  rw [ea, Xab, Xas, wkA]
  rfl
 unfold Xgo
 have : loop (Xdj e) 0 = some (.out ()) := by
  refine lgo (go 0 e.Above (by omega) rfl h1 h3) (lgo (go 1 e.Left (by omega) rfl h2 h4) (Xnb ?_))
  unfold Xdj
  rw [Xan (by simp)]
 rw [this, Xab, Xam, Xab, decide_eq_true ⟨h5, h6⟩]
def Ydr (l : List Int) : Nat → Int
 | 0 => 0
 | n + 1 => Ydr l n + l.getD n 0
theorem Xn0 {l : List Int} (h : ∀ x ∈ l, 0 ≤ x ∧ x ≤ 255) : ∀ n : Nat, n ≤ l.length → 0 ≤ Ydr l n ∧ Ydr l n ≤ 255 * n
 | 0, _ => by simp [Ydr]
 | n + 1, hn => by
  have a := Xn0 h n (by omega)
  have b := h (l.getD n 0) (by rw [Xee l n (by omega)]; exact List.getElem_mem _)
  rw [Ydr]; omega
theorem Xz2 {f : Int × Int → Option (Lp (Int × Int) Int)} {l : List Int} (hl : l.length ≤ 64) (h : ∀ x ∈ l, 0 ≤ x ∧ x ≤ 255) (hf : ∀ v, f v = sel (decide (v.2 < (l.length : Int))) (req (0 ≤ v.2 ∧ v.2 < l.length) <| some (.go (Xaa .i64 (v.1 + (l.getD v.2.toNat 0)), Xaa .i64 (v.2 + 1)))) (some (.done v.1))) (a : Int) (ha : 0 ≤ a ∧ a ≤ 100000) : loop f (a, 0) = some (a + Ydr l l.length) := by
 obtain ⟨o, e, ho⟩ := Xkh (f := f) l.length (fun i s => s = a + Ydr l i) (by
  intro i s hi g
  have r := Xn0 h i (by omega)
  have b := h (l.getD i 0) (by rw [Xee l i (by omega)]; exact List.getElem_mem _)
  rw [hf]
  simp only [Int.toNat_natCast]
  rw [syA, rqA, wkA (e := s + l.getD i 0), wkA (e := (i : Int) + 1)]
  exact ⟨_, rfl, by rw [Ydr]; omega⟩) (by intro s; rw [hf, Xan (by simp)]) a (by simp [Ydr])
 rw [e, ho]
theorem Xqq {l : List Int} (hl : l.length ≤ 64) (h : ∀ x ∈ l, 0 ≤ x ∧ x ≤ 255) : Xgr l = some (Ydr l l.length) := by
 unfold Xgr
 rw [Xz2 (f := Xl3 l) hl h (fun _ => rfl) 0 (by omega), Xab, Int.zero_add]
theorem Yfo {e : Xfm} (h : Xmh e) : (sel (decide ((Xaa .i64 ((e.Above.length : Int) + (e.Left.length : Int))) > 0)) (bnd (Xgr e.Above) fun q5 => bnd (Xgr e.Left) fun q6 => req ((2 : Int) ≠ 0) <| req ((Xaa .i64 ((e.Above.length : Int) + (e.Left.length : Int))) ≠ 0) <|
  some (Xaa .i64 ((Xaa .i64 ((Xaa .i64 (q5 + q6)) + (Xaa .i64 ((Xaa .i64 ((e.Above.length : Int) + (e.Left.length : Int))).tdiv 2)))).tdiv (Xaa .i64 ((e.Above.length : Int) + (e.Left.length : Int)))))) (some 128)) = Xkc e := by
 obtain ⟨h1, h2, h3, h4, h5, h6⟩ := h
 unfold Xkc
 have r1 := Xn0 h3 e.Above.length (Nat.le_refl _)
 have r2 := Xn0 h4 e.Left.length (Nat.le_refl _)
 rw [wkA (e := (e.Above.length : Int) + (e.Left.length : Int))]
 by_cases hz : (e.Above.length : Int) + (e.Left.length : Int) = 0
 ·
  rw [snA, Xeu (by simpa using hz)]
 ·
  rw [syA, Xd5 (by simpa using hz), Xqq (by omega) h3, Xab, Xqq (by omega) h4, Xab, rqA, Xbj hz, rqA, Xcb (a := (e.Above.length : Int) + (e.Left.length : Int)) (by omega), wkA (e := ((e.Above.length : Int) + (e.Left.length : Int)) / 2),
   Xz2 (f := Xf3 e) (by omega) h3 (fun _ => rfl) _ (by omega), Xab, Xz2 (f := Xf4 e) (by omega) h4 (fun _ => rfl) _ (by omega), Xab, Xbj hz, wkA (e := Ydr e.Above e.Above.length + Ydr e.Left e.Left.length), wkA (e := Ydr e.Above e.Above.length + Ydr e.Left e.Left.length + ((e.Above.length : Int) + (e.Left.length : Int)) / 2)]
  congr 3; omega
theorem Ya8 (l : List Int) (hl : l.length = 0 ∨ l.length = 8) : ∃ g, Xh3 l = some g ∧ g.length = 8 ∧ ∀ k : Nat, k < 8 → Xdg l k = some (g.getD k 0) := by
 unfold Xh3
 rcases hl with e | e
 ·
  refine ⟨_, Xeu (by rw [e]; rfl), rfl, fun k hk => ?_⟩
  unfold Xdg
  rw [Xeu (by rw [e]; rfl)]
  congr 1
  obtain rfl | rfl | rfl | rfl | rfl | rfl | rfl | rfl : k = 0 ∨ k = 1 ∨ k = 2 ∨ k = 3 ∨ k = 4 ∨ k = 5 ∨ k = 6 ∨ k = 7 := by omega
  all_goals rfl
 ·
  refine ⟨l, Xd5 (by rw [e]; rfl), e, fun k hk => ?_⟩
  unfold Xdg
  rw [Xd5 (by rw [e]; rfl), rqA, Int.toNat_natCast]
theorem Xyr (n a b : Int) : Xc3 n a b = Xda n a b := by rw [Xgy, Xcs]
def Xrf (m mid v : Int) (A B : List Int) (i : Nat) : Int := sel (m == 0) mid (sel (m == 1) (A.getD (i % 8) 0) (sel (m == 2) (B.getD (i / 8) 0) (Xbs (Xaa .i64 (Xaa .i64 (B.getD (i / 8) 0 + A.getD (i % 8) 0) - v)) 0 255)))
theorem Yd6 {f1 : Int × List Int → Option (Lp (Int × List Int) (List Int))} {f2 : Int × List Int → Int × List Int → Option (Lp (Int × List Int) (List Int))} (g : Nat → Int)
  (h1 : ∀ v, f1 v = sel (decide (v.1 < 8)) (bnd (loop (f2 v) (0, v.2)) fun w => some (.go (Xaa .i64 (v.1 + 1), w))) (some (.done v.2)))
  (h2 : ∀ (r c : Nat) (a s : List Int), r < 8 → c < 8 → s.length = 8 * r + c → f2 ((r : Int), a) ((c : Int), s) = some (.go (((c + 1 : Nat) : Int), s ++ [g (8 * r + c)])))
  (h3 : ∀ (r : Nat) (a s : List Int), f2 ((r : Int), a) (8, s) = some (.done s)) : loop f1 (0, []) = some ((List.range 64).map g) := by
 obtain ⟨o, e, ho⟩ := Xcx (f := f1) 8 (fun r s => s = (List.range (8 * r)).map g) (by
  intro r s hr hs
  obtain ⟨q, eq, hq⟩ := Xjm (f := f2 ((r : Int), s)) 8 (fun c s' => s' = (List.range (8 * r + c)).map g) (by
   intro c s' hc hs'
   exact ⟨_, h2 r c s s' hr hc (by rw [hs']; simp), by rw [hs', show 8 * r + (c + 1) = (8 * r + c) + 1 by omega, List.range_succ, List.map_append]; rfl⟩) (fun z _ => h3 r s z) s hs
  rw [h1]
  refine ⟨q, ?_, by rw [hq, show 8 * (r + 1) = 8 * r + 8 by omega]⟩
  simp only
  rw [syA, eq, Xab, wkA]
  rfl) (by intro s; rw [h1, Xan (by simp)]) [] rfl
 rw [e, ho]
theorem Xz8 (m : Int) (hm0 : 0 ≤ m ∧ m ≤ 3) {e : Xfm} (h : Xmh e) : ∃ g, Xdv m e = some g ∧ Xck m e = some g := by
 have hm : maxLen = 9223372036854775807 := rfl
 obtain ⟨mid, em, m1, m2⟩ := Xou h
 obtain ⟨A, eA, hA, fA⟩ := Ya8 e.Above h.1
 obtain ⟨B, eB, hB, fB⟩ := Ya8 e.Left h.2.1
 obtain ⟨v, ev⟩ : ∃ v, sel (decide (e.Corner < 0)) (some (128 : Int)) (some e.Corner) = some v := by rw [Ydl]; exact ⟨_, rfl⟩
 refine ⟨(List.range 64).map (Xrf m mid v A B), ?_, ?_⟩
 ·
  unfold Xdv
  rw [Xuf h, Xab, Xaw, Xam, Xab, decide_eq_true hm0, Bool.not_true, Xab, Xas, Yfo h, em, Xab, eA, Xab, eB, Xab, ev, Xab, Yd6 (f1 := Xi8 m mid A B v) (f2 := Xd9 m mid A B v) (Xrf m mid v A B) (fun _ => rfl) ?_ ?_, Xab]
  ·
   intro r c a s hr hc hs
   unfold Xd9 Xrf
   simp only [Int.toNat_natCast, Xgy, Xab]
   rw [syA, wkA (e := (c : Int) + 1), show (8 * r + c) % 8 = c by omega, show (8 * r + c) / 8 = r by omega]
   cases (m == 0) with
   | true => rw [Xaw, Xbj (by simp only [List.length_singleton]; omega), Xab]; rfl
   | false =>
    rw [Xas]
    cases (m == 1) with
    | true => rw [Xaw, rqA, Xbj (by simp only [List.length_singleton]; omega), Xab]; rfl
    | false =>
     rw [Xas]
     cases (m == 2) with
     | true => rw [Xaw, rqA, Xbj (by simp only [List.length_singleton]; omega), Xab]; rfl
     | false => rw [Xas, rqA, rqA, Xbj (by simp only [List.length_singleton]; omega), Xab]; rfl
  ·
   intro r a s
   unfold Xd9
   rw [Xan (by simp)]
 ·
  unfold Xck
  rw [Xgb h, Xab, Xaw, Xag, Xab, decide_eq_true hm0, Bool.not_true, Xab, Xas, ev, Xab]
  obtain ⟨o, eo, ho⟩ := Xcx (f := Xct m e v) 64 (fun i s => s = (List.range i).map (Xrf m mid v A B)) (by
   intro i s hi hs
   have hlen : s.length = i := by rw [hs]; simp
   refine ⟨s ++ [Xrf m mid v A B i], ?_, by rw [hs, List.range_succ, List.map_append]; rfl⟩
   unfold Xct Xrf
   simp only
   rw [syA, rqA, Xcy (by omega), show (i : Int) % 8 = ((i % 8 : Nat) : Int) by omega, fA _ (by omega), Xab, rqA, Xcb (by omega), wkA (e := (i : Int) / 8), show (i : Int) / 8 = ((i / 8 : Nat) : Int) by omega, fB _ (by omega), Xab, wkA (e := (i : Int) + 1), em]
   cases (m == 0) with
   | true => rw [Xaw, Xab, Xbj (by simp only [List.length_singleton]; omega), Xab]; rfl
   | false =>
    rw [Xas]
    cases (m == 1) with
    | true => rw [Xaw, Xbj (by simp only [List.length_singleton]; omega), Xab]; rfl
    | false =>
     rw [Xas]
     cases (m == 2) with
     | true => rw [Xaw, Xbj (by simp only [List.length_singleton]; omega), Xab]; rfl
     | false => rw [Xas, Xcs, Xab, Xbj (by simp only [List.length_singleton]; omega), Xab]; rfl) (by intro s; unfold Xct; rw [Xan (by simp)]) [] rfl
  rw [eo, Xab, ho]
theorem Xlu (m : Int) (hm0 : 0 ≤ m ∧ m ≤ 3) {e : Xfm} (h : Xmh e) : Xdv m e = Xck m e := by
 obtain ⟨g, h1, h2⟩ := Xz8 m hm0 h
 rw [h1, h2]
theorem Xsi (g b : List Int) (hg : Xa9 g = true) (hl : b.length = 64) (hb : inB 10000000 b) : Xhw g b = Xez g b := by
 obtain ⟨g1, g2⟩ := Xa6 hg
 unfold Xhw Xez
 rw [Xc1 g hg, Xep g (by omega), hg, Xk7 b 64 10000000 (by omega) (by omega) hb, Xbe b 64 10000000 (by omega) (by omega) (by omega) hb]
 have : Xij g b = Xb9 g b := by
  funext v
  unfold Xij Xb9
  simp only [Xyr, show ((g.length : Nat) : Int) = 64 by omega]
 simp only [Xab, Xaw, Bool.not_true, Xas, this]
theorem Xwj {s : Xby} (h : Xxw s = true) (h1 : s.Kind = 0) : s.Dx = 0 ∧ s.Dy = 0 := by
 unfold Xxw at h
 rw [h1] at h
 simp at h
 exact ⟨h.2.1, h.2.2.1⟩
theorem Ydm {s : Xby} (h : Xxw s = true) : (-16 ≤ s.Dx ∧ s.Dx ≤ 16) ∧ (-16 ≤ s.Dy ∧ s.Dy ≤ 16) := by
 have hk := Xwi h
 obtain h1 | h1 | h1 : s.Kind = 0 ∨ s.Kind = 1 ∨ s.Kind = 2 := by omega
 ·
  obtain ⟨a, b⟩ := Xwj h h1; omega
 ·
  obtain ⟨a, b, _⟩ := Xz0 h h1; exact ⟨a, b⟩
 ·
  unfold Xxw at h
  rw [h1] at h
  simp at h
  omega
theorem Yb4 (s : Xby) (c : Xjd) : Xeo s c = some (Xwh s c) := by
 unfold Xeo Xwh
 cases c.Key <;> rfl
structure Yj8 (now ref : Pic) (l t x y : Int) (c : Xjd) (q : Xby) : Prop where
 ok : Xdu now = true
 hx : x.tmod 8 = 0
 hy : y.tmod 8 = 0
 h0 : Xcj now x y = true
 hl : 0 ≤ l ∧ l ≤ 256
 ht : 0 ≤ t ∧ t ≤ 256
 hc : Xje c = true
 hs : q.Levels.length ≤ 1048576
theorem Xjs {now ref : Pic} {l t x y : Int} {c : Xjd} {q : Xby} (h : Yj8 now ref l t x y c q) (hq : Xxw q = true) (hL : Xwh q c = true) (hr : c.Key = false → Xdu ref = true) : ∃ d, Xcr now ref l t c x y q = some (d, true) ∧ Xds now ref l t c x y q = some (d, true) ∧ Xa9 d = true := by
 obtain ⟨ok, hx, hy, h0, hl, ht, hc, hs⟩ := h
 obtain ⟨k1, k2, k3⟩ := Xb2 ok
 have h0' := h0
 unfold Xcj at h0'
 rw [decide_eq_true_eq] at h0'
 have dxy := Ydm hq
 unfold Xds Xcr
 rw [Xc2 ok hx hy h0, Xab, Xaw, Xag, Xab, decide_eq_true hl, Xaw, Xag, Xab, decide_eq_true ht, Xaw, Xmt, Xab, hq, Xaw, Xb8, Xab, hc, Bool.not_true, Xab, Xas]
 rw [Xd3, Xab, ok, Xaw, Xna ok hx hy h0, Xab, Xaw, Xam, Xab, decide_eq_true hl, Xaw, Xam, Xab, decide_eq_true ht, Xaw, Xmm q (by omega), Xab, hq, Xaw, Xii, Xab, hc, Xaw, Yb4, Xab, hL, Xaw]
 by_cases h2 : q.Kind = 2
 ·
  obtain ⟨hm, hlv⟩ := Ydn hq h2
  obtain ⟨e, ee, he⟩ := Xj5 ok hx hy h0
  obtain ⟨b, eb, b1, b2⟩ := Xeh q.Levels c hc hlv
  obtain ⟨g, eg, hg⟩ := Xey q.Mode hm he
  obtain ⟨j, ej, hj⟩ := Xoo g b hg b1 b2
  refine ⟨j, ?_, ?_, hj⟩
  ·
   rw [Xd5 (b := q.Kind != 2) (by simpa using h2), Xab, Xas, Xd5 (by rw [h2]; rfl), Xmg q.Levels c hc hlv, eb, Xab, Xd5 (by rw [h2]; rfl), Xpp ok hx hy h0, ee, Xab, Xlu q.Mode hm he, eg, Xab, Xsi g b hg b1 b2, ej, Xab]
  ·
   rw [Xeu (by simpa using h2), ee, Xab, eb, Xab, eg, Xab, ej, Xab]
 ·
  have hK : c.Key = false := by
   unfold Xwh at hL
   cases hk : c.Key with
   | false => rfl
   | true => rw [hk] at hL; simp at hL; exact absurd hL h2
  have rok := hr hK
  rw [Xeu (b := q.Kind != 2) (by simpa using h2), Xd3, Xab, rok, Bool.not_true, Xab, Xas]
  rw [Xd5 (b := q.Kind == 2) (by simpa using h2), hK, Xas, Xd6, Xab, rok, Bool.not_true, Xab, Xas]
  rw [wkA (e := l + x), wkA (e := l + x + q.Dx), wkA (e := t + y), wkA (e := t + y + q.Dy), Xdp rok _ _ (by omega) (by omega), Xab, Xfb rok _ _ (by omega) (by omega), Xab, Xfb rok _ _ (by omega) (by omega)]
  by_cases h3 : q.Kind = 0
  ·
   obtain ⟨z1, z2⟩ := Xwj hq h3
   rw [Xeu (b := q.Kind == 0) (by simpa using h3), Xeu (b := q.Kind == 0) (by simpa using h3), z1, z2, Int.add_zero, Int.add_zero]
   exact ⟨_, rfl, rfl, Xd8 _ _ _⟩
  ·
   have h1 : q.Kind = 1 := by have := Xwi hq; omega
   obtain ⟨_, _, hlv⟩ := Xz0 hq h1
   obtain ⟨b, eb, b1, b2⟩ := Xeh q.Levels c hc hlv
   obtain ⟨j, ej, hj⟩ := Xoo _ b (Xd8 ref (l + x + q.Dx) (t + y + q.Dy)) b1 b2
   rw [Xd5 (b := q.Kind == 0) (by simpa using h3), Xd5 (b := q.Kind == 0) (by simpa using h3), Xmg q.Levels c hc hlv, eb, Xab, Xab, Xeu (b := q.Kind == 1) (by simpa using h1), Xab, Xsi _ b (Xd8 _ _ _) b1 b2, ej, Xab]
   exact ⟨_, rfl, rfl, hj⟩
theorem Xwb (l : List Int) : Xd0 l = some (Xa9 l) := by
 unfold Xd0 Xa9
 by_cases h : l.length = 64
 ·
  rw [Xd5 (by simp only [bne_eq_false_iff_eq]; omega), Xt5 Yb0 l (Xcw l) (by
   intro i hi
   unfold Xcw
   rw [syA, rqA, Xag, Xab, wkA, Int.toNat_natCast]
   rfl) (by unfold Xcw; rw [snA]), Xab, decide_eq_true h, Bool.true_and]
  cases l.all Yb0 <;> rfl
 ·
  rw [Xeu (by simp only [bne_iff_ne, ne_eq]; omega), decide_eq_false h, Bool.false_and]
theorem Yhs (m : Int) (h : 0 ≤ m ∧ m ≤ 3) : ∃ s, Xh0 m = some s ∧ Xie m = some s := by
 have e1 : Xie m = some (((strOfNums (ueL m.toNat)).size : Nat) : Int) := by
  unfold Xie Xsb
  rw [Xag, Xab, decide_eq_true (by omega), Bool.not_true, Xas]
  have : Xlq m = some (strOfNums (ueL m.toNat)) := by
   have := Xme m.toNat (by omega)
   rwa [show ((m.toNat : Nat) : Int) = m by omega] at this
  rw [this, Xab, Xab]
 have e2 : Xh0 m = some (((strOfNums (ueL m.toNat)).size : Nat) : Int) := by
  unfold Xh0 Xjq
  rw [Xam, Xab, decide_eq_true (by omega), Bool.not_true, Xas]
  have : Xrz m = some (strOfNums (ueL m.toNat)) := by
   have := Xx6 m.toNat (by omega)
   rwa [show ((m.toNat : Nat) : Int) = m by omega] at this
  rw [this, Xab, Xab]
 exact ⟨_, e2, e1⟩
theorem Xue {w : List Int} (hw : Xa9 w = true) {e : Xfm} (h : Xmh e) : Xfp w e = Xfy w e := by
 have hwl := (Xa6 hw).1
 unfold Xfp Xfy
 rw [Xuf h, Xgb h, Xep w (by omega), Xwb, hw]
 have : loop (Xe6 w e) (0, -1, 0) = loop (Xcn w e) (0, -1, 0) := by
  refine Xh7 (fun v => 0 ≤ v.2.2 ∧ v.2.2 ≤ 4) ?_ ?_ (by simp)
  ·
   intro ⟨m, c, i⟩ ⟨h1, h2⟩
   simp only at h1 h2
   unfold Xe6 Xcn
   simp only
   by_cases hi : i < 4
   ·
    obtain ⟨g, eg, hg⟩ := Xey i ⟨h1, by omega⟩ h
    obtain ⟨s, e1, e2⟩ := Yhs i ⟨h1, by omega⟩
    rw [Xbk (show i ≤ 3 by omega), Xbk hi, Xlu i ⟨h1, by omega⟩ h, eg, Xab, Xab, Xl2 hw hg, Xma hw hg, Xab, Xab, e1, e2]
   ·
    rw [Xan (show ¬ i ≤ 3 by omega), Xan hi]
  ·
   intro ⟨m, c, i⟩ v' ⟨h1, h2⟩ he
   simp only at h1 h2
   unfold Xcn at he
   rcases Xga he with ⟨hb, he⟩ | ⟨_, he⟩
   ·
    have hi := of_decide_eq_true hb
    simp only at hi
    obtain ⟨q, _, he⟩ := Xbr he
    injection he with he
    injection he with he
    subst he
    simp only
    rw [wkA]; omega
   ·
    cases he
 simp only [Xab, Xaw, Bool.not_true, Xas, this]
theorem Xwq {p : Pic} {w : List Int} {x y r : Int} (ok : Xdu p = true) (hw : Xa9 w = true) (hr : 0 ≤ r ∧ r ≤ 4) (hx : x.tmod 8 = 0) (hy : y.tmod 8 = 0) (h0 : Xcj p x y = true) : Xch p w x y r = Xjj p w x y r := by
 obtain ⟨k1, k2, k3⟩ := Xb2 ok
 have hwl := (Xa6 hw).1
 have h0' := h0
 unfold Xcj at h0'
 rw [decide_eq_true_eq] at h0'
 unfold Xch Xjj
 rw [Xd3, Xab, ok, Xaw, Xep w (by omega), Xab, hw, Xaw, Xam, Xab, decide_eq_true hr, Xaw, Xi9 ok x y hx hy h0, Xab, Bool.not_true, Xab, Xas]
 rw [Xc1 w hw, Xab, Xaw, Xag, Xab, decide_eq_true hr, Xaw, Xc2 ok hx hy h0, Xab, Bool.not_true, Xab, Xas, wkA (e := 0 - r)]
 refine Ydz ?_ fun _ _ => rfl
 refine Xh7 (fun s => -r ≤ s.2.2.2 ∧ s.2.2.2 ≤ r + 1) ?_ ?_ (by simp only; omega)
 ·
  intro s ⟨g1, g2⟩
  unfold Xdi Xia
  refine Xr4 (fun hs => ?_) fun _ => rfl
  have hs := of_decide_eq_true hs
  rw [wkA (e := 0 - r)]
  refine Ydz ?_ fun _ _ => rfl
  refine Xh7 (fun v => -r ≤ v.2.2.2 ∧ v.2.2.2 ≤ r + 1) ?_ ?_ (by simp only; omega)
  ·
   intro v ⟨f1, f2⟩
   unfold Xbz Xib
   refine Xr4 (fun hv => ?_) fun _ => rfl
   have hv := of_decide_eq_true hv
   rw [wkA (e := x + v.2.2.2), wkA (e := y + s.2.2.2), Xsn ok, Xmw ok, Xab, Xab]
   refine Ydz ?_ fun _ _ => rfl
   refine Xr4 (fun _ => rfl) fun _ => ?_
   have hb := Xd8 p (x + v.2.2.2) (y + s.2.2.2)
   rw [Xdp ok _ _ (by omega) (by omega), Xfb ok _ _ (by omega) (by omega), Xab, Xab, Xma hw hb, Xl2 hw hb, Xab, Xab, Xop _ (by omega), Xik _ (by omega), Xab, Xab, Xop _ (by omega), Xik _ (by omega), Xab]
  ·
   intro v v' ⟨f1, f2⟩ he
   unfold Xib at he
   rcases Xga he with ⟨hb, he⟩ | ⟨_, he⟩
   ·
    have hi := of_decide_eq_true hb
    obtain ⟨q, _, he⟩ := Xbr he
    injection he with he
    injection he with he
    subst he
    simp only
    rw [wkA]; omega
   ·
    cases he
 ·
  intro s v' ⟨g1, g2⟩ he
  unfold Xia at he
  rcases Xga he with ⟨hb, he⟩ | ⟨_, he⟩
  ·
   have hi := of_decide_eq_true hb
   obtain ⟨q, _, he⟩ := Xbr he
   injection he with he
   injection he with he
   subst he
   simp only
   rw [wkA]; omega
  ·
   cases he
def Xn5 (a b : List Int) : List Int := (List.range 64).map fun i => a.getD i 0 - b.getD i 0
theorem Xfw (a b : List Int) : (Xn5 a b).length = 64 := by simp [Xn5]
theorem Xqt (a b : List Int) {i : Nat} (hi : i < 64) : (Xn5 a b).getD i 0 = a.getD i 0 - b.getD i 0 := Xf5 _ hi
theorem Xl6 {a b : List Int} (ha : Xa9 a = true) (hb : Xa9 b = true) : inB 255 (Xn5 a b) := by
 intro x hx
 obtain ⟨i, hi, rfl⟩ := List.mem_map.1 hx
 rw [List.mem_range] at hi
 have p := (Xa6 ha).2 i hi
 have q := (Xa6 hb).2 i hi
 omega
theorem Ya1 {a b : List Int} (ha : Xa9 a = true) (hb : Xa9 b = true) {f : Int × List Int → Option (Lp (Int × List Int) (List Int))} (hf : ∀ v, f v = sel (decide (v.1 < 64)) (req (0 ≤ v.1 ∧ v.1 < a.length) <| req (0 ≤ v.1 ∧ v.1 < b.length) <| req ((v.2.length + ([Xaa .i64 ((a.getD v.1.toNat 0) - (b.getD v.1.toNat 0))]).length) * 8 ≤ 140737488355328 ∧ v.2.length + ([Xaa .i64 ((a.getD v.1.toNat 0) - (b.getD v.1.toNat 0))]).length ≤ maxLen) <| some (.go (Xaa .i64 (v.1 + 1), (v.2 ++ ([Xaa .i64 ((a.getD v.1.toNat 0) - (b.getD v.1.toNat 0))]))))) (some (.done v.2))) : loop f (0, []) = some (Xn5 a b) := by
 have hm : maxLen = 9223372036854775807 := rfl
 obtain ⟨a1, a2⟩ := Xa6 ha
 obtain ⟨b1, b2⟩ := Xa6 hb
 have := Xyp (f := f) 64 (fun i => a.getD i 0 - b.getD i 0) [] (by
  intro i hi
  have x := a2 i hi
  have y := b2 i hi
  rw [hf]
  simp only [Int.toNat_natCast]
  rw [syA, rqA, rqA, Xbj (by simp only [List.length_append, List.length_nil, List.length_map, List.length_range, List.length_singleton]; omega), wkA (e := a.getD i 0 - b.getD i 0), wkA (e := (i : Int) + 1)]
  rfl) (by rw [hf, Xan (by simp)])
 rw [List.nil_append] at this
 exact this
theorem Xmp {a b : List Int} (ha : Xa9 a = true) (hb : Xa9 b = true) : Xd4 a b = some (Xn5 a b) := by
 have a1 := (Xa6 ha).1
 unfold Xd4
 rw [Ya1 ha hb (f := Xf7 a b) (fun v => by unfold Xf7; rw [show ((a.length : Nat) : Int) = 64 by omega]), Xab]
theorem Xhp {a b : List Int} (ha : Xa9 a = true) (hb : Xa9 b = true) : Xi3 a b = some (Xn5 a b) := by
 have a1 := (Xa6 ha).1
 unfold Xi3
 rw [Ya1 ha hb (f := Xkd a b) (fun v => by unfold Xkd; rw [show ((a.length : Nat) : Int) = 64 by omega]), Xab]
theorem Xno (l : List Int) (hl : l.length ≤ 1000000) : Xkv l = some (l.all fun x => x == 0) := by
 unfold Xkv
 rw [Xt5 (fun x => x == 0) l (Xhs l) (by
  intro i hi
  unfold Xhs
  rw [syA, rqA, Int.toNat_natCast, wkA]
  rfl) (by unfold Xhs; rw [snA]), Xab]
 cases l.all (fun x => x == 0) <;> rfl
theorem Yg0 {a b : List Int} (ha : Xa9 a = true) (hb : Xa9 b = true) : (Xju a b 64 == 0) = ((Xn5 a b).all fun x => x == 0) := by
 have key : ∀ n : Nat, n ≤ 64 → (Xju a b n = 0 ↔ ∀ i, i < n → a.getD i 0 - b.getD i 0 = 0) := by
  intro n
  induction n with
  | zero => intro _; exact ⟨fun _ i hi => by omega, fun _ => rfl⟩
  | succ n ih =>
   intro hn
   have g := Xgm ha hb n (by omega)
   have e : Xju a b (n + 1) = Xju a b n + Xsl (a.getD n 0 - b.getD n 0) := rfl
   have ab : 0 ≤ Xsl (a.getD n 0 - b.getD n 0) ∧ (Xsl (a.getD n 0 - b.getD n 0) = 0 ↔ a.getD n 0 - b.getD n 0 = 0) := by unfold Xsl; split <;> omega
   rw [e]
   constructor
   ·
    intro h i hi
    rcases Nat.lt_or_ge i n with h1 | h1
    ·
     exact (ih (by omega)).1 (by omega) i h1
    ·
     have : i = n := by omega
     subst this
     exact ab.2.1 (by omega)
   ·
    intro h
    have h1 := (ih (by omega)).2 fun i hi => h i (by omega)
    have h2 := ab.2.2 (h n (by omega))
    omega
 rw [Bool.eq_iff_iff, beq_iff_eq, List.all_eq_true, key 64 (by omega)]
 constructor
 ·
  intro h x hx
  obtain ⟨i, hi, rfl⟩ := List.mem_map.1 hx
  rw [List.mem_range] at hi
  rw [beq_iff_eq]; exact h i hi
 ·
  intro h i hi
  have := h ((Xn5 a b).getD i 0) (by rw [Xee _ i (by rw [Xfw]; exact hi)]; exact List.getElem_mem _)
  rw [beq_iff_eq, Xqt a b hi] at this
  exact this
theorem Ydw (l : List Int) (hl : l.length = 64) : Xa4 l 64 0 0 = some (l.all fun x => x == 0) := by
 rw [Xg3 l 64 0 0 (by omega), show ((l.length : Int) == 64) = true by rw [beq_iff_eq]; omega, Bool.and_true]
 congr 2
 funext x
 rw [Bool.eq_iff_iff, decide_eq_true_eq, beq_iff_eq]; omega
structure Yj9 (now ref : Pic) (w : List Int) (x y : Int) (c : Xjd) (r : Int) : Prop where
 ok : Xdu now = true
 hx : x.tmod 8 = 0
 hy : y.tmod 8 = 0
 h0 : Xcj now x y = true
 hw : Xa9 w = true
 hc : Xje c = true
 hr : 0 ≤ r ∧ r ≤ 4
 hk : c.Key = false → Xdu ref = true ∧ ref.Wide = now.Wide ∧ ref.High = now.High
inductive Xpo (now ref : Pic) (w : List Int) (x y : Int) (c : Xjd) (r : Int) : Xby → Prop
 | same (hK : c.Key = false) (h : ∀ i : Nat, i < 64 → w.getD i 0 = (Xn2 ref x y 64).getD i 0) : Xpo now ref w x y c r ⟨0, 0, 0, 0, []⟩
 | still (hK : c.Key = false) (l : List Int) (h : Xbv (Xn5 w (Xn2 ref x y 64)) c = some (l, true)) (hl : Xwp l = true) (hz : ∀ i : Nat, i < 64 → l.getD i 0 = 0) : Xpo now ref w x y c r ⟨0, 0, 0, 0, []⟩
 | move (hK : c.Key = false) (dx dy : Int) (hdx : -r ≤ dx ∧ dx ≤ r) (hdy : -r ≤ dy ∧ dy ≤ r) (hh : Xcj ref (x + dx) (y + dy) = true) (l : List Int) (h : Xbv (Xn5 w (Xn2 ref (x + dx) (y + dy) 64)) c = some (l, true)) (hl : Xwp l = true) (hn : ¬ ∀ i : Nat, i < 64 → w.getD i 0 = (Xn2 ref x y 64).getD i 0) : Xpo now ref w x y c r ⟨1, 0, dx, dy, l⟩
 | guess (e : Xfm) (he : Xdy now x y = some (e, true)) (hp : Xmh e) (m : Int) (hm : 0 ≤ m ∧ m ≤ 3) (g : List Int) (hg : Xck m e = some g) (hd : Xa9 g = true) (l : List Int) (h : Xbv (Xn5 w g) c = some (l, true)) (hl : Xwp l = true) (hn : c.Key = false → ¬ ∀ i : Nat, i < 64 → w.getD i 0 = (Xn2 ref x y 64).getD i 0) : Xpo now ref w x y c r ⟨2, m, 0, 0, l⟩
theorem Xpo.ok {now ref : Pic} {w : List Int} {x y : Int} {c : Xjd} {r : Int} {q : Xby} (hr : 0 ≤ r ∧ r ≤ 4) (h : Xpo now ref w x y c r q) : Xxw q = true ∧ Xwh q c = true ∧ q.Levels.length ≤ 64 := by
 cases h with
 | same hK _ => exact ⟨rfl, by unfold Xwh; rw [hK]; rfl, by simp⟩
 | still hK l _ _ _ => exact ⟨rfl, by unfold Xwh; rw [hK]; rfl, by simp⟩
 | move hK dx dy hdx hdy hh l h hl hn => exact ⟨Yf6 (by omega) (by omega) hl, by unfold Xwh; rw [hK]; rfl, by simp only; have := (Xr1 hl).1; omega⟩
 | guess e he hp m hm g hg hd l h hl hn => exact ⟨Yeo hm hl, by unfold Xwh; simp, by simp only; have := (Xr1 hl).1; omega⟩
theorem Ydt {l : List Int} (hl : l.length = 64) : (l.all fun x => x == 0) = true ↔ ∀ i : Nat, i < 64 → l.getD i 0 = 0 := by
 rw [List.all_eq_true]
 constructor
 ·
  intro h i hi
  have := h (l.getD i 0) (by rw [Xee l i (by omega)]; exact List.getElem_mem _)
  rwa [beq_iff_eq] at this
 ·
  intro h x hx
  obtain ⟨i, hi, rfl⟩ := List.getElem_of_mem hx
  rw [beq_iff_eq, ← Xee l i hi 0]
  exact h i (by omega)
theorem Xyj {p : Pic} {w : List Int} {x y r : Int} (ok : Xdu p = true) (hw : Xa9 w = true) (hr : 0 ≤ r ∧ r ≤ 4) (hx : x.tmod 8 = 0) (hy : y.tmod 8 = 0) (h0 : Xcj p x y = true) :
  ∃ b, Xch p w x y r = some b ∧ Xjj p w x y r = some b ∧ (-r ≤ b.1 ∧ b.1 ≤ r) ∧ (-r ≤ b.2.1 ∧ b.2.1 ≤ r) ∧ Xcj p (x + b.1) (y + b.2.1) = true := by
 obtain ⟨b, e, h1, h2, h3, _⟩ := Xsy ok hw hr hx hy h0
 exact ⟨b, e, by rw [← Xwq ok hw hr hx hy h0]; exact e, h1, h2, h3⟩
theorem Xym {now ref : Pic} {w : List Int} {x y : Int} {c : Xjd} {r : Int} (H : Yj9 now ref w x y c r) : ∃ q d, Xfu now ref w x y c r = some (q, d, true) ∧ Xos now ref w x y c r = some (q, d, true) ∧ Xpo now ref w x y c r q ∧ Xcr now ref 0 0 c x y q = some (d, true) ∧ Xa9 d = true := by
 obtain ⟨ok, hx, hy, h0, hw, hc, hr, hk⟩ := H
 have hwl := (Xa6 hw).1
 obtain ⟨e, ee, he⟩ := Xj5 ok hx hy h0
 obtain ⟨m, co, eb, hm⟩ := Xr5 hw he
 obtain ⟨g, eg, hg⟩ := Xey m hm he
 obtain ⟨l, el, hl⟩ := Xms (Xn5 w g) c hc (Xfw w g) (Xl6 hw hg)
 have hh := h0
 unfold Xcj at hh
 rw [decide_eq_true_eq] at hh
 obtain ⟨k1, k2, k3⟩ := Xb2 ok
 -- the square
 have main : ∃ q, Xpo now ref w x y c r q ∧ Xk6 now ref w x y c r = some q ∧
   (sel (!c.Key) (bnd (Xbi ref x y) fun q15 => bnd (Xkl w q15) fun q16 => sel (q16 == 0) (some ((0 : Int), (0 : Int), (0 : Int), (0 : Int), ([] : List Int))) (bnd (Xch ref w x y r) fun q17 => sel (decide (q17.2.2 ≤ co)) (bnd (Xbi ref (Xaa .i64 (x + q17.1)) (Xaa .i64 (y + q17.2.1))) fun q18 => bnd (Xd4 w q18) fun q19 => bnd (Xd2 q19 c) fun q20 =>
    bnd (sel (q17.1 == 0) (sel (q17.2.1 == 0) (bnd (Xa4 q20.1 64 0 0) fun q22 => some q22) (some false)) (some false)) fun v21 => sel v21 (some (0, 0, 0, 0, [])) (some (1, 0, q17.1, q17.2.1, q20.1))) (some (2, m, 0, 0, l)))) (some (2, m, 0, 0, l))) = some (q.Kind, q.Mode, q.Dx, q.Dy, q.Levels) := by
  unfold Xk6
  cases hK : c.Key with
  | true =>
   refine ⟨⟨2, m, 0, 0, l⟩, .guess e ee he m hm g eg hg l el hl (fun h => by rw [hK] at h; cases h), ?_, rfl⟩
   rw [Xaw, Xab, Xas, ee, Xab, eb, Xab, Bool.not_true]
   simp only [Yg3, Xas, eg, Xab, Xhp hw hg, el]
  | false =>
   obtain ⟨rok, rw', rh⟩ := hk hK
   have hb := Xd8 ref x y
   have r0 : Xcj ref x y = true := by unfold Xcj; rw [decide_eq_true_eq, rw', rh]; exact hh
   have gz := Yg0 hw hb
   have lz := Ydt (Xfw w (Xn2 ref x y 64))
   rw [Bool.not_false, Xaw, Xas, Xfb rok x y (by omega) (by omega), Xab, Xl2 hw hb, Xab, Xdp rok x y (by omega) (by omega), Xab, Xhp hw hb, Xab, Xno _ (by rw [Xfw]; omega), Xab, Xab, gz]
   cases hz : ((Xn5 w (Xn2 ref x y 64)).all fun x => x == 0) with
   | true =>
    refine ⟨⟨0, 0, 0, 0, []⟩, .same hK fun i hi => ?_, rfl, rfl⟩
    have := lz.1 hz i hi
    rw [Xqt _ _ hi] at this; omega
   | false =>
    have hne : ¬ ∀ i : Nat, i < 64 → w.getD i 0 = (Xn2 ref x y 64).getD i 0 := fun hall => by
     have := lz.2 fun i hi => by rw [Xqt _ _ hi, hall i hi]; omega
     rw [hz] at this; cases this
    obtain ⟨b, bi, bs, b1, b2, b3⟩ := Xyj rok hw hr hx hy r0
    rw [Xas, Xas, ee, Xab, eb, Xab, bi, Xab]
    simp only [Yg3, Xaw, bs, Xab]
    by_cases hco : b.2.2 ≤ co
    ·
     have hb2 := Xd8 ref (x + b.1) (y + b.2.1)
     obtain ⟨l2, el2, hl2⟩ := Xms (Xn5 w (Xn2 ref (x + b.1) (y + b.2.1) 64)) c hc (Xfw _ _) (Xl6 hw hb2)
     have hl2n := (Xr1 hl2).1
     rw [Xbk hco, Xbk hco, wkA (e := x + b.1), wkA (e := y + b.2.1), Xdp rok _ _ (by omega) (by omega), Xfb rok _ _ (by omega) (by omega), Xab, Xab, Xmp hw hb2, Xhp hw hb2, Xab, Xab, Xn9 _ c hc (Xfw _ _) (Xl6 hw hb2), el2, Xab, Xab, Ydw l2 hl2n, Xab, Xno l2 (by omega), Xab]
     simp only [Xhc, Xab]
     cases hst : (b.1 == 0 && (b.2.1 == 0 && l2.all fun x => x == 0)) with
     | true =>
      simp only [Bool.and_eq_true, beq_iff_eq] at hst
      obtain ⟨z1, z2, z3⟩ := hst
      rw [z1, z2, Int.add_zero, Int.add_zero] at el2
      exact ⟨⟨0, 0, 0, 0, []⟩, .still hK l2 el2 hl2 ((Ydt hl2n).1 z3), rfl, rfl⟩
     | false => exact ⟨⟨1, 0, b.1, b.2.1, l2⟩, .move hK b.1 b.2.1 b1 b2 b3 l2 el2 hl2 hne, rfl, rfl⟩
    ·
     rw [Xan hco, Xan hco]
     refine ⟨⟨2, m, 0, 0, l⟩, .guess e ee he m hm g eg hg l el hl (fun _ => hne), ?_, rfl⟩
     simp only [eg, Xab, Xhp hw hg, el]
 obtain ⟨q, hq, es, ei⟩ := main
 obtain ⟨q1, q2, q3⟩ := hq.ok hr
 obtain ⟨d, di, ds, hd⟩ := Xjs (now := now) (ref := ref) (l := 0) (t := 0) (x := x) (y := y) (c := c) (q := q) ⟨ok, hx, hy, h0, by omega, by omega, hc, by omega⟩ q1 q2 (fun h => (hk h).1)
 refine ⟨q, d, ?_, ?_, hq, di, hd⟩
 ·
  unfold Xfu
  have hl7 : (sel c.Key (some false) (bnd (Xdl ref) fun q8 => sel q8 (sel (ref.Wide != now.Wide) (some true) (some (ref.High != now.High))) (some true))) = some false := by
   cases hK : c.Key with
   | true => rfl
   | false =>
    obtain ⟨a1, a2, a3⟩ := hk hK
    rw [Xas, Xd3, Xab, a1, a2, a3, Xaw, bne_self_eq_false, Xas, bne_self_eq_false]
  rw [Xd3, Xab, ok, Xaw, Xna ok hx hy h0, Xab, Xaw, Xep w (by omega), Xab, hw, Xaw, Xii, Xab, hc, Xaw, Xam, Xab, decide_eq_true hr, Bool.not_true, Xab, Xas, hl7, Xab, Xas, Xpp ok hx hy h0, ee, Xab, Xue hw he, eb, Xab, Xlu m hm he, eg, Xab, Xmp hw hg, Xab, Xn9 _ c hc (Xfw _ _) (Xl6 hw hg), el, Xab]
  simp only
  rw [ei, Xab]
  simp only
  rw [show (⟨q.Kind, q.Mode, q.Dx, q.Dy, q.Levels⟩ : Xby) = q from rfl, di, Xab]
  rfl
 ·
  unfold Xos
  have hl7 : (sel c.Key (some false) (bnd (Xku now ref) fun q6 => some (!q6))) = some false := by
   cases hK : c.Key with
   | true => rfl
   | false =>
    obtain ⟨a1, a2, a3⟩ := hk hK
    rw [Xas, Xwe, Xab, Yg5 ok a1 a2 a3]; rfl
  rw [Xc2 ok hx hy h0, Xab, Xaw, Xc1 w hw, Xab, Xaw, Xb8, Xab, hc, Xaw, Xag, Xab, decide_eq_true hr, Xaw, hl7, Xab, Xas, es, Xab, ds, Xab]
theorem Yfx : ∀ j : Fin 64, ∃ i : Fin 64, (Xtj 8).getD i.val 0 = (j.val : Int) := by decide +kernel
theorem Ybk (j : Nat) (hj : j < 64) : ∃ i : Nat, i < 64 ∧ Xbq 8 i = (j : Int) := by
 obtain ⟨i, hi⟩ := Yfx ⟨j, hj⟩
 refine ⟨i.val, i.isLt, ?_⟩
 rw [← Ybm i]; exact hi
def Xhb (l : List Int) : List Int := (List.range 64).map fun (i : Nat) => l.getD (Xbq 8 i).toNat 0
theorem Xxo (l : List Int) (hl : l.length = 64) : Xdb 8 l = some (Xhb l, true) := by
 have hm : maxLen = 9223372036854775807 := rfl
 have hw : Xaa .i64 (8 * 8) = 64 := wkA
 unfold Xdb
 have hc : (sel ((8 : Int) != 4) (sel ((8 : Int) != 8) (some true) (some ((l.length : Int) != (Xaa .i64 (8 * 8))))) (some ((l.length : Int) != (Xaa .i64 (8 * 8))))) = some false := by
  rw [hw, hl]; rfl
 have := Xyp (f := Xbm 8 l) 64 (fun i => l.getD (Xbq 8 i).toNat 0) [] (by
  intro i hi
  have hp := Xc8 8 (Or.inr rfl) i (by omega)
  unfold Xbm
  simp only
  rw [hw, syA, Xcl 8 (Or.inr rfl) i (by omega), Xab, rqA, Xbj (by simp only [List.length_append, List.length_nil, List.length_map, List.length_range, List.length_singleton]; omega), wkA]
  rfl) (by unfold Xbm; rw [hw, Xan (by simp)])
 rw [List.nil_append] at this
 rw [hc, Xab, Xas, this, Xab]
 rfl
theorem Xvz (l : List Int) {i : Nat} (hi : i < 64) : (Xhb l).getD i 0 = l.getD (Xbq 8 i).toNat 0 := Xf5 _ hi
theorem Ycq (p : List Int) (hp : p.length = 64) : Xca 8 (Xhb p) = some (p, true) := by
 have hw : Xaa .i64 (8 * 8) = 64 := wkA
 have hl : (Xhb p).length = 64 := by simp [Xhb]
 unfold Xca
 have hc : (sel ((8 : Int) != 4) (sel ((8 : Int) != 8) (some true) (some (((Xhb p).length : Int) != (Xaa .i64 (8 * 8))))) (some (((Xhb p).length : Int) != (Xaa .i64 (8 * 8))))) = some false := by
  rw [hw, hl]; rfl
 rw [hc, Xab, Xas, rqA, Int.toNat_natCast]
 obtain ⟨o, e, h1, h2⟩ := Xjm (f := Xa8 8 (Xhb p)) 64 (fun i s => s.length = 64 ∧ ∀ j : Nat, j < i → s.getD (Xbq 8 j).toNat 0 = p.getD (Xbq 8 j).toNat 0) (by
  intro i s hi ⟨g1, g2⟩
  have hp := Xc8 8 (Or.inr rfl) i (by omega)
  unfold Xa8
  simp only
  rw [hw, syA, Xcl 8 (Or.inr rfl) i (by omega), Xab, rqA, rqA, rqA, wkA, Int.toNat_natCast, Xvz p hi]
  refine ⟨_, rfl, by rw [List.length_set]; exact g1, fun j hj => ?_⟩
  rw [Xei _ _ _ _ (by omega)]
  by_cases h : (Xbq 8 i).toNat = (Xbq 8 j).toNat
  ·
   rw [if_pos h, h]
  ·
   rw [if_neg h]
   have : j ≠ i := fun e => h (by rw [e])
   exact g2 j (by omega)) (fun s _ => by unfold Xa8; rw [hw, Xan (by simp)]) (List.replicate (Xhb p).length 0) ⟨by rw [List.length_replicate]; exact hl, fun j hj => by omega⟩
 rw [e, Xab]
 congr 2
 refine Xnc h1 hp fun j hj => ?_
 obtain ⟨i, hi, hs⟩ := Ybk j hj
 have := h2 i hi
 rwa [hs, Int.toNat_natCast] at this
theorem Xrb {p l : List Int} {c : Xjd} (hc : Xje c = true) (hE : c.Exact = true) (hp : p.length = 64) (hb : inB 255 p) (h : Xbv p c = some (l, true)) (hl : Xwp l = true) : Xbl l c = some (p, true) ∧ l = Xhb p := by
 have e : l = Xhb p := by
  unfold Xbv at h
  rw [Xb8, Xab, hc, Xaw, Xbe p 64 255 (by omega) (by omega) (by omega) hb, Xab, Bool.not_true, Xab, Xas, hE, Xaw, Xxo p hp, Xab] at h
  injection h with h
  injection h with h _
  exact h.symm
 refine ⟨?_, e⟩
 obtain ⟨l1, l2⟩ := Xr1 hl
 unfold Xbl
 rw [Xb8, Xab, hc, Xaw, Xbe l 64 5000 (by omega) (by omega) (by omega) l2, Xab, Bool.not_true, Xab, Xas, hE, Xaw, e, Ycq p hp, Xab]
def Xr0 (g b : List Int) : List Int := (List.range 64).map fun i => Xbs (g.getD i 0 + b.getD i 0) 0 255
theorem Xon (g b : List Int) (hg : Xa9 g = true) (hl : b.length = 64) (hb : inB 10000000 b) : Xez g b = some (Xr0 g b) := by
 have hm : maxLen = 9223372036854775807 := rfl
 obtain ⟨g1, g2⟩ := Xa6 hg
 unfold Xez
 rw [Xc1 g hg, Xab, Xaw, Xbe b 64 10000000 (by omega) (by omega) (by omega) hb, Xab, Bool.not_true, Xab, Xas]
 have := Xyp (f := Xb9 g b) 64 (fun i => Xbs (g.getD i 0 + b.getD i 0) 0 255) [] (by
  intro i hi
  have ha := Xht hb (i := i) (by omega)
  have hd := g2 i hi
  unfold Xb9
  simp only [Int.toNat_natCast]
  rw [syA, rqA, rqA, wkA (e := g.getD i 0 + b.getD i 0), Xcs, Xab, Xbj (by simp only [List.length_append, List.length_nil, List.length_map, List.length_range, List.length_singleton]; omega), wkA (e := (i : Int) + 1)]
  rfl) (by unfold Xb9; rw [Xan (by simp)])
 rw [List.nil_append] at this
 rw [this, Xab]; rfl
theorem Yd0 {n : Int} (h : 0 ≤ n ∧ n ≤ 255) : Xbs n 0 255 = n := by
 unfold Xbs
 repeat' split
 all_goals omega
theorem Xvl {w g : List Int} (hw : Xa9 w = true) : Xr0 g (Xn5 w g) = w := by
 obtain ⟨w1, w2⟩ := Xa6 hw
 refine Xnc (by simp [Xr0]) w1 fun i hi => ?_
 have := w2 i hi
 rw [Xr0, Xf5 _ hi, Xqt _ _ hi, Yd0 (by omega)]; omega
theorem Xwt {now ref : Pic} {l t x y : Int} {c : Xjd} {q : Xby} (h : Yj8 now ref l t x y c q) (hq : Xxw q = true) (hL : Xwh q c = true) (hr : c.Key = false → Xdu ref = true) : ∃ d, Xds now ref l t c x y q = some (d, true) ∧ Xa9 d = true ∧
  ((q.Kind = 0 ∧ c.Key = false ∧ d = Xn2 ref (l + x) (t + y) 64) ∨ (q.Kind = 1 ∧ c.Key = false ∧ ∃ b, Xbl q.Levels c = some (b, true) ∧ d = Xr0 (Xn2 ref (l + x + q.Dx) (t + y + q.Dy) 64) b) ∨ (q.Kind = 2 ∧ ∃ e b g, Xdy now x y = some (e, true) ∧ Xmh e ∧ Xbl q.Levels c = some (b, true) ∧ Xck q.Mode e = some g ∧ Xa9 g = true ∧ d = Xr0 g b)) := by
 obtain ⟨d, _, ed, hd⟩ := Xjs h hq hL hr
 obtain ⟨ok, hx, hy, h0, hl, ht, hc, hs⟩ := h
 obtain ⟨k1, k2, k3⟩ := Xb2 ok
 have h0' := h0
 unfold Xcj at h0'
 rw [decide_eq_true_eq] at h0'
 have dxy := Ydm hq
 refine ⟨d, ed, hd, ?_⟩
 unfold Xds at ed
 rw [Xc2 ok hx hy h0, Xab, Xaw, Xag, Xab, decide_eq_true hl, Xaw, Xag, Xab, decide_eq_true ht, Xaw, Xmt, Xab, hq, Xaw, Xb8, Xab, hc, Bool.not_true, Xab, Xas] at ed
 by_cases h2 : q.Kind = 2
 ·
  obtain ⟨hm, hlv⟩ := Ydn hq h2
  obtain ⟨e, ee, he⟩ := Xj5 ok hx hy h0
  obtain ⟨b, eb, b1, b2⟩ := Xeh q.Levels c hc hlv
  obtain ⟨g, eg, hg⟩ := Xey q.Mode hm he
  rw [Xeu (by simpa using h2), ee, Xab, eb, Xab, eg, Xab, Xon g b hg b1 b2, Xab] at ed
  injection ed with ed
  injection ed with ed _
  exact .inr (.inr ⟨h2, e, b, g, ee, he, eb, eg, hg, ed.symm⟩)
 ·
  have hK : c.Key = false := by
   unfold Xwh at hL
   cases hk : c.Key with
   | false => rfl
   | true => rw [hk] at hL; simp at hL; exact absurd hL h2
  have rok := hr hK
  rw [Xd5 (b := q.Kind == 2) (by simpa using h2), hK, Xas, Xd6, Xab, rok, Bool.not_true, Xab, Xas, wkA (e := l + x), wkA (e := l + x + q.Dx), wkA (e := t + y), wkA (e := t + y + q.Dy), Xdp rok _ _ (by omega) (by omega), Xab] at ed
  by_cases h3 : q.Kind = 0
  ·
   obtain ⟨z1, z2⟩ := Xwj hq h3
   rw [Xeu (b := q.Kind == 0) (by simpa using h3), z1, z2, Int.add_zero, Int.add_zero] at ed
   injection ed with ed
   injection ed with ed _
   exact .inl ⟨h3, hK, ed.symm⟩
  ·
   have h1 : q.Kind = 1 := by have := Xwi hq; omega
   obtain ⟨_, _, hlv⟩ := Xz0 hq h1
   obtain ⟨b, eb, b1, b2⟩ := Xeh q.Levels c hc hlv
   rw [Xd5 (b := q.Kind == 0) (by simpa using h3), eb, Xab, Xon _ b (Xd8 _ _ _) b1 b2, Xab] at ed
   injection ed with ed
   injection ed with ed _
   exact .inr (.inl ⟨h1, hK, b, eb, ed.symm⟩)
theorem Yd3 {now ref : Pic} {w : List Int} {x y : Int} {c : Xjd} {r : Int} {q : Xby} (H : Yj9 now ref w x y c r) (hE : c.Exact = true) (hq : Xpo now ref w x y c r q) {d : List Int} (hd : Xds now ref 0 0 c x y q = some (d, true)) : d = w := by
 obtain ⟨q1, q2, q3⟩ := hq.ok H.hr
 have SD : Yj8 now ref 0 0 x y c q := ⟨H.ok, H.hx, H.hy, H.h0, by omega, by omega, H.hc, by omega⟩
 obtain ⟨d', e', _, hv⟩ := Xwt SD q1 q2 (fun h => (H.hk h).1)
 rw [hd] at e'
 injection e' with e'
 injection e' with e' _
 subst e'
 have wl := (Xa6 H.hw).1
 rw [Int.zero_add, Int.zero_add] at hv
 cases hq with
 | same hK h =>
  rcases hv with ⟨_, _, e⟩ | ⟨k, _⟩ | ⟨k, _⟩
  ·
   rw [e]; exact (Xnc wl (Xgf _ _ _ _) h).symm
  ·
   simp at k
  ·
   simp at k
 | still hK l h hl hz =>
  rcases hv with ⟨_, _, e⟩ | ⟨k, _⟩ | ⟨k, _⟩
  ·
   obtain ⟨_, es⟩ := Xrb H.hc hE (Xfw _ _) (Xl6 H.hw (Xd8 ref x y)) h hl
   rw [e]
   refine Xnc (Xgf _ _ _ _) wl fun j hj => ?_
   obtain ⟨i, hi, hs⟩ := Ybk j hj
   have := hz i hi
   rw [es, Xvz _ hi, hs, Int.toNat_natCast, Xqt _ _ hj] at this
   omega
  ·
   simp at k
  ·
   simp at k
 | move hK dx dy hdx hdy hh l h hl hn =>
  rcases hv with ⟨k, _⟩ | ⟨_, _, b, eb, e⟩ | ⟨k, _⟩
  ·
   simp at k
  ·
   obtain ⟨ex, _⟩ := Xrb H.hc hE (Xfw _ _) (Xl6 H.hw (Xd8 ref (x + dx) (y + dy))) h hl
   simp only at eb e
   rw [ex] at eb
   injection eb with eb
   injection eb with eb _
   rw [e, ← eb]; exact Xvl H.hw
  ·
   simp at k
 | guess e he hp m hm g hg hgd l h hl hn =>
  rcases hv with ⟨k, _⟩ | ⟨k, _⟩ | ⟨_, e2, b, g2, ee, _, eb, eg, _, ed⟩
  ·
   simp at k
  ·
   simp at k
  ·
   obtain ⟨ex, _⟩ := Xrb H.hc hE (Xfw _ _) (Xl6 H.hw hgd) h hl
   simp only at eb eg
   rw [he] at ee
   injection ee with ee
   injection ee with ee _
   rw [← ee, hg] at eg
   injection eg with eg
   rw [ex] at eb
   injection eb with eb
   injection eb with eb _
   rw [ed, ← eb, ← eg]; exact Xvl H.hw
theorem Xkn (l : List Int) (hl : l.length ≤ 1000000000) : Xfd l l = some true := by
 unfold Xfd
 rw [bne_self_eq_false, Xas, Xqx l.length (f := Xea l l) (by
  intro i hi
  unfold Xea
  rw [syA, rqA, rqA, bne_self_eq_false, Xas, wkA]
  rfl) (by unfold Xea; rw [snA]), Xab]
theorem Xwd (u : Xa0) (hu : Xi7 u) : ∃ c u', Xi2 u = some (c, u') ∧ Xje c = true ∧ Xi7 u' := by
 unfold Xi2
 obtain ⟨p, u1, e1, hp, h1⟩ := Xpl u hu
 obtain ⟨b, u2, e2, h2⟩ := Xka u1 2 h1
 rw [e1, Xab, e2, Xab]
 refine ⟨_, _, rfl, ?_, h2⟩
 unfold Xje
 exact hp
theorem Xtq (b : List Int) (hb : b.length ≤ 1048576) : ∃ c, Xhe b = some c ∧ Xje c = true := by
 unfold Xhe
 obtain ⟨u, e, hu⟩ := Xk5 b hb
 obtain ⟨c, u', e2, hc, _⟩ := Xwd u hu
 rw [e, Xab, e2, Xab]
 exact ⟨_, rfl, hc⟩
theorem FnSquareFor {p0 : List Int} (h0 : p0.length ≤ maxLen ∧ ∀ y ∈ p0, (Lit.int .u8 y).wf = true) : Xf9 p0 = some true := by
 have hm : maxLen = 9223372036854775807 := rfl
 unfold Xf9
 rw [Ycb, Xab]
 by_cases hb : (p0.length : Int) > 1048576
 ·
  rw [Xbk hb]
 rw [Xan hb]
 obtain ⟨src, ref, e, pw, ph, ok, qw, qh, ok2⟩ := Xts p0 (by omega)
 obtain ⟨c, ec, hc⟩ := Xtq p0 (by omega)
 obtain ⟨l, el, ll, lb⟩ := Xq1 p0 (by omega)
 rw [e, Xab, ec, Xab, el, Xab]
 simp only
 have at_ : ∀ i : Nat, i < 12 → 0 ≤ l.getD i 0 ∧ l.getD i 0 < 10000 := fun i hi => lb _ (by rw [Xee l i (by omega)]; exact List.getElem_mem _)
 have a0 := at_ 0 (by omega)
 have a1 := at_ 1 (by omega)
 have a2 := at_ 2 (by omega)
 rw [show ((0 : Int).toNat) = 0 from rfl, show ((1 : Int).toNat) = 1 from rfl, show ((2 : Int).toNat) = 2 from rfl]
 generalize l.getD 0 0 = u at *
 generalize l.getD 1 0 = v at *
 generalize l.getD 2 0 = t at *
 have dw : Xaa .i64 (ref.Wide.tdiv 8) = ref.Wide / 8 := by rw [Xcb (by omega), wkA]
 have dh : Xaa .i64 (ref.High.tdiv 8) = ref.High / 8 := by rw [Xcb (by omega), wkA]
 rw [dw, dh]
 have um : 0 ≤ u.tmod (ref.Wide / 8) ∧ 8 * u.tmod (ref.Wide / 8) ≤ ref.Wide - 8 := by
  rw [Xcy a0.1]
  have := Int.emod_nonneg u (show ref.Wide / 8 ≠ 0 by omega)
  have := Int.emod_lt_of_pos u (show 0 < ref.Wide / 8 by omega)
  omega
 have vm : 0 ≤ v.tmod (ref.High / 8) ∧ 8 * v.tmod (ref.High / 8) ≤ ref.High - 8 := by
  rw [Xcy a1.1]
  have := Int.emod_nonneg v (show ref.High / 8 ≠ 0 by omega)
  have := Int.emod_lt_of_pos v (show 0 < ref.High / 8 by omega)
  omega
 have tm : 0 ≤ t.tmod 3 ∧ t.tmod 3 ≤ 2 := by rw [Xcy a2.1]; omega
 rw [rqA, rqA, rqA, rqA, rqA, rqA, rqA, rqA]
 generalize u.tmod (ref.Wide / 8) = x' at *
 generalize v.tmod (ref.High / 8) = y' at *
 generalize t.tmod 3 = r at *
 rw [wkA (e := 8 * x'), wkA (e := 8 * y')]
 have hx : (8 * x').tmod 8 = 0 := by rw [Xcy (by omega)]; omega
 have hy : (8 * y').tmod 8 = 0 := by rw [Xcy (by omega)]; omega
 have hx0 : 0 ≤ 8 * x' := by omega
 have hy0 : 0 ≤ 8 * y' := by omega
 generalize 8 * x' = x at *
 generalize 8 * y' = y at *
 have held : Xcj ref x y = true := by unfold Xcj; rw [decide_eq_true_eq]; omega
 have hd := Xd8 src x y
 have SF : Yj9 ref ref (Xn2 src x y 64) x y c r := ⟨ok2, hx, hy, held, hd, hc, by omega, fun _ => ⟨ok2, rfl, rfl⟩⟩
 obtain ⟨q, d, es, _, hq, ed, hdd⟩ := Xym SF
 obtain ⟨q1, q2, q3⟩ := hq.ok SF.hr
 obtain ⟨d', ei', es', _⟩ := Xjs (now := ref) (ref := ref) (l := 0) (t := 0) (x := x) (y := y) (c := c) (q := q) ⟨ok2, hx, hy, held, by omega, by omega, hc, by omega⟩ q1 q2 (fun _ => ok2)
 rw [ed] at ei'
 injection ei' with ei'
 injection ei' with ei' _
 subst ei'
 have dl := (Xa6 hdd).1
 rw [Xdp ok x y (by omega) (by omega), Xab, List.nil_append, Xgf, Xbj (by simp only [List.length_nil]; omega), rqA, rqA, rqA, es, Xab]
 simp only
 rw [ed, Xab]
 simp only
 rw [Xaw, Xaw, Xmm q (by omega), Xab, q1, Xaw, Xeu (by rw [dl]; rfl), Xkn d (by omega), Xab, Xaw]
 cases hE : c.Exact with
 | false => rfl
 | true =>
  rw [Yd3 SF hE hq es', Xaw, Xkn _ (by rw [Xgf]; omega), Xab, Xab]
end Go.Proofs.Ytlebkepfhdjnmac.A.Pure
