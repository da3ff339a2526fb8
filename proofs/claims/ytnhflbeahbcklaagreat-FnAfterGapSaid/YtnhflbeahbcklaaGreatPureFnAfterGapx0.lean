/- The pure statement of the law FnAfterGap, part 1: over numbers, texts and lists alone, what the law computes is true. Conditions: the sizes of what a machine holds. -/
import Derived.Test.YtnhflbeahbcklaaGreatDFnAfterGap
namespace Go.Proofs.YtnhflbeahbcklaaGreat.A.Pure
open Go Go.Proofs Go.Proofs.YtnhflbeahbcklaaGreatAL Go.RowKit
set_option linter.unusedVariables false
set_option linter.unusedSimpArgs false
set_option maxHeartbeats 1000000
noncomputable section
def Xil (p0 : (List Int)) (p1 : Int) (v2 : (Int × Int)) : Option (Lp (Int × Int) Int) :=
 sel (decide (v2.2 < p1)) (
 req (0 ≤ v2.2 ∧ v2.2 < p0.length) <|
 some (.go (Xaa .i64 (v2.1 + (p0.getD v2.2.toNat 0)), Xaa .i64 (v2.2 + 1)))) (
 some (.done v2.1))
def Xqt (p0 : (List Int)) (p1 : Int) : Option Int :=
 bnd (loop (Xil p0 p1) (0, 0)) fun v4 =>
 some v4
def Xss (p0 : Seq) (p1 : Int) : Option (Yxj × Bool) :=
 bnd (
 sel (decide (p1 < 0)) (
 some true) (
 bnd (Xki p0) fun q2 =>
 some (decide (p1 ≥ q2)))) fun v1 =>
 sel v1 (
 some ((⟨0, 0, 0, 0⟩ : Yxj), false)) (
 req ((p0.Cols.length : Int) ≠ 0) <|
 req ((p0.Cols.length : Int) ≠ 0) <|
 bnd (Xqt p0.Cols (p1.tmod (p0.Cols.length : Int))) fun q3 =>
 bnd (Xqt p0.Rows (Xaa .i64 (p1.tdiv (p0.Cols.length : Int)))) fun q4 =>
 req (0 ≤ (p1.tmod (p0.Cols.length : Int)) ∧ (p1.tmod (p0.Cols.length : Int)) < p0.Cols.length) <|
 req (0 ≤ (Xaa .i64 (p1.tdiv (p0.Cols.length : Int))) ∧ (Xaa .i64 (p1.tdiv (p0.Cols.length : Int))) < p0.Rows.length) <|
 some ((⟨Xaa .i64 (8 * q3), Xaa .i64 (8 * q4), Xaa .i64 (8 * (p0.Cols.getD (p1.tmod (p0.Cols.length : Int)).toNat 0)), Xaa .i64 (8 * (p0.Rows.getD (Xaa .i64 (p1.tdiv (p0.Cols.length : Int))).toNat 0))⟩ : Yxj), true))
def Xgn (p0 : Seq) (p1 : Int) : Option Int :=
 bnd (Xss p0 p1) fun q1 =>
 req ((8 : Int) ≠ 0) <|
 req ((8 : Int) ≠ 0) <|
 some (Xaa .i64 ((Xaa .i64 (q1.1.Wide.tdiv 8)) * (Xaa .i64 (q1.1.High.tdiv 8))))
def Xmq (p0 : Xe9) : Option Bool :=
 bnd (
 bnd (Xan p0.Qp 0 40) fun q2 =>
 sel q2 (
 sel p0.Large (
 some (!p0.Exact)) (
 some true)) (
 some false)) fun v1 =>
 some v1
def Xe4 (p0 : (List Int)) (p1 : Int) (p2 : Int) (v3 : Int) : Option (Lp Int (Ou Unit Bool)) :=
 sel (decide (v3 < p1)) (
 req (0 ≤ v3 ∧ v3 < p0.length) <|
 bnd (Xan (p0.getD v3.toNat 0) (Xaa .i64 (0 - p2)) p2) fun q7 =>
 sel (!q7) (
 some (.done (.ret false))) (
 some (.go (Xaa .i64 (v3 + 1))))) (
 some (.done (.out ())))
def Xcc (p0 : (List Int)) (p1 : Int) (p2 : Int) : Option Bool :=
 sel ((p0.length : Int) != p1) (
 some false) (
 bnd (loop (Xe4 p0 p1 p2) 0) fun o8 => match o8 with
| .out v6 => (
 some true)
| .ret r => some r)
def Xsr (p0 : Xam) : Option Bool :=
 sel (p0.Kind == 0) (
 bnd (
 sel (p0.Mode == 0) (
 sel (p0.Dx == 0) (
 sel (p0.Dy == 0) (
 some ((p0.Levels.length : Int) == 0)) (
 some false)) (
 some false)) (
 some false)) fun v1 =>
 some v1) (
 sel (p0.Kind == 1) (
 bnd (
 sel (p0.Mode == 0) (
 bnd (Xan p0.Dx (-16) 16) fun q3 =>
 sel q3 (
 bnd (Xan p0.Dy (-16) 16) fun q4 =>
 sel q4 (
 bnd (Xcc p0.Levels 64 5000) fun q5 =>
 some q5) (
 some false)) (
 some false)) (
 some false)) fun v2 =>
 some v2) (
 sel (p0.Kind == 2) (
 bnd (
 bnd (Xan p0.Mode 0 3) fun q7 =>
 sel q7 (
 sel (p0.Dx == 0) (
 sel (p0.Dy == 0) (
 bnd (Xcc p0.Levels 64 5000) fun q8 =>
 some q8) (
 some false)) (
 some false)) (
 some false)) fun v6 =>
 some v6) (
 some false)))
def Xnd (p0 : Pic) (p1 : Int) (p2 : Int) (p3 : Int) (p4 : Int) : Option Bool :=
 bnd (
 bnd (Xfr p0) fun q2 =>
 sel q2 (
 bnd (Xan p3 1 p0.Wide) fun q3 =>
 sel q3 (
 bnd (Xan p4 1 p0.High) fun q4 =>
 sel q4 (
 bnd (Xan p1 0 (Xaa .i64 (p0.Wide - p3))) fun q5 =>
 sel q5 (
 bnd (Xan p2 0 (Xaa .i64 (p0.High - p4))) fun q6 =>
 some q6) (
 some false)) (
 some false)) (
 some false)) (
 some false)) fun v1 =>
 some v1
def Xll (p0 : Int) (p1 : Int) (v2 : (Int × (List Int))) : Option (Lp (Int × (List Int)) (List Int)) :=
 sel (decide (v2.1 < p0)) (
 req (0 ≤ v2.1 ∧ v2.1 < v2.2.length) <|
 req (v2.1.toNat < v2.2.length) <|
 some (.go (Xaa .i64 (v2.1 + 1), (v2.2.set v2.1.toNat p1)))) (
 some (.done v2.2))
def Xug (p0 : Int) (p1 : Int) : Option ByteArray :=
 req (0 ≤ p0 ∧ p0 ≤ p0 ∧ p0 * 1 ≤ 281474976710656) <|
 bnd (loop (Xll p0 p1) (0, (List.replicate p0.toNat (0 : Int)))) fun v4 =>
 some (strOfNums v4)
def Xkl (p0 : Pic) (p1 : Int) (p2 : Int) : Option Bool :=
 bnd (
 req ((8 : Int) ≠ 0) <|
 sel ((p1.tmod 8) == 0) (
 req ((8 : Int) ≠ 0) <|
 sel ((p2.tmod 8) == 0) (
 bnd (Xnd p0 p1 p2 8 8) fun q2 =>
 some q2) (
 some false)) (
 some false)) fun v1 =>
 some v1
def Xfo (p0 : Pic) (p1 : Int) (p2 : Int) (v7 : (Int × (List Int) × (List Int))) : Option (Lp (Int × (List Int) × (List Int)) ((List Int) × (List Int))) :=
 sel (decide (v7.1 < 8)) (
 bnd (
 bnd (
 sel (decide (p2 > 0)) (
 bnd (Xep p0 (Xaa .i64 (p1 + v7.1)) (Xaa .i64 (p2 - 1))) fun q16 =>
 req ((v7.2.1.length + ([q16]).length) * 8 ≤ 140737488355328 ∧ v7.2.1.length + ([q16]).length ≤ maxLen) <|
 some (v7.2.1 ++ ([q16]))) (
 some v7.2.1)) fun v15 =>
 sel (decide (p1 > 0)) (
 bnd (Xep p0 (Xaa .i64 (p1 - 1)) (Xaa .i64 (p2 + v7.1))) fun q17 =>
 req ((v7.2.2.length + ([q17]).length) * 8 ≤ 140737488355328 ∧ v7.2.2.length + ([q17]).length ≤ maxLen) <|
 some (v15, (v7.2.2 ++ ([q17])))) (
 some (v15, v7.2.2))) fun v14 =>
 some (.go (Xaa .i64 (v7.1 + 1), v14.1, v14.2))) (
 some (.done (v7.2.1, v7.2.2)))
def Xhz (p0 : Pic) (p1 : Int) (p2 : Int) : Option (Xiw × Bool) :=
 bnd (Xkl p0 p1 p2) fun q1 =>
 sel (!q1) (
 some ((⟨[], [], 0⟩ : Xiw), false)) (
 bnd (loop (Xfo p0 p1 p2) (0, [], [])) fun v13 =>
 bnd (
 bnd (
 sel (decide (p1 > 0)) (
 some (decide (p2 > 0))) (
 some false)) fun v20 =>
 sel v20 (
 bnd (Xep p0 (Xaa .i64 (p1 - 1)) (Xaa .i64 (p2 - 1))) fun q21 =>
 some q21) (
 some (-1))) fun v19 =>
 some ((⟨v13.1, v13.2, v19⟩ : Xiw), true))
def Xue (p0 : Int) (p1 : Int) (v17 : (Int × Int)) (v38 : (Int × Int)) : Option (Lp (Int × Int) (Ou Int Int)) :=
 sel (decide (v38.2 < p0)) (
 Yh8 (fun (v44 : Int) =>
 some (.go (v44, Xaa .i64 (v38.2 + 1)))) fun j36 =>
 bnd (
 req ((2 : Int) ≠ 0) <|
 sel ((v17.2.tmod 2) == 0) (
 some (Xaa .i64 ((Xaa .i64 (p0 - 1)) - v38.2))) (
 some v38.2)) fun v45 =>
 bnd (Xan (Xaa .i64 (v17.2 - v45)) 0 (Xaa .i64 (p0 - 1))) fun q46 =>
 sel (!q46) (
 j36 v38.1) (
 sel (v38.1 == p1) (
 some (.done (.ret (Xaa .i64 ((Xaa .i64 ((Xaa .i64 (p0 * v45)) + v17.2)) - v45))))) (
 j36 (Xaa .i64 (v38.1 + 1))))) (
 some (.done (.out v38.1)))
def Xpp (p0 : Int) (p1 : Int) (v17 : (Int × Int)) : Option (Lp (Int × Int) (Ou Unit Int)) :=
 sel (decide (v17.2 ≤ (Xaa .i64 ((Xaa .i64 (2 * p0)) - 2)))) (
 bnd (loop (Xue p0 p1 v17) (v17.1, 0)) fun o47 => match o47 with
| .out v43 => (
 some (.go (v43, Xaa .i64 (v17.2 + 1))))
| .ret r => some (.done (.ret r))) (
 some (.done (.out ())))
def Xsn (p0 : Int) (p1 : Int) : Option Int :=
 bnd (
 sel (p0 != 4) (
 sel (p0 != 8) (
 some true) (
 sel (decide (p1 < 0)) (
 some true) (
 some (decide (p1 ≥ (Xaa .i64 (p0 * p0))))))) (
 sel (decide (p1 < 0)) (
 some true) (
 some (decide (p1 ≥ (Xaa .i64 (p0 * p0))))))) fun v1 =>
 sel v1 (
 some (-1)) (
 bnd (loop (Xpp p0 p1) (0, 0)) fun o48 => match o48 with
| .out v33 => (
 some (-1))
| .ret r => some r)
def Xc3 (p0 : Int) (p1 : (List Int)) (v4 : (Int × (List Int))) : Option (Lp (Int × (List Int)) (List Int)) :=
 sel (decide (v4.1 < (Xaa .i64 (p0 * p0)))) (
 bnd (Xsn p0 v4.1) fun q8 =>
 req (0 ≤ v4.1 ∧ v4.1 < p1.length) <|
 req (0 ≤ q8 ∧ q8 < v4.2.length) <|
 req (q8.toNat < v4.2.length) <|
 some (.go (Xaa .i64 (v4.1 + 1), (v4.2.set q8.toNat (p1.getD v4.1.toNat 0))))) (
 some (.done v4.2))
def Xe3 (p0 : Int) (p1 : (List Int)) : Option ((List Int) × Bool) :=
 bnd (
 sel (p0 != 4) (
 sel (p0 != 8) (
 some true) (
 some ((p1.length : Int) != (Xaa .i64 (p0 * p0))))) (
 some ((p1.length : Int) != (Xaa .i64 (p0 * p0))))) fun v1 =>
 sel v1 (
 some (([] : List Int), false)) (
 req (0 ≤ (p1.length : Int) ∧ (p1.length : Int) ≤ (p1.length : Int) ∧ (p1.length : Int) * 8 ≤ 281474976710656) <|
 bnd (loop (Xc3 p0 p1) (0, (List.replicate (p1.length : Int).toNat (0 : Int)))) fun v7 =>
 some (v7, true))
def Xm9 (p0 : Int) (v4 : (Int × Int)) : Option (Lp (Int × Int) Int) :=
 req ((6 : Int) ≠ 0) <|
 sel (decide (v4.2 < (Xaa .i64 (p0.tdiv 6)))) (
 some (.go (Xaa .i64 (2 * v4.1), Xaa .i64 (v4.2 + 1)))) (
 some (.done v4.1))
def Xjy (p0 : Int) : Option Int :=
 bnd (Xan p0 0 40) fun q1 =>
 sel (!q1) (
 some 0) (
 bnd (
 req ((6 : Int) ≠ 0) <|
 sel ((p0.tmod 6) == 0) (
 some 10) (
 sel ((p0.tmod 6) == 1) (
 some 11) (
 sel ((p0.tmod 6) == 2) (
 some 13) (
 sel ((p0.tmod 6) == 3) (
 some 14) (
 sel ((p0.tmod 6) == 4) (
 some 16) (
 some 18)))))) fun v2 =>
 bnd (loop (Xm9 p0) (v2, 0)) fun v6 =>
 some v6)
def Xja (p0 : Int) (p1 : Int) : Option Int :=
 bnd (Xan p0 (-5000) 5000) fun q1 =>
 sel (!q1) (
 some 0) (
 bnd (Xjy p1) fun q2 =>
 some (Xaa .i64 (p0 * q2)))
def Xm7 (v6 : (Int × Int)) : Option (Lp (Int × Int) Int) :=
 sel (decide (v6.2 > 0)) (
 bnd (
 req ((2 : Int) ≠ 0) <|
 sel ((v6.2.tmod 2) == 1) (
 some (Xaa .i64 (0 - v6.1))) (
 some v6.1)) fun v10 =>
 req ((2 : Int) ≠ 0) <|
 some (.go (v10, Xaa .i64 (v6.2.tdiv 2)))) (
 some (.done v6.1))
def Xmt (p0 : Int) (p1 : Int) : Option Int :=
 bnd (
 bnd (Xan p0 0 7) fun q2 =>
 sel q2 (
 bnd (Xan p1 0 7) fun q3 =>
 some (!q3)) (
 some true)) fun v1 =>
 sel v1 (
 some 0) (
 bnd (loop (Xm7) (1, (IntKind.wrap .i64 (BitVec.ofInt (IntKind.bits .i64) p0 &&& BitVec.ofInt (IntKind.bits .i64) p1).toNat))) fun v9 =>
 some v9)
def Xe5 (p0 : (List Int)) (p1 : Int) (p2 : Int) (v3 : (Int × Int)) : Option (Lp (Int × Int) Int) :=
 sel (decide (v3.2 < 8)) (
 req (0 ≤ (Xaa .i64 ((Xaa .i64 (8 * p1)) + v3.2)) ∧ (Xaa .i64 ((Xaa .i64 (8 * p1)) + v3.2)) < p0.length) <|
 bnd (Xmt p2 v3.2) fun q7 =>
 some (.go (Xaa .i64 (v3.1 + (Xaa .i64 ((p0.getD (Xaa .i64 ((Xaa .i64 (8 * p1)) + v3.2)).toNat 0) * q7))), Xaa .i64 (v3.2 + 1)))) (
 some (.done v3.1))
def Xpr (p0 : (List Int)) (p1 : Int) (p2 : Int) : Option Int :=
 bnd (loop (Xe5 p0 p1 p2) (0, 0)) fun v6 =>
 some v6
def Xdj (p0 : (List Int)) (v10 : (Int × (List Int))) (v23 : (Int × (List Int))) : Option (Lp (Int × (List Int)) (List Int)) :=
 sel (decide (v23.1 < 8)) (
 bnd (Xpr p0 v10.1 v23.1) fun q27 =>
 req ((v23.2.length + ([q27]).length) * 8 ≤ 140737488355328 ∧ v23.2.length + ([q27]).length ≤ maxLen) <|
 some (.go (Xaa .i64 (v23.1 + 1), (v23.2 ++ ([q27]))))) (
 some (.done v23.2))
def Xdi (p0 : (List Int)) (v10 : (Int × (List Int))) : Option (Lp (Int × (List Int)) (List Int)) :=
 sel (decide (v10.1 < 8)) (
 bnd (loop (Xdj p0 v10) (0, v10.2)) fun v26 =>
 some (.go (Xaa .i64 (v10.1 + 1), v26))) (
 some (.done v10.2))
def Xc6 (v20 : (List Int)) (v60 : (Int × (List Int))) (v101 : (Int × (List Int))) (v114 : (Int × Int)) : Option (Lp (Int × Int) Int) :=
 sel (decide (v114.2 < 8)) (
 bnd (Xmt v60.1 v114.2) fun q118 =>
 req (0 ≤ (Xaa .i64 ((Xaa .i64 (8 * v114.2)) + v101.1)) ∧ (Xaa .i64 ((Xaa .i64 (8 * v114.2)) + v101.1)) < v20.length) <|
 req ((Xaa .i64 ((Xaa .i64 (8 * v114.2)) + v101.1)).toNat < v20.length) <|
 some (.go (Xaa .i64 (v114.1 + (Xaa .i64 (q118 * (v20.getD ((Xaa .i64 ((Xaa .i64 (8 * v114.2)) + v101.1)).toNat) 0)))), Xaa .i64 (v114.2 + 1)))) (
 some (.done v114.1))
def Xc5 (v20 : (List Int)) (v60 : (Int × (List Int))) (v101 : (Int × (List Int))) : Option (Lp (Int × (List Int)) (List Int)) :=
 sel (decide (v101.1 < 8)) (
 bnd (loop (Xc6 v20 v60 v101) (0, 0)) fun v117 =>
 req ((v101.2.length + ([v117]).length) * 8 ≤ 140737488355328 ∧ v101.2.length + ([v117]).length ≤ maxLen) <|
 some (.go (Xaa .i64 (v101.1 + 1), (v101.2 ++ ([v117]))))) (
 some (.done v101.2))
def Xc4 (v20 : (List Int)) (v60 : (Int × (List Int))) : Option (Lp (Int × (List Int)) (List Int)) :=
 sel (decide (v60.1 < 8)) (
 bnd (loop (Xc5 v20 v60) (0, v60.2)) fun v111 =>
 some (.go (Xaa .i64 (v60.1 + 1), v111))) (
 some (.done v60.2))
def Xkk (p0 : (List Int)) : Option (List Int) :=
 bnd (loop (Xdi p0) (0, ([] : List Int))) fun v20 =>
 bnd (loop (Xc4 v20) (0, ([] : List Int))) fun v91 =>
 some v91
def Xdy (p0 : Int) (p1 : Int) : Option Int :=
 req (p1 ≠ 0) <|
 bnd (
 req (p1 ≠ 0) <|
 sel (decide ((p0.tmod p1) < 0)) (
 some (Xaa .i64 ((Xaa .i64 (p0.tdiv p1)) - 1))) (
 some (Xaa .i64 (p0.tdiv p1)))) fun v1 =>
 some v1
def Xik (v5 : (Int × (List Int))) : Option (Lp (Int × (List Int)) (List Int)) :=
 sel (decide (v5.1 < 64)) (
 req (0 ≤ v5.1 ∧ v5.1 < v5.2.length) <|
 req (v5.1.toNat < v5.2.length) <|
 bnd (Xdy (Xaa .i64 ((v5.2.getD v5.1.toNat 0) + 32)) 64) fun q9 =>
 req (0 ≤ v5.1 ∧ v5.1 < v5.2.length) <|
 req (v5.1.toNat < v5.2.length) <|
 some (.go (Xaa .i64 (v5.1 + 1), (v5.2.set v5.1.toNat q9)))) (
 some (.done v5.2))
def Xi9 (p0 : (List Int)) : Option (List Int) :=
 bnd (Xcc p0 64 10000000) fun q1 =>
 sel (!q1) (
 some ([] : List Int)) (
 bnd (Xkk p0) fun q2 =>
 bnd (loop (Xik) (0, q2)) fun v8 =>
 some v8)
def Xpn (p0 : Int) : Option Int :=
 bnd (Xan p0 0 15) fun q1 =>
 sel (!q1) (
 some (-1)) (
 req ((4 : Int) ≠ 0) <|
 req ((2 : Int) ≠ 0) <|
 req ((4 : Int) ≠ 0) <|
 req ((2 : Int) ≠ 0) <|
 bnd (
 sel (((Xaa .i64 (p0.tdiv 4)).tmod 2) == 0) (
 some (((p0.tmod 4).tmod 2) == 0)) (
 some false)) fun v2 =>
 sel v2 (
 some 0) (
 bnd (
 sel (((Xaa .i64 (p0.tdiv 4)).tmod 2) == 1) (
 some (((p0.tmod 4).tmod 2) == 1)) (
 some false)) fun v3 =>
 sel v3 (
 some 1) (
 some 2)))
def Xbc (p0 : Int) (p1 : Int) (p2 : Int) (p3 : Int) : Option Int :=
 sel (p0 == 0) (
 some p1) (
 sel (p0 == 1) (
 some p2) (
 some p3))
def Xfs (p0 : Int) (v12 : (Int × Int)) : Option (Lp (Int × Int) Int) :=
 req ((6 : Int) ≠ 0) <|
 sel (decide (v12.2 < (Xaa .i64 (p0.tdiv 6)))) (
 some (.go (Xaa .i64 (2 * v12.1), Xaa .i64 (v12.2 + 1)))) (
 some (.done v12.1))
def Xnt (p0 : Int) (p1 : Int) : Option Int :=
 bnd (Xpn p1) fun q1 =>
 bnd (
 bnd (Xan p0 0 40) fun q3 =>
 sel q3 (
 some (decide (q1 < 0))) (
 some true)) fun v2 =>
 sel v2 (
 some 0) (
 bnd (
 req ((6 : Int) ≠ 0) <|
 sel ((p0.tmod 6) == 0) (
 bnd (Xbc q1 10 16 13) fun q5 =>
 some q5) (
 sel ((p0.tmod 6) == 1) (
 bnd (Xbc q1 11 18 14) fun q6 =>
 some q6) (
 sel ((p0.tmod 6) == 2) (
 bnd (Xbc q1 13 20 16) fun q7 =>
 some q7) (
 sel ((p0.tmod 6) == 3) (
 bnd (Xbc q1 14 23 18) fun q8 =>
 some q8) (
 sel ((p0.tmod 6) == 4) (
 bnd (Xbc q1 16 25 20) fun q9 =>
 some q9) (
 sel ((p0.tmod 6) == 5) (
 bnd (Xbc q1 18 29 23) fun q10 =>
 some q10) (
 some 0))))))) fun v4 =>
 bnd (loop (Xfs p0) (v4, 0)) fun v14 =>
 some v14)
def Xjb (p0 : Int) (p1 : Int) (p2 : Int) : Option Int :=
 bnd (Xan p0 (-5000) 5000) fun q1 =>
 sel (!q1) (
 some 0) (
 bnd (Xnt p1 p2) fun q2 =>
 some (Xaa .i64 (p0 * q2)))
def Xdh (p0 : (List Int)) (v4 : (Int × (List Int))) : Option (Lp (Int × (List Int)) (List Int)) :=
 sel (decide (v4.1 < 4)) (
 req (0 ≤ (Xaa .i64 (4 * v4.1)) ∧ (Xaa .i64 (4 * v4.1)) < p0.length) <|
 req (0 ≤ (Xaa .i64 ((Xaa .i64 (4 * v4.1)) + 1)) ∧ (Xaa .i64 ((Xaa .i64 (4 * v4.1)) + 1)) < p0.length) <|
 req (0 ≤ (Xaa .i64 ((Xaa .i64 (4 * v4.1)) + 2)) ∧ (Xaa .i64 ((Xaa .i64 (4 * v4.1)) + 2)) < p0.length) <|
 req (0 ≤ (Xaa .i64 ((Xaa .i64 (4 * v4.1)) + 3)) ∧ (Xaa .i64 ((Xaa .i64 (4 * v4.1)) + 3)) < p0.length) <|
 bnd (Xdy (p0.getD (Xaa .i64 ((Xaa .i64 (4 * v4.1)) + 1)).toNat 0) 2) fun q9 =>
 bnd (Xdy (p0.getD (Xaa .i64 ((Xaa .i64 (4 * v4.1)) + 3)).toNat 0) 2) fun q10 =>
 req ((v4.2.length + ([Xaa .i64 ((Xaa .i64 ((p0.getD (Xaa .i64 (4 * v4.1)).toNat 0) + (p0.getD (Xaa .i64 ((Xaa .i64 (4 * v4.1)) + 2)).toNat 0))) + (Xaa .i64 ((p0.getD (Xaa .i64 ((Xaa .i64 (4 * v4.1)) + 1)).toNat 0) + q10))), Xaa .i64 ((Xaa .i64 ((p0.getD (Xaa .i64 (4 * v4.1)).toNat 0) - (p0.getD (Xaa .i64 ((Xaa .i64 (4 * v4.1)) + 2)).toNat 0))) + (Xaa .i64 (q9 - (p0.getD (Xaa .i64 ((Xaa .i64 (4 * v4.1)) + 3)).toNat 0)))), Xaa .i64 ((Xaa .i64 ((p0.getD (Xaa .i64 (4 * v4.1)).toNat 0) - (p0.getD (Xaa .i64 ((Xaa .i64 (4 * v4.1)) + 2)).toNat 0))) - (Xaa .i64 (q9 - (p0.getD (Xaa .i64 ((Xaa .i64 (4 * v4.1)) + 3)).toNat 0)))), Xaa .i64 ((Xaa .i64 ((p0.getD (Xaa .i64 (4 * v4.1)).toNat 0) + (p0.getD (Xaa .i64 ((Xaa .i64 (4 * v4.1)) + 2)).toNat 0))) - (Xaa .i64 ((p0.getD (Xaa .i64 ((Xaa .i64 (4 * v4.1)) + 1)).toNat 0) + q10)))]).length) * 8 ≤ 140737488355328 ∧ v4.2.length + ([Xaa .i64 ((Xaa .i64 ((p0.getD (Xaa .i64 (4 * v4.1)).toNat 0) + (p0.getD (Xaa .i64 ((Xaa .i64 (4 * v4.1)) + 2)).toNat 0))) + (Xaa .i64 ((p0.getD (Xaa .i64 ((Xaa .i64 (4 * v4.1)) + 1)).toNat 0) + q10))), Xaa .i64 ((Xaa .i64 ((p0.getD (Xaa .i64 (4 * v4.1)).toNat 0) - (p0.getD (Xaa .i64 ((Xaa .i64 (4 * v4.1)) + 2)).toNat 0))) + (Xaa .i64 (q9 - (p0.getD (Xaa .i64 ((Xaa .i64 (4 * v4.1)) + 3)).toNat 0)))), Xaa .i64 ((Xaa .i64 ((p0.getD (Xaa .i64 (4 * v4.1)).toNat 0) - (p0.getD (Xaa .i64 ((Xaa .i64 (4 * v4.1)) + 2)).toNat 0))) - (Xaa .i64 (q9 - (p0.getD (Xaa .i64 ((Xaa .i64 (4 * v4.1)) + 3)).toNat 0)))), Xaa .i64 ((Xaa .i64 ((p0.getD (Xaa .i64 (4 * v4.1)).toNat 0) + (p0.getD (Xaa .i64 ((Xaa .i64 (4 * v4.1)) + 2)).toNat 0))) - (Xaa .i64 ((p0.getD (Xaa .i64 ((Xaa .i64 (4 * v4.1)) + 1)).toNat 0) + q10)))]).length ≤ maxLen) <|
 some (.go (Xaa .i64 (v4.1 + 1), (v4.2 ++ ([Xaa .i64 ((Xaa .i64 ((p0.getD (Xaa .i64 (4 * v4.1)).toNat 0) + (p0.getD (Xaa .i64 ((Xaa .i64 (4 * v4.1)) + 2)).toNat 0))) + (Xaa .i64 ((p0.getD (Xaa .i64 ((Xaa .i64 (4 * v4.1)) + 1)).toNat 0) + q10))), Xaa .i64 ((Xaa .i64 ((p0.getD (Xaa .i64 (4 * v4.1)).toNat 0) - (p0.getD (Xaa .i64 ((Xaa .i64 (4 * v4.1)) + 2)).toNat 0))) + (Xaa .i64 (q9 - (p0.getD (Xaa .i64 ((Xaa .i64 (4 * v4.1)) + 3)).toNat 0)))), Xaa .i64 ((Xaa .i64 ((p0.getD (Xaa .i64 (4 * v4.1)).toNat 0) - (p0.getD (Xaa .i64 ((Xaa .i64 (4 * v4.1)) + 2)).toNat 0))) - (Xaa .i64 (q9 - (p0.getD (Xaa .i64 ((Xaa .i64 (4 * v4.1)) + 3)).toNat 0)))), Xaa .i64 ((Xaa .i64 ((p0.getD (Xaa .i64 (4 * v4.1)).toNat 0) + (p0.getD (Xaa .i64 ((Xaa .i64 (4 * v4.1)) + 2)).toNat 0))) - (Xaa .i64 ((p0.getD (Xaa .i64 ((Xaa .i64 (4 * v4.1)) + 1)).toNat 0) + q10)))]))))) (
 some (.done v4.2))
def Xim (p0 : (List Int)) : Option (List Int) :=
 bnd (loop (Xdh p0) (0, ([] : List Int))) fun v8 =>
 some v8
def Xed (p0 : (List Int)) (v2 : (Int × (List Int))) : Option (Lp (Int × (List Int)) (List Int)) :=
 sel (decide (v2.1 < 16)) (
 req ((4 : Int) ≠ 0) <|
 req ((4 : Int) ≠ 0) <|
 req (0 ≤ v2.1 ∧ v2.1 < p0.length) <|
 req (0 ≤ (Xaa .i64 ((Xaa .i64 ((v2.1.tmod 4) * 4)) + (Xaa .i64 (v2.1.tdiv 4)))) ∧ (Xaa .i64 ((Xaa .i64 ((v2.1.tmod 4) * 4)) + (Xaa .i64 (v2.1.tdiv 4)))) < v2.2.length) <|
 req ((Xaa .i64 ((Xaa .i64 ((v2.1.tmod 4) * 4)) + (Xaa .i64 (v2.1.tdiv 4)))).toNat < v2.2.length) <|
 some (.go (Xaa .i64 (v2.1 + 1), (v2.2.set ((Xaa .i64 ((Xaa .i64 ((v2.1.tmod 4) * 4)) + (Xaa .i64 (v2.1.tdiv 4)))).toNat) (p0.getD v2.1.toNat 0))))) (
 some (.done v2.2))
def Xfz (p0 : (List Int)) : Option (List Int) :=
 req (0 ≤ (16 : Int) ∧ (16 : Int) ≤ (16 : Int) ∧ (16 : Int) * 8 ≤ 281474976710656) <|
 bnd (loop (Xed p0) (0, (List.replicate (16 : Int).toNat (0 : Int)))) fun v4 =>
 some v4
def Xjn (v8 : (Int × (List Int))) : Option (Lp (Int × (List Int)) (List Int)) :=
 sel (decide (v8.1 < 16)) (
 req (0 ≤ v8.1 ∧ v8.1 < v8.2.length) <|
 req (v8.1.toNat < v8.2.length) <|
 bnd (Xdy (Xaa .i64 ((v8.2.getD v8.1.toNat 0) + 32)) 64) fun q12 =>
 req (0 ≤ v8.1 ∧ v8.1 < v8.2.length) <|
 req (v8.1.toNat < v8.2.length) <|
 some (.go (Xaa .i64 (v8.1 + 1), (v8.2.set v8.1.toNat q12)))) (
 some (.done v8.2))
def Xlh (p0 : (List Int)) : Option (List Int) :=
 bnd (Xcc p0 16 10000000) fun q1 =>
 sel (!q1) (
 some ([] : List Int)) (
 bnd (Xim p0) fun q2 =>
 bnd (Xfz q2) fun q3 =>
 bnd (Xim q3) fun q4 =>
 bnd (Xfz q4) fun q5 =>
 bnd (loop (Xjn) (0, q5)) fun v11 =>
 some v11)
def Xbh (p1 : Xe9) (v8 : (Int × (List Int))) : Option (Lp (Int × (List Int)) (List Int)) :=
 sel (decide (v8.1 < 64)) (
 req (0 ≤ v8.1 ∧ v8.1 < v8.2.length) <|
 req (v8.1.toNat < v8.2.length) <|
 bnd (Xja (v8.2.getD v8.1.toNat 0) p1.Qp) fun q12 =>
 req (0 ≤ v8.1 ∧ v8.1 < v8.2.length) <|
 req (v8.1.toNat < v8.2.length) <|
 some (.go (Xaa .i64 (v8.1 + 1), (v8.2.set v8.1.toNat q12)))) (
 some (.done v8.2))
def Xbg (p1 : Xe9) (v52 : (Int × (List Int))) : Option (Lp (Int × (List Int)) (List Int)) :=
 sel (decide (v52.1 < 16)) (
 req (0 ≤ v52.1 ∧ v52.1 < v52.2.length) <|
 req (v52.1.toNat < v52.2.length) <|
 bnd (Xjb (v52.2.getD v52.1.toNat 0) p1.Qp v52.1) fun q56 =>
 req (0 ≤ v52.1 ∧ v52.1 < v52.2.length) <|
 req (v52.1.toNat < v52.2.length) <|
 some (.go (Xaa .i64 (v52.1 + 1), (v52.2.set v52.1.toNat q56)))) (
 some (.done v52.2))
def Xbm (v31 : (Int × (List Int))) (q58 : (List Int)) (v60 : (Int × (List Int))) : Option (Lp (Int × (List Int)) (List Int)) :=
 sel (decide (v60.1 < 16)) (
 req ((2 : Int) ≠ 0) <|
 req ((4 : Int) ≠ 0) <|
 req ((2 : Int) ≠ 0) <|
 req ((4 : Int) ≠ 0) <|
 req (0 ≤ v60.1 ∧ v60.1 < q58.length) <|
 req (v60.1.toNat < q58.length) <|
 req (0 ≤ (Xaa .i64 ((Xaa .i64 ((Xaa .i64 (8 * (Xaa .i64 ((Xaa .i64 ((Xaa .i64 (v31.1.tdiv 2)) * 4)) + (Xaa .i64 (v60.1.tdiv 4)))))) + (Xaa .i64 ((v31.1.tmod 2) * 4)))) + (v60.1.tmod 4))) ∧ (Xaa .i64 ((Xaa .i64 ((Xaa .i64 (8 * (Xaa .i64 ((Xaa .i64 ((Xaa .i64 (v31.1.tdiv 2)) * 4)) + (Xaa .i64 (v60.1.tdiv 4)))))) + (Xaa .i64 ((v31.1.tmod 2) * 4)))) + (v60.1.tmod 4))) < v60.2.length) <|
 req ((Xaa .i64 ((Xaa .i64 ((Xaa .i64 (8 * (Xaa .i64 ((Xaa .i64 ((Xaa .i64 (v31.1.tdiv 2)) * 4)) + (Xaa .i64 (v60.1.tdiv 4)))))) + (Xaa .i64 ((v31.1.tmod 2) * 4)))) + (v60.1.tmod 4))).toNat < v60.2.length) <|
 some (.go (Xaa .i64 (v60.1 + 1), (v60.2.set ((Xaa .i64 ((Xaa .i64 ((Xaa .i64 (8 * (Xaa .i64 ((Xaa .i64 ((Xaa .i64 (v31.1.tdiv 2)) * 4)) + (Xaa .i64 (v60.1.tdiv 4)))))) + (Xaa .i64 ((v31.1.tmod 2) * 4)))) + (v60.1.tmod 4))).toNat) (q58.getD v60.1.toNat 0))))) (
 some (.done v60.2))
def Xc2 (p0 : (List Int)) (p1 : Xe9) (v31 : (Int × (List Int))) : Option (Lp (Int × (List Int)) (List Int)) :=
 sel (decide (v31.1 < 4)) (
 req (0 ≤ (Xaa .i64 (16 * v31.1)) ∧ (Xaa .i64 (16 * v31.1)) ≤ (Xaa .i64 ((Xaa .i64 (16 * v31.1)) + 16)) ∧ (Xaa .i64 ((Xaa .i64 (16 * v31.1)) + 16)) ≤ (p0.length : Int)) <|
 bnd (Xe3 4 ((p0.drop (Xaa .i64 (16 * v31.1)).toNat).take ((Xaa .i64 ((Xaa .i64 (16 * v31.1)) + 16)).toNat - (Xaa .i64 (16 * v31.1)).toNat))) fun q49 =>
 bnd (loop (Xbg p1) (0, q49.1)) fun v55 =>
 bnd (Xlh v55) fun q58 =>
 bnd (loop (Xbm v31 q58) (0, v31.2)) fun v62 =>
 some (.go (Xaa .i64 (v31.1 + 1), v62))) (
 some (.done v31.2))
def Xfq (p0 : (List Int)) (p1 : Xe9) : Option ((List Int) × Bool) :=
 bnd (
 bnd (Xmq p1) fun q2 =>
 sel q2 (
 bnd (Xcc p0 64 5000) fun q3 =>
 some (!q3)) (
 some true)) fun v1 =>
 sel v1 (
 some (([] : List Int), false)) (
 sel p1.Exact (
 bnd (Xe3 8 p0) fun q4 =>
 some (q4.1, q4.2)) (
 sel p1.Large (
 bnd (Xe3 8 p0) fun q5 =>
 bnd (loop (Xbh p1) (0, q5.1)) fun v11 =>
 bnd (Xi9 v11) fun q14 =>
 some (q14, true)) (
 req (0 ≤ (64 : Int) ∧ (64 : Int) ≤ (64 : Int) ∧ (64 : Int) * 8 ≤ 281474976710656) <|
 bnd (loop (Xc2 p0 p1) (0, (List.replicate (64 : Int).toNat (0 : Int)))) fun v48 =>
 some (v48, true))))
def Xlt (p0 : (List Int)) (v4 : Int) : Option (Lp Int (Ou Unit Bool)) :=
 sel (decide (v4 < (p0.length : Int))) (
 req (0 ≤ v4 ∧ v4 < p0.length) <|
 bnd (Xan (p0.getD v4.toNat 0) 0 255) fun q8 =>
 sel (!q8) (
 some (.done (.ret false))) (
 some (.go (Xaa .i64 (v4 + 1))))) (
 some (.done (.out ())))
def Xqd (p0 : (List Int)) : Option Bool :=
 bnd (
 sel ((p0.length : Int) != 0) (
 some ((p0.length : Int) != 8)) (
 some false)) fun v1 =>
 sel v1 (
 some false) (
 bnd (loop (Xlt p0) 0) fun o9 => match o9 with
| .out v7 => (
 some true)
| .ret r => some r)
def Xp9 (p0 : Xiw) : Option Bool :=
 bnd (
 bnd (Xqd p0.Above) fun q2 =>
 sel q2 (
 bnd (Xqd p0.Left) fun q3 =>
 sel q3 (
 bnd (Xan p0.Corner (-1) 255) fun q4 =>
 some q4) (
 some false)) (
 some false)) fun v1 =>
 some v1
def Xe6 (p0 : (List Int)) (p1 : Int) : Option Int :=
 sel ((p0.length : Int) == 0) (
 some 128) (
 req (0 ≤ p1 ∧ p1 < p0.length) <|
 some (p0.getD p1.toNat 0))
def Xjf (p0 : Xiw) (v2 : (Int × Int)) : Option (Lp (Int × Int) Int) :=
 sel (decide (v2.2 < (p0.Above.length : Int))) (
 req (0 ≤ v2.2 ∧ v2.2 < p0.Above.length) <|
 some (.go (Xaa .i64 (v2.1 + (p0.Above.getD v2.2.toNat 0)), Xaa .i64 (v2.2 + 1)))) (
 some (.done v2.1))
def Xjg (p0 : Xiw) (v7 : (Int × Int)) : Option (Lp (Int × Int) Int) :=
 sel (decide (v7.2 < (p0.Left.length : Int))) (
 req (0 ≤ v7.2 ∧ v7.2 < p0.Left.length) <|
 some (.go (Xaa .i64 (v7.1 + (p0.Left.getD v7.2.toNat 0)), Xaa .i64 (v7.2 + 1)))) (
 some (.done v7.1))
def Xps (p0 : Xiw) : Option Int :=
 sel ((Xaa .i64 ((p0.Above.length : Int) + (p0.Left.length : Int))) == 0) (
 some 128) (
 req ((2 : Int) ≠ 0) <|
 bnd (loop (Xjf p0) (Xaa .i64 ((Xaa .i64 ((p0.Above.length : Int) + (p0.Left.length : Int))).tdiv 2), 0)) fun v4 =>
 bnd (loop (Xjg p0) (v4, 0)) fun v9 =>
 req ((Xaa .i64 ((p0.Above.length : Int) + (p0.Left.length : Int))) ≠ 0) <|
 some (Xaa .i64 (v9.tdiv (Xaa .i64 ((p0.Above.length : Int) + (p0.Left.length : Int))))))
def Xeb (p0 : Int) (p1 : Xiw) (v4 : Int) (v11 : (Int × (List Int))) : Option (Lp (Int × (List Int)) (List Int)) :=
 sel (decide (v11.1 < 64)) (
 bnd (
 req ((8 : Int) ≠ 0) <|
 bnd (Xe6 p1.Above (v11.1.tmod 8)) fun q20 =>
 req ((8 : Int) ≠ 0) <|
 bnd (Xe6 p1.Left (Xaa .i64 (v11.1.tdiv 8))) fun q21 =>
 sel (p0 == 0) (
 bnd (Xps p1) fun q22 =>
 req ((v11.2.length + ([q22]).length) * 8 ≤ 140737488355328 ∧ v11.2.length + ([q22]).length ≤ maxLen) <|
 some (v11.2 ++ ([q22]))) (
 sel (p0 == 1) (
 req ((v11.2.length + ([q20]).length) * 8 ≤ 140737488355328 ∧ v11.2.length + ([q20]).length ≤ maxLen) <|
 some (v11.2 ++ ([q20]))) (
 sel (p0 == 2) (
 req ((v11.2.length + ([q21]).length) * 8 ≤ 140737488355328 ∧ v11.2.length + ([q21]).length ≤ maxLen) <|
 some (v11.2 ++ ([q21]))) (
 bnd (Xev (Xaa .i64 ((Xaa .i64 (q21 + q20)) - v4)) 0 255) fun q23 =>
 req ((v11.2.length + ([q23]).length) * 8 ≤ 140737488355328 ∧ v11.2.length + ([q23]).length ≤ maxLen) <|
 some (v11.2 ++ ([q23])))))) fun v19 =>
 some (.go (Xaa .i64 (v11.1 + 1), v19))) (
 some (.done v11.2))
def Xew (p0 : Int) (p1 : Xiw) : Option (List Int) :=
 bnd (
 bnd (Xp9 p1) fun q2 =>
 sel q2 (
 bnd (Xan p0 0 3) fun q3 =>
 some (!q3)) (
 some true)) fun v1 =>
 sel v1 (
 some ([] : List Int)) (
 bnd (
 sel (decide (p1.Corner < 0)) (
 some 128) (
 some p1.Corner)) fun v4 =>
 bnd (loop (Xeb p0 p1 v4) (0, ([] : List Int))) fun v18 =>
 some v18)
def Xef (p0 : (List Int)) (v3 : Int) : Option (Lp Int (Ou Unit Bool)) :=
 sel (decide (v3 < 64)) (
 req (0 ≤ v3 ∧ v3 < p0.length) <|
 bnd (Xan (p0.getD v3.toNat 0) 0 255) fun q7 =>
 sel (!q7) (
 some (.done (.ret false))) (
 some (.go (Xaa .i64 (v3 + 1))))) (
 some (.done (.out ())))
def Xf0 (p0 : (List Int)) : Option Bool :=
 sel ((p0.length : Int) != 64) (
 some false) (
 bnd (loop (Xef p0) 0) fun o8 => match o8 with
| .out v6 => (
 some true)
| .ret r => some r)
def Xg0 (p0 : (List Int)) (p1 : (List Int)) (v6 : (Int × (List Int))) : Option (Lp (Int × (List Int)) (List Int)) :=
 sel (decide (v6.1 < 64)) (
 req (0 ≤ v6.1 ∧ v6.1 < p0.length) <|
 req (0 ≤ v6.1 ∧ v6.1 < p1.length) <|
 bnd (Xev (Xaa .i64 ((p0.getD v6.1.toNat 0) + (p1.getD v6.1.toNat 0))) 0 255) fun q10 =>
 req ((v6.2.length + ([q10]).length) * 8 ≤ 140737488355328 ∧ v6.2.length + ([q10]).length ≤ maxLen) <|
 some (.go (Xaa .i64 (v6.1 + 1), (v6.2 ++ ([q10]))))) (
 some (.done v6.2))
def Xmr (p0 : (List Int)) (p1 : (List Int)) : Option (List Int) :=
 bnd (
 bnd (Xf0 p0) fun q2 =>
 sel q2 (
 bnd (Xcc p1 64 10000000) fun q3 =>
 some (!q3)) (
 some true)) fun v1 =>
 sel v1 (
 some ([] : List Int)) (
 bnd (loop (Xg0 p0 p1) (0, ([] : List Int))) fun v9 =>
 some v9)
def Xlg (p0 : Pic) (p1 : Int) (p2 : Int) (v7 : (Int × (List Int))) : Option (Lp (Int × (List Int)) (List Int)) :=
 sel (decide (v7.1 < 64)) (
 req ((8 : Int) ≠ 0) <|
 req ((8 : Int) ≠ 0) <|
 bnd (Xep p0 (Xaa .i64 (p1 + (v7.1.tmod 8))) (Xaa .i64 (p2 + (Xaa .i64 (v7.1.tdiv 8))))) fun q11 =>
 req ((v7.2.length + ([q11]).length) * 8 ≤ 140737488355328 ∧ v7.2.length + ([q11]).length ≤ maxLen) <|
 some (.go (Xaa .i64 (v7.1 + 1), (v7.2 ++ ([q11]))))) (
 some (.done v7.2))
def Xkh (p0 : Pic) (p1 : Int) (p2 : Int) : Option (List Int) :=
 bnd (
 bnd (Xfr p0) fun q2 =>
 sel q2 (
 bnd (Xan p1 (-1000) 1000) fun q3 =>
 sel q3 (
 bnd (Xan p2 (-1000) 1000) fun q4 =>
 some (!q4)) (
 some true)) (
 some true)) fun v1 =>
 sel v1 (
 some ([] : List Int)) (
 bnd (loop (Xlg p0 p1 p2) (0, ([] : List Int))) fun v10 =>
 some v10)
def Xft (p0 : Pic) (p1 : Pic) (p2 : Int) (p3 : Int) (p4 : Xe9) (p5 : Int) (p6 : Int) (p7 : Xam) : Option ((List Int) × Bool) :=
 bnd (
 bnd (Xkl p0 p5 p6) fun q2 =>
 sel q2 (
 bnd (Xan p2 0 256) fun q3 =>
 sel q3 (
 bnd (Xan p3 0 256) fun q4 =>
 sel q4 (
 bnd (Xsr p7) fun q5 =>
 sel q5 (
 bnd (Xmq p4) fun q6 =>
 some (!q6)) (
 some true)) (
 some true)) (
 some true)) (
 some true)) fun v1 =>
 sel v1 (
 some (([] : List Int), false)) (
 sel (p7.Kind == 2) (
 bnd (Xhz p0 p5 p6) fun q7 =>
 bnd (Xfq p7.Levels p4) fun q8 =>
 bnd (Xew p7.Mode q7.1) fun q9 =>
 bnd (Xmr q9 q8.1) fun q10 =>
 some (q10, true)) (
 bnd (
 sel p4.Key (
 some true) (
 bnd (Xfr p1) fun q12 =>
 some (!q12))) fun v11 =>
 sel v11 (
 some (([] : List Int), false)) (
 bnd (Xkh p1 (Xaa .i64 ((Xaa .i64 (p2 + p5)) + p7.Dx)) (Xaa .i64 ((Xaa .i64 (p3 + p6)) + p7.Dy))) fun q13 =>
 sel (p7.Kind == 0) (
 some (q13, true)) (
 bnd (Xfq p7.Levels p4) fun q14 =>
 bnd (Xmr q13 q14.1) fun q15 =>
 some (q15, true)))))
def Xc8 (p0 : Pic) (p1 : Int) (p2 : Int) (p3 : (List Int)) (v2 : (Int × (List Int))) : Option (Lp (Int × (List Int)) (List Int)) :=
 sel (decide (v2.1 < 64)) (
 req ((8 : Int) ≠ 0) <|
 req ((8 : Int) ≠ 0) <|
 req (0 ≤ v2.1 ∧ v2.1 < p3.length) <|
 req (0 ≤ (Xaa .i64 ((Xaa .i64 ((Xaa .i64 ((Xaa .i64 (p2 + (Xaa .i64 (v2.1.tdiv 8)))) * p0.Wide)) + p1)) + (v2.1.tmod 8))) ∧ (Xaa .i64 ((Xaa .i64 ((Xaa .i64 ((Xaa .i64 (p2 + (Xaa .i64 (v2.1.tdiv 8)))) * p0.Wide)) + p1)) + (v2.1.tmod 8))) < v2.2.length) <|
 req ((Xaa .i64 ((Xaa .i64 ((Xaa .i64 ((Xaa .i64 (p2 + (Xaa .i64 (v2.1.tdiv 8)))) * p0.Wide)) + p1)) + (v2.1.tmod 8))).toNat < v2.2.length) <|
 some (.go (Xaa .i64 (v2.1 + 1), (v2.2.set ((Xaa .i64 ((Xaa .i64 ((Xaa .i64 ((Xaa .i64 (p2 + (Xaa .i64 (v2.1.tdiv 8)))) * p0.Wide)) + p1)) + (v2.1.tmod 8))).toNat) (Xaa .u8 ((p3.getD v2.1.toNat 0))))))) (
 some (.done v2.2))
def Xh5 (p0 : Pic) (p1 : Int) (p2 : Int) (p3 : (List Int)) : Option Pic :=
 req (p0.Dots.size ≤ maxLen) <|
 bnd (loop (Xc8 p0 p1 p2 p3) (0, (Xba p0.Dots))) fun v4 =>
 some (⟨p0.Wide, p0.High, (strOfNums v4)⟩ : Pic)
def Ydd (p0 : Seq) : Option Seq :=
 req ((([] : List Int).length + p0.Cols.length) * 8 ≤ 140737488355328 ∧ ([] : List Int).length + p0.Cols.length ≤ maxLen) <|
 req ((([] : List Int).length + p0.Rows.length) * 8 ≤ 140737488355328 ∧ ([] : List Int).length + p0.Rows.length ≤ maxLen) <|
 some (⟨p0.Level, p0.Bits, (([] : List Int) ++ p0.Cols), (([] : List Int) ++ p0.Rows)⟩ : Seq)
def Xza (p0 : Seq) (p1 : Int) : Option (Yxj × Bool) :=
 bnd (Xdw p0) fun q1 =>
 bnd (Xaj p1 0 (Xaa .i64 (q1 - 1))) fun q2 =>
 sel (!q2) (
 some ((⟨0, 0, 0, 0⟩ : Yxj), false)) (
 req ((p0.Cols.length : Int) ≠ 0) <|
 req ((p0.Cols.length : Int) ≠ 0) <|
 req (0 ≤ (0 : Int) ∧ (0 : Int) ≤ (p1.tmod (p0.Cols.length : Int)) ∧ (p1.tmod (p0.Cols.length : Int)) ≤ (p0.Cols.length : Int)) <|
 bnd (Xce ((p0.Cols.drop (0 : Int).toNat).take ((p1.tmod (p0.Cols.length : Int)).toNat - (0 : Int).toNat))) fun q3 =>
 req (0 ≤ (0 : Int) ∧ (0 : Int) ≤ (Xaa .i64 (p1.tdiv (p0.Cols.length : Int))) ∧ (Xaa .i64 (p1.tdiv (p0.Cols.length : Int))) ≤ (p0.Rows.length : Int)) <|
 bnd (Xce ((p0.Rows.drop (0 : Int).toNat).take ((Xaa .i64 (p1.tdiv (p0.Cols.length : Int))).toNat - (0 : Int).toNat))) fun q4 =>
 req (0 ≤ (p1.tmod (p0.Cols.length : Int)) ∧ (p1.tmod (p0.Cols.length : Int)) < p0.Cols.length) <|
 req (0 ≤ (Xaa .i64 (p1.tdiv (p0.Cols.length : Int))) ∧ (Xaa .i64 (p1.tdiv (p0.Cols.length : Int))) < p0.Rows.length) <|
 some ((⟨Xaa .i64 (8 * q3), Xaa .i64 (8 * q4), Xaa .i64 (8 * (p0.Cols.getD (p1.tmod (p0.Cols.length : Int)).toNat 0)), Xaa .i64 (8 * (p0.Rows.getD (Xaa .i64 (p1.tdiv (p0.Cols.length : Int))).toNat 0))⟩ : Yxj), true))
def Xlo (v2 : (Int × ByteArray)) : Option (Lp (Int × ByteArray) ByteArray) :=
 sel (decide (v2.1 > 0)) (
 req ((2 : Int) ≠ 0) <|
 req ((strOfNums ([Xaa .u8 (Xaa .i64 (48 + (v2.1.tmod 2)))])).size + v2.2.size ≤ 9223372036854775807) <|
 req ((2 : Int) ≠ 0) <|
 some (.go (Xaa .i64 (v2.1.tdiv 2), ((strOfNums ([Xaa .u8 (Xaa .i64 (48 + (v2.1.tmod 2)))])) ++ v2.2)))) (
 some (.done v2.2))
def Xrt (p0 : Int) : Option ByteArray :=
 bnd (loop (Xlo) (Xaa .i64 (p0 + 1), ⟨#[]⟩)) fun v4 =>
 bnd (Xug (Xaa .i64 ((v4.size : Int) - 1)) 48) fun q6 =>
 req (q6.size + v4.size ≤ 9223372036854775807) <|
 some (q6 ++ v4)
def Xxx (p0 : Int) : Option (Int × Bool) :=
 bnd (Xan p0 (-500000) 500000) fun q1 =>
 sel (!q1) (
 some (0, false)) (
 sel (decide (p0 > 0)) (
 some (Xaa .i64 ((Xaa .i64 (2 * p0)) - 1), true)) (
 some (Xaa .i64 ((-2) * p0), true)))
def Ych (p0 : Int) : Option ByteArray :=
 bnd (Xxx p0) fun q1 =>
 bnd (Xrt q1.1) fun q2 =>
 some q2
def Xqf (p0 : Pic) (p1 : Pic) : Option Bool :=
 bnd (
 bnd (Xfr p0) fun q2 =>
 sel q2 (
 bnd (Xfr p1) fun q3 =>
 sel q3 (
 sel (p0.Wide == p1.Wide) (
 some (p0.High == p1.High)) (
 some false)) (
 some false)) (
 some false)) fun v1 =>
 some v1
def Xpt (p0 : (List Int)) (p1 : (List Int)) (v2 : (Int × (List Int))) : Option (Lp (Int × (List Int)) (List Int)) :=
 sel (decide (v2.1 < 64)) (
 req (0 ≤ v2.1 ∧ v2.1 < p0.length) <|
 req (0 ≤ v2.1 ∧ v2.1 < p1.length) <|
 req ((v2.2.length + ([Xaa .i64 ((p0.getD v2.1.toNat 0) - (p1.getD v2.1.toNat 0))]).length) * 8 ≤ 140737488355328 ∧ v2.2.length + ([Xaa .i64 ((p0.getD v2.1.toNat 0) - (p1.getD v2.1.toNat 0))]).length ≤ maxLen) <|
 some (.go (Xaa .i64 (v2.1 + 1), (v2.2 ++ ([Xaa .i64 ((p0.getD v2.1.toNat 0) - (p1.getD v2.1.toNat 0))]))))) (
 some (.done v2.2))
def Xnw (p0 : (List Int)) (p1 : (List Int)) : Option (List Int) :=
 bnd (loop (Xpt p0 p1) (0, ([] : List Int))) fun v4 =>
 some v4
def Xlx (p0 : (List Int)) (v2 : Int) : Option (Lp Int (Ou Unit Bool)) :=
 sel (decide (v2 < (p0.length : Int))) (
 req (0 ≤ v2 ∧ v2 < p0.length) <|
 sel ((p0.getD v2.toNat 0) != 0) (
 some (.done (.ret false))) (
 some (.go (Xaa .i64 (v2 + 1))))) (
 some (.done (.out ())))
def Xqg (p0 : (List Int)) : Option Bool :=
 bnd (loop (Xlx p0) 0) fun o5 => match o5 with
| .out v4 => (
 some true)
| .ret r => some r
def Xgd (p0 : Int) : Option Int :=
 sel (decide (p0 < 0)) (
 some (Xaa .i64 (0 - p0))) (
 some p0)
def Xot (p0 : (List Int)) (p1 : (List Int)) (v6 : (Int × Int)) : Option (Lp (Int × Int) Int) :=
 sel (decide (v6.2 < 64)) (
 req (0 ≤ v6.2 ∧ v6.2 < p0.length) <|
 req (0 ≤ v6.2 ∧ v6.2 < p1.length) <|
 bnd (Xgd (Xaa .i64 ((p0.getD v6.2.toNat 0) - (p1.getD v6.2.toNat 0)))) fun q10 =>
 some (.go (Xaa .i64 (v6.1 + q10), Xaa .i64 (v6.2 + 1)))) (
 some (.done v6.1))
def Xu9 (p0 : (List Int)) (p1 : (List Int)) : Option Int :=
 bnd (
 bnd (Xcc p0 64 1000) fun q2 =>
 sel q2 (
 bnd (Xcc p1 64 1000) fun q3 =>
 some (!q3)) (
 some true)) fun v1 =>
 sel v1 (
 some (-1)) (
 bnd (loop (Xot p0 p1) (0, 0)) fun v9 =>
 some v9)
def Yce (p0 : Int) : Option (ByteArray × Bool) :=
 bnd (Xan p0 0 1000000) fun q1 =>
 sel (!q1) (
 some (⟨#[]⟩, false)) (
 bnd (Xrt p0) fun q2 =>
 some (q2, true))
def Xmv (p0 : Int) : Option Int :=
 bnd (Yce p0) fun q1 =>
 some (q1.1.size : Int)
def Xd0 (p0 : (List Int)) (p1 : Xiw) (v16 : (Int × Int × Int)) : Option (Lp (Int × Int × Int) (Int × Int)) :=
 sel (decide (v16.2.2 < 4)) (
 bnd (
 bnd (Xew v16.2.2 p1) fun q25 =>
 bnd (Xu9 p0 q25) fun q26 =>
 bnd (Xmv v16.2.2) fun q27 =>
 bnd (
 sel (decide (v16.2.1 < 0)) (
 some true) (
 some (decide ((Xaa .i64 (q26 + q27)) < v16.2.1)))) fun v28 =>
 sel v28 (
 some (v16.2.2, Xaa .i64 (q26 + q27))) (
 some (v16.1, v16.2.1))) fun v24 =>
 some (.go (v24.1, v24.2, Xaa .i64 (v16.2.2 + 1)))) (
 some (.done (v16.1, v16.2.1)))
def Xi7 (p0 : (List Int)) (p1 : Xiw) : Option (Int × Int) :=
 bnd (
 bnd (Xp9 p1) fun q2 =>
 sel q2 (
 bnd (Xf0 p0) fun q3 =>
 some (!q3)) (
 some true)) fun v1 =>
 sel v1 (
 some (0, (-1))) (
 bnd (loop (Xd0 p0 p1) (0, (-1), 0)) fun v23 =>
 some (v23.1, v23.2))
def Ylz (p0 : Int) : Option (ByteArray × Bool) :=
 bnd (Xan p0 (-500000) 500000) fun q1 =>
 sel (!q1) (
 some (⟨#[]⟩, false)) (
 bnd (Ych p0) fun q2 =>
 some (q2, true))
def Xso (p0 : Int) : Option Int :=
 bnd (Ylz p0) fun q1 =>
 some (q1.1.size : Int)
def Xmp (p0 : Pic) (p1 : (List Int)) (p2 : Int) (p3 : Int) (p4 : Int) (v32 : (Int × Int × Int × Int)) (v69 : (Int × Int × Int × Int)) : Option (Lp (Int × Int × Int × Int) (Int × Int × Int)) :=
 sel (decide (v69.2.2.2 ≤ p4)) (
 bnd (
 bnd (Xnd p0 (Xaa .i64 (p2 + v69.2.2.2)) (Xaa .i64 (p3 + v32.2.2.2)) 8 8) fun q80 =>
 sel (!q80) (
 some (v69.1, v69.2.1, v69.2.2.1)) (
 bnd (Xkh p0 (Xaa .i64 (p2 + v69.2.2.2)) (Xaa .i64 (p3 + v32.2.2.2))) fun q81 =>
 bnd (Xu9 p1 q81) fun q82 =>
 bnd (Xso v69.2.2.2) fun q83 =>
 bnd (Xso v32.2.2.2) fun q84 =>
 bnd (
 sel (decide (v69.2.2.1 < 0)) (
 some true) (
 some (decide ((Xaa .i64 ((Xaa .i64 (q82 + q83)) + q84)) < v69.2.2.1)))) fun v85 =>
 sel v85 (
 some (v69.2.2.2, v32.2.2.2, Xaa .i64 ((Xaa .i64 (q82 + q83)) + q84))) (
 some (v69.1, v69.2.1, v69.2.2.1)))) fun v79 =>
 some (.go (v79.1, v79.2.1, v79.2.2, Xaa .i64 (v69.2.2.2 + 1)))) (
 some (.done (v69.1, v69.2.1, v69.2.2.1)))
def Xmo (p0 : Pic) (p1 : (List Int)) (p2 : Int) (p3 : Int) (p4 : Int) (v32 : (Int × Int × Int × Int)) : Option (Lp (Int × Int × Int × Int) (Int × Int × Int)) :=
 sel (decide (v32.2.2.2 ≤ p4)) (
 bnd (loop (Xmp p0 p1 p2 p3 p4 v32) (v32.1, v32.2.1, v32.2.2.1, Xaa .i64 (0 - p4))) fun v78 =>
 some (.go (v78.1, v78.2.1, v78.2.2, Xaa .i64 (v32.2.2.2 + 1)))) (
 some (.done (v32.1, v32.2.1, v32.2.2.1)))
def Xos (p0 : Pic) (p1 : (List Int)) (p2 : Int) (p3 : Int) (p4 : Int) : Option (Int × Int × Int) :=
 bnd (
 bnd (Xf0 p1) fun q2 =>
 sel q2 (
 bnd (Xan p4 0 4) fun q3 =>
 sel q3 (
 bnd (Xkl p0 p2 p3) fun q4 =>
 some (!q4)) (
 some true)) (
 some true)) fun v1 =>
 sel v1 (
 some (0, 0, (-1))) (
 bnd (loop (Xmo p0 p1 p2 p3 p4) (0, 0, (-1), Xaa .i64 (0 - p4))) fun v60 =>
 some (v60.1, v60.2.1, v60.2.2))
def Xec (p0 : Int) (p1 : (List Int)) (v4 : (Int × (List Int))) : Option (Lp (Int × (List Int)) (List Int)) :=
 sel (decide (v4.1 < (Xaa .i64 (p0 * p0)))) (
 bnd (Xsn p0 v4.1) fun q8 =>
 req (0 ≤ q8 ∧ q8 < p1.length) <|
 req ((v4.2.length + ([(p1.getD q8.toNat 0)]).length) * 8 ≤ 140737488355328 ∧ v4.2.length + ([(p1.getD q8.toNat 0)]).length ≤ maxLen) <|
 some (.go (Xaa .i64 (v4.1 + 1), (v4.2 ++ ([(p1.getD q8.toNat 0)]))))) (
 some (.done v4.2))
def Xh1 (p0 : Int) (p1 : (List Int)) : Option ((List Int) × Bool) :=
 bnd (
 sel (p0 != 4) (
 sel (p0 != 8) (
 some true) (
 some ((p1.length : Int) != (Xaa .i64 (p0 * p0))))) (
 some ((p1.length : Int) != (Xaa .i64 (p0 * p0))))) fun v1 =>
 sel v1 (
 some (([] : List Int), false)) (
 bnd (loop (Xec p0 p1) (0, ([] : List Int))) fun v7 =>
 some (v7, true))
def Xrn (p0 : (List Int)) : Option (List Int) :=
 bnd (Xcc p0 64 1000) fun q1 =>
 sel (!q1) (
 some ([] : List Int)) (
 bnd (Xkk p0) fun q2 =>
 some q2)
def Xje (p0 : Int) (p1 : Int) : Option Int :=
 sel (decide (p0 < 0)) (
 some (Xaa .i64 (0 - p1))) (
 some p1)
def Xh0 (p0 : Int) (p1 : Int) : Option Int :=
 bnd (
 bnd (Xan p0 (-20000) 20000) fun q2 =>
 sel q2 (
 bnd (Xan p1 0 40) fun q3 =>
 some (!q3)) (
 some true)) fun v1 =>
 sel v1 (
 some 0) (
 bnd (Xjy p1) fun q4 =>
 bnd (Xgd p0) fun q5 =>
 req ((2 : Int) ≠ 0) <|
 req (q4 ≠ 0) <|
 bnd (Xje p0 (Xaa .i64 ((Xaa .i64 (q5 + (Xaa .i64 (q4.tdiv 2)))).tdiv q4))) fun q6 =>
 some q6)
def Xb6 (p0 : (List Int)) (p1 : Int) (v2 : (Int × (List Int))) : Option (Lp (Int × (List Int)) (List Int)) :=
 sel (decide (v2.1 < 16)) (
 req ((2 : Int) ≠ 0) <|
 req ((4 : Int) ≠ 0) <|
 req ((2 : Int) ≠ 0) <|
 req ((4 : Int) ≠ 0) <|
 req (0 ≤ (Xaa .i64 ((Xaa .i64 ((Xaa .i64 (8 * (Xaa .i64 ((Xaa .i64 ((Xaa .i64 (p1.tdiv 2)) * 4)) + (Xaa .i64 (v2.1.tdiv 4)))))) + (Xaa .i64 ((p1.tmod 2) * 4)))) + (v2.1.tmod 4))) ∧ (Xaa .i64 ((Xaa .i64 ((Xaa .i64 (8 * (Xaa .i64 ((Xaa .i64 ((Xaa .i64 (p1.tdiv 2)) * 4)) + (Xaa .i64 (v2.1.tdiv 4)))))) + (Xaa .i64 ((p1.tmod 2) * 4)))) + (v2.1.tmod 4))) < p0.length) <|
 req ((v2.2.length + ([(p0.getD (Xaa .i64 ((Xaa .i64 ((Xaa .i64 (8 * (Xaa .i64 ((Xaa .i64 ((Xaa .i64 (p1.tdiv 2)) * 4)) + (Xaa .i64 (v2.1.tdiv 4)))))) + (Xaa .i64 ((p1.tmod 2) * 4)))) + (v2.1.tmod 4))).toNat 0)]).length) * 8 ≤ 140737488355328 ∧ v2.2.length + ([(p0.getD (Xaa .i64 ((Xaa .i64 ((Xaa .i64 (8 * (Xaa .i64 ((Xaa .i64 ((Xaa .i64 (p1.tdiv 2)) * 4)) + (Xaa .i64 (v2.1.tdiv 4)))))) + (Xaa .i64 ((p1.tmod 2) * 4)))) + (v2.1.tmod 4))).toNat 0)]).length ≤ maxLen) <|
 some (.go (Xaa .i64 (v2.1 + 1), (v2.2 ++ ([(p0.getD (Xaa .i64 ((Xaa .i64 ((Xaa .i64 (8 * (Xaa .i64 ((Xaa .i64 ((Xaa .i64 (p1.tdiv 2)) * 4)) + (Xaa .i64 (v2.1.tdiv 4)))))) + (Xaa .i64 ((p1.tmod 2) * 4)))) + (v2.1.tmod 4))).toNat 0)]))))) (
 some (.done v2.2))
def Xh4 (p0 : (List Int)) (p1 : Int) : Option (List Int) :=
 bnd (loop (Xb6 p0 p1) (0, ([] : List Int))) fun v4 =>
 some v4
def Xee (p0 : (List Int)) (v2 : (Int × (List Int))) : Option (Lp (Int × (List Int)) (List Int)) :=
 sel (decide (v2.1 < 4)) (
 req (0 ≤ (Xaa .i64 (4 * v2.1)) ∧ (Xaa .i64 (4 * v2.1)) < p0.length) <|
 req (0 ≤ (Xaa .i64 ((Xaa .i64 (4 * v2.1)) + 1)) ∧ (Xaa .i64 ((Xaa .i64 (4 * v2.1)) + 1)) < p0.length) <|
 req (0 ≤ (Xaa .i64 ((Xaa .i64 (4 * v2.1)) + 2)) ∧ (Xaa .i64 ((Xaa .i64 (4 * v2.1)) + 2)) < p0.length) <|
 req (0 ≤ (Xaa .i64 ((Xaa .i64 (4 * v2.1)) + 3)) ∧ (Xaa .i64 ((Xaa .i64 (4 * v2.1)) + 3)) < p0.length) <|
 req ((v2.2.length + ([Xaa .i64 ((Xaa .i64 ((Xaa .i64 ((p0.getD (Xaa .i64 (4 * v2.1)).toNat 0) + (p0.getD (Xaa .i64 ((Xaa .i64 (4 * v2.1)) + 1)).toNat 0))) + (p0.getD (Xaa .i64 ((Xaa .i64 (4 * v2.1)) + 2)).toNat 0))) + (p0.getD (Xaa .i64 ((Xaa .i64 (4 * v2.1)) + 3)).toNat 0)), Xaa .i64 ((Xaa .i64 ((Xaa .i64 ((Xaa .i64 (2 * (p0.getD (Xaa .i64 (4 * v2.1)).toNat 0))) + (p0.getD (Xaa .i64 ((Xaa .i64 (4 * v2.1)) + 1)).toNat 0))) - (p0.getD (Xaa .i64 ((Xaa .i64 (4 * v2.1)) + 2)).toNat 0))) - (Xaa .i64 (2 * (p0.getD (Xaa .i64 ((Xaa .i64 (4 * v2.1)) + 3)).toNat 0)))), Xaa .i64 ((Xaa .i64 ((Xaa .i64 ((p0.getD (Xaa .i64 (4 * v2.1)).toNat 0) - (p0.getD (Xaa .i64 ((Xaa .i64 (4 * v2.1)) + 1)).toNat 0))) - (p0.getD (Xaa .i64 ((Xaa .i64 (4 * v2.1)) + 2)).toNat 0))) + (p0.getD (Xaa .i64 ((Xaa .i64 (4 * v2.1)) + 3)).toNat 0)), Xaa .i64 ((Xaa .i64 ((Xaa .i64 ((p0.getD (Xaa .i64 (4 * v2.1)).toNat 0) - (Xaa .i64 (2 * (p0.getD (Xaa .i64 ((Xaa .i64 (4 * v2.1)) + 1)).toNat 0))))) + (Xaa .i64 (2 * (p0.getD (Xaa .i64 ((Xaa .i64 (4 * v2.1)) + 2)).toNat 0))))) - (p0.getD (Xaa .i64 ((Xaa .i64 (4 * v2.1)) + 3)).toNat 0))]).length) * 8 ≤ 140737488355328 ∧ v2.2.length + ([Xaa .i64 ((Xaa .i64 ((Xaa .i64 ((p0.getD (Xaa .i64 (4 * v2.1)).toNat 0) + (p0.getD (Xaa .i64 ((Xaa .i64 (4 * v2.1)) + 1)).toNat 0))) + (p0.getD (Xaa .i64 ((Xaa .i64 (4 * v2.1)) + 2)).toNat 0))) + (p0.getD (Xaa .i64 ((Xaa .i64 (4 * v2.1)) + 3)).toNat 0)), Xaa .i64 ((Xaa .i64 ((Xaa .i64 ((Xaa .i64 (2 * (p0.getD (Xaa .i64 (4 * v2.1)).toNat 0))) + (p0.getD (Xaa .i64 ((Xaa .i64 (4 * v2.1)) + 1)).toNat 0))) - (p0.getD (Xaa .i64 ((Xaa .i64 (4 * v2.1)) + 2)).toNat 0))) - (Xaa .i64 (2 * (p0.getD (Xaa .i64 ((Xaa .i64 (4 * v2.1)) + 3)).toNat 0)))), Xaa .i64 ((Xaa .i64 ((Xaa .i64 ((p0.getD (Xaa .i64 (4 * v2.1)).toNat 0) - (p0.getD (Xaa .i64 ((Xaa .i64 (4 * v2.1)) + 1)).toNat 0))) - (p0.getD (Xaa .i64 ((Xaa .i64 (4 * v2.1)) + 2)).toNat 0))) + (p0.getD (Xaa .i64 ((Xaa .i64 (4 * v2.1)) + 3)).toNat 0)), Xaa .i64 ((Xaa .i64 ((Xaa .i64 ((p0.getD (Xaa .i64 (4 * v2.1)).toNat 0) - (Xaa .i64 (2 * (p0.getD (Xaa .i64 ((Xaa .i64 (4 * v2.1)) + 1)).toNat 0))))) + (Xaa .i64 (2 * (p0.getD (Xaa .i64 ((Xaa .i64 (4 * v2.1)) + 2)).toNat 0))))) - (p0.getD (Xaa .i64 ((Xaa .i64 (4 * v2.1)) + 3)).toNat 0))]).length ≤ maxLen) <|
 some (.go (Xaa .i64 (v2.1 + 1), (v2.2 ++ ([Xaa .i64 ((Xaa .i64 ((Xaa .i64 ((p0.getD (Xaa .i64 (4 * v2.1)).toNat 0) + (p0.getD (Xaa .i64 ((Xaa .i64 (4 * v2.1)) + 1)).toNat 0))) + (p0.getD (Xaa .i64 ((Xaa .i64 (4 * v2.1)) + 2)).toNat 0))) + (p0.getD (Xaa .i64 ((Xaa .i64 (4 * v2.1)) + 3)).toNat 0)), Xaa .i64 ((Xaa .i64 ((Xaa .i64 ((Xaa .i64 (2 * (p0.getD (Xaa .i64 (4 * v2.1)).toNat 0))) + (p0.getD (Xaa .i64 ((Xaa .i64 (4 * v2.1)) + 1)).toNat 0))) - (p0.getD (Xaa .i64 ((Xaa .i64 (4 * v2.1)) + 2)).toNat 0))) - (Xaa .i64 (2 * (p0.getD (Xaa .i64 ((Xaa .i64 (4 * v2.1)) + 3)).toNat 0)))), Xaa .i64 ((Xaa .i64 ((Xaa .i64 ((p0.getD (Xaa .i64 (4 * v2.1)).toNat 0) - (p0.getD (Xaa .i64 ((Xaa .i64 (4 * v2.1)) + 1)).toNat 0))) - (p0.getD (Xaa .i64 ((Xaa .i64 (4 * v2.1)) + 2)).toNat 0))) + (p0.getD (Xaa .i64 ((Xaa .i64 (4 * v2.1)) + 3)).toNat 0)), Xaa .i64 ((Xaa .i64 ((Xaa .i64 ((p0.getD (Xaa .i64 (4 * v2.1)).toNat 0) - (Xaa .i64 (2 * (p0.getD (Xaa .i64 ((Xaa .i64 (4 * v2.1)) + 1)).toNat 0))))) + (Xaa .i64 (2 * (p0.getD (Xaa .i64 ((Xaa .i64 (4 * v2.1)) + 2)).toNat 0))))) - (p0.getD (Xaa .i64 ((Xaa .i64 (4 * v2.1)) + 3)).toNat 0))]))))) (
 some (.done v2.2))
def Xkj (p0 : (List Int)) : Option (List Int) :=
 bnd (loop (Xee p0) (0, ([] : List Int))) fun v4 =>
 some v4
def Xub (p0 : (List Int)) : Option (List Int) :=
 bnd (Xcc p0 16 1000) fun q1 =>
 sel (!q1) (
 some ([] : List Int)) (
 bnd (Xkj p0) fun q2 =>
 bnd (Xfz q2) fun q3 =>
 bnd (Xkj q3) fun q4 =>
 bnd (Xfz q4) fun q5 =>
 some q5)
def Xnu (p0 : Int) (p1 : Int) : Option Int :=
 bnd (Xpn p1) fun q1 =>
 bnd (
 bnd (Xan p0 0 40) fun q3 =>
 sel q3 (
 some (decide (q1 < 0))) (
 some true)) fun v2 =>
 sel v2 (
 some 0) (
 req ((6 : Int) ≠ 0) <|
 sel ((p0.tmod 6) == 0) (
 bnd (Xbc q1 13107 5243 8066) fun q4 =>
 some q4) (
 sel ((p0.tmod 6) == 1) (
 bnd (Xbc q1 11916 4660 7490) fun q5 =>
 some q5) (
 sel ((p0.tmod 6) == 2) (
 bnd (Xbc q1 10082 4194 6554) fun q6 =>
 some q6) (
 sel ((p0.tmod 6) == 3) (
 bnd (Xbc q1 9362 3647 5825) fun q7 =>
 some q7) (
 sel ((p0.tmod 6) == 4) (
 bnd (Xbc q1 8192 3355 5243) fun q8 =>
 some q8) (
 bnd (Xbc q1 7282 2893 4559) fun q9 =>
 some q9))))))
def Xh2 (p0 : Int) (p1 : Int) (p2 : Int) : Option Int :=
 bnd (
 bnd (Xan p0 (-20000) 20000) fun q2 =>
 sel q2 (
 bnd (Xan p1 0 40) fun q3 =>
 sel q3 (
 bnd (Xan p2 0 15) fun q4 =>
 some (!q4)) (
 some true)) (
 some true)) fun v1 =>
 sel v1 (
 some 0) (
 req ((6 : Int) ≠ 0) <|
 req (0 ≤ (Xaa .u64 (Xaa .i64 (15 + (Xaa .i64 (p1.tdiv 6)))))) <|
 bnd (Xgd p0) fun q5 =>
 bnd (Xnu p1 p2) fun q6 =>
 req ((3 : Int) ≠ 0) <|
 req ((Xaa .i64 (1 * 2 ^ min (Xaa .u64 (Xaa .i64 (15 + (Xaa .i64 (p1.tdiv 6))))).toNat (IntKind.bits .i64))) ≠ 0) <|
 bnd (Xje p0 (Xaa .i64 ((Xaa .i64 ((Xaa .i64 (q5 * q6)) + (Xaa .i64 ((Xaa .i64 (1 * 2 ^ min (Xaa .u64 (Xaa .i64 (15 + (Xaa .i64 (p1.tdiv 6))))).toNat (IntKind.bits .i64))).tdiv 3)))).tdiv (Xaa .i64 (1 * 2 ^ min (Xaa .u64 (Xaa .i64 (15 + (Xaa .i64 (p1.tdiv 6))))).toNat (IntKind.bits .i64)))))) fun q7 =>
 some q7)
def Xb9 (p1 : Xe9) (v8 : (Int × (List Int))) : Option (Lp (Int × (List Int)) (List Int)) :=
 sel (decide (v8.1 < 64)) (
 req (0 ≤ v8.1 ∧ v8.1 < v8.2.length) <|
 req (v8.1.toNat < v8.2.length) <|
 bnd (Xh0 (v8.2.getD v8.1.toNat 0) p1.Qp) fun q12 =>
 req (0 ≤ v8.1 ∧ v8.1 < v8.2.length) <|
 req (v8.1.toNat < v8.2.length) <|
 some (.go (Xaa .i64 (v8.1 + 1), (v8.2.set v8.1.toNat q12)))) (
 some (.done v8.2))
def Xb4 (p1 : Xe9) (v45 : (Int × (List Int))) : Option (Lp (Int × (List Int)) (List Int)) :=
 sel (decide (v45.1 < 16)) (
 req (0 ≤ v45.1 ∧ v45.1 < v45.2.length) <|
 req (v45.1.toNat < v45.2.length) <|
 bnd (Xh2 (v45.2.getD v45.1.toNat 0) p1.Qp v45.1) fun q49 =>
 req (0 ≤ v45.1 ∧ v45.1 < v45.2.length) <|
 req (v45.1.toNat < v45.2.length) <|
 some (.go (Xaa .i64 (v45.1 + 1), (v45.2.set v45.1.toNat q49)))) (
 some (.done v45.2))
def Xd1 (p0 : (List Int)) (p1 : Xe9) (v27 : (Int × (List Int))) : Option (Lp (Int × (List Int)) (List Int)) :=
 sel (decide (v27.1 < 4)) (
 bnd (Xh4 p0 v27.1) fun q41 =>
 bnd (Xub q41) fun q42 =>
 bnd (loop (Xb4 p1) (0, q42)) fun v48 =>
 bnd (Xh1 4 v48) fun q51 =>
 req ((v27.2.length + q51.1.length) * 8 ≤ 140737488355328 ∧ v27.2.length + q51.1.length ≤ maxLen) <|
 some (.go (Xaa .i64 (v27.1 + 1), (v27.2 ++ q51.1)))) (
 some (.done v27.2))
def Xds (p0 : (List Int)) (p1 : Xe9) : Option ((List Int) × Bool) :=
 bnd (
 bnd (Xmq p1) fun q2 =>
 sel q2 (
 bnd (Xcc p0 64 255) fun q3 =>
 some (!q3)) (
 some true)) fun v1 =>
 sel v1 (
 some (([] : List Int), false)) (
 sel p1.Exact (
 bnd (Xh1 8 p0) fun q4 =>
 some (q4.1, q4.2)) (
 sel p1.Large (
 bnd (Xrn p0) fun q5 =>
 bnd (loop (Xb9 p1) (0, q5)) fun v11 =>
 bnd (Xh1 8 v11) fun q14 =>
 some (q14.1, q14.2)) (
 bnd (loop (Xd1 p0 p1) (0, ([] : List Int))) fun v40 =>
 some (v40, true))))
def Xqu (p0 : Pic) (p1 : Pic) (p2 : (List Int)) (p3 : Int) (p4 : Int) (p5 : Xe9) (p6 : Int) : Option Xam :=
 bnd (
 sel p5.Key (
 some false) (
 bnd (Xkh p1 p3 p4) fun q2 =>
 bnd (Xnw p2 q2) fun q3 =>
 bnd (Xqg q3) fun q4 =>
 some q4)) fun v1 =>
 sel v1 (
 some (⟨0, 0, 0, 0, []⟩ : Xam)) (
 bnd (Xhz p0 p3 p4) fun q5 =>
 bnd (Xi7 p2 q5.1) fun q6 =>
 Yh8 (fun (v7 : Unit) =>
 bnd (Xew q6.1 q5.1) fun q14 =>
 bnd (Xnw p2 q14) fun q15 =>
 bnd (Xds q15 p5) fun q16 =>
 some (⟨2, q6.1, 0, 0, q16.1⟩ : Xam)) fun j1 =>
 sel (!p5.Key) (
 bnd (Xos p1 p2 p3 p4 p6) fun q8 =>
 sel (decide (q8.2.2 ≤ q6.2)) (
 bnd (Xkh p1 (Xaa .i64 (p3 + q8.1)) (Xaa .i64 (p4 + q8.2.1))) fun q9 =>
 bnd (Xnw p2 q9) fun q10 =>
 bnd (Xds q10 p5) fun q11 =>
 bnd (
 sel (q8.1 == 0) (
 sel (q8.2.1 == 0) (
 bnd (Xqg q11.1) fun q13 =>
 some q13) (
 some false)) (
 some false)) fun v12 =>
 sel v12 (
 some (⟨0, 0, 0, 0, []⟩ : Xam)) (
 some (⟨1, 0, q8.1, q8.2.1, q11.1⟩ : Xam))) (
 j1 ())) (
 j1 ()))
def Xm8 (p0 : Pic) (p1 : Pic) (p2 : (List Int)) (p3 : Int) (p4 : Int) (p5 : Xe9) (p6 : Int) : Option (Xam × (List Int) × Bool) :=
 bnd (
 bnd (Xkl p0 p3 p4) fun q2 =>
 sel q2 (
 bnd (Xf0 p2) fun q3 =>
 sel q3 (
 bnd (Xmq p5) fun q4 =>
 sel q4 (
 bnd (Xan p6 0 4) fun q5 =>
 sel q5 (
 sel p5.Key (
 some false) (
 bnd (Xqf p0 p1) fun q6 =>
 some (!q6))) (
 some true)) (
 some true)) (
 some true)) (
 some true)) fun v1 =>
 sel v1 (
 some ((⟨0, 0, 0, 0, []⟩ : Xam), ([] : List Int), false)) (
 bnd (Xqu p0 p1 p2 p3 p4 p5 p6) fun q7 =>
 bnd (Xft p0 p1 0 0 p5 p3 p4 q7) fun q8 =>
 some (q7, q8.1, true))
end
theorem Xab {α β : Type} (a : α) (f : α → Option β) : bnd (some a) f = f a := rfl
theorem Xf2 {α β : Type} {x : Option α} {a : α} {f : α → Option β} (h : x = some a) : bnd x f = f a := by subst h; rfl
theorem Xaw {β : Type} (x y : β) : sel true x y = x := rfl
theorem Xap {β : Type} (x y : β) : sel false x y = y := rfl
theorem Xte {β : Type} (b : Bool) (x y : β) : sel (!b) x y = sel b y x := by cases b <;> rfl
theorem Xdg (b x : Bool) : sel b (some x) (some false) = some (b && x) := by cases b <;> rfl
theorem Ydb (b x : Bool) : sel b (some true) (some x) = some (b || x) := by cases b <;> rfl
theorem Xsl (b x : Bool) : sel b (some x) (some true) = some (!b || x) := by cases b <;> rfl
theorem Ytd {β : Type} (b : Bool) (x y : β) : sel b (some x) (some y) = some (sel b x y) := by cases b <;> rfl
theorem Yiq {β : Type} (b : Bool) (x y : β) : sel b x y = if b = true then x else y := by cases b <;> rfl
theorem Yrt {β : Type} (p : Prop) [Decidable p] (x y : β) : sel (decide p) x y = if p then x else y := by
 by_cases h : p <;> simp [h, sel]
theorem Xbq {β : Type} {b : Bool} {x y : β} (h : b = true) : sel b x y = x := by subst h; rfl
theorem Xbf {β : Type} {b : Bool} {x y : β} (h : b = false) : sel b x y = y := by subst h; rfl
theorem Xbi {β : Type} {p : Prop} [Decidable p] {x y : β} (h : p) : sel (decide p) x y = x := by simp [h, sel]
theorem Xar {β : Type} {p : Prop} [Decidable p] {x y : β} (h : ¬ p) : sel (decide p) x y = y := by simp [h, sel]
theorem Xa2 {β : Type} {c : Prop} [Decidable c] {k : Option β} (h : c) : req c k = k := if_pos h
theorem wk {e : Int} (h1 : -9223372036854775808 ≤ e) (h2 : e ≤ 9223372036854775807) : Xaa .i64 e = e := by
 show wrap64 e = e
 unfold wrap64; omega
theorem rqA {β : Type} {c : Prop} [Decidable c] {k : Option β} (h : c := by omega) : req c k = k := Xa2 h
theorem syA {β : Type} {c : Prop} [Decidable c] {x y : β} (h : c := by omega) : sel (decide c) x y = x := Xbi h
theorem snA {β : Type} {c : Prop} [Decidable c] {x y : β} (h : ¬ c := by omega) : sel (decide c) x y = y := Xar h
theorem wkA {e : Int} (h1 : -9223372036854775808 ≤ e := by omega) (h2 : e ≤ 9223372036854775807 := by omega) : Xaa .i64 e = e := wk h1 h2
theorem w8 {e : Int} (h1 : 0 ≤ e) (h2 : e ≤ 255) : Xaa .u8 e = e := by
 show IntKind.wrap .u8 e = e
 simp [IntKind.wrap, IntKind.signed, IntKind.bits]; omega
theorem Zdm {n : Int} (h : (Lit.int .i64 n).wf = true) : -9223372036854775808 ≤ n ∧ n ≤ 9223372036854775807 := by
 simp [Lit.wf, IntKind.min, IntKind.max, IntKind.signed, IntKind.bits] at h
 omega
theorem Ywb : maxLen = 9223372036854775807 := rfl
theorem Xbu {a b : Int} (h : 0 ≤ a) : Int.tmod a b = a % b := Int.tmod_eq_emod_of_nonneg h
theorem Xbt {a b : Int} (h : 0 ≤ a) : Int.tdiv a b = a / b := Int.tdiv_eq_ediv_of_nonneg h
theorem Xhc {P : Nat → Prop} (n : Nat) (h0 : P n) (hs : ∀ i, i < n → P (i + 1) → P i) : ∀ i, i ≤ n → P i := by
 intro i hi
 obtain ⟨k, rfl⟩ : ∃ k, n = i + k := ⟨n - i, by omega⟩
 clear hi
 induction k generalizing i with
 | zero => exact h0
 | succ k ih =>
  refine hs i (by omega) ?_
  exact ih (i + 1) (by rw [show i + 1 + k = i + (k + 1) by omega]; exact h0) (fun j hj => hs j (by omega))
theorem lgo {V O : Type} {f : V → Option (Lp V O)} {x y : V} {r : Option O} (h : f x = some (.go y)) (k : loop f y = r) : loop f x = r := by rw [Xcs h]; exact k
theorem Xgl {V O : Type} {f : V → Option (Lp V O)} {x : V} {o : O} (h : f x = some (.done o)) : loop f x = some o := Xcv h
theorem Xoq {V O : Type} {f : V → Option (Lp V O)} (I : V → Prop) (m : V → Nat) (Q : V → O → Prop) (h : ∀ v, I v → (∃ o, f v = some (.done o) ∧ Q v o) ∨ ∃ v', f v = some (.go v') ∧ I v' ∧ m v' < m v ∧ ∀ o, Q v' o → Q v o) : ∀ v, I v → ∃ o, loop f v = some o ∧ Q v o := by
 intro v
 generalize hn : m v = n
 induction n using Nat.strongRecOn generalizing v with
 | _ n ih =>
  intro hv
  rcases h v hv with ⟨o, h1, h2⟩ | ⟨v', h1, h2, h3, h4⟩
  ·
   exact ⟨o, Xcv h1, h2⟩
  ·
   obtain ⟨o, h5, h6⟩ := ih (m v') (by omega) v' rfl h2
   exact ⟨o, by rw [Xcs h1]; exact h5, h4 o h6⟩
theorem Xcf {α : Type} (l : List α) (i : Nat) (h : i < l.length) (d : α) : l.getD i d = l[i] := by
 simp [List.getD_eq_getElem?_getD, List.getElem?_eq_getElem h]
theorem Xak (a b c : Int) : Xaj a b c = some (decide (b ≤ a ∧ a ≤ c)) := by
 unfold Xaj
 by_cases h : b ≤ a <;> simp [bnd, sel, h]
theorem Xal (a b c : Int) : Xan a b c = some (decide (b ≤ a ∧ a ≤ c)) := by
 unfold Xan
 by_cases h : b ≤ a <;> simp [bnd, sel, h]
theorem Yru {α : Type} (a : List α) (x y : α) (b : List α) : (a ++ x :: b).set a.length y = a ++ y :: b := by
 induction a with
 | nil => rfl
 | cons z a ih => simp only [List.cons_append, List.length_cons, List.set_cons_succ, ih]
theorem Xok {α : Type} (a : List α) (x d : α) (b : List α) : (a ++ x :: b).getD a.length d = x := by
 induction a with
 | nil => rfl
 | cons z a ih => simp
theorem Yaa {f : Int → Option (Lp Int (Ou Unit Bool))} (n : Nat) (h : ∀ i : Nat, i < n → f i = some (.go ((i + 1 : Nat) : Int))) (h0 : f n = some (.done (.out ()))) : loop f 0 = some (.out ()) :=
 Xhc (P := fun i => loop f (i : Int) = some (.out ())) n (Xcv h0) (fun i hi ih => by rw [Xcs (h i hi)]; exact ih) 0 (by omega)
theorem Yf5 (y : Int) : 0 ≤ IntKind.wrap .i64 (BitVec.ofInt (IntKind.bits .i64) y &&& BitVec.ofInt (IntKind.bits .i64) 255).toNat ∧ IntKind.wrap .i64 (BitVec.ofInt (IntKind.bits .i64) y &&& BitVec.ofInt (IntKind.bits .i64) 255).toNat ≤ 255 := by
 have h : (BitVec.ofInt (IntKind.bits .i64) y &&& BitVec.ofInt (IntKind.bits .i64) 255).toNat ≤ 255 := by
  rw [BitVec.toNat_and]
  exact Nat.le_trans Nat.and_le_right (by decide)
 generalize (BitVec.ofInt (IntKind.bits .i64) y &&& BitVec.ofInt (IntKind.bits .i64) 255).toNat = n at h ⊢
 rw [← Xqh, wkA]
 omega
def Xoj (c : Xbj) : Prop := c.b_.length ≤ 1048576 ∧ 0 ≤ c.i_
theorem Xwn (b : List Int) (hb : b.length ≤ 1048576) : ∃ c, Xmw b = some c ∧ Xoj c := by
 unfold Xmw
 obtain ⟨o, h, _⟩ := Xoq (f := Xna b) (fun v => 0 ≤ v.2) (fun v => b.length - v.2.toNat) (fun _ _ => True) (by
  intro ⟨h, i⟩ hi
  unfold Xna
  simp only [Xdg, Xab] at hi ⊢
  by_cases h1 : i < b.length ∧ i < 4000
  ·
   rw [Xbq (by simp; exact h1), Xa2 ⟨hi, h1.1⟩]
   refine .inr ⟨_, rfl, ?_, ?_, fun _ _ => trivial⟩
   ·
    simp only; rw [wkA]; omega
   ·
    simp only; rw [wkA]; omega
  ·
   rw [Xbf (by simp; omega)]
   exact .inl ⟨_, rfl, trivial⟩) (Xaa .i64 (94701 + (b.length : Int)), 0) (by simp)
 rw [h]
 exact ⟨_, rfl, hb, by simp⟩
theorem Xda (c : Xbj) (hc : Xoj c) : ∃ x c', Xb5 c = some (x, c') ∧ 0 ≤ x ∧ x ≤ 255 ∧ Xoj c' := by
 unfold Xb5
 rw [Xa2 (by decide), Xa2 (by decide)]
 obtain ⟨h1, h2⟩ := hc
 by_cases h : c.i_ < c.b_.length
 ·
  rw [Xbi h, Xa2 ⟨h2, h⟩, Xab]
  refine ⟨_, _, rfl, (Yf5 _).1, (Yf5 _).2, h1, ?_⟩
  simp only; rw [wkA]; omega
 ·
  rw [Xar h, Xab]
  exact ⟨_, _, rfl, (Yf5 _).1, (Yf5 _).2, h1, h2⟩
theorem Xay (c : Xbj) (n : Int) (hc : Xoj c) : ∃ x c', Xa1 c n = some (x, c') ∧ 0 ≤ x ∧ (0 < n → x < n) ∧ (n ≤ 0 → x = 0) ∧ Xoj c' := by
 unfold Xa1
 by_cases h0 : n ≤ 0
 ·
  rw [Xbi h0]; exact ⟨_, _, rfl, by omega, fun h => by omega, fun _ => rfl, hc⟩
 ·
  rw [Xar h0]
  obtain ⟨x, c1, e1, a1, b1, hc1⟩ := Xda c hc
  by_cases h1 : n ≤ 256
  ·
   rw [Xbi h1, e1, Xab, rqA]
   refine ⟨_, _, rfl, ?_, fun _ => ?_, fun h => by omega, hc1⟩
   ·
    simp only; rw [Xbu a1]; exact Int.emod_nonneg _ (by omega)
   ·
    simp only; rw [Xbu a1]; exact Int.emod_lt_of_pos _ (by omega)
  ·
   obtain ⟨y, c2, e2, a2, b2, hc2⟩ := Xda c1 hc1
   obtain ⟨z, c3, e3, a3, b3, hc3⟩ := Xda c2 hc2
   obtain ⟨u, c4, e4, a4, b4, hc4⟩ := Xda c3 hc3
   rw [Xar h1, e1, Xab]
   simp only
   rw [e2, Xab]
   simp only
   rw [e3, Xab]
   simp only
   rw [e4, Xab, rqA]
   simp only
   rw [wkA (e := x * 16777216), wkA (e := y * 65536), wkA (e := z * 256), wkA (e := x * 16777216 + y * 65536), wkA (e := x * 16777216 + y * 65536 + z * 256), wkA, Xbu (by omega)]
   exact ⟨_, _, rfl, Int.emod_nonneg _ (by omega), fun _ => Int.emod_lt_of_pos _ (by omega), fun h => by omega, hc4⟩
theorem Xln (c : Xbj) (n : Int) (hc : Xoj c) : ∃ x c', Xfy c n = some (x, c') ∧ Xoj c' := by
 unfold Xfy
 obtain ⟨x, c', e, _, _, _, h⟩ := Xay c n hc
 rw [e, Xab]; exact ⟨_, _, rfl, h⟩
theorem Yrj (l : List Int) : Yfp l = some (decide ((l.length : Int) > 1048576)) := rfl
theorem Yaf (b : List Int) (hb : b.length ≤ 1048576) : ∃ l, Xhy b = some l ∧ l.length = 12 ∧ ∀ x ∈ l, 0 ≤ x ∧ x < 10000 := by
 unfold Xhy
 obtain ⟨c, e, hc⟩ := Xwn b hb
 obtain ⟨x, c1, e1, _, _, hc1⟩ := Xda c hc
 rw [e, Xab, e1, Xab]
 obtain ⟨o, h, h2⟩ := Xoq (f := Xg8) (fun v => 0 ≤ v.1 ∧ v.1 ≤ 12 ∧ Xoj ⟨v.2.1, v.2.2.1, v.2.2.2.1⟩ ∧ (v.2.2.2.2.length : Int) = v.1 ∧ ∀ x ∈ v.2.2.2.2, 0 ≤ x ∧ x < 10000) (fun v => 12 - v.1.toNat) (fun _ o => o.length = 12 ∧ ∀ x ∈ o, 0 ≤ x ∧ x < 10000) (by
  intro ⟨i, b, j, h, l⟩ ⟨h1, h2, h3, h4, h5⟩
  unfold Xg8
  simp only at h1 h2 h3 h4 h5 ⊢
  by_cases hi : i < 12
  ·
   obtain ⟨x, c', ex, x0, x1, _, hx⟩ := Xay _ 10000 h3
   rw [Xbi hi, ex, Xab, Xa2 (by rw [Ywb]; simp only [List.length_singleton]; omega)]
   refine .inr ⟨_, rfl, ?_, ?_, fun _ h => h⟩
   ·
    rw [wkA]
    refine ⟨by omega, by omega, hx, by simp; omega, ?_⟩
    intro y hy
    rcases List.mem_append.1 hy with hy | hy
    ·
     exact h5 y hy
    ·
     rw [List.mem_singleton.1 hy]; exact ⟨x0, x1 (by omega)⟩
   ·
    rw [wkA]; omega
  ·
   rw [Xar hi]
   exact .inl ⟨_, rfl, by omega, h5⟩) (0, c1.b_, c1.i_, c1.h_, []) ⟨by simp, by simp, hc1, by simp, by simp⟩
 rw [h]
 exact ⟨_, rfl, h2⟩
def Xbn (n a b : Int) : Int := if b < a ∨ n < a then a else if n > b then b else n
theorem Xhf (n a b : Int) : Xcp n a b = some (Xbn n a b) := by
 unfold Xcp Xbn
 congr 1
 repeat' split
 all_goals omega
def Xkg (r : Rate) : Bool := decide (0 ≤ r.Qp ∧ r.Qp ≤ 40 ∧ 1 ≤ r.Target ∧ r.Target ≤ 100000 ∧ -8 * r.Target ≤ r.Debt ∧ r.Debt ≤ 8 * r.Target)
theorem Xo2 (r : Rate) : Xkg r = true ↔ 0 ≤ r.Qp ∧ r.Qp ≤ 40 ∧ 1 ≤ r.Target ∧ r.Target ≤ 100000 ∧ -8 * r.Target ≤ r.Debt ∧ r.Debt ≤ 8 * r.Target := by simp [Xkg]
theorem Xqj (r : Rate) : Xjt r = some (Xkg r) := by
 unfold Xjt Xkg
 simp only [Xak, Xab]
 by_cases h1 : 0 ≤ r.Qp ∧ r.Qp ≤ 40
 ·
  rw [Xbi h1]
  by_cases h2 : 1 ≤ r.Target ∧ r.Target ≤ 100000
  ·
   rw [Xbi h2, wkA, wkA, Xab]
   simp only [h1.1, h1.2, h2.1, h2.2, true_and]
  ·
   rw [Xar h2, Xab]; congr 1; symm; rw [decide_eq_false_iff_not]; exact fun h => h2 ⟨h.2.2.1, h.2.2.2.1⟩
 ·
  rw [Xar h1, Xab]; congr 1; symm; rw [decide_eq_false_iff_not]; exact fun h => h1 ⟨h.1, h.2.1⟩
def Xg7 (r : Rate) (n : Int) : Int := Xbn (r.Debt + Xbn n 0 400000 - r.Target) (-8 * r.Target) (8 * r.Target)
def Xz6 (r : Rate) (n : Int) : Rate :=
 if Xkg r = true then ⟨Xbn (if Xg7 r n > r.Target then r.Qp + 1 else if Xg7 r n < -r.Target then r.Qp - 1 else r.Qp) 0 40, r.Target, Xg7 r n⟩ else r
theorem Xfc {n a b : Int} (h : a ≤ b) : a ≤ Xbn n a b ∧ Xbn n a b ≤ b := by
 unfold Xbn
 repeat' split
 all_goals omega
theorem Yd0 (r : Rate) (n : Int) : Xkw r n = some (Xz6 r n) := by
 unfold Xkw Xz6
 rw [Xqj, Xab]
 by_cases h : Xkg r = true
 ·
  rw [if_pos h, Xbf (by rw [h]; rfl)]
  have h' := (Xo2 r).1 h
  have hb := Xfc (n := n) (a := 0) (b := 400000) (by omega)
  simp only [Xhf, Xab]
  rw [wkA (e := r.Debt + Xbn n 0 400000), wkA (e := r.Debt + Xbn n 0 400000 - r.Target), wkA (e := -8 * r.Target), wkA (e := 8 * r.Target)]
  have hd := Xfc (n := r.Debt + Xbn n 0 400000 - r.Target) (a := -8 * r.Target) (b := 8 * r.Target) (by omega)
  have ed : Xbn (r.Debt + Xbn n 0 400000 - r.Target) (-8 * r.Target) (8 * r.Target) = Xg7 r n := rfl
  rw [ed]
  have hd' : -8 * r.Target ≤ Xg7 r n ∧ Xg7 r n ≤ 8 * r.Target := hd
  rw [wkA (e := r.Qp + 1), wkA (e := r.Qp - 1), wkA (e := 0 - r.Target)]
  simp only [Yrt]
  by_cases h1 : Xg7 r n > r.Target
  ·
   rw [if_pos h1, if_pos h1, Xab]
  ·
   rw [if_neg h1, if_neg h1]
   by_cases h2 : Xg7 r n < -r.Target
   ·
    rw [if_pos h2, if_pos (show Xg7 r n < 0 - r.Target by omega), Xab]
   ·
    rw [if_neg h2, if_neg (show ¬ Xg7 r n < 0 - r.Target by omega), Xab]
 ·
  rw [if_neg h, Xbq (by simpa using h)]
theorem Yrr (r : Rate) (n : Int) (h : Xkg r = true) : Xkg (Xz6 r n) = true := by
 unfold Xz6
 rw [if_pos h]
 have h' := (Xo2 r).1 h
 rw [Xo2]
 have hd : -8 * r.Target ≤ Xg7 r n ∧ Xg7 r n ≤ 8 * r.Target := Xfc (by omega)
 have hq := Xfc (n := (if Xg7 r n > r.Target then r.Qp + 1 else if Xg7 r n < -r.Target then r.Qp - 1 else r.Qp)) (a := 0) (b := 40) (by omega)
 simp only
 omega
def Xsi (r : Rate) (key : Bool) : Int := if Xkg r = true then (if key = true then Xbn (r.Qp - 2) 0 40 else r.Qp) else 0
theorem Ymt (r : Rate) (key : Bool) : Xq2 r key = some (Xsi r key) := by
 unfold Xq2 Xsi
 rw [Xqj, Xab, Xte]
 by_cases h : Xkg r = true
 ·
  rw [if_pos h, Xbq h]
  have h' := (Xo2 r).1 h
  rw [wkA]
  cases key
  ·
   rfl
  ·
   rw [Xaw, if_pos rfl]; congr 1; unfold Xbn; repeat' split
   all_goals omega
 ·
  rw [if_neg h, Xbf (by simpa using h)]
theorem Yfg (c : Xbj) (hc : Xoj c) : ∃ r c', Xly c = some (r, c') ∧ Xkg r = true ∧ Xoj c' := by
 unfold Xly
 obtain ⟨x, c1, e1, a1, b1, _, h1⟩ := Xay c 2000 hc
 rw [e1, Xab]
 obtain ⟨y, c2, e2, a2, b2, _, h2⟩ := Xay c1 41 h1
 simp only
 rw [e2, Xab]
 have b1' := b1 (by omega)
 have b2' := b2 (by omega)
 rw [wkA (e := 1 + x), wkA (e := 16 * (1 + x)), wkA (e := 16 * (1 + x) + 1)]
 obtain ⟨z, c3, e3, a3, b3, _, h3⟩ := Xay c2 (16 * (1 + x) + 1) h2
 have b3' := b3 (by omega)
 simp only
 rw [e3, Xab, wkA (e := 8 * (1 + x)), wkA]
 refine ⟨_, _, rfl, ?_, h3⟩
 rw [Xo2]
 simp only
 omega
def cnt (n : Int) : Bool := decide (0 ≤ n ∧ n ≤ 1000000000)
def Zad (n : Int) : Int := if n + 1 < 1000000000 then n + 1 else 1000000000
theorem Xtz (n : Int) (h : cnt n = true) : Xj9 n = some (Zad n) := by
 have h' : 0 ≤ n ∧ n ≤ 1000000000 := by simpa [cnt] using h
 unfold Xj9 Zad
 rw [wkA]
 congr 1
 split <;> split <;> omega
theorem Xfn (n a b : Int) : Xev n a b = some (Xbn n a b) := by
 unfold Xev Xbn
 rw [Ydb, Xab]
 by_cases h : b < a ∨ n < a
 ·
  rw [if_pos h, Xbq (by simpa using h)]
 ·
  rw [if_neg h, Xbf (by simp; omega), Yrt]; split <;> rfl
theorem Ysc {n : Int} (h : cnt n = true) : cnt (Zad n) = true := by
 unfold cnt Zad at *
 simp only [decide_eq_true_eq] at *
 split <;> omega
def Xeh (n : Int) : Bool := decide (1 ≤ n ∧ n ≤ 8)
def Xoz : List Int → Int
 | [] => 0
 | x :: r => x + Xoz r
def Xea (l : List Int) : Bool := decide (1 ≤ l.length ∧ l.length ≤ 4) && l.all Xeh
def Yan (l : List Int) : Int := if Xea l = true then Xoz l else 0
theorem Xsd : ∀ {l : List Int}, l.all Xeh = true → (l.length : Int) ≤ Xoz l ∧ Xoz l ≤ 8 * l.length
 | [], _ => by simp [Xoz]
 | x :: r, h => by
  rw [List.all_cons, Bool.and_eq_true] at h
  have := Xsd h.2
  have hx := h.1
  unfold Xeh at hx
  simp only [decide_eq_true_eq] at hx
  rw [Xoz, List.length_cons]
  omega
theorem Yde (l : List Int) : 0 ≤ Yan l ∧ Yan l ≤ 32 := by
 unfold Yan
 split
 ·
  rename_i h
  unfold Xea at h
  rw [Bool.and_eq_true, decide_eq_true_eq] at h
  have := Xsd h.2
  omega
 ·
  omega
theorem Xnc (l : List Int) : Xh3 l = some (Yan l) := by
 unfold Xh3 Yan Xea
 rw [Ydb, Xab]
 by_cases h : 1 ≤ l.length ∧ l.length ≤ 4
 ·
  rw [Xbf (by simp; omega), decide_eq_true h, Bool.true_and]
  have key : ∀ (r a : List Int) (t : Int), l = a ++ r → 0 ≤ t → t ≤ 8 * a.length → loop (Xg2 l) (t, (a.length : Int)) = some (if r.all Xeh = true then .out (t + Xoz r) else .ret 0) := by
   intro r
   induction r with
   | nil =>
    intro a t ha h0 h1
    rw [List.append_nil] at ha
    refine Xgl ?_
    unfold Xg2
    simp only
    rw [Xar (by rw [ha]; omega)]
    simp [Xoz]
   | cons x r ih =>
    intro a t ha h0 h1
    have hlen : a.length < l.length := by rw [ha]; simp
    have hx : l.getD a.length 0 = x := by rw [ha]; exact Xok a x _ r
    have hstep : Xg2 l (t, (a.length : Int)) = sel (Xeh x) (some (.go (Xaa .i64 (t + x), ((a.length + 1 : Nat) : Int)))) (some (.done (.ret 0))) := by
     unfold Xg2
     simp only [Int.toNat_natCast, hx]
     rw [syA, rqA, Xal, Xab, Xte, rqA, wkA (e := (a.length : Int) + 1)]
     rfl
    cases e : Xeh x with
    | true =>
     rw [e] at hstep
     have hx2 := e
     unfold Xeh at hx2
     simp only [decide_eq_true_eq] at hx2
     rw [wkA, Xaw] at hstep
     have := ih (a ++ [x]) (t + x) (by rw [ha]; simp) (by omega) (by simp; omega)
     rw [List.length_append, List.length_singleton] at this
     rw [Xcs hstep, this, List.all_cons, e, Bool.true_and, Xoz, Int.add_assoc]
    | false =>
     rw [e, Xap] at hstep
     rw [Xcv hstep, List.all_cons, e, Bool.false_and]; rfl
  have := key l [] 0 rfl (by omega) (by simp)
  simp only [List.length_nil, Int.zero_add] at this
  rw [show (((0 : Int), (0 : Int))) = (0, ((0 : Nat) : Int)) from rfl, this, Xab]
  cases l.all Xeh <;> rfl
 ·
  rw [Xbq (by simp; omega), decide_eq_false h, Bool.false_and]; rfl
theorem Xop (l : List Int) (h : Xea l = true) : Xce l = some (Xoz l) := by
 unfold Xea at h
 rw [Bool.and_eq_true, decide_eq_true_eq] at h
 unfold Xce
 have key : ∀ (r a : List Int) (t : Int), l = a ++ r → 0 ≤ t → t ≤ 8 * a.length → loop (Xdp l) (t, (a.length : Int)) = some (t + Xoz r) := by
  intro r
  induction r with
  | nil =>
   intro a t ha h0 h1
   rw [List.append_nil] at ha
   refine Xgl ?_
   unfold Xdp
   simp only
   rw [Xar (by rw [ha]; omega)]
   simp [Xoz]
  | cons x r ih =>
   intro a t ha h0 h1
   have hlen : a.length < l.length := by rw [ha]; simp
   have hx : l.getD a.length 0 = x := by rw [ha]; exact Xok a x _ r
   have e : Xeh x = true := List.all_eq_true.1 h.2 x (by rw [ha]; simp)
   unfold Xeh at e
   simp only [decide_eq_true_eq] at e
   have := ih (a ++ [x]) (t + x) (by rw [ha]; simp) (by omega) (by simp; omega)
   rw [List.length_append, List.length_singleton] at this
   rw [Xoz, ← Int.add_assoc, ← this]
   refine Xcs ?_
   unfold Xdp
   simp only [Int.toNat_natCast, hx]
   rw [syA, rqA, wkA (e := (a.length : Int) + 1), wkA]
   rfl
 have := key l [] 0 rfl (by omega) (by simp)
 simp only [List.length_nil, Int.zero_add] at this
 rw [show (((0 : Int), (0 : Int))) = (0, ((0 : Nat) : Int)) from rfl, this, Xab]
def Xg3 (s : Seq) : Int := Yan s.Cols * Yan s.Rows
theorem Xwr (s : Seq) : 0 ≤ Xg3 s ∧ Xg3 s ≤ 1024 := by
 unfold Xg3
 have h1 := Yde s.Cols
 have h2 := Yde s.Rows
 refine ⟨Int.mul_nonneg h1.1 h2.1, ?_⟩
 calc Yan s.Cols * Yan s.Rows ≤ 32 * Yan s.Rows := Int.mul_le_mul_of_nonneg_right h1.2 h2.1
  _ ≤ 1024 := by omega
theorem Ycd (s : Seq) : Xjd s = some (Xg3 s) := by
 have h := Xwr s
 unfold Xjd
 rw [Xnc, Xab, Xnc, Xab, wk (by show _ ≤ Xg3 s; omega) (by show Xg3 s ≤ _; omega)]
 rfl
theorem Yuu (s : Seq) (n : Nat) (hn : n = 0 ∨ n = 1) (l : List Int) (hl : ([s.Cols, s.Rows]).getD n Xf3 = l) (h4 : l.length ≤ 4) : loop (Xcg s (n : Int)) 0 = some (if l.all Xeh = true then .out () else .ret 0) := by
 have key : ∀ (r a : List Int), l = a ++ r → loop (Xcg s (n : Int)) (a.length : Int) = some (if r.all Xeh = true then .out () else .ret 0) := by
  intro r
  induction r with
  | nil =>
   intro a ha
   rw [List.append_nil] at ha
   refine Xgl ?_
   unfold Xcg
   rw [Int.toNat_natCast, hl, Xar (by rw [ha]; omega)]; rfl
  | cons x r ih =>
   intro a ha
   have hlen : a.length < l.length := by rw [ha]; simp
   have hx : l.getD a.length 0 = x := by rw [ha]; exact Xok a x _ r
   have hstep : Xcg s (n : Int) (a.length : Int) = sel (Xeh x) (some (.go ((a.length + 1 : Nat) : Int))) (some (.done (.ret 0))) := by
    unfold Xcg
    simp only [Int.toNat_natCast, hl, hx]
    rw [syA, rqA, Xak, Xab, Xte, wkA]
    rfl
   cases e : Xeh x with
   | true =>
    rw [e, Xaw] at hstep
    have := ih (a ++ [x]) (by rw [ha]; simp)
    rw [List.length_append, List.length_singleton] at this
    rw [Xcs hstep, this, List.all_cons, e, Bool.true_and]
   | false => rw [e, Xap] at hstep; rw [Xcv hstep, List.all_cons, e, Bool.false_and]; rfl
 exact key l [] rfl
theorem Xq6 (s : Seq) (h1 : s.Cols.length ≤ maxLen) (h2 : s.Rows.length ≤ maxLen) : Xdv s = some (Xg3 s) := by
 have h := Xwr s
 unfold Xdv
 have step : ∀ (n : Nat) (l : List Int), n = 0 ∨ n = 1 → ([s.Cols, s.Rows]).getD n Xf3 = l → Xdc s (n : Int) = sel (Xea l) (some (.go ((n + 1 : Nat) : Int))) (some (.done (.ret 0))) := by
  intro n l hn hl
  unfold Xdc Xea
  rw [Int.toNat_natCast, hl]
  simp only [List.length_cons, List.length_nil]
  rw [syA, rqA, rqA, Xak, Xab, Xte]
  by_cases h4 : 1 ≤ l.length ∧ l.length ≤ 4
  ·
   rw [syA, Yuu s n hn l hl h4.2, Xab, decide_eq_true h4, Bool.true_and, wkA]
   cases l.all Xeh <;> rfl
  ·
   rw [snA, decide_eq_false h4, Bool.false_and, Xap]
 have s0 := step 0 s.Cols (.inl rfl) rfl
 have s1 := step 1 s.Rows (.inr rfl) rfl
 have s2 : Xdc s ((2 : Nat) : Int) = some (.done (.out ())) := by unfold Xdc; rw [Xar (by simp)]
 rw [show (0 : Int) = ((0 : Nat) : Int) from rfl]
 unfold Xg3 at h ⊢
 unfold Yan at h ⊢
 cases e0 : Xea s.Cols with
 | false => rw [e0, Xap] at s0; rw [Xcv s0, Xab]; simp
 | true =>
  rw [e0, Xaw] at s0
  rw [Xcs s0]
  cases e1 : Xea s.Rows with
  | false => rw [e1, Xap] at s1; rw [Xcv s1, Xab]; simp
  | true =>
   rw [e1, Xaw] at s1
   rw [Xcs s1, Xcv s2, Xab]
   simp only
   rw [e0, e1, if_pos rfl, if_pos rfl] at h
   rw [Xop _ e0, Xab, Xop _ e1, Xab, wkA]
   simp
def Xkf (n : Int) : Int := if n = 1 then 16 else if n = 2 then 64 else if n = 3 then 256 else 0
theorem Xvm (n : Int) : Xfp n = some (Xkf n) := by
 unfold Xfp Xkf
 simp only [Yiq, beq_iff_eq]
 repeat' split
 all_goals rfl
theorem Xvf (n : Int) : Xff n = some (Xkf n) := by
 unfold Xff Xkf
 rw [Xak, Xab, Xte]
 by_cases h : 1 ≤ n ∧ n ≤ 3
 ·
  rw [Xbi h, wkA, Xa2 (by simp only [List.length_cons, List.length_nil]; omega), Xa2 (by simp only [List.length_cons, List.length_nil]; omega)]
  rcases (show n = 1 ∨ n = 2 ∨ n = 3 by omega) with rfl | rfl | rfl <;> rfl
 ·
  rw [Xar h, if_neg (by omega), if_neg (by omega), if_neg (by omega)]
def Xg9 (s : Seq) : Bool := decide (1 ≤ Xg3 s ∧ Xg3 s ≤ Xkf s.Level) && decide (3 ≤ s.Bits ∧ s.Bits ≤ 8)
theorem Xsq (s : Seq) : Xms s = some (Xg9 s) := by
 unfold Xms Xg9
 simp only [Ycd, Xvm, Xal, Xab, Xdg]
theorem Xic (s : Seq) (h1 : s.Cols.length ≤ maxLen) (h2 : s.Rows.length ≤ maxLen) : Xgs s = some (Xg9 s) := by
 unfold Xgs Xg9
 simp only [Xq6 s h1 h2, Xvf, Xak, Xab, Xdg]
theorem Xa8 {s : Seq} (h : Xg9 s = true) : Xea s.Cols = true ∧ Xea s.Rows = true ∧ 3 ≤ s.Bits ∧ s.Bits ≤ 8 := by
 unfold Xg9 at h
 rw [Bool.and_eq_true, decide_eq_true_eq, decide_eq_true_eq] at h
 obtain ⟨⟨h1, _⟩, h3⟩ := h
 unfold Xg3 Yan at h1
 refine ⟨?_, ?_, h3⟩
 ·
  refine Classical.byContradiction fun e => ?_
  rw [if_neg e, Int.zero_mul] at h1; omega
 ·
  refine Classical.byContradiction fun e => ?_
  rw [if_neg e, Int.mul_zero] at h1; omega
def Xu1 (c r : List Int) : Int := if Xg9 ⟨1, 3, c, r⟩ = true then 1 else if Xg9 ⟨2, 3, c, r⟩ = true then 2 else if Xg9 ⟨3, 3, c, r⟩ = true then 3 else 0
theorem Yud (c r : List Int) (f : Int → Option (Lp Int (Ou Unit Int))) (h : ∀ n : Int, n ≤ 3 → 1 ≤ n → f n = sel (Xg9 ⟨n, 3, c, r⟩) (some (.done (.ret n))) (some (.go (n + 1)))) (h4 : f 4 = some (.done (.out ()))) :
  (bnd (loop f 1) fun o => match o with | .out _ => some 0 | .ret r => some r) = some (Xu1 c r) := by
 have h1 := h 1 (by omega) (by omega)
 have h2 := h 2 (by omega) (by omega)
 have h3 := h 3 (by omega) (by omega)
 unfold Xu1
 cases e1 : Xg9 ⟨1, 3, c, r⟩ with
 | true => rw [e1, Xaw] at h1; rw [Xcv h1]; rfl
 | false =>
  rw [e1, Xap] at h1
  rw [Xcs h1]
  cases e2 : Xg9 ⟨2, 3, c, r⟩ with
  | true => rw [e2, Xaw] at h2; rw [show (1 : Int) + 1 = 2 from rfl, Xcv h2]; rfl
  | false =>
   rw [e2, Xap] at h2
   rw [show (1 : Int) + 1 = 2 from rfl, Xcs h2]
   cases e3 : Xg9 ⟨3, 3, c, r⟩ with
   | true => rw [e3, Xaw] at h3; rw [show (2 : Int) + 1 = 3 from rfl, Xcv h3]; rfl
   | false =>
    rw [e3, Xap] at h3
    rw [show (2 : Int) + 1 = 3 from rfl, Xcs h3, show (3 : Int) + 1 = 4 from rfl, Xcv h4]; rfl
theorem Ye1 (c r : List Int) : Xlj c r = some (Xu1 c r) := by
 unfold Xlj
 refine Yud c r _ (fun n h1 h2 => ?_) ?_
 ·
  unfold Xjo
  rw [Xbi h1, Xsq, Xab, wkA]
 ·
  unfold Xjo; rw [snA]
def Xb8 (s : Seq) : Int := if Xg9 s = true then (s.Cols.length : Int) * s.Rows.length else 0
theorem Xbb {l : List Int} (h : Xea l = true) : 1 ≤ l.length ∧ l.length ≤ 4 := by
 unfold Xea at h; rw [Bool.and_eq_true, decide_eq_true_eq] at h; exact h.1
theorem Yjc {s : Seq} (h : Xg9 s = true) : 1 ≤ (s.Cols.length : Int) * s.Rows.length ∧ (s.Cols.length : Int) * s.Rows.length ≤ 16 := by
 obtain ⟨h1, h2, _⟩ := Xa8 h
 have a := Xbb h1
 have b := Xbb h2
 have e : ∀ x y : Nat, 1 ≤ x → x ≤ 4 → 1 ≤ y → y ≤ 4 → 1 ≤ x * y ∧ x * y ≤ 16 := by
  intro x y h1 h2 h3 h4
  rcases (show x = 1 ∨ x = 2 ∨ x = 3 ∨ x = 4 by omega) with rfl | rfl | rfl | rfl <;> omega
 have := e _ _ a.1 a.2 b.1 b.2
 rw [← Int.natCast_mul]; omega
theorem Xuf (s : Seq) : Xki s = some (Xb8 s) := by
 unfold Xki Xb8
 rw [Xsq, Xab, Xte]
 cases h : Xg9 s with
 | false => rfl
 | true => have := Yjc h; rw [Xaw, wkA, if_pos rfl]
theorem Xhn (s : Seq) (h1 : s.Cols.length ≤ maxLen) (h2 : s.Rows.length ≤ maxLen) : Xdw s = some (Xb8 s) := by
 unfold Xdw Xb8
 rw [Xic s h1 h2, Xab, Xte]
 cases h : Xg9 s with
 | false => rfl
 | true => have := Yjc h; rw [Xaw, wkA, if_pos rfl]
def Xjx (s : Seq) : Int × Int := if Xg9 s = true then (8 * Xoz s.Cols, 8 * Xoz s.Rows) else (0, 0)
theorem Ybz {l : List Int} (h : Xea l = true) : 1 ≤ Xoz l ∧ Xoz l ≤ 32 := by
 unfold Xea at h
 rw [Bool.and_eq_true, decide_eq_true_eq] at h
 have := Xsd h.2
 omega
theorem Xwk (s : Seq) : Xmu s = some (Xjx s) := by
 unfold Xmu Xjx
 rw [Xsq, Xab, Xte]
 cases h : Xg9 s with
 | false => rfl
 | true =>
  obtain ⟨h1, h2, _⟩ := Xa8 h
  have a := Ybz h1
  have b := Ybz h2
  rw [Xaw, Xnc, Xab, Xnc, Xab, if_pos rfl]
  unfold Yan
  rw [if_pos h1, if_pos h2, wkA, wkA]
theorem Ykd (s : Seq) (h1 : s.Cols.length ≤ maxLen) (h2 : s.Rows.length ≤ maxLen) : Xpb s = some (Xjx s) := by
 unfold Xpb Xjx
 rw [Xic s h1 h2, Xab, Xte]
 cases h : Xg9 s with
 | false => rfl
 | true =>
  obtain ⟨h1, h2, _⟩ := Xa8 h
  have a := Ybz h1
  have b := Ybz h2
  rw [Xaw, Xop _ h1, Xab, Xop _ h2, Xab, if_pos rfl, wkA, wkA]
def Xkm (p : Par) : Bool := decide (0 ≤ p.Qp ∧ p.Qp ≤ 40) && !(p.Large && p.Exact)
theorem Yn2 (p : Par) : Xrr p = some (Xkm p) := by
 unfold Xrr Xkm
 rw [Xal, Xab, Xsl, Xdg, Xab]
 cases p.Large <;> cases p.Exact <;> rfl
theorem Xdm (p : Par) : Xem p = some (Xkm p) := by
 unfold Xem Xkm
 rw [Xak, Xab, Xsl, Xdg, Xab]
 cases p.Large <;> cases p.Exact <;> rfl
def Xc1 (p : Pic) : Bool := decide (1 ≤ p.Wide ∧ p.Wide ≤ 256) && (decide (1 ≤ p.High ∧ p.High ≤ 256) && ((p.Dots.size : Int) == p.Wide * p.High))
theorem Xgr {w h : Int} (h1 : 1 ≤ w ∧ w ≤ 256) (h2 : 1 ≤ h ∧ h ≤ 256) : 1 ≤ w * h ∧ w * h ≤ 65536 := by
 have a : w * 1 ≤ w * h := Int.mul_le_mul_of_nonneg_left h2.1 (by omega)
 have b : w * h ≤ 256 * h := Int.mul_le_mul_of_nonneg_right h1.2 (by omega)
 omega
theorem Xgc (p : Pic) : Xfr p = some (Xc1 p) := by
 unfold Xfr Xc1
 simp only [Xal, Xab, Xdg]
 by_cases h1 : 1 ≤ p.Wide ∧ p.Wide ≤ 256
 ·
  by_cases h2 : 1 ≤ p.High ∧ p.High ≤ 256
  ·
   have := Xgr h1 h2
   rw [wkA]
  ·
   rw [decide_eq_false h2, Bool.false_and, Bool.false_and]
 ·
  rw [decide_eq_false h1, Bool.false_and, Bool.false_and]
theorem Xc7 (p : Pic) : Xcx p = some (Xc1 p) := by
 unfold Xcx Xc1
 simp only [Xak, Xab, Xdg]
 by_cases h1 : 1 ≤ p.Wide ∧ p.Wide ≤ 256
 ·
  by_cases h2 : 1 ≤ p.High ∧ p.High ≤ 256
  ·
   have := Xgr h1 h2
   rw [wkA]
  ·
   rw [decide_eq_false h2, Bool.false_and, Bool.false_and]
 ·
  rw [decide_eq_false h1, Bool.false_and, Bool.false_and]
def Xtm (p : Pic) (s : Seq) : Bool := Xc1 p && ((p.Wide == (Xjx s).1) && (p.High == (Xjx s).2))
theorem Ycw (p : Pic) (s : Seq) (h1 : s.Cols.length ≤ maxLen) (h2 : s.Rows.length ≤ maxLen) : Xq9 p s = some (Xtm p s) := by
 unfold Xq9 Xtm
 simp only [Ykd s h1 h2, Xc7, Xab, Xdg]
theorem Yk4 (r : Rate) : Xpo r = some (Xkg r) := by
 unfold Xpo Xkg
 simp only [Xal, Xab]
 by_cases h1 : 0 ≤ r.Qp ∧ r.Qp ≤ 40
 ·
  rw [Xbi h1]
  by_cases h2 : 1 ≤ r.Target ∧ r.Target ≤ 100000
  ·
   rw [Xbi h2, wkA, wkA, Xab]
   simp only [h1.1, h1.2, h2.1, h2.2, true_and]
  ·
   rw [Xar h2, Xab]; congr 1; symm; rw [decide_eq_false_iff_not]; exact fun h => h2 ⟨h.2.2.1, h.2.2.2.1⟩
 ·
  rw [Xar h1, Xab]; congr 1; symm; rw [decide_eq_false_iff_not]; exact fun h => h1 ⟨h.1, h.2.1⟩
def Xa9 (s : Xa5) : Bool :=
 decide (Xb8 s.Seq = 1) && Xkm s.Par && Xkg s.Rate && decide (0 ≤ s.Frame ∧ s.Frame < 2 ^ s.Seq.Bits.toNat) && decide ((1 ≤ s.Every ∧ s.Every ≤ 1000) ∧ (0 ≤ s.Since ∧ s.Since ≤ 1000) ∧ (0 ≤ s.Reach ∧ s.Reach ≤ 4)) &&
 (if s.Has = true then Xtm s.Ref s.Seq else decide (s.Ref.Wide = 0 ∧ s.Ref.High = 0 ∧ s.Ref.Dots.size = 0))
theorem Ysa {b : Int} (h : 3 ≤ b ∧ b ≤ 8) : (2 : Int) ^ min b.toNat (IntKind.bits .i64) = 2 ^ b.toNat ∧ (8 : Int) ≤ 2 ^ b.toNat ∧ (2 : Int) ^ b.toNat ≤ 256 := by
 rcases (show b = 3 ∨ b = 4 ∨ b = 5 ∨ b = 6 ∨ b = 7 ∨ b = 8 by omega) with rfl | rfl | rfl | rfl | rfl | rfl <;> decide
theorem Xpw {s : Seq} (h : Xb8 s = 1) : Xg9 s = true := by
 unfold Xb8 at h
 refine Classical.byContradiction fun e => ?_
 rw [if_neg e] at h; cases h
theorem Yww (b : ByteArray) : (b.toList == (⟨#[]⟩ : ByteArray).toList) = decide (b.size = 0) := by
 rw [ByteArray.toList_eq, ByteArray.toList_eq, Bool.eq_iff_iff]
 obtain ⟨⟨l⟩⟩ := b
 show (l == []) = true ↔ decide (l.length = 0) = true
 cases l <;> simp
theorem Ye3 (s : Xa5) (hb : (Lit.int .i64 s.Seq.Bits).wf = true) : Xlk s = some (Xa9 s) := by
 have hb' := Zdm hb
 unfold Xlk Xa9
 rw [Xuf, Xab]
 by_cases h1 : Xb8 s.Seq = 1
 ·
  have hs := (Xa8 (Xpw h1)).2.2
  have hp := Ysa hs
  have e64 : Xaa .u64 s.Seq.Bits = s.Seq.Bits := by
   show IntKind.wrap .u64 s.Seq.Bits = _
   simp [IntKind.wrap, IntKind.signed, IntKind.bits]; omega
  rw [Xbf (by simp [h1]), e64, rqA, hp.1, wkA, Yn2, Xab, Yk4, Xab, Ydb, Xsl, Xsl, Xab]
  simp only [Xal, Xab, Xsl]
  rw [decide_eq_true h1, Bool.true_and]
  cases hpar : Xkm s.Par with
  | false => rfl
  | true =>
   cases hr : Xkg s.Rate with
   | false => rfl
   | true =>
    by_cases hf : 0 ≤ s.Frame ∧ s.Frame < 2 ^ s.Seq.Bits.toNat
    ·
     rw [Xbf (by simp; omega), decide_eq_true hf]
     by_cases h3 : (1 ≤ s.Every ∧ s.Every ≤ 1000) ∧ (0 ≤ s.Since ∧ s.Since ≤ 1000) ∧ (0 ≤ s.Reach ∧ s.Reach ≤ 4)
     ·
      rw [Xbf (by simp; omega), decide_eq_true h3, Xwk, Xab]
      cases s.Has with
      | true =>
       rw [Xaw]
       simp only [Xgc, Xab, Xdg, Xtm]
       rfl
      | false =>
       rw [Xap]
       simp only [Xab, Xdg]
       congr 1
       rw [Bool.eq_iff_iff]; simp
     ·
      rw [Xbq (by simp; omega), decide_eq_false h3]; simp
    ·
     rw [Xbq (by simp; omega), decide_eq_false hf]; simp
 ·
  rw [Xbq (by simpa using h1), Xab, Xaw, decide_eq_false h1]; simp
theorem Xn5 (s : Xa5) (h1 : s.Seq.Cols.length ≤ maxLen) (h2 : s.Seq.Rows.length ≤ maxLen) : Xf7 s = some (Xa9 s) := by
 unfold Xf7 Xa9
 rw [Xhn _ h1 h2, Xab]
 by_cases ht : Xb8 s.Seq = 1
 ·
  have hs := (Xa8 (Xpw ht)).2.2
  have hp := Ysa hs
  rw [Xbf (by simp [ht]), rqA, hp.1, wkA (e := 1 * 2 ^ s.Seq.Bits.toNat), wkA, Xdm, Xab, Xqj, Xab]
  simp only [Xak, Xab, Xsl]
  rw [decide_eq_true ht, Bool.true_and]
  cases hpar : Xkm s.Par with
  | false => rfl
  | true =>
   cases hr : Xkg s.Rate with
   | false => rfl
   | true =>
    by_cases hf : 0 ≤ s.Frame ∧ s.Frame < 2 ^ s.Seq.Bits.toNat
    ·
     rw [decide_eq_true hf]
     by_cases h3 : (1 ≤ s.Every ∧ s.Every ≤ 1000) ∧ (0 ≤ s.Since ∧ s.Since ≤ 1000) ∧ (0 ≤ s.Reach ∧ s.Reach ≤ 4)
     ·
      rw [Xbf (by simp; omega), decide_eq_true h3, Ycw _ _ h1 h2, Xab, Yww]
      cases s.Has with
      | true => rfl
      | false =>
       rw [Xap]
       congr 1
       rw [Bool.eq_iff_iff]; simp
     ·
      rw [Xbq (by simp; omega), decide_eq_false h3]; simp
    ·
     rw [Xbq (by simp; omega), decide_eq_false hf]; simp
 ·
  rw [Xbq (by simpa using ht), Xab, Xaw, decide_eq_false ht]; simp
def Xo1 (c r b : Int) (p : Par) (t : Rate) (e n : Int) : Xa5 := ⟨⟨Xu1 [c] [r], b, [c], [r]⟩, p, t, 0, 0, e, n, false, ⟨0, 0, ⟨#[]⟩⟩⟩
theorem Xdd (a b : List Int) : strOfNums a ++ strOfNums b = strOfNums (a ++ b) := by
 unfold strOfNums
 rw [List.map_append]
 apply ByteArray.ext
 simp
theorem Zas : (⟨#[]⟩ : ByteArray) = strOfNums [] := rfl
def Ymg (l : List Int) : Prop := ∀ x ∈ l, 0 ≤ x ∧ x ≤ 255
theorem Xp8 (l : List Int) (h : Ymg l) : Xba (strOfNums l) = l := by
 unfold Xba
 rw [strOfNums_data, List.map_map]
 have : ∀ x ∈ l, ((fun b : UInt8 => (b.toNat : Int)) ∘ fun n : Int => UInt8.ofNat n.toNat) x = x := by
  intro x hx
  have := h x hx
  simp only [Function.comp_apply, UInt8.toNat_ofNat']
  omega
 rw [List.map_congr_left this, List.map_id']
theorem Xx7 (l : List Int) (h : Ymg l) (i : Nat) (hi : i < l.length) : Xx0 (strOfNums l) (i : Int) = l.getD i 0 := by
 unfold Xx0
 rw [dif_pos (by rw [Int.toNat_natCast, strOfNums_size]; exact hi)]
 have hx := h l[i] (List.getElem_mem hi)
 rw [Xcf l i hi]
 show ((((l.map fun n => UInt8.ofNat n.toNat).toArray)[(i : Int).toNat]'(by simpa using hi)).toNat : Int) = _
 simp only [Int.toNat_natCast, List.getElem_toArray, List.getElem_map, UInt8.toNat_ofNat']
 omega
theorem Zcr (y : Int) : IntKind.wrap .i64 (BitVec.ofInt (IntKind.bits .i64) y &&& BitVec.ofInt (IntKind.bits .i64) 1).toNat = y % 2 := by
 have h : (BitVec.ofInt 64 y &&& BitVec.ofInt 64 1).toNat = (y % 2).toNat := by
  rw [BitVec.toNat_and]
  have e1 : (BitVec.ofInt 64 1).toNat = 1 := by decide
  rw [e1, Nat.and_one_is_mod, BitVec.toNat_ofInt]
  omega
 show IntKind.wrap .i64 ((BitVec.ofInt 64 y &&& BitVec.ofInt 64 1).toNat : Int) = _
 rw [h, ← Xqh, wkA]
 omega
def Xuv : Nat → Int → List Int
 | 0, _ => []
 | w + 1, n => Xuv w (n / 2) ++ [48 + n % 2]
theorem Xcu : ∀ (w : Nat) (n : Int), (Xuv w n).length = w
 | 0, _ => rfl
 | w + 1, n => by rw [Xuv, List.length_append, Xcu w]; rfl
def Xog (l : List Int) : Prop := ∀ x ∈ l, x = 48 ∨ x = 49
theorem Xa6 {a b : List Int} (ha : Xog a) (hb : Xog b) : Xog (a ++ b) := fun x hx => (List.mem_append.1 hx).elim (ha x) (hb x)
theorem Yme (n : Nat) : Xog (List.replicate n 48) := fun x hx => .inl (List.eq_of_mem_replicate hx)
theorem Xfb {l : List Int} (h : Xog l) : Ymg l := fun x hx => by rcases h x hx with e | e <;> omega
theorem Xr0 : Xog [] := fun x hx => by simp at hx
theorem Yfm : ∀ (w : Nat) (n : Int), Xog (Xuv w n)
 | 0, _ => Xr0
 | w + 1, n => Xa6 (Yfm w (n / 2)) (fun x hx => by rw [List.mem_singleton.1 hx]; omega)
theorem Yun (w : Nat) : ∀ (k : Nat) (n : Int) (s : List Int), 0 ≤ n → n ≤ 9223372036854775807 → k + s.length ≤ 100000 → loop Xk8 (n, (k : Int) - 1, List.replicate k 0 ++ s) = some (Xuv k n ++ s) := by
 intro k
 induction k with
 | zero =>
  intro n s h0 h1 hl
  refine Xgl ?_
  unfold Xk8
  simp only
  rw [snA]
  simp [Xuv]
 | succ k ih =>
  intro n s h0 h1 hl
  have e1 : List.replicate (k + 1) (0 : Int) ++ s = List.replicate k 0 ++ 0 :: s := by rw [List.replicate_succ', List.append_assoc]; rfl
  have e2 := Yru (List.replicate k (0 : Int)) 0 (48 + n % 2) s
  rw [List.length_replicate] at e2
  refine lgo (y := (n / 2, (k : Int) - 1, List.replicate k 0 ++ (48 + n % 2) :: s)) ?_ ?_
  ·
   unfold Xk8
   have e3 : (((k + 1 : Nat) : Int) - 1).toNat = k := by omega
   simp only [e1, e3]
   rw [syA, Xa2 (by simp; omega), Xa2 (by simp), Xa2 (by decide), Zcr, wkA (e := 48 + n % 2), w8 (by omega) (by omega), e2, wkA]
   rw [show ((k + 1 : Nat) : Int) - 1 - 1 = (k : Int) - 1 by omega]
   rfl
  ·
   rw [ih (n / 2) ((48 + n % 2) :: s) (by omega) (by omega) (by simp; omega), Xuv, List.append_assoc]; rfl
theorem Xoo (n : Int) (w : Nat) (h0 : 0 ≤ n) (h1 : n ≤ 9223372036854775807) (hw : w ≤ 1000) : Xke n (w : Int) = some (strOfNums (Xuv w n)) := by
 unfold Xke
 rw [rqA, wkA, Int.toNat_natCast]
 have := Yun w w n [] h0 h1 (by simp; omega)
 rw [List.append_nil, List.append_nil] at this
 rw [this, Xab]
def Xtl (m : Nat) : Nat := if h : m = 0 then 0 else Xtl (m / 2) + 1
termination_by m
decreasing_by omega
def Yoi (m : Nat) : List Int := if h : m = 0 then [] else Yoi (m / 2) ++ [48 + ((m % 2 : Nat) : Int)]
termination_by m
decreasing_by omega
theorem Ymd (m : Nat) : (Yoi m).length = Xtl m := by
 induction m using Nat.strongRecOn with
 | _ m ih =>
  rw [Yoi, Xtl]
  by_cases h : m = 0
  ·
   rw [dif_pos h, dif_pos h]; rfl
  ·
   rw [dif_neg h, dif_neg h, List.length_append, ih (m / 2) (by omega)]; rfl
theorem Yml {m j : Nat} (h : m < 2 ^ j) : Xtl m ≤ j := by
 induction j generalizing m with
 | zero => rw [Xtl, dif_pos (by simp at h; omega)]; omega
 | succ j ih =>
  rw [Xtl]
  split
  ·
   omega
  ·
   have := ih (m := m / 2) (by rw [Nat.pow_succ] at h; omega)
   omega
theorem Yfl {m : Nat} (h : 0 < m) : 1 ≤ Xtl m := by rw [Xtl, dif_neg (by omega)]; omega
theorem Yxp (m : Nat) : Xog (Yoi m) := by
 induction m using Nat.strongRecOn with
 | _ m ih =>
  rw [Yoi]
  by_cases h : m = 0
  ·
   rw [dif_pos h]; exact Xr0
  ·
   rw [dif_neg h]; exact Xa6 (ih (m / 2) (by omega)) (fun x hx => by rw [List.mem_singleton.1 hx]; omega)
theorem Yxz (z m : Nat) : Xuv (Xtl m + z) m = List.replicate z 48 ++ Yoi m := by
 induction m using Nat.strongRecOn with
 | _ m ih =>
  rw [Yoi, Xtl]
  by_cases h : m = 0
  ·
   rw [dif_pos h, dif_pos h, h, List.append_nil, Nat.zero_add]
   clear ih h
   induction z with
   | zero => rfl
   | succ z iz => rw [Xuv, show ((0 : Nat) : Int) / 2 = ((0 : Nat) : Int) from rfl, iz, List.replicate_succ']; rfl
  ·
   rw [dif_neg h, dif_neg h, show Xtl (m / 2) + 1 + z = Xtl (m / 2) + z + 1 by omega, Xuv, show (m : Int) / 2 = ((m / 2 : Nat) : Int) by omega, ih (m / 2) (by omega), List.append_assoc, show (m : Int) % 2 = ((m % 2 : Nat) : Int) by omega]
def ueL (n : Nat) : List Int := List.replicate (Xtl (n + 1) - 1) 48 ++ Yoi (n + 1)
theorem Xge (n : Nat) : Xog (ueL n) := Xa6 (Yme _) (Yxp _)
theorem Xe7 (n : Nat) (h : n ≤ 1000000) : (ueL n).length ≤ 39 ∧ 1 ≤ (ueL n).length := by
 unfold ueL
 rw [List.length_append, List.length_replicate, Ymd]
 have := Yml (m := n + 1) (j := 20) (by omega)
 have := Yfl (m := n + 1) (by omega)
 omega
theorem Yjq : ∀ (m : Nat) (k : Int), 0 ≤ k → k ≤ 1000 → m ≤ 9223372036854775807 → loop Xcy ((m : Int), k) = some (k + Xtl m) := by
 have main : ∀ (j m : Nat) (k : Int), m < 2 ^ j → j ≤ 63 → 0 ≤ k → k + j ≤ 2000 → loop Xcy ((m : Int), k) = some (k + Xtl m) := by
  intro j
  induction j with
  | zero =>
   intro m k hm _ _ _
   have : m = 0 := by simp at hm; omega
   subst this
   refine Xgl ?_
   unfold Xcy
   simp only
   rw [snA, Xtl, dif_pos rfl]; simp
  | succ j ih =>
   intro m k hm hj h0 h1
   by_cases h : m = 0
   ·
    subst h
    refine Xgl ?_
    unfold Xcy
    simp only
    rw [snA, Xtl, dif_pos rfl]; simp
   ·
    refine lgo (y := (((m / 2 : Nat) : Int), k + 1)) ?_ ?_
    ·
     unfold Xcy
     simp only
     rw [syA, Xa2 (by decide), wkA]
     show some (Lp.go ((m : Int) / 2, k + 1)) = _
     congr 3
    ·
     rw [ih (m / 2) (k + 1) (by rw [Nat.pow_succ] at hm; omega) (by omega) (by omega) (by omega), Xtl.eq_def m, dif_neg h]
     congr 1; omega
 intro m k h0 h1 hm
 exact main 63 m k (by omega) (by omega) h0 (by omega)
theorem Xfm (n : Nat) (h : n ≤ 1000000) : Xir (n : Int) = some (strOfNums (ueL n)) := by
 unfold Xir Xm1
 rw [wkA (e := (n : Int) + 1)]
 have := Yjq (n + 1) 0 (by omega) (by omega) (by omega)
 rw [show ((n + 1 : Nat) : Int) = (n : Int) + 1 by omega, Int.zero_add] at this
 rw [this, Xab, Xab]
 have h1 := Yml (m := n + 1) (j := 20) (by omega)
 have h2 := Yfl (m := n + 1) (by omega)
 rw [wkA (e := 2 * (Xtl (n + 1) : Int)), wkA, show 2 * (Xtl (n + 1) : Int) - 1 = ((Xtl (n + 1) + (Xtl (n + 1) - 1) : Nat) : Int) by omega, Xoo _ _ (by omega) (by omega) (by omega), Xab,
  show (n : Int) + 1 = ((n + 1 : Nat) : Int) by omega, Yxz]
 rfl
theorem Yi2 (n : Nat) (x : Int) (h : n ≤ 1000000000) : Xug (n : Int) x = some (strOfNums (List.replicate n x)) := by
 unfold Xug
 rw [rqA, Int.toNat_natCast]
 have key : ∀ (k a : Nat), k + a = n → loop (Xll (n : Int) x) ((a : Int), List.replicate a x ++ List.replicate k 0) = some (List.replicate n x) := by
  intro k
  induction k with
  | zero =>
   intro a ha
   refine Xgl ?_
   unfold Xll
   simp only
   rw [snA]
   simp; omega
  | succ k ih =>
   intro a ha
   have e2 := Yru (List.replicate a x) 0 x (List.replicate k 0)
   rw [List.length_replicate] at e2
   refine lgo (y := (((a + 1 : Nat) : Int), List.replicate (a + 1) x ++ List.replicate k 0)) ?_ (ih (a + 1) (by omega))
   unfold Xll
   simp only [List.replicate_succ (n := k), Int.toNat_natCast]
   rw [syA, Xa2 (by simp; omega), Xa2 (by simp), e2, wkA, List.replicate_succ' (n := a), List.append_assoc]
   rfl
 have := key n 0 rfl
 rw [List.replicate_zero, List.nil_append] at this
 exact Xf2 this
theorem Xst (n : Nat) (h : n ≤ 1000000) : Xrt (n : Int) = some (strOfNums (ueL n)) := by
 have main : ∀ (j m : Nat) (s : List Int), m < 2 ^ j → j ≤ 63 → s.length + j ≤ 1000 → loop Xlo ((m : Int), strOfNums s) = some (strOfNums (Yoi m ++ s)) := by
  intro j
  induction j with
  | zero =>
   intro m s hm _ _
   have : m = 0 := by simp at hm; omega
   subst this
   refine Xgl ?_
   unfold Xlo
   simp only
   rw [snA, Yoi, dif_pos rfl]; rfl
  | succ j ih =>
   intro m s hm hj hl
   by_cases h : m = 0
   ·
    subst h
    refine Xgl ?_
    unfold Xlo
    simp only
    rw [snA, Yoi, dif_pos rfl]; rfl
   ·
    have hlt : (m : Int) < 2 ^ (j + 1) := by exact_mod_cast hm
    have hle : (2 : Int) ^ (j + 1) ≤ 2 ^ 63 := by
     have := Nat.pow_le_pow_right (n := 2) (by omega) hj
     exact_mod_cast this
    have hbd : (m : Int) < 9223372036854775808 := Int.lt_of_lt_of_le hlt (by simpa using hle)
    refine lgo (y := (((m / 2 : Nat) : Int), strOfNums ((48 + ((m % 2 : Nat) : Int)) :: s))) ?_ ?_
    ·
     unfold Xlo
     simp only
     rw [syA, Xa2 (by decide), Xbu (by omega), Xbt (by omega), wkA (e := 48 + (m : Int) % 2), w8 (by omega) (by omega), Xa2 (by simp only [strOfNums_size, List.length_singleton]; omega), Xa2 (by decide), wkA, Xdd]
     congr 3
    ·
     rw [ih (m / 2) _ (by rw [Nat.pow_succ] at hm; omega) (by omega) (by simp; omega)]
     conv => rhs; rw [Yoi, dif_neg h]
     rw [List.append_assoc]; rfl
 unfold Xrt
 have h1 := Yml (m := n + 1) (j := 20) (by omega)
 have h2 := Yfl (m := n + 1) (by omega)
 rw [wkA (e := (n : Int) + 1), Zas, show (n : Int) + 1 = ((n + 1 : Nat) : Int) by omega, main 63 (n + 1) [] (by omega) (by omega) (by simp), Xab, List.append_nil, strOfNums_size, Ymd, wkA, show (Xtl (n + 1) : Int) - 1 = ((Xtl (n + 1) - 1 : Nat) : Int) by omega, Yi2 _ _ (by omega), Xab,
  Xa2 (by simp only [strOfNums_size, List.length_replicate]; omega), Xdd]
 rfl
theorem Yxr (x : Int) (h : x = 48 ∨ x = 49) : ((x != 48) && (x != 49)) = false := by rcases h with rfl | rfl <;> rfl
theorem Yyg (l : List Int) (hl : Xog l) (hn : l.length ≤ 9223372036854775806) (f : Int → Option (Lp Int (Ou Unit Bool)))
  (h : ∀ i : Nat, i < l.length → f (i : Int) = sel (((l.getD i 0) != 48) && ((l.getD i 0) != 49)) (some (.done (.ret false))) (some (.go ((i + 1 : Nat) : Int)))) (h0 : f (l.length : Int) = some (.done (.out ()))) : loop f 0 = some (.out ()) :=
 Yaa l.length (fun i hi => by rw [h i hi, Yxr _ (by rw [Xcf l i hi]; exact hl _ (List.getElem_mem hi)), Xap]) h0
theorem Xyy (l : List Int) (hl : Xog l) (hn : l.length ≤ 400000) : Xov (strOfNums l) = some true := by
 unfold Xov
 rw [strOfNums_size, snA, Yyg l hl (by omega) (Xky (strOfNums l)) (fun i hi => by
  unfold Xky
  rw [strOfNums_size, Xx7 l (Xfb hl) i hi, syA, rqA, rqA, Xdg, Xab, wkA]; rfl) (by
  unfold Xky; rw [strOfNums_size, snA])]
 rfl
def Xpx (l : List Int) : Int := l.foldl (fun x b => 2 * x + b - 48) 0
def Xgf : Nat → List Int → List Int
 | 0, _ => []
 | n + 1, l => Xpx (l.take 8) :: Xgf n (l.drop 8)
theorem Xqz : ∀ (n : Nat) (l : List Int), (Xgf n l).length = n
 | 0, _ => rfl
 | n + 1, l => by rw [Xgf, List.length_cons, Xqz n]
def Xsg (l : List Int) : List Int := Xgf (l.length / 8 + 1) (l ++ 49 :: List.replicate (8 * (l.length / 8 + 1) - l.length - 1) 48)
theorem Za8 (l : List Int) : ∀ x : Int, l.foldl (fun x b => 2 * x + b - 48) x = x * 2 ^ l.length + Xpx l := by
 induction l with
 | nil => intro x; simp [Xpx]
 | cons b l ih =>
  intro x
  unfold Xpx
  rw [List.foldl_cons, List.foldl_cons, ih, ih (2 * 0 + b - 48), List.length_cons, Int.pow_succ]
  have e1 : (2 * x + b - 48) * 2 ^ l.length = 2 * (x * 2 ^ l.length) + (b - 48) * 2 ^ l.length := by
   rw [show 2 * x + b - 48 = 2 * x + (b - 48) by omega, Int.add_mul, Int.mul_assoc]
  have e2 : x * (2 ^ l.length * 2) = 2 * (x * 2 ^ l.length) := by rw [← Int.mul_assoc, Int.mul_comm]
  rw [e1, e2, show (2 : Int) * 0 + b - 48 = b - 48 by omega]
  omega
theorem Xqv (a b : List Int) : Xpx (a ++ b) = Xpx a * 2 ^ b.length + Xpx b := by
 show (a ++ b).foldl _ 0 = _
 rw [List.foldl_append]
 exact Za8 b (Xpx a)
theorem Yod (z : Nat) : Xpx (List.replicate z 48) = 0 := by
 induction z with
 | zero => rfl
 | succ z ih => rw [List.replicate_succ', Xqv, ih]; rfl
theorem Yao {l : List Int} (h : Xog l) : 0 ≤ Xpx l ∧ Xpx l < 2 ^ l.length := by
 induction l with
 | nil => simp [Xpx]
 | cons b l ih =>
  have h1 := ih (fun x hx => h x (by simp [hx]))
  have h2 := h b (by simp)
  rw [show b :: l = [b] ++ l from rfl, Xqv, List.length_append, Int.pow_add, show Xpx [b] = b - 48 by simp [Xpx]]
  have : (2 : Int) ^ [b].length = 2 := rfl
  rw [this]
  rcases h2 with rfl | rfl <;> omega
theorem Zbt : ∀ (x : Fin 256) (k : Fin 8), x.val % 2 ^ (8 - k.val) = 0 → (BitVec.ofNat 8 x.val ||| BitVec.ofNat 8 (128 / 2 ^ k.val)).toNat = x.val + 2 ^ (7 - k.val) := by decide +kernel
theorem Zbv (x : Int) (k : Nat) (h0 : 0 ≤ x) (h1 : x ≤ 255) (hk : k < 8) (hx : x % 2 ^ (8 - k) = 0) : IntKind.wrap .u8 (BitVec.ofInt (IntKind.bits .u8) x ||| BitVec.ofInt (IntKind.bits .u8) ((128 : Int) / 2 ^ min k (IntKind.bits .u8))).toNat = x + 2 ^ (7 - k) := by
 obtain ⟨n, rfl⟩ : ∃ n : Nat, x = n := ⟨x.toNat, by omega⟩
 have hm : min k (IntKind.bits .u8) = k := by show min k 8 = k; omega
 have hn : n % 2 ^ (8 - k) = 0 := by exact_mod_cast hx
 have := Zbt ⟨n, by omega⟩ ⟨k, hk⟩ hn
 simp only at this
 rw [hm]
 have e1 : BitVec.ofInt 8 ((128 : Int) / 2 ^ k) = BitVec.ofNat 8 (128 / 2 ^ k) := by
  rw [show ((128 : Int) / 2 ^ k) = ((128 / 2 ^ k : Nat) : Int) by push_cast; rfl, BitVec.ofInt_natCast]
 have e2 : BitVec.ofInt 8 (n : Int) = BitVec.ofNat 8 n := BitVec.ofInt_natCast ..
 show IntKind.wrap .u8 ((BitVec.ofInt 8 (n : Int) ||| BitVec.ofInt 8 ((128 : Int) / 2 ^ k)).toNat : Int) = _
 rw [e1, e2, this, ← Xqh]
 have hp : n + 2 ^ (7 - k) ≤ 255 := by
  have : n + 2 ^ (7 - k) < 256 := by rw [← this]; exact (BitVec.ofNat 8 n ||| BitVec.ofNat 8 (128 / 2 ^ k)).isLt
  omega
 rw [w8 (by omega) (by omega)]
 push_cast; rfl
theorem Yau : ∀ (m : Nat) (L : List Int), Xog L → L.length < 8 * m → Xgf m (L ++ 49 :: List.replicate (8 * m - L.length - 1) 48) = (Xgf m (L ++ List.replicate (8 * m - L.length) 48)).set (L.length / 8) ((Xgf m (L ++ List.replicate (8 * m - L.length) 48)).getD (L.length / 8) 0 + 2 ^ (7 - L.length % 8)) ∧
  (Xgf m (L ++ List.replicate (8 * m - L.length) 48)).getD (L.length / 8) 0 % 2 ^ (8 - L.length % 8) = 0 ∧ 0 ≤ (Xgf m (L ++ List.replicate (8 * m - L.length) 48)).getD (L.length / 8) 0 ∧ (Xgf m (L ++ List.replicate (8 * m - L.length) 48)).getD (L.length / 8) 0 ≤ 255
 | 0, L, _, h => by omega
 | m + 1, L, hb, h => by
  by_cases h8 : L.length < 8
  ·
   have e0 : L.length / 8 = 0 := by omega
   have em : L.length % 8 = L.length := by omega
   have t1 : (L ++ List.replicate (8 * (m + 1) - L.length) 48).take 8 = L ++ List.replicate (8 - L.length) 48 := by
    rw [List.take_append, List.take_of_length_le (by omega), List.take_replicate]; congr 2; omega
   have d1 : (L ++ List.replicate (8 * (m + 1) - L.length) 48).drop 8 = List.replicate (8 * m) (48 : Int) := by
    rw [List.drop_append, List.drop_eq_nil_of_le (by omega), List.nil_append, List.drop_replicate]; congr 1; omega
   have t2 : (L ++ 49 :: List.replicate (8 * (m + 1) - L.length - 1) 48).take 8 = L ++ 49 :: List.replicate (8 - L.length - 1) 48 := by
    rw [List.take_append, List.take_of_length_le (by omega), show 8 - L.length = (8 - L.length - 1) + 1 by omega, List.take_succ_cons, List.take_replicate]; congr 3; omega
   have d2 : (L ++ 49 :: List.replicate (8 * (m + 1) - L.length - 1) 48).drop 8 = List.replicate (8 * m) (48 : Int) := by
    rw [List.drop_append, List.drop_eq_nil_of_le (by omega), List.nil_append, show 8 - L.length = (8 - L.length - 1) + 1 by omega, List.drop_succ_cons, List.drop_replicate]; congr 1; omega
   have r := Yao hb
   have v1 : Xpx (L ++ List.replicate (8 - L.length) 48) = Xpx L * 2 ^ (8 - L.length) := by rw [Xqv, Yod, List.length_replicate, Int.add_zero]
   have v2 : Xpx (L ++ 49 :: List.replicate (8 - L.length - 1) 48) = Xpx L * 2 ^ (8 - L.length) + 2 ^ (7 - L.length) := by
    rw [Xqv, show (49 : Int) :: List.replicate (8 - L.length - 1) 48 = [49] ++ List.replicate (8 - L.length - 1) 48 from rfl, Xqv, Yod, Int.add_zero, List.length_append, List.length_replicate, show [(49 : Int)].length = 1 from rfl, show 1 + (8 - L.length - 1) = 8 - L.length by omega, show 8 - L.length - 1 = 7 - L.length by omega]
    show _ + Xpx [49] * _ = _
    rw [show Xpx [49] = 1 from rfl, Int.one_mul]
   rw [Xgf, Xgf, t1, d1, t2, d2, v1, v2, e0, em, List.getD_cons_zero, List.set_cons_zero]
   refine ⟨rfl, Int.mul_emod_left _ _, Int.mul_nonneg r.1 (Int.pow_nonneg (by decide)), ?_⟩
   have : (Xpx L + 1) * 2 ^ (8 - L.length) ≤ 2 ^ L.length * 2 ^ (8 - L.length) := Int.mul_le_mul_of_nonneg_right (by omega) (Int.pow_nonneg (by decide))
   rw [← Int.pow_add, show L.length + (8 - L.length) = 8 by omega, Int.add_mul, Int.one_mul] at this
   have hp : (1 : Int) ≤ 2 ^ (8 - L.length) := Int.pow_pos (by decide)
   have : (2 : Int) ^ 8 = 256 := by decide
   omega
  ·
   have hsp : L = L.take 8 ++ L.drop 8 := (List.take_append_drop 8 L).symm
   have hl8 : (L.take 8).length = 8 := by rw [List.length_take]; omega
   have hd : (L.drop 8).length = L.length - 8 := by rw [List.length_drop]
   have ih := Yau m (L.drop 8) (fun x hx => hb x (List.mem_of_mem_drop hx)) (by omega)
   rw [hd] at ih
   have tk : ∀ s : List Int, (L ++ s).take 8 = L.take 8 := fun s => by rw [List.take_append, show 8 - L.length = 0 by omega, List.take_zero, List.append_nil]
   have dr : ∀ s : List Int, (L ++ s).drop 8 = L.drop 8 ++ s := fun s => by rw [List.drop_append, show 8 - L.length = 0 by omega, List.drop_zero]
   rw [Xgf, Xgf, tk, tk, dr, dr, show L.length / 8 = (L.length - 8) / 8 + 1 by omega, List.getD_cons_succ, List.set_cons_succ, show L.length % 8 = (L.length - 8) % 8 by omega, show 8 * (m + 1) - L.length = 8 * m - (L.length - 8) by omega]
   exact ⟨by rw [ih.1], ih.2⟩
theorem Yt4 (m : Nat) : Xgf m (List.replicate (8 * m) 48) = List.replicate m 0 := by
 induction m with
 | zero => rfl
 | succ m ih =>
  rw [Xgf, List.take_replicate, List.drop_replicate, show 8 * (m + 1) - 8 = 8 * m by omega, ih, Yod, List.replicate_succ]
theorem Yt3 (m : Nat) (L : List Int) (h : L.length < 8 * m) : L ++ 48 :: List.replicate (8 * m - L.length - 1) 48 = L ++ List.replicate (8 * m - L.length) 48 := by
 congr 1
 rw [← List.replicate_succ]; congr 1; omega
theorem Yd8 (l : List Int) (hl : Xog l) (hn : l.length ≤ 400000) : Xkx (strOfNums l) = some (strOfNums (Xsg l), true) := by
 have hm' : maxLen = 9223372036854775807 := rfl
 unfold Xkx
 rw [Xyy l hl hn, Xab, Xte, Xaw, Xa2 (by decide), strOfNums_size, Xbt (by omega), show (l.length : Int) / 8 = ((l.length / 8 : Nat) : Int) by omega, wkA (e := ((l.length / 8 : Nat) : Int)), wkA (e := ((l.length / 8 : Nat) : Int) + 1), rqA,
  show (((l.length / 8 : Nat) : Int) + 1).toNat = l.length / 8 + 1 by omega]
 generalize hm : l.length / 8 + 1 = m
 have key : ∀ (r a : List Int), l = a ++ r → loop (Xgi (strOfNums l)) ((a.length : Int), Xgf m (a ++ List.replicate (8 * m - a.length) 48)) = some (Xgf m (l ++ List.replicate (8 * m - l.length) 48)) := by
  intro r
  induction r with
  | nil =>
   intro a ha
   rw [List.append_nil] at ha
   rw [← ha]
   refine Xgl ?_
   unfold Xgi
   simp only
   rw [strOfNums_size, snA]
  | cons x r ih =>
   intro a ha
   have hlen : a.length < l.length := by rw [ha]; simp
   have hx : l.getD a.length 0 = x := by rw [ha]; exact Xok a x _ r
   have hb : x = 48 ∨ x = 49 := hl x (by rw [ha]; simp)
   have ha8 : a.length < 8 * m := by omega
   have hab : Xog a := fun y hy => hl y (by rw [ha]; simp [hy])
   obtain ⟨c1, c2, c3, c4⟩ := Yau m a hab ha8
   have hcl := Xqz m (a ++ List.replicate (8 * m - a.length) 48)
   have hnext := ih (a ++ [x]) (by rw [ha]; simp)
   rw [List.length_append, List.length_singleton] at hnext
   refine lgo (y := (((a.length + 1 : Nat) : Int), Xgf m (a ++ [x] ++ List.replicate (8 * m - (a.length + 1)) 48))) ?_ hnext
   unfold Xgi
   simp only
   rw [strOfNums_size, syA, Xx7 l (Xfb hl) _ hlen, hx, wkA (e := (a.length : Int) + 1), Xbt (by omega), Xbu (by omega), show (a.length : Int) / 8 = ((a.length / 8 : Nat) : Int) by omega, show (a.length : Int) % 8 = ((a.length % 8 : Nat) : Int) by omega,
    wkA (e := ((a.length / 8 : Nat) : Int)), Int.toNat_natCast, Int.toNat_natCast, rqA]
   rw [List.append_assoc, List.singleton_append, Nat.sub_add_eq]
   rcases hb with rfl | rfl
   ·
    rw [Xbf (by decide), Xab, Yt3 m a ha8]; rfl
   ·
    rw [Xbq (by decide), Xa2 (by decide), rqA, rqA, Xa2 (by decide), rqA, rqA, rqA, Xab, Zbv _ _ c3 c4 (by omega) c2, c1]; rfl
 have := key l [] rfl
 rw [List.nil_append, List.length_nil, Nat.sub_zero, Yt4] at this
 refine (Xf2 this).trans ?_
 have hl8 : l.length < 8 * m := by omega
 obtain ⟨c1, c2, c3, c4⟩ := Yau m l hl hl8
 have hcl := Xqz m (l ++ List.replicate (8 * m - l.length) 48)
 rw [Xa2 (by decide), rqA, Int.toNat_natCast, rqA, Xa2 (by decide), Xbu (by omega), rqA, rqA, rqA, show ((l.length : Int) % 8).toNat = l.length % 8 by omega, Zbv _ _ c3 c4 (by omega) c2, ← c1]
 unfold Xsg
 rw [hm]
theorem Xsh (l : List Int) : (Xsg l).length = l.length / 8 + 1 := Xqz _ _
def Yc3 (k : Int) : Bool := k == 1 || (k == 5 || (k == 7 || k == 8))
theorem Xv6 (k : Int) : Xme k = some (Yc3 k) := by
 unfold Xme Yc3
 simp only [Ydb, Xab]
theorem Yh7 {k : Int} (h : Yc3 k = true) : 1 ≤ k ∧ k ≤ 8 := by
 unfold Yc3 at h
 simp only [Bool.or_eq_true, beq_iff_eq] at h
 omega
theorem Xql (k : Int) (l : List Int) (hk : Yc3 k = true) (hl : Xog l) (hn : l.length ≤ 400000) : Xjv k (strOfNums l) = some (strOfNums (k :: Xsg l), true) := by
 have := Yh7 hk
 have hp := Xsh l
 unfold Xjv
 rw [Yd8 l hl hn, Xab, Xv6, hk]
 simp only [Xaw, Xab, Bool.not_true, Xap]
 rw [w8 (by omega) (by omega), Xa2 (by simp only [strOfNums_size, List.length_singleton]; omega), Xdd]; rfl
def Xqr (b : Bool) : List Int := if b = true then [49] else [48]
theorem Yir (b : Bool) : Xog (Xqr b) := by unfold Xqr; split <;> (intro x hx; rw [List.mem_singleton.1 hx]; simp)
theorem Xns (b : Bool) : (Xqr b).length = 1 := by unfold Xqr; split <;> rfl
theorem Xt3 (b : Bool) : Xrh b = some (strOfNums (Xqr b)) := by cases b <;> rfl
def Yc7 (p : Par) : List Int := Xuv 6 p.Qp ++ Xqr p.Large ++ Xqr p.Exact ++ Xqr p.Confined
theorem Yno (p : Par) : Xog (Yc7 p) := Xa6 (Xa6 (Xa6 (Yfm _ _) (Yir _)) (Yir _)) (Yir _)
theorem Yfu (p : Par) : (Yc7 p).length = 9 := by unfold Yc7; simp only [List.length_append, Xcu, Xns]
theorem Xz1 {p : Par} (h : Xkm p = true) : 0 ≤ p.Qp ∧ p.Qp ≤ 40 := by
 unfold Xkm at h; rw [Bool.and_eq_true, decide_eq_true_eq] at h; exact h.1
theorem Yj0 (p : Par) (h : Xkm p = true) : Xo8 p = some (strOfNums (Yc7 p), true) := by
 have := Xz1 h
 unfold Xo8
 rw [Xdm, Xab, h, Xbf (by rfl), show (6 : Int) = ((6 : Nat) : Int) from rfl, Xoo _ 6 (by omega) (by omega) (by omega), Xab, Xt3, Xab, Xa2 (by simp only [strOfNums_size, Xcu, Xns]; omega), Xt3, Xab, Xdd, Xa2 (by simp only [strOfNums_size, List.length_append, Xcu, Xns]; omega), Xt3, Xab, Xdd, Xa2 (by simp only [strOfNums_size, List.length_append, Xcu, Xns]; omega), Xdd]
 rfl
def Ytn : List Int → List Int
 | [] => []
 | x :: r => ueL x.toNat ++ Ytn r
theorem Yto : ∀ l : List Int, Xog (Ytn l)
 | [] => Xr0
 | x :: r => Xa6 (Xge _) (Yto r)
theorem Ytp : ∀ {l : List Int}, l.all Xeh = true → (Ytn l).length ≤ 39 * l.length
 | [], _ => by simp [Ytn]
 | x :: r, h => by
  rw [List.all_cons, Bool.and_eq_true] at h
  have h1 := Ytp h.2
  have h2 : 1 ≤ x ∧ x ≤ 8 := by simpa [Xeh] using h.1
  have := Xe7 x.toNat (by omega)
  rw [Ytn, List.length_append, List.length_cons]
  omega
def Xrk (l : List Int) : List Int := ueL l.length ++ Ytn l
def Xxs (s : Seq) : List Int := ueL s.Level.toNat ++ Xuv 4 s.Bits ++ Xrk s.Cols ++ Xrk s.Rows
theorem Yp0 (l : List Int) : Xog (Xrk l) := Xa6 (Xge _) (Yto _)
theorem Ynw (s : Seq) : Xog (Xxs s) := Xa6 (Xa6 (Xa6 (Xge _) (Yfm _ _)) (Yp0 _)) (Yp0 _)
theorem Xzy {l : List Int} (h : Xea l = true) : (Xrk l).length ≤ 195 := by
 have h1 := Xbb h
 unfold Xea at h
 rw [Bool.and_eq_true] at h
 have := Ytp h.2
 have := Xe7 l.length (by omega)
 unfold Xrk; rw [List.length_append]; omega
theorem Xxt {s : Seq} (h : Xg9 s = true) : 1 ≤ s.Level ∧ s.Level ≤ 3 := by
 unfold Xg9 at h
 rw [Bool.and_eq_true, decide_eq_true_eq] at h
 have := h.1
 unfold Xkf at this
 repeat' split at this
 all_goals omega
theorem Yte {s : Seq} (h : Xg9 s = true) : (Xxs s).length ≤ 433 := by
 obtain ⟨h1, h2, _⟩ := Xa8 h
 have h3 := Xxt h
 have := Xzy h1
 have := Xzy h2
 have := Xe7 s.Level.toNat (by omega)
 unfold Xxs; simp only [List.length_append, Xcu]; omega
theorem Yqs (l : List Int) (ha : l.all Xeh = true) (h4 : l.length ≤ 4) (f : (ByteArray × Int) → Option (Lp (ByteArray × Int) ByteArray))
  (h : ∀ (i : Nat) (s : List Int) (x : Int), i < l.length → s.length ≤ 1000 → l.getD i 0 = x → f (strOfNums s, (i : Int)) = some (.go (strOfNums (s ++ ueL x.toNat), ((i + 1 : Nat) : Int)))) (h0 : ∀ s, f (s, (l.length : Int)) = some (.done s)) (s : List Int) (hs : s.length ≤ 500) : loop f (strOfNums s, 0) = some (strOfNums (s ++ Ytn l)) := by
 have key : ∀ (r a : List Int) (s : List Int), l = a ++ r → s.length + 39 * r.length ≤ 800 → loop f (strOfNums s, (a.length : Int)) = some (strOfNums (s ++ Ytn r)) := by
  intro r
  induction r with
  | nil => intro a s ha _; rw [List.append_nil] at ha; rw [← ha, Xcv (h0 _), Ytn, List.append_nil]
  | cons x r ih =>
   intro a s hl hsl
   have hlen : a.length < l.length := by rw [hl]; simp
   have hx : l.getD a.length 0 = x := by rw [hl]; exact Xok a x _ r
   have hxs : 1 ≤ x ∧ x ≤ 8 := by simpa [Xeh] using List.all_eq_true.1 ha x (by rw [hl]; simp)
   have := Xe7 x.toNat (by omega)
   rw [List.length_cons] at hsl
   have hn := ih (a ++ [x]) (s ++ ueL x.toNat) (by rw [hl]; simp) (by rw [List.length_append]; omega)
   rw [List.length_append, List.length_singleton] at hn
   rw [Xcs (h a.length s x hlen (by omega) hx), hn, Ytn, List.append_assoc]
 exact key l [] s rfl (by omega)
theorem Ykb (s : Seq) (h : Xg9 s = true) (hc : s.Cols.length ≤ maxLen) (hr : s.Rows.length ≤ maxLen) : Xpa s = some (strOfNums (Xxs s), true) := by
 obtain ⟨h1, h2, h3⟩ := Xa8 h
 have h4 := Xxt h
 have g1 := Xzy h1
 have g2 := Xzy h2
 have g3 := Xe7 s.Level.toNat (by omega)
 unfold Xpa
 rw [Xic s hc hr, Xab, h, Xbf (by rfl), show s.Level = ((s.Level.toNat : Nat) : Int) by omega, Xfm _ (by omega), Xab, show (4 : Int) = ((4 : Nat) : Int) from rfl, Xoo _ 4 (by omega) (by omega) (by omega), Xab, Xa2 (by simp only [strOfNums_size, Xcu]; omega), Xdd]
 have step : ∀ (n : Nat) (l t : List Int), n = 0 ∨ n = 1 → ([s.Cols, s.Rows]).getD n Xf3 = l → Xea l = true → t.length ≤ 300 → Xd6 s (strOfNums t, (n : Int)) = some (.go (strOfNums (t ++ Xrk l), ((n + 1 : Nat) : Int))) := by
  intro n l t hn hl hok ht
  have l4 := Xbb hok
  have ha : l.all Xeh = true := by unfold Xea at hok; rw [Bool.and_eq_true] at hok; exact hok.2
  have := Xe7 l.length (by omega)
  unfold Xd6
  simp only [Int.toNat_natCast, hl, List.length_cons, List.length_nil]
  rw [syA, rqA, rqA, Xfm _ (by omega), Xab, Xa2 (by simp only [strOfNums_size]; omega), Xdd, Yqs l ha l4.2 (Xhj s (strOfNums t, (n : Int))) (by
   intro i u x hi hs hx
   have hxs : 1 ≤ x ∧ x ≤ 8 := by rw [Xcf l i hi] at hx; simpa [Xeh, hx] using List.all_eq_true.1 ha _ (List.getElem_mem hi)
   have := Xe7 x.toNat (by omega)
   unfold Xhj
   simp only [Int.toNat_natCast, hl, hx]
   rw [syA, rqA, show x = ((x.toNat : Nat) : Int) by omega, Xfm _ (by omega), Xab, Xa2 (by simp only [strOfNums_size]; omega), wkA, Xdd]
   rfl) (by intro u; unfold Xhj; simp only [Int.toNat_natCast, hl]; rw [snA]) _ (by rw [List.length_append]; omega), Xab, wkA, List.append_assoc]
  rfl
 have s0 := step 0 s.Cols (ueL s.Level.toNat ++ Xuv 4 s.Bits) (.inl rfl) rfl h1 (by rw [List.length_append, Xcu]; omega)
 have s1 := step 1 s.Rows (ueL s.Level.toNat ++ Xuv 4 s.Bits ++ Xrk s.Cols) (.inr rfl) rfl h2 (by simp only [List.length_append, Xcu]; omega)
 have s2 : ∀ t, Xd6 s (t, ((2 : Nat) : Int)) = some (.done t) := by intro t; unfold Xd6; simp only; rw [Xar (by simp)]
 have e : loop (Xd6 s) (strOfNums (ueL s.Level.toNat ++ Xuv 4 s.Bits), ((0 : Nat) : Int)) = some (strOfNums (Xxs s)) := by
  rw [Xcs s0, Xcs s1, Xcv (s2 _)]; rfl
 exact Xf2 e
def Xu8 (s : Xa5) : List ByteArray := if Xa9 s = true then [strOfNums (7 :: Xsg (Xxs s.Seq)), strOfNums (8 :: Xsg (Yc7 s.Par))] else []
theorem Ykv {s : Xa5} (h : Xa9 s = true) : Xg9 s.Seq = true ∧ Xkm s.Par = true := by
 unfold Xa9 at h
 simp only [Bool.and_eq_true, decide_eq_true_eq] at h
 exact ⟨Xpw h.1.1.1.1.1, h.1.1.1.1.2⟩
theorem Xy3 (s : Xa5) (hc : s.Seq.Cols.length ≤ maxLen) (hr : s.Seq.Rows.length ≤ maxLen) : Xhl s = some (Xu8 s) := by
 unfold Xhl Xu8
 rw [Xn5 s hc hr, Xab, Xte]
 cases h : Xa9 s with
 | false => rfl
 | true =>
  obtain ⟨h1, h2⟩ := Ykv h
  have := Yte h1
  rw [Xaw, Ykb _ h1 hc hr, Xab, Yj0 _ h2, Xab, Xql 7 _ rfl (Ynw _) (by omega), Xab, Xql 8 _ rfl (Yno _) (by rw [Yfu]; omega), Xab]
  rfl
def Ygb (n : Int) : Nat := if n > 0 then (2 * n - 1).toNat else (-2 * n).toNat
theorem Xvs (n : Int) (h : -500000 ≤ n ∧ n ≤ 500000) : Xl1 n = some ((Ygb n : Int), true) := by
 unfold Xl1 Ygb
 rw [Xak, Xab, Xte, Xbi h, Yrt, wkA (e := 2 * n), wkA, wkA]
 split
 ·
  rw [Int.toNat_of_nonneg (by omega)]
 ·
  rw [Int.toNat_of_nonneg (by omega)]
theorem Yky (n : Int) (h : -500000 ≤ n ∧ n ≤ 500000) : Xxx n = some ((Ygb n : Int), true) := by
 unfold Xxx Ygb
 rw [Xal, Xab, Xte, Xbi h, Yrt, wkA (e := 2 * n), wkA, wkA]
 split
 ·
  rw [Int.toNat_of_nonneg (by omega)]
 ·
  rw [Int.toNat_of_nonneg (by omega)]
theorem Xuw (n : Int) (h : -500000 ≤ n ∧ n ≤ 500000) : Ygb n ≤ 1000000 := by unfold Ygb; split <;> omega
def seL (n : Int) : List Int := ueL (Ygb n)
theorem Xsk (n : Int) (h : -500000 ≤ n ∧ n ≤ 500000) : (seL n).length ≤ 39 := (Xe7 _ (Xuw n h)).1
theorem Yn3 (n : Int) (h : -500000 ≤ n ∧ n ≤ 500000) : Ych n = some (strOfNums (seL n)) := by
 unfold Ych
 rw [Yky n h, Xab, Xst _ (Xuw n h), Xab]; rfl
theorem Xom (n : Int) (h : -500000 ≤ n ∧ n ≤ 500000) : Xj6 n = some (strOfNums (seL n), true) := by
 have := Xuw n h
 unfold Xj6
 rw [Xvs n h, Xab, Xte, Xaw]
 unfold Xow
 rw [Xak, Xab, Xte, syA, Xfm _ this, Xab, Xab]; rfl
def Yok (x : Int) : Bool := decide (-5000 ≤ x ∧ x ≤ 5000)
theorem Ynj {x : Int} : Yok x = true ↔ -5000 ≤ x ∧ x ≤ 5000 := by simp [Yok]
def nz : List Int → Nat
 | [] => 0
 | x :: r => if x = 0 then nz r else nz r + 1
theorem Ywh : ∀ l : List Int, nz l ≤ l.length
 | [] => by simp [nz]
 | x :: r => by rw [nz, List.length_cons]; have := Ywh r; split <;> omega
def Xor : Nat → List Int → List Int
 | _, [] => []
 | g, x :: r => if x = 0 then Xor (g + 1) r else ueL g ++ seL x ++ Xor 0 r
def Xit (l : List Int) : List Int := ueL (nz l) ++ Xor 0 l
theorem Yin : ∀ (l : List Int) (g : Nat), Xog (Xor g l)
 | [], _ => Xr0
 | x :: r, g => by
  rw [Xor]
  split
  ·
   exact Yin r _
  ·
   exact Xa6 (Xa6 (Xge _) (Xge _)) (Yin r _)
theorem Yio : ∀ (l : List Int) (g : Nat), l.all Yok = true → g + l.length ≤ 1000 → (Xor g l).length ≤ 78 * l.length
 | [], _, _, _ => by simp [Xor]
 | x :: r, g, h, hg => by
  rw [List.all_cons, Bool.and_eq_true, Ynj] at h
  rw [List.length_cons] at hg ⊢
  rw [Xor]
  split
  ·
   have := Yio r (g + 1) h.2 (by omega); omega
  ·
   have := Yio r 0 h.2 (by omega)
   have a := Xe7 g (by omega)
   have b := Xsk x (by omega)
   simp only [List.length_append]; omega
theorem Xt8 (l : List Int) : Xog (Xit l) := Xa6 (Xge _) (Yin _ _)
theorem Xle (l : List Int) (h : l.all Yok = true) (hl : l.length ≤ 64) : (Xit l).length ≤ 39 + 78 * l.length := by
 have := Yio l 0 h (by omega)
 have := Ywh l
 have := Xe7 (nz l) (by omega)
 unfold Xit; rw [List.length_append]; omega
theorem Ycz (l : List Int) (h : l.all Yok = true) (hl : l.length ≤ 64) : Xrc l = some (Xit l) := by
 have hm : maxLen = 9223372036854775807 := rfl
 unfold Xrc
 have k1 : ∀ (r a : List Int) (n : Nat), l = a ++ r → n ≤ a.length → loop (Xkb l) ((n : Int), (a.length : Int)) = some ((n + nz r : Nat) : Int) := by
  intro r
  induction r with
  | nil =>
   intro a n ha _
   rw [List.append_nil] at ha
   refine Xgl ?_
   unfold Xkb
   simp only
   rw [Xar (by rw [ha]; omega)]; rfl
  | cons x r ih =>
   intro a n ha hn
   have hlen : a.length < l.length := by rw [ha]; simp
   have hx : l.getD a.length 0 = x := by rw [ha]; exact Xok a x _ r
   by_cases e : x = 0
   ·
    have hnext := ih (a ++ [x]) n (by rw [ha]; simp) (by simp; omega)
    rw [List.length_append, List.length_singleton] at hnext
    rw [nz, if_pos e, ← hnext]
    refine Xcs ?_
    unfold Xkb
    simp only [Int.toNat_natCast, hx]
    rw [syA, rqA, Xbf (by simpa using e), Xab, wkA]
    rfl
   ·
    have hnext := ih (a ++ [x]) (n + 1) (by rw [ha]; simp) (by simp; omega)
    rw [List.length_append, List.length_singleton] at hnext
    rw [nz, if_neg e, show n + (nz r + 1) = n + 1 + nz r by omega, ← hnext]
    refine Xcs ?_
    unfold Xkb
    simp only [Int.toNat_natCast, hx]
    rw [syA, rqA, Xbq (by simpa using e), Xab, wkA, wkA]
    rfl
 refine (Xf2 (k1 l [] 0 rfl (by omega))).trans ?_
 have hz := Ywh l
 have u := Xe7 (nz l) (by omega)
 simp only [Nat.zero_add]
 rw [Xfm _ (by omega), Xab, Xp8 _ (Xfb (Xge _)), Xa2 (by simp only [List.length_nil]; omega), List.nil_append]
 have key : ∀ (r a : List Int) (g : Nat) (s : List Int), l = a ++ r → g ≤ a.length → s.length ≤ 39 + 78 * a.length → loop (Xkc l) ((g : Int), (a.length : Int), s) = some (s ++ Xor g r) := by
  intro r
  induction r with
  | nil =>
   intro a g s ha _ _
   rw [List.append_nil] at ha
   refine Xgl ?_
   unfold Xkc
   simp only
   rw [Xar (by rw [ha]; omega), Xor, List.append_nil]
  | cons x r ih =>
   intro a g s ha hg hs
   have hlen : a.length < l.length := by rw [ha]; simp
   have hx : l.getD a.length 0 = x := by rw [ha]; exact Xok a x _ r
   have hxi : -5000 ≤ x ∧ x ≤ 5000 := Ynj.1 (List.all_eq_true.1 h x (by rw [ha]; simp))
   by_cases e : x = 0
   ·
    have hnext := ih (a ++ [x]) (g + 1) s (by rw [ha]; simp) (by simp; omega) (by simp; omega)
    rw [List.length_append, List.length_singleton] at hnext
    rw [Xor, if_pos e, ← hnext]
    refine Xcs ?_
    unfold Xkc
    simp only [Int.toNat_natCast, hx]
    rw [syA, rqA, Xbq (by simpa using e), Xab, wkA, wkA]
    rfl
   ·
    have u1 := Xe7 g (by omega)
    have u2 := Xsk x (by omega)
    have hnext := ih (a ++ [x]) 0 (s ++ ueL g ++ seL x) (by rw [ha]; simp) (by omega) (by simp only [List.length_append, List.length_singleton]; omega)
    rw [List.length_append, List.length_singleton] at hnext
    rw [Xor, if_neg e, ← List.append_assoc, ← List.append_assoc, ← hnext]
    refine Xcs ?_
    unfold Xkc
    simp only [Int.toNat_natCast, hx]
    rw [syA, rqA, Xbf (by simpa using e), Xvs x (by omega), Xab, Xfm g (by omega), Xab, Xp8 _ (Xfb (Xge _)), rqA, Xfm _ (Xuw x (by omega)), Xab, Xp8 _ (Xfb (Xge _)), Xa2 (by rw [List.length_append]; have : (seL x).length = (ueL (Ygb x)).length := rfl; omega), Xab, wkA]
    rfl
 exact Xf2 (key l [] 0 (ueL (nz l)) rfl (by omega) (by simp; omega))
def Yfs (l : List Int) : Bool := decide (l.length = 64) && l.all Yok
theorem Yfi (p : Int → Bool) (l : List Int) (f : Int → Option (Lp Int (Ou Unit Bool))) (h : ∀ i : Nat, i < l.length → f (i : Int) = sel (!(p (l.getD i 0))) (some (.done (.ret false))) (some (.go ((i + 1 : Nat) : Int)))) (h0 : f (l.length : Int) = some (.done (.out ()))) :
  loop f 0 = some (if l.all p = true then .out () else .ret false) := by
 have key : ∀ (r a : List Int), l = a ++ r → loop f (a.length : Int) = some (if r.all p = true then .out () else .ret false) := by
  intro r
  induction r with
  | nil => intro a ha; rw [List.append_nil] at ha; rw [← ha, Xcv h0]; rfl
  | cons x r ih =>
   intro a ha
   have hlen : a.length < l.length := by rw [ha]; simp
   have hx : l.getD a.length 0 = x := by rw [ha]; exact Xok a x _ r
   have hs := h a.length hlen
   rw [hx] at hs
   cases e : p x with
   | true =>
    rw [e] at hs
    have := ih (a ++ [x]) (by rw [ha]; simp)
    rw [List.length_append, List.length_singleton] at this
    rw [Xcs hs, this, List.all_cons, e, Bool.true_and]
   | false => rw [e] at hs; rw [Xcv hs, List.all_cons, e, Bool.false_and]; rfl
 exact key l [] rfl
theorem Ylb (l : List Int) : Xcc l 64 5000 = some (Yfs l) := by
 unfold Xcc Yfs
 by_cases h : l.length = 64
 ·
  rw [Xbf (by simp only [bne_eq_false_iff_eq]; omega), Yfi Yok l (Xe4 l 64 5000) (by
   intro i hi
   unfold Xe4
   rw [syA, rqA, wkA (e := 0 - 5000), Xal, Xab, wkA, Int.toNat_natCast]
   rfl) (by unfold Xe4; rw [snA]), Xab, decide_eq_true h, Bool.true_and]
  cases l.all Yok <;> rfl
 ·
  rw [Xbq (by simp only [bne_iff_ne, ne_eq]; omega), decide_eq_false h, Bool.false_and]
theorem Xk3 (l : List Int) (n lo hi : Int) (hl : l.length ≤ 9223372036854775806) : Xbk l n lo hi = some (l.all (fun x => decide (lo ≤ x ∧ x ≤ hi)) && ((l.length : Int) == n)) := by
 unfold Xbk
 rw [Yfi (fun x => decide (lo ≤ x ∧ x ≤ hi)) l (Xk4 l lo hi) (by
   intro i hi
   unfold Xk4
   rw [syA, rqA, Xak, Xab, wkA, Int.toNat_natCast]
   rfl) (by unfold Xk4; rw [snA]), Xab]
 cases l.all (fun x => decide (lo ≤ x ∧ x ≤ hi)) <;> rfl
theorem Xq7 (l : List Int) (hl : l.length ≤ 9223372036854775806) : Xe2 l = some (Yfs l) := by
 unfold Xe2 Yfs
 rw [Xk3 l _ _ _ hl, Xab]
 show some (l.all Yok && ((l.length : Int) == 64)) = _
 have : ((l.length : Int) == 64) = decide (l.length = 64) := by rw [Bool.eq_iff_iff]; simp only [beq_iff_eq, decide_eq_true_eq]; omega
 rw [this, Bool.and_comm]
theorem Xo0 {l : List Int} (h : Yfs l = true) : l.length = 64 ∧ l.all Yok = true := by
 unfold Yfs at h; rw [Bool.and_eq_true, decide_eq_true_eq] at h; exact h
def Yoj (l : List Int) (c : Xe9) : List Int := if (c.Large || c.Exact) = true then Xit l else Xit (l.take 16) ++ Xit ((l.drop 16).take 16) ++ Xit ((l.drop 32).take 16) ++ Xit (l.drop 48)
theorem Xkp {l : List Int} (h : l.all Yok = true) (n : Nat) : (l.take n).all Yok = true := List.all_eq_true.2 fun x hx => List.all_eq_true.1 h x (List.mem_of_mem_take hx)
theorem Xko {l : List Int} (h : l.all Yok = true) (n : Nat) : (l.drop n).all Yok = true := List.all_eq_true.2 fun x hx => List.all_eq_true.1 h x (List.mem_of_mem_drop hx)
theorem Ysu (l : List Int) (c : Xe9) : Xog (Yoj l c) := by
 unfold Yoj
 split
 ·
  exact Xt8 l
 ·
  exact Xa6 (Xa6 (Xa6 (Xt8 _) (Xt8 _)) (Xt8 _)) (Xt8 _)
theorem Yfr {l : List Int} {c : Xe9} (h : Yfs l = true) : (Yoj l c).length ≤ 5148 := by
 obtain ⟨h1, h2⟩ := Xo0 h
 unfold Yoj
 split
 ·
  have := Xle l h2 (by omega); omega
 ·
  have a := Xle (l.take 16) (Xkp h2 _) (by rw [List.length_take]; omega)
  have b := Xle ((l.drop 16).take 16) (Xkp (Xko h2 _) _) (by rw [List.length_take, List.length_drop]; omega)
  have c := Xle ((l.drop 32).take 16) (Xkp (Xko h2 _) _) (by rw [List.length_take, List.length_drop]; omega)
  have d := Xle (l.drop 48) (Xko h2 _) (by rw [List.length_drop]; omega)
  rw [List.length_take] at a
  rw [List.length_take, List.length_drop] at b c
  rw [List.length_drop] at d
  simp only [List.length_append]; omega
theorem Xrb (l : List Int) (c : Xe9) (h : Yfs l = true) : Xgu l c = some (Yoj l c) := by
 have hm : maxLen = 9223372036854775807 := rfl
 obtain ⟨h1, h2⟩ := Xo0 h
 unfold Xgu Yoj
 rw [Ydb, Xab]
 by_cases e : (c.Large || c.Exact) = true
 ·
  rw [Xbq e, if_pos e, Ycz l h2 (by omega), Xab]
 ·
  rw [Xbf (by simpa using e), if_neg e]
  have step : ∀ (n : Nat) (s : List Int), n < 4 → s.length ≤ 4000 → Xcz l ((n : Int), s) = some (.go (((n + 1 : Nat) : Int), s ++ Xit ((l.drop (16 * n)).take 16))) := by
   intro n s hn hs
   have g := Xle ((l.drop (16 * n)).take 16) (Xkp (Xko h2 _) _) (by rw [List.length_take, List.length_drop]; omega)
   rw [List.length_take, List.length_drop] at g
   unfold Xcz
   simp only
   rw [syA, wkA (e := 16 * (n : Int)), wkA (e := 16 * (n : Int) + 16), rqA, show (16 * (n : Int)).toNat = 16 * n by omega, show (16 * (n : Int) + 16).toNat - 16 * n = 16 by omega, Ycz _ (Xkp (Xko h2 _) _) (by rw [List.length_take, List.length_drop]; omega), Xab, rqA, wkA]
   rfl
  have g0 := Xle ((l.drop (16 * 0)).take 16) (Xkp (Xko h2 _) _) (by rw [List.length_take, List.length_drop]; omega)
  have g1 := Xle ((l.drop (16 * 1)).take 16) (Xkp (Xko h2 _) _) (by rw [List.length_take, List.length_drop]; omega)
  have g2 := Xle ((l.drop (16 * 2)).take 16) (Xkp (Xko h2 _) _) (by rw [List.length_take, List.length_drop]; omega)
  rw [List.length_take, List.length_drop] at g0 g1 g2
  have l4 : ∀ s, Xcz l (((4 : Nat) : Int), s) = some (.done s) := by intro s; unfold Xcz; simp only; rw [snA]
  have e : loop (Xcz l) (((0 : Nat) : Int), []) = some ([] ++ Xit ((l.drop (16 * 0)).take 16) ++ Xit ((l.drop (16 * 1)).take 16) ++ Xit ((l.drop (16 * 2)).take 16) ++ Xit ((l.drop (16 * 3)).take 16)) := by
   rw [Xcs (step 0 [] (by omega) (by simp)), Xcs (step 1 _ (by omega) (by simp only [List.length_append, List.length_nil]; omega)), Xcs (step 2 _ (by omega) (by simp only [List.length_append, List.length_nil]; omega)), Xcs (step 3 _ (by omega) (by simp only [List.length_append, List.length_nil]; omega)), Xcv (l4 _)]
  refine (Xf2 e).trans ?_
  rw [List.nil_append, show 16 * 0 = 0 from rfl, List.drop_zero, show (l.drop (16 * 3)).take 16 = l.drop 48 from List.take_of_length_le (by rw [List.length_drop]; omega)]
def Xio (c : Xe9) : Bool := decide (0 ≤ c.Qp ∧ c.Qp ≤ 40) && !(c.Large && c.Exact)
theorem Xgz (c : Xe9) : Xmq c = some (Xio c) := by
 unfold Xmq Xio
 rw [Xal, Xab, Xsl, Xdg, Xab]
 cases c.Large <;> cases c.Exact <;> rfl
theorem Xez (c : Xe9) : Xd3 c = some (Xio c) := by
 unfold Xd3 Xio
 rw [Xak, Xab, Xsl, Xdg, Xab]
 cases c.Large <;> cases c.Exact <;> rfl
def Xuo (s : Xam) : Bool :=
 if s.Kind = 0 then decide (s.Mode = 0 ∧ s.Dx = 0 ∧ s.Dy = 0 ∧ s.Levels.length = 0)
 else if s.Kind = 1 then decide (s.Mode = 0) && (decide (-16 ≤ s.Dx ∧ s.Dx ≤ 16) && (decide (-16 ≤ s.Dy ∧ s.Dy ≤ 16) && Yfs s.Levels))
 else if s.Kind = 2 then decide (0 ≤ s.Mode ∧ s.Mode ≤ 3) && (decide (s.Dx = 0) && (decide (s.Dy = 0) && Yfs s.Levels))
 else false
theorem Yq2 (a b : Int) : (a == b) = decide (a = b) := by rw [Bool.eq_iff_iff]; simp
theorem Ye4 (s : Xam) : Xsr s = some (Xuo s) := by
 unfold Xsr Xuo
 simp only [Xal, Ylb, Xab, Xdg, Yq2]
 simp only [Yrt]
 by_cases h0 : s.Kind = 0
 ·
  rw [if_pos h0, if_pos h0]; congr 1; rw [Bool.eq_iff_iff]; simp
 ·
  rw [if_neg h0, if_neg h0]
  by_cases h1 : s.Kind = 1
  ·
   rw [if_pos h1, if_pos h1]
  ·
   rw [if_neg h1, if_neg h1]
   by_cases h2 : s.Kind = 2
   ·
    rw [decide_eq_true h2, Bool.true_and, if_pos h2]
   ·
    rw [decide_eq_false h2, Bool.false_and, if_neg h2]
theorem Xn7 (s : Xam) (hl : s.Levels.length ≤ 9223372036854775806) : Xf8 s = some (Xuo s) := by
 unfold Xf8 Xuo
 simp only [Xak, Xq7 _ hl, Xab, Xdg, Yq2]
 simp only [Yrt]
 by_cases h0 : s.Kind = 0
 ·
  rw [if_pos h0, if_pos h0]; congr 1; rw [Bool.eq_iff_iff]; simp
 ·
  rw [if_neg h0, if_neg h0]
  by_cases h1 : s.Kind = 1
  ·
   rw [if_pos h1, if_pos h1]
  ·
   rw [if_neg h1, if_neg h1]
   by_cases h2 : s.Kind = 2
   ·
    rw [decide_eq_true h2, Bool.true_and, if_pos h2]
   ·
    rw [decide_eq_false h2, Bool.false_and, if_neg h2]
def Xsu (s : Xam) (c : Xe9) : Bool := !c.Key || s.Kind == 2
def sqL (s : Xam) (c : Xe9) : List Int :=
 (if c.Key = true then [] else ueL s.Kind.toNat) ++
 (if s.Kind = 1 then seL s.Dx ++ seL s.Dy ++ Yoj s.Levels c else if s.Kind = 2 then ueL s.Mode.toNat ++ Yoj s.Levels c else [])
theorem Xup {s : Xam} (h : Xuo s = true) : 0 ≤ s.Kind ∧ s.Kind ≤ 2 := by
 unfold Xuo at h
 repeat' split at h
 all_goals first | omega | simp at h
theorem Xva {s : Xam} (h : Xuo s = true) (h1 : s.Kind = 1) : (-16 ≤ s.Dx ∧ s.Dx ≤ 16) ∧ (-16 ≤ s.Dy ∧ s.Dy ≤ 16) ∧ Yfs s.Levels = true := by
 unfold Xuo at h
 rw [if_neg (by omega), if_pos h1] at h
 simp only [Bool.and_eq_true, decide_eq_true_eq] at h
 exact ⟨h.2.1, h.2.2.1, h.2.2.2⟩
theorem Yam {s : Xam} (h : Xuo s = true) (h1 : s.Kind = 2) : (0 ≤ s.Mode ∧ s.Mode ≤ 3) ∧ Yfs s.Levels = true := by
 unfold Xuo at h
 rw [if_neg (by omega), if_neg (by omega), if_pos h1] at h
 simp only [Bool.and_eq_true, decide_eq_true_eq] at h
 exact ⟨h.1, h.2.2.2⟩
theorem Ywz (s : Xam) (c : Xe9) : Xog (sqL s c) := by
 unfold sqL
 refine Xa6 ?_ ?_
 ·
  split
  ·
   exact Xr0
  ·
   exact Xge _
 ·
  split
  ·
   exact Xa6 (Xa6 (Xge _) (Xge _)) (Ysu _ _)
  ·
   split
   ·
    exact Xa6 (Xge _) (Ysu _ _)
   ·
    exact Xr0
theorem Yw0 {s : Xam} {c : Xe9} (h : Xuo s = true) : (sqL s c).length ≤ 5265 := by
 have hk := Xup h
 have u := Xe7 s.Kind.toNat (by omega)
 have e1 : (if c.Key = true then [] else ueL s.Kind.toNat).length ≤ 39 := by split; simp; exact u.1
 unfold sqL
 rw [List.length_append]
 by_cases h1 : s.Kind = 1
 ·
  obtain ⟨a, b, d⟩ := Xva h h1
  have x := Xsk s.Dx (by omega)
  have y := Xsk s.Dy (by omega)
  have z := Yfr (c := c) d
  rw [if_pos h1]; simp only [List.length_append]; omega
 ·
  by_cases h2 : s.Kind = 2
  ·
   obtain ⟨a, d⟩ := Yam h h2
   have x := Xe7 s.Mode.toNat (by omega)
   have z := Yfr (c := c) d
   rw [if_neg h1, if_pos h2]; simp only [List.length_append]; omega
  ·
   rw [if_neg h1, if_neg h2]; simp only [List.length_nil]; omega
theorem Ybr (s : Xam) (c : Xe9) (hl : s.Levels.length ≤ 9223372036854775806) : Xi4 s c = some (if (Xuo s && (Xio c && Xsu s c)) = true then (strOfNums (sqL s c), true) else (⟨#[]⟩, false)) := by
 have hm : maxLen = 9223372036854775807 := rfl
 unfold Xi4 Xd8
 rw [Xn7 s hl, Xab, Xez, Xab, Xsl, Xab, Xab]
 by_cases hok : (Xuo s && (Xio c && Xsu s c)) = true
 ·
  rw [if_pos hok]
  simp only [Bool.and_eq_true] at hok
  obtain ⟨h, hc, hlet⟩ := hok
  have hk := Xup h
  have u := Xe7 s.Kind.toNat (by omega)
  unfold Xsu at hlet
  rw [h, hc, Xaw, Xaw, hlet, Xab, Bool.not_true, Xap]
  have e1 : (sel (!c.Key) (bnd (Xir s.Kind) fun q6 => req ((([] : List Int).length + (Xba q6).length) * 1 ≤ 140737488355328 ∧ ([] : List Int).length + (Xba q6).length ≤ maxLen) <| some (([] : List Int) ++ (Xba q6))) (some ([] : List Int))) = some (if c.Key = true then [] else ueL s.Kind.toNat) := by
   rw [show s.Kind = ((s.Kind.toNat : Nat) : Int) by omega, Xfm _ (by omega), Xab, Xp8 _ (Xfb (Xge _)), Xa2 (by simp only [List.length_nil]; omega), Int.toNat_natCast]
   cases c.Key <;> rfl
  rw [e1, Xab]
  have e2 : (if c.Key = true then [] else ueL s.Kind.toNat).length ≤ 39 := by split; simp; exact u.1
  unfold sqL
  generalize (if c.Key = true then [] else ueL s.Kind.toNat) = k at e2 ⊢
  by_cases h1 : s.Kind = 1
  ·
   obtain ⟨a, b, d⟩ := Xva h h1
   have x := Xsk s.Dx (by omega)
   have y := Xsk s.Dy (by omega)
   have z := Yfr (c := c) d
   rw [if_pos h1, Xbq (by simpa using h1), Xom _ (by omega), Xab, Xom _ (by omega), Xab]
   simp only
   rw [Xp8 (seL s.Dx) (Xfb (Xge _)), Xp8 (seL s.Dy) (Xfb (Xge _)), rqA, Xa2 (by rw [List.length_append]; omega), Xrb _ c d, Xab, Xa2 (by simp only [List.length_append]; omega), Xab]
   simp only [List.append_assoc]
  ·
   rw [if_neg h1, Xbf (by simpa using h1)]
   by_cases h2 : s.Kind = 2
   ·
    obtain ⟨a, d⟩ := Yam h h2
    have x := Xe7 s.Mode.toNat (by omega)
    have z := Yfr (c := c) d
    rw [if_pos h2, Xbq (by simpa using h2), show s.Mode = ((s.Mode.toNat : Nat) : Int) by omega, Xfm _ (by omega), Xab, Xp8 _ (Xfb (Xge _)), rqA, Xrb _ c d, Xab, Xa2 (by simp only [List.length_append]; omega), Xab, Int.toNat_natCast]
    simp only [List.append_assoc]
   ·
    rw [if_neg h2, Xbf (by simpa using h2), Xab, List.append_nil]
 ·
  rw [if_neg hok]
  unfold Xsu at hok
  cases h1 : Xuo s <;> cases h2 : Xio c <;> cases h3 : (!c.Key || s.Kind == 2) <;> simp_all [bnd, sel]
def Xiq : List Xam → Xe9 → List Int
 | [], _ => []
 | s :: r, c => sqL s c ++ Xiq r c
def Yle (l : List Xam) (c : Xe9) : Bool := l.all fun s => Xuo s && (Xio c && Xsu s c)
theorem Ycn : ∀ (l : List Xam) (c : Xe9), Xog (Xiq l c)
 | [], _ => Xr0
 | s :: r, c => Xa6 (Ywz s c) (Ycn r c)
theorem Yl1 : ∀ {l : List Xam} {c : Xe9}, Yle l c = true → (Xiq l c).length ≤ 5265 * l.length
 | [], _, _ => by simp [Xiq]
 | s :: r, c, h => by
  unfold Yle at h
  rw [List.all_cons, Bool.and_eq_true, Bool.and_eq_true] at h
  have h1 := Yw0 (c := c) h.1.1
  have h2 := Yl1 (l := r) (c := c) h.2
  rw [Xiq, List.length_append, List.length_cons]; omega
def Yoa (l : List Xam) (c : Xe9) : ByteArray × Bool := if (decide (1 ≤ l.length ∧ l.length ≤ 64) && Yle l c) = true then (strOfNums (Xiq l c), true) else (⟨#[]⟩, false)
theorem Yhl (l : List Xam) (c : Xe9) (hs : ∀ s ∈ l, s.Levels.length ≤ 9223372036854775806) : Xj8 l c = some (Yoa l c) := by
 have hm : maxLen = 9223372036854775807 := rfl
 unfold Xj8 Yoa
 rw [Xak, Xab, Xte]
 by_cases hl : 1 ≤ l.length ∧ l.length ≤ 64
 ·
  rw [syA, decide_eq_true hl, Bool.true_and]
  have key : ∀ (r a : List Xam) (t : List Int), l = a ++ r → t.length ≤ 5265 * a.length → loop (Xfh l c) ((a.length : Int), t) = some (if Yle r c = true then .out (t ++ Xiq r c) else .ret (⟨#[]⟩, false)) := by
   intro r
   induction r with
   | nil =>
    intro a t ha _
    rw [List.append_nil] at ha
    exact Xgl (by unfold Xfh; simp only; rw [Xar (by rw [ha]; omega), Xiq, List.append_nil]; rfl)
   | cons s r ih =>
    intro a t ha ht
    have hlen : a.length < l.length := by rw [ha]; simp
    have hx : l.getD a.length Xwv = s := by rw [ha]; exact Xok a s _ r
    have hone : Yle (s :: r) c = ((Xuo s && (Xio c && Xsu s c)) && Yle r c) := by unfold Yle; rw [List.all_cons]
    have hrow := Ybr s c (hs s (by rw [ha]; simp))
    rw [hone]
    cases e : (Xuo s && (Xio c && Xsu s c)) with
    | true =>
     rw [e, if_pos rfl] at hrow
     have hok : Xuo s = true := by rw [Bool.and_eq_true] at e; exact e.1
     have g := Yw0 (c := c) hok
     have hn := ih (a ++ [s]) (t ++ sqL s c) (by rw [ha]; simp) (by simp only [List.length_append, List.length_singleton]; omega)
     rw [List.length_append, List.length_singleton] at hn
     rw [Bool.true_and, Xiq, ← List.append_assoc, ← hn]
     refine Xcs ?_
     unfold Xfh
     simp only [Int.toNat_natCast, hx]
     rw [syA, rqA, show (⟨s.Kind, s.Mode, s.Dx, s.Dy, s.Levels⟩ : Xam) = s from rfl, hrow, Xab, Xte, Xaw, Xp8 _ (Xfb (Ywz _ _)), rqA, wkA]
     rfl
    | false =>
     rw [e, if_neg (by decide)] at hrow
     rw [Bool.false_and, if_neg (by decide)]
     refine Xgl ?_
     unfold Xfh
     simp only [Int.toNat_natCast, hx]
     rw [syA, rqA, show (⟨s.Kind, s.Mode, s.Dx, s.Dy, s.Levels⟩ : Xam) = s from rfl, hrow, Xab, Xte, Xap]
  refine (Xf2 (key l [] [] rfl (by simp))).trans ?_
  cases Yle l c <;> rfl
 ·
  rw [snA, decide_eq_false hl, Bool.false_and]; rfl
theorem Xx6 (b : ByteArray) (i : Int) : 0 ≤ Xx0 b i ∧ Xx0 b i ≤ 255 := by
 unfold Xx0
 split
 ·
  rename_i h
  have := (b[i.toNat]'h).toNat_lt
  omega
 ·
  omega
theorem Xbl {p : Pic} (h : Xc1 p = true) : (1 ≤ p.Wide ∧ p.Wide ≤ 256) ∧ (1 ≤ p.High ∧ p.High ≤ 256) ∧ (p.Dots.size : Int) = p.Wide * p.High := by
 unfold Xc1 at h
 simp only [Bool.and_eq_true, decide_eq_true_eq, beq_iff_eq] at h
 exact ⟨h.1, h.2.1, h.2.2⟩
theorem Xz2 {p : Pic} (h1 : 1 ≤ p.Wide ∧ p.Wide ≤ 256) (h2 : 1 ≤ p.High ∧ p.High ≤ 256) (h3 : (p.Dots.size : Int) = p.Wide * p.High) : Xc1 p = true := by
 unfold Xc1
 simp only [Bool.and_eq_true, decide_eq_true_eq, beq_iff_eq]
 exact ⟨h1, h2, h3⟩
def Xr1 (p : Pic) (x y : Int) : Int := Xx0 p.Dots (Xbn y 0 (p.High - 1) * p.Wide + Xbn x 0 (p.Wide - 1))
theorem Xr2 (p : Pic) (x y : Int) : 0 ≤ Xr1 p x y ∧ Xr1 p x y ≤ 255 := Xx6 _ _
theorem Yo3 {p : Pic} (ok : Xc1 p = true) (x y : Int) : 0 ≤ Xbn y 0 (p.High - 1) * p.Wide + Xbn x 0 (p.Wide - 1) ∧ Xbn y 0 (p.High - 1) * p.Wide + Xbn x 0 (p.Wide - 1) < p.Dots.size ∧ 0 ≤ Xbn y 0 (p.High - 1) * p.Wide ∧ Xbn y 0 (p.High - 1) * p.Wide ≤ 65536 := by
 obtain ⟨h1, h2, h3⟩ := Xbl ok
 have b1 := Xfc (n := y) (a := 0) (b := p.High - 1) (by omega)
 have b2 := Xfc (n := x) (a := 0) (b := p.Wide - 1) (by omega)
 have m1 := Int.mul_nonneg b1.1 (show 0 ≤ p.Wide by omega)
 have m2 := Int.mul_le_mul_of_nonneg_right b1.2 (show 0 ≤ p.Wide by omega)
 have m3 : (p.High - 1) * p.Wide = p.Wide * p.High - p.Wide := by rw [Int.sub_mul, Int.one_mul, Int.mul_comm]
 have m4 := (Xgr h1 h2).2
 omega
theorem Yhs {p : Pic} (ok : Xc1 p = true) (x y : Int) : Xeu p x y = some (Xr1 p x y) := by
 obtain ⟨h1, h2, h3⟩ := Xbl ok
 unfold Xeu Xr1
 rw [Xhf, Xab, Xhf, Xab, wkA (e := p.High - 1), wkA (e := p.Wide - 1)]
 obtain ⟨p1, p2, p3, p4⟩ := Yo3 ok x y
 have b2 := Xfc (n := x) (a := 0) (b := p.Wide - 1) (by omega)
 have br := Xx6 p.Dots (Xbn y 0 (p.High - 1) * p.Wide + Xbn x 0 (p.Wide - 1))
 rw [wkA (e := Xbn y 0 (p.High - 1) * p.Wide), wkA (e := Xbn y 0 (p.High - 1) * p.Wide + Xbn x 0 (p.Wide - 1)), Xa2 ⟨p1, p2⟩, wkA]
theorem Xii {p : Pic} (ok : Xc1 p = true) (x y : Int) : Xep p x y = some (Xr1 p x y) := by
 obtain ⟨h1, h2, h3⟩ := Xbl ok
 unfold Xep Xr1
 rw [Xgc, Xab, ok, Bool.not_true, Xap, Xfn, Xab, Xfn, Xab, wkA (e := p.High - 1), wkA (e := p.Wide - 1)]
 obtain ⟨p1, p2, p3, p4⟩ := Yo3 ok x y
 have b2 := Xfc (n := x) (a := 0) (b := p.Wide - 1) (by omega)
 have br := Xx6 p.Dots (Xbn y 0 (p.High - 1) * p.Wide + Xbn x 0 (p.Wide - 1))
 rw [wkA (e := Xbn y 0 (p.High - 1) * p.Wide), wkA (e := Xbn y 0 (p.High - 1) * p.Wide + Xbn x 0 (p.Wide - 1)), Xa2 ⟨p1, p2⟩, wkA]
def Yty (p : Pic) (x y : Int) (i : Nat) : Int := Xr1 p (x + ((i % 8 : Nat) : Int)) (y + ((i / 8 : Nat) : Int))
def Xqw (p : Pic) (x y : Int) (n : Nat) : List Int := (List.range n).map (Yty p x y)
theorem Yoy (p : Pic) (x y : Int) (n : Nat) : Xqw p x y (n + 1) = Xqw p x y n ++ [Yty p x y n] := by simp [Xqw, List.range_succ]
theorem Xwt (p : Pic) (x y : Int) (n : Nat) : (Xqw p x y n).length = n := by simp [Xqw]
def Yq7 (x : Int) : Bool := decide (0 ≤ x ∧ x ≤ 255)
def Xbv (l : List Int) : Bool := decide (l.length = 64) && l.all Yq7
theorem Xbo {l : List Int} (h : Xbv l = true) : l.length = 64 ∧ ∀ i : Nat, i < 64 → 0 ≤ l.getD i 0 ∧ l.getD i 0 ≤ 255 := by
 simp only [Xbv, Bool.and_eq_true, decide_eq_true_eq] at h
 refine ⟨h.1, fun i hi => ?_⟩
 have := List.all_eq_true.1 h.2 (l.getD i 0) (by rw [Xcf l i (by omega)]; exact List.getElem_mem _)
 simpa [Yq7] using this
theorem Xkq (p : Pic) (x y : Int) : Xbv (Xqw p x y 64) = true := by
 simp only [Xbv, Xwt, decide_true, Bool.true_and, List.all_eq_true]
 intro z hz
 obtain ⟨i, _, rfl⟩ := List.mem_map.1 hz
 simp only [Yq7, decide_eq_true_eq]
 exact Xr2 _ _ _
theorem Xlf {p : Pic} (ok : Xc1 p = true) (x y : Int) (hx : -1000 ≤ x ∧ x ≤ 1000) (hy : -1000 ≤ y ∧ y ≤ 1000) : Xkh p x y = some (Xqw p x y 64) := by
 have hm : maxLen = 9223372036854775807 := rfl
 unfold Xkh
 rw [Xgc, Xab, ok, Xaw, Xal, Xab, syA, Xal, Xab, Xab, decide_eq_true (by omega), Bool.not_true, Xap]
 have key : ∀ i : Nat, i ≤ 64 → loop (Xlg p x y) ((i : Int), Xqw p x y i) = some (Xqw p x y 64) := by
  refine Xhc _ ?_ ?_
  ·
   exact Xgl (by unfold Xlg; rw [Xar (by simp)])
  ·
   intro i hi ih
   refine lgo (y := (((i + 1 : Nat) : Int), Xqw p x y (i + 1))) ?_ ih
   unfold Xlg
   simp only
   rw [syA, rqA, rqA, Xbu (by omega), Xbt (by omega), wkA (e := (i : Int) / 8), wkA (e := x + (i : Int) % 8), wkA (e := y + (i : Int) / 8), Xii ok, Xab, Xa2 (by rw [Xwt]; simp only [List.length_singleton]; omega), wkA (e := (i : Int) + 1)]
   have e2 : Xr1 p (x + (i : Int) % 8) (y + (i : Int) / 8) = Yty p x y i := by unfold Yty; congr 1
   rw [e2, ← Yoy]
   rfl
 have := key 0 (by omega)
 exact (Xf2 this).trans rfl
theorem Xf9 {p : Pic} (ok : Xc1 p = true) (x y : Int) (hx : -1000 ≤ x ∧ x ≤ 1000) (hy : -1000 ≤ y ∧ y ≤ 1000) : Xbz p x y = some (Xqw p x y 64) := by
 have hm : maxLen = 9223372036854775807 := rfl
 unfold Xbz
 rw [rqA]
 have key : ∀ r : Nat, r ≤ 8 → loop (Xes p x y) ((r : Int), Xqw p x y (8 * r)) = some (Xqw p x y 64) := by
  refine Xhc _ ?_ ?_
  ·
   exact Xgl (by unfold Xes; rw [Xar (by simp)])
  ·
   intro r hr ih
   refine lgo (y := (((r + 1 : Nat) : Int), Xqw p x y (8 * (r + 1)))) ?_ ih
   unfold Xes
   simp only
   have inner : ∀ c : Nat, c ≤ 8 → loop (Xet p x y ((r : Int), Xqw p x y (8 * r))) ((c : Int), Xqw p x y (8 * r + c)) = some (Xqw p x y (8 * (r + 1))) := by
    refine Xhc _ ?_ ?_
    ·
     exact Xgl (by unfold Xet; rw [Xar (by simp)]; rfl)
    ·
     intro c hc ih2
     refine lgo (y := (((c + 1 : Nat) : Int), Xqw p x y (8 * r + (c + 1)))) ?_ ih2
     unfold Xet
     simp only
     rw [syA, wkA (e := x + (c : Int)), wkA (e := y + (r : Int)), Yhs ok, Xab, Xa2 (by rw [Xwt]; simp only [List.length_singleton]; omega), wkA (e := (c : Int) + 1)]
     have e2 : Xr1 p (x + (c : Int)) (y + (r : Int)) = Yty p x y (8 * r + c) := by
      unfold Yty
      rw [show (8 * r + c) % 8 = c by omega, show (8 * r + c) / 8 = r by omega]
     rw [e2, ← Yoy]
     rfl
   have i0 := inner 0 (by omega)
   rw [syA]
   refine (Xf2 i0).trans ?_
   rw [wkA (e := (r : Int) + 1)]
   rfl
 have := key 0 (by omega)
 exact (Xf2 this).trans rfl
def Ycs (x : Int) : Int := if x < 0 then -x else x
def Xo3 (a b : List Int) : Nat → Int
 | 0 => 0
 | n + 1 => Xo3 a b n + Ycs (a.getD n 0 - b.getD n 0)
theorem Xj1 {a b : List Int} (ha : Xbv a = true) (hb : Xbv b = true) : ∀ n : Nat, n ≤ 64 → 0 ≤ Xo3 a b n ∧ Xo3 a b n ≤ 255 * n
 | 0, _ => by simp [Xo3]
 | n + 1, h => by
  have ih := Xj1 ha hb n (by omega)
  have p := (Xbo ha).2 n (by omega)
  have q := (Xbo hb).2 n (by omega)
  simp only [Xo3, Ycs]
  split <;> omega
theorem Xr8 {a b : List Int} (ha : Xbv a = true) (hb : Xbv b = true) : Xp5 a b = some (Xo3 a b 64) := by
 unfold Xp5
 have la := (Xbo ha).1
 have lb := (Xbo hb).1
 have key : ∀ i : Nat, i ≤ 64 → loop (Xpd a b) (Xo3 a b i, (i : Int)) = some (Xo3 a b 64) := by
  refine Xhc _ ?_ ?_
  ·
   exact Xgl (by unfold Xpd; rw [Xar (by simp only; omega)])
  ·
   intro i hi ih
   refine lgo (y := (Xo3 a b (i + 1), ((i + 1 : Nat) : Int))) ?_ ih
   have p := (Xbo ha).2 i hi
   have q := (Xbo hb).2 i hi
   have g := Xj1 ha hb i (by omega)
   unfold Xpd Xnn
   simp only [Int.toNat_natCast]
   rw [syA, rqA, rqA, wkA (e := a.getD i 0 - b.getD i 0), wkA (e := 0 - (a.getD i 0 - b.getD i 0)), Xab]
   have e : (if 0 - (a.getD i 0 - b.getD i 0) > a.getD i 0 - b.getD i 0 then 0 - (a.getD i 0 - b.getD i 0) else a.getD i 0 - b.getD i 0) = Ycs (a.getD i 0 - b.getD i 0) := by
    unfold Ycs; split <;> split <;> omega
   have ab : 0 ≤ Ycs (a.getD i 0 - b.getD i 0) ∧ Ycs (a.getD i 0 - b.getD i 0) ≤ 255 := by unfold Ycs; split <;> omega
   rw [e, wkA (e := Xo3 a b i + Ycs (a.getD i 0 - b.getD i 0)), wkA (e := (i : Int) + 1)]
   rfl
 exact (Xf2 (key 0 (by omega))).trans rfl
theorem Xho (l : List Int) (hl : l.length ≤ 9223372036854775806) : Xbk l 64 0 255 = some (Xbv l) := by
 rw [Xk3 l _ _ _ hl]
 have : ((l.length : Int) == 64) = decide (l.length = 64) := by rw [Bool.eq_iff_iff]; simp only [beq_iff_eq, decide_eq_true_eq]; omega
 rw [this, Bool.and_comm]
 rfl
def Yu2 (d : Int) : Int := ((seL d).length : Int)
theorem Xm0 (d : Int) (h : -500000 ≤ d ∧ d ≤ 500000) : Xl7 d = some (Yu2 d) := by
 unfold Xl7 Yu2
 rw [Xom d h, Xab, strOfNums_size]
theorem Xu7 (d : Int) (h : -500000 ≤ d ∧ d ≤ 500000) : 1 ≤ Yu2 d ∧ Yu2 d ≤ 39 := by
 unfold Yu2 seL
 have := Xe7 (Ygb d) (Xuw d h)
 omega
theorem Yi6 (c : Xbj) (n : Int) (hc : Xoj c) (h0 : 0 ≤ n) (h1 : n ≤ 100000) : ∃ s c', Xnv c n = some (s, c') ∧ (s.size : Int) = n ∧ Xoj c' := by
 have hm : maxLen = 9223372036854775807 := rfl
 unfold Xnv
 obtain ⟨z, c0, ez, z0, z1, hz⟩ := Xda c hc
 rw [ez, Xab]
 simp only
 obtain ⟨o, h, h2, h3⟩ := Xoq (f := Xls n) (fun v => (0 ≤ v.1 ∧ v.1 ≤ 255) ∧ 0 ≤ v.2.1 ∧ v.2.1 ≤ n ∧ Xoj ⟨v.2.2.1, v.2.2.2.1, v.2.2.2.2.1⟩ ∧ (v.2.2.2.2.2.length : Int) = v.2.1) (fun v => (n - v.2.1).toNat) (fun _ o => (o.1.length : Int) = n ∧ Xoj ⟨o.2.1, o.2.2.1, o.2.2.2⟩) (by
  intro ⟨w, i, b, j, h, l⟩ ⟨hw, h1, h2, h3, h4⟩
  unfold Xls
  simp only at hw h1 h2 h3 h4 ⊢
  by_cases hi : i < n
  ·
   rw [Xbi hi]
   obtain ⟨x, c', ex, x0, x1, _, hx⟩ := Xay _ 6 h3
   rw [ex, Xab]
   simp only
   have step : ∃ w' c2, (sel (x == 0) (bnd (Xb5 c') fun q16 => some (q16.1, q16.2.b_, q16.2.i_, q16.2.h_)) (sel (x == 1) (bnd (Xa1 c' 9) fun q17 => some ((IntKind.wrap .i64 (BitVec.ofInt (IntKind.bits .i64) (Xaa .i64 ((Xaa .i64 (w + q17.1)) + 252)) &&& BitVec.ofInt (IntKind.bits .i64) 255).toNat), q17.2.b_, q17.2.i_, q17.2.h_)) (some (w, c'.b_, c'.i_, c'.h_)))) = some (w', c2.b_, c2.i_, c2.h_) ∧ (0 ≤ w' ∧ w' ≤ 255) ∧ Xoj c2 := by
    cases e0 : (x == 0) with
    | true =>
     obtain ⟨y, c2, ey, y0, y1, hy⟩ := Xda c' hx
     rw [Xaw, ey, Xab]
     exact ⟨y, c2, rfl, ⟨y0, y1⟩, hy⟩
    | false =>
     rw [Xap]
     cases e1 : (x == 1) with
     | true =>
      obtain ⟨y, c2, ey, y0, y1, _, hy⟩ := Xay c' 9 hx
      rw [Xaw, ey, Xab]
      exact ⟨_, c2, rfl, Yf5 _, hy⟩
     | false => rw [Xap]; exact ⟨w, c', rfl, hw, hx⟩
   obtain ⟨w', c2, es, hw', hc2⟩ := step
   rw [es, Xab, Xa2 (by rw [hm]; simp only [List.length_singleton]; omega)]
   refine .inr ⟨_, rfl, ?_, ?_, fun _ h => h⟩
   ·
    simp only
    rw [wkA (e := i + 1)]
    exact ⟨hw', by omega, by omega, hc2, by simp; omega⟩
   ·
    simp only; rw [wkA (e := i + 1)]; omega
  ·
   rw [Xar hi]
   exact .inl ⟨_, rfl, by simp only; omega, h3⟩) (z, 0, c0.b_, c0.i_, c0.h_, []) ⟨⟨z0, z1⟩, by simp, h0, hz, by simp⟩
 rw [h, Xab]
 exact ⟨_, _, rfl, by rw [strOfNums_size]; exact h2, h3⟩
theorem Xtb (c : Xbj) (w h : Int) (hc : Xoj c) (hw : 1 ≤ w ∧ w ≤ 256) (hh : 1 ≤ h ∧ h ≤ 256) : ∃ p c', Xin c w h = some (p, c') ∧ p.Wide = w ∧ p.High = h ∧ Xc1 p = true ∧ Xoj c' := by
 have a := Xgr hw hh
 unfold Xin
 rw [wkA (e := w * h)]
 obtain ⟨s, c', e, hs, hc'⟩ := Yi6 c (w * h) hc (by omega) (by omega)
 rw [e, Xab]
 exact ⟨_, _, rfl, rfl, rfl, Xz2 hw hh hs, hc'⟩
theorem Yja (c : Xbj) (p : Pic) (hc : Xoj c) (ok : Xc1 p = true) : ∃ q c', Xnx c p = some (q, c') ∧ q.Wide = p.Wide ∧ q.High = p.High ∧ Xc1 q = true ∧ Xoj c' := by
 have hm : maxLen = 9223372036854775807 := rfl
 obtain ⟨k1, k2, k3⟩ := Xbl ok
 have ar := Xgr k1 k2
 unfold Xnx
 obtain ⟨x, c1, e1, x0, x1, _, h1⟩ := Xay c 7 hc
 obtain ⟨y, c2, e2, y0, y1, _, h2⟩ := Xay c1 5 h1
 obtain ⟨z, c3, e3, h3⟩ := Xln c2 3 h2
 have x1' := x1 (by omega)
 have y1' := y1 (by omega)
 rw [e1, Xab]
 simp only
 rw [e2, Xab]
 simp only
 rw [e3, Xab]
 simp only
 rw [wkA (e := x - 3), wkA (e := y - 2)]
 have hv : ∃ a b : Int, (-10 ≤ a ∧ a ≤ 10) ∧ (-10 ≤ b ∧ b ≤ 10) ∧ sel z (some ((0 : Int), (0 : Int), c3.b_, c3.i_, c3.h_)) (some (x - 3, y - 2, c3.b_, c3.i_, c3.h_)) = some (a, b, c3.b_, c3.i_, c3.h_) := by
  cases z with
  | true => exact ⟨0, 0, by omega, by omega, rfl⟩
  | false => exact ⟨x - 3, y - 2, by omega, by omega, rfl⟩
 obtain ⟨a, b, ha, hb, hv⟩ := hv
 rw [hv, Xab]
 obtain ⟨o, h, ho⟩ := Xoq (f := Xlv p (a, b, c3.b_, c3.i_, c3.h_)) (fun v => 0 ≤ v.1 ∧ v.1 ≤ (p.Dots.size : Int) ∧ (v.2.length : Int) = v.1) (fun v => ((p.Dots.size : Int) - v.1).toNat) (fun _ o => (o.length : Int) = (p.Dots.size : Int)) (by
  intro ⟨i, l⟩ ⟨g1, g2, g3⟩
  unfold Xlv
  simp only at g1 g2 g3 ⊢
  by_cases hi : i < (p.Dots.size : Int)
  ·
   rw [Xbi hi, rqA, rqA, Xii ok, Xab, Xa2 (by rw [hm]; simp only [List.length_singleton]; omega), wkA (e := i + 1)]
   exact .inr ⟨_, rfl, ⟨by simp only; omega, by simp only; omega, by simp; omega⟩, by simp only; omega, fun _ h => h⟩
  ·
   rw [Xar hi]
   exact .inl ⟨_, rfl, by omega⟩) (0, []) ⟨by simp, by simp, by simp⟩
 rw [h, Xab]
 obtain ⟨o2, h', g1, g2⟩ := Xoq (f := Xlw) (fun v => 0 ≤ v.1 ∧ v.1 ≤ 6 ∧ Xoj ⟨v.2.1, v.2.2.1, v.2.2.2.1⟩ ∧ (v.2.2.2.2.length : Int) = p.Dots.size) (fun v => (6 - v.1).toNat) (fun _ o => (o.1.length : Int) = p.Dots.size ∧ Xoj ⟨o.2.1, o.2.2.1, o.2.2.2⟩) (by
  intro ⟨i, b, j, h, l⟩ ⟨g1, g2, g3, g4⟩
  unfold Xlw
  simp only at g1 g2 g3 g4 ⊢
  obtain ⟨x, c', ex, x0, x1, _, hx⟩ := Xay _ 6 g3
  have x1' := x1 (by omega)
  rw [ex, Xab]
  simp only
  by_cases hi : i < x
  ·
   obtain ⟨y, c2, ey, y0, y1, _, hy⟩ := Xay c' l.length hx
   have y1' := y1 (by omega)
   obtain ⟨z, c3, ez, z0, z1, hz⟩ := Xda c2 hy
   rw [Xbi hi, ey, Xab]
   simp only
   rw [ez, Xab]
   simp only
   rw [rqA, rqA, wkA (e := i + 1)]
   exact .inr ⟨_, rfl, ⟨by simp only; omega, by simp only; omega, hz, by simp only [List.length_set]; omega⟩, by simp only; omega, fun _ h => h⟩
  ·
   rw [Xar hi]
   exact .inl ⟨_, rfl, g4, hx⟩) (0, c3.b_, c3.i_, c3.h_, o) ⟨by simp, by simp, h3, by simp only; omega⟩
 rw [h', Xab]
 refine ⟨_, _, rfl, rfl, rfl, Xz2 k1 k2 ?_, g2⟩
 simp only
 rw [strOfNums_size]; omega
def Xdb (p : Pic) (x y : Int) : Bool := decide (0 ≤ x ∧ x ≤ p.Wide - 8 ∧ 0 ≤ y ∧ y ≤ p.High - 8)
theorem Ycx {p : Pic} (ok : Xc1 p = true) (x y : Int) : Xi2 p ⟨x, y, 8, 8⟩ = some (Xdb p x y) := by
 obtain ⟨k1, k2, k3⟩ := Xbl ok
 unfold Xi2 Xdb
 simp only
 rw [Xak, Xab, Xak, Xab, wkA (e := p.Wide - 8), wkA (e := p.High - 8), Xak, Xab, Xak, Xab]
 simp only [Xdg, Xab]
 congr 1
 rw [Bool.eq_iff_iff]
 simp only [Bool.and_eq_true, decide_eq_true_eq]
 omega
theorem Xoa {p : Pic} (ok : Xc1 p = true) (x y : Int) (hx : x.tmod 8 = 0) (hy : y.tmod 8 = 0) (h : Xdb p x y = true) : Xb2 p x y = some true := by
 obtain ⟨k1, k2, k3⟩ := Xbl ok
 unfold Xdb at h
 rw [decide_eq_true_eq] at h
 unfold Xb2
 rw [rqA, hx, rqA, hy, wkA (e := p.Wide - 8), wkA (e := p.High - 8), Xak, Xab, Xak, Xab, decide_eq_true (by omega), decide_eq_true (by omega)]
 rfl
def Xm4 (p : Pic) (w : List Int) (x y dx dy : Int) : Int := Xo3 w (Xqw p (x + dx) (y + dy) 64) 64 + Yu2 dx + Yu2 dy
def BmI (p : Pic) (w : List Int) (x y r : Int) (past : Bool) (b : Int × Int × Int) : Prop :=
 (b = (0, 0, -1) ∧ past = false) ∨
 ((-r ≤ b.1 ∧ b.1 ≤ r) ∧ (-r ≤ b.2.1 ∧ b.2.1 ≤ r) ∧ Xdb p (x + b.1) (y + b.2.1) = true ∧ b.2.2 = Xm4 p w x y b.1 b.2.1 ∧ (past = true → b.2.2 ≤ Xm4 p w x y 0 0))
theorem Xwb {p : Pic} {w : List Int} (hw : Xbv w = true) (x y dx dy : Int) (hx : -100 ≤ dx ∧ dx ≤ 100) (hy : -100 ≤ dy ∧ dy ≤ 100) : 2 ≤ Xm4 p w x y dx dy ∧ Xm4 p w x y dx dy ≤ 20000 := by
 have g := Xj1 hw (Xkq p (x + dx) (y + dy)) 64 (by omega)
 have a := Xu7 dx (by omega)
 have b := Xu7 dy (by omega)
 unfold Xm4; omega
theorem Yzz {p : Pic} {w : List Int} {x y r : Int} (ok : Xc1 p = true) (hw : Xbv w = true) (hr : 0 ≤ r ∧ r ≤ 4) (h0 : Xdb p x y = true) (s : Int × Int × Int × Int) (hs : -r ≤ s.2.2.2 ∧ s.2.2.2 ≤ r) (v : Int × Int × Int × Int) (hv : -r ≤ v.2.2.2 ∧ v.2.2.2 ≤ r)
  (past : Bool) (hi : BmI p w x y r past (v.1, v.2.1, v.2.2.1)) (hp : past = true ↔ (s.2.2.2 > 0 ∨ (s.2.2.2 = 0 ∧ v.2.2.2 > 0))) :
  ∃ b, Xcw p w x y r s v = some (.go (b.1, b.2.1, b.2.2, v.2.2.2 + 1)) ∧ BmI p w x y r (decide (s.2.2.2 > 0 ∨ (s.2.2.2 = 0 ∧ v.2.2.2 + 1 > 0))) b := by
 obtain ⟨k1, k2, k3⟩ := Xbl ok
 have h0' := h0
 unfold Xdb at h0'
 rw [decide_eq_true_eq] at h0'
 unfold Xcw
 rw [Xbi hv.2, wkA (e := x + v.2.2.2), wkA (e := y + s.2.2.2), wkA (e := v.2.2.2 + 1), Ycx ok, Xab]
 cases hh : Xdb p (x + v.2.2.2) (y + s.2.2.2) with
 | false =>
  refine ⟨(v.1, v.2.1, v.2.2.1), rfl, ?_⟩
  have ne : ¬ (s.2.2.2 = 0 ∧ v.2.2.2 = 0) := by
   intro ⟨e1, e2⟩
   rw [e1, e2, Int.add_zero, Int.add_zero, h0] at hh
   cases hh
  rcases hi with ⟨h1, h2⟩ | ⟨h1, h2, h3, h4, h5⟩
  ·
   refine .inl ⟨h1, ?_⟩
   rw [decide_eq_false_iff_not]
   intro h
   have := hp.2 (by omega)
   rw [h2] at this; cases this
  ·
   refine .inr ⟨h1, h2, h3, h4, fun h => h5 (hp.2 ?_)⟩
   rw [decide_eq_true_eq] at h
   omega
 | true =>
  have hh' := hh
  unfold Xdb at hh'
  rw [decide_eq_true_eq] at hh'
  have hb := Xkq p (x + v.2.2.2) (y + s.2.2.2)
  have g := Xj1 hw hb 64 (by omega)
  have z1 := Xu7 v.2.2.2 (by omega)
  have z2 := Xu7 s.2.2.2 (by omega)
  rw [Bool.not_true, Xap, Xf9 ok _ _ (by omega) (by omega), Xab, Xr8 hw hb, Xab, Xm0 _ (by omega), Xab, Xm0 _ (by omega), Xab, wkA (e := Xo3 w (Xqw p (x + v.2.2.2) (y + s.2.2.2) 64) 64 + Yu2 v.2.2.2), wkA, Ydb, Xab]
  have mc : Xo3 w (Xqw p (x + v.2.2.2) (y + s.2.2.2) 64) 64 + Yu2 v.2.2.2 + Yu2 s.2.2.2 = Xm4 p w x y v.2.2.2 s.2.2.2 := rfl
  rw [mc]
  have m1 := Xwb (p := p) (w := w) hw x y v.2.2.2 s.2.2.2 (by omega) (by omega)
  cases hc : (decide (v.2.2.1 < 0) || decide (Xm4 p w x y v.2.2.2 s.2.2.2 < v.2.2.1)) with
  | true =>
   refine ⟨(v.2.2.2, s.2.2.2, Xm4 p w x y v.2.2.2 s.2.2.2), rfl, .inr ⟨hv, hs, hh, rfl, fun h => ?_⟩⟩
   rw [decide_eq_true_eq] at h
   by_cases e0 : s.2.2.2 = 0 ∧ v.2.2.2 = 0
   ·
    rw [e0.1, e0.2]; exact Int.le_refl _
   ·
    have hpast := hp.2 (by omega)
    rcases hi with ⟨h1, h2⟩ | ⟨h1, h2, h3, h4, h5⟩
    ·
     rw [h2] at hpast; cases hpast
    ·
     have h5' := h5 hpast
     simp only at h4 h5' ⊢
     have n1 := Xwb (p := p) (w := w) hw x y v.1 v.2.1 (by simp only at h1; omega) (by simp only at h2; omega)
     simp only [Bool.or_eq_true, decide_eq_true_eq] at hc
     omega
  | false =>
   refine ⟨(v.1, v.2.1, v.2.2.1), rfl, ?_⟩
   simp only [Bool.or_eq_false_iff, decide_eq_false_iff_not] at hc
   rcases hi with ⟨h1, h2⟩ | ⟨h1, h2, h3, h4, h5⟩
   ·
    simp only [Prod.mk.injEq] at h1
    omega
   ·
    refine .inr ⟨h1, h2, h3, h4, fun h => ?_⟩
    rw [decide_eq_true_eq] at h
    by_cases e0 : s.2.2.2 = 0 ∧ v.2.2.2 = 0
    ·
     have := hc.2
     rw [e0.1, e0.2] at this
     simp only; omega
    ·
     exact h5 (hp.2 (by omega))
theorem Ydk {p : Pic} {w : List Int} {x y r : Int} (ok : Xc1 p = true) (hw : Xbv w = true) (hr : 0 ≤ r ∧ r ≤ 4) (hx : x.tmod 8 = 0) (hy : y.tmod 8 = 0) (h0 : Xdb p x y = true) :
  ∃ b, Xdl p w x y r = some b ∧ (-r ≤ b.1 ∧ b.1 ≤ r) ∧ (-r ≤ b.2.1 ∧ b.2.1 ≤ r) ∧ Xdb p (x + b.1) (y + b.2.1) = true ∧ b.2.2 = Xm4 p w x y b.1 b.2.1 ∧ b.2.2 ≤ Xm4 p w x y 0 0 := by
 have hwl := (Xbo hw).1
 unfold Xdl
 rw [Xc7, Xab, ok, Xaw, Xho w (by omega), Xab, hw, Xaw, Xak, Xab, decide_eq_true (by omega), Xaw, Xoa ok x y hx hy h0, Xab, Bool.not_true, Xab, Xap, wkA (e := 0 - r)]
 obtain ⟨o, h, ho⟩ := Xoq (f := Xfd p w x y r) (fun s => -r ≤ s.2.2.2 ∧ s.2.2.2 ≤ r + 1 ∧ BmI p w x y r (decide (s.2.2.2 > 0)) (s.1, s.2.1, s.2.2.1)) (fun s => (r + 1 - s.2.2.2).toNat) (fun _ b => BmI p w x y r true b) (by
  intro s ⟨g1, g2, g3⟩
  unfold Xfd
  by_cases hi : s.2.2.2 ≤ r
  ·
   rw [Xbi hi, wkA (e := s.2.2.2 + 1), wkA (e := 0 - r)]
   obtain ⟨o, h, ho⟩ := Xoq (f := Xcw p w x y r s) (fun v => -r ≤ v.2.2.2 ∧ v.2.2.2 ≤ r + 1 ∧ BmI p w x y r (decide (s.2.2.2 > 0 ∨ (s.2.2.2 = 0 ∧ v.2.2.2 > 0))) (v.1, v.2.1, v.2.2.1)) (fun v => (r + 1 - v.2.2.2).toNat) (fun _ b => BmI p w x y r (decide (s.2.2.2 + 1 > 0)) b) (by
    intro v ⟨f1, f2, f3⟩
    by_cases hv : v.2.2.2 ≤ r
    ·
     obtain ⟨b, e, hb⟩ := Yzz ok hw hr h0 s ⟨g1, hi⟩ v ⟨f1, hv⟩ _ f3 (by rw [decide_eq_true_eq])
     exact .inr ⟨_, e, ⟨by simp only; omega, by simp only; omega, hb⟩, by simp only; omega, fun _ h => h⟩
    ·
     refine .inl ⟨(v.1, v.2.1, v.2.2.1), ?_, ?_⟩
     ·
      unfold Xcw; rw [Xar hv]
     ·
      have : decide (s.2.2.2 > 0 ∨ (s.2.2.2 = 0 ∧ v.2.2.2 > 0)) = decide (s.2.2.2 + 1 > 0) := by
       rw [decide_eq_decide]; omega
      rw [this] at f3
      exact f3) (s.1, s.2.1, s.2.2.1, 0 - r) ⟨by simp only; omega, by simp only; omega, by
    have : decide (s.2.2.2 > 0 ∨ (s.2.2.2 = 0 ∧ 0 - r > 0)) = decide (s.2.2.2 > 0) := by rw [decide_eq_decide]; omega
    simp only
    rw [this]; exact g3⟩
   rw [h, Xab]
   exact .inr ⟨_, rfl, ⟨by simp only; omega, by simp only; omega, ho⟩, by simp only; omega, fun _ h => h⟩
  ·
   rw [Xar hi]
   refine .inl ⟨_, rfl, ?_⟩
   rw [decide_eq_true (by omega)] at g3
   exact g3) (0, 0, -1, 0 - r) ⟨by simp only; omega, by simp only; omega, .inl ⟨rfl, by simp only [decide_eq_false_iff_not]; omega⟩⟩
 rw [h, Xab]
 rcases ho with ⟨_, h2⟩ | ⟨h1, h2, h3, h4, h5⟩
 ·
  cases h2
 ·
  exact ⟨_, rfl, h1, h2, h3, h4, h5 rfl⟩
theorem Ycm (s : ByteArray) : strOfNums (Xba s) = s := by
 apply ByteArray.ext
 apply Array.ext'
 simp only [strOfNums, Xba, List.map_map]
 conv => rhs; rw [← List.map_id s.data.toList]
 refine List.map_congr_left fun c _ => ?_
 simp
theorem Yu0 {a b : ByteArray} : a.toList = b.toList ↔ a = b := by
 constructor
 ·
  intro h
  rw [ByteArray.toList_eq, ByteArray.toList_eq] at h
  exact ByteArray.ext (Array.ext' h)
 ·
  intro h; rw [h]
def inB (B : Int) (l : List Int) : Prop := ∀ x ∈ l, -B ≤ x ∧ x ≤ B
theorem Xp6 {B C : Int} {l : List Int} (h : inB B l) (hc : B ≤ C) : inB C l := fun x hx => by have := h x hx; omega
theorem Xmj {B : Int} {a b : List Int} (ha : inB B a) (hb : inB B b) : inB B (a ++ b) := fun x hx => (List.mem_append.1 hx).elim (ha x) (hb x)
theorem Xxk (B : Int) : inB B [] := fun x hx => by simp at hx
theorem Ym9 {B x : Int} (h : -B ≤ x ∧ x ≤ B) : inB B [x] := fun y hy => by rw [List.mem_singleton.1 hy]; exact h
theorem Yrf {B : Int} {l : List Int} (h : inB B l) (i : Nat) {y : Int} (hy : -B ≤ y ∧ y ≤ B) : inB B (l.set i y) := fun x hx => by
 rcases List.mem_or_eq_of_mem_set hx with hx | hx
 ·
  exact h x hx
 ·
  rw [hx]; exact hy
theorem Yre (n : Nat) {B : Int} (h : 0 ≤ B) : inB B (List.replicate n 0) := fun x hx => by rw [List.eq_of_mem_replicate hx]; omega
theorem Xnp {B : Int} {l : List Int} (h : inB B l) {i : Nat} (hi : i < l.length) : -B ≤ l.getD i 0 ∧ l.getD i 0 ≤ B := h _ (by rw [Xcf l i hi]; exact List.getElem_mem _)
theorem Ysn {B : Int} {l : List Int} (h : inB B l) (n : Nat) : inB B (l.take n) := fun x hx => h x (List.mem_of_mem_take hx)
theorem Ysl {B : Int} {l : List Int} (h : inB B l) (n : Nat) : inB B (l.drop n) := fun x hx => h x (List.mem_of_mem_drop hx)
theorem Xdu {S : Type} {f : Int × S → Option (Lp (Int × S) S)} (n : Nat) (I : Nat → S → Prop) (hs : ∀ (i : Nat) (l : S), i < n → I i l → ∃ l', f ((i : Int), l) = some (.go (((i + 1 : Nat) : Int), l')) ∧ I (i + 1) l') (he : ∀ l, f ((n : Int), l) = some (.done l)) (l0 : S) (h0 : I 0 l0) : ∃ o, loop f (0, l0) = some o ∧ I n o := by
 have key : ∀ i : Nat, i ≤ n → ∀ l, I i l → ∃ o, loop f ((i : Int), l) = some o ∧ I n o := by
  refine Xhc _ ?_ ?_
  ·
   intro l h; exact ⟨l, Xgl (he l), h⟩
  ·
   intro i hi ih l h
   obtain ⟨l', e, h'⟩ := hs i l hi h
   obtain ⟨o, e2, h2⟩ := ih l' h'
   exact ⟨o, lgo e e2, h2⟩
 exact key 0 (by omega) l0 h0
theorem Xp0 {S : Type} {f : S × Int → Option (Lp (S × Int) S)} (n : Nat) (I : Nat → S → Prop) (hs : ∀ (i : Nat) (l : S), i < n → I i l → ∃ l', f (l, (i : Int)) = some (.go (l', ((i + 1 : Nat) : Int))) ∧ I (i + 1) l') (he : ∀ l, f (l, (n : Int)) = some (.done l)) (l0 : S) (h0 : I 0 l0) : ∃ o, loop f (l0, 0) = some o ∧ I n o := by
 have key : ∀ i : Nat, i ≤ n → ∀ l, I i l → ∃ o, loop f (l, (i : Int)) = some o ∧ I n o := by
  refine Xhc _ ?_ ?_
  ·
   intro l h; exact ⟨l, Xgl (he l), h⟩
  ·
   intro i hi ih l h
   obtain ⟨l', e, h'⟩ := hs i l hi h
   obtain ⟨o, e2, h2⟩ := ih l' h'
   exact ⟨o, lgo e e2, h2⟩
 exact key 0 (by omega) l0 h0
theorem Xex (l : List Int) (i j : Nat) (y : Int) (hi : i < l.length) : (l.set i y).getD j 0 = if i = j then y else l.getD j 0 := by
 rw [List.getD_eq_getElem?_getD, List.getElem?_set, List.getD_eq_getElem?_getD]
 by_cases h : i = j
 ·
  subst h; rw [if_pos rfl, if_pos rfl, if_pos hi]; rfl
 ·
  rw [if_neg h, if_neg h]
theorem Xm3 {f : Int × List Int → Option (Lp (Int × List Int) (List Int))} (n : Nat) (P Q : Int → Prop) (hs : ∀ (i : Nat) (l : List Int), i < n → l.length = n → P (l.getD i 0) → ∃ y, f ((i : Int), l) = some (.go (((i + 1 : Nat) : Int), l.set i y)) ∧ Q y) (he : ∀ l, f ((n : Int), l) = some (.done l)) (l0 : List Int) (h0 : l0.length = n) (hb : ∀ x ∈ l0, P x) : ∃ o, loop f (0, l0) = some o ∧ o.length = n ∧ ∀ x ∈ o, Q x := by
 obtain ⟨o, e, h1, h2, _⟩ := Xdu (f := f) n (fun i l => l.length = n ∧ (∀ j, j < i → Q (l.getD j 0)) ∧ ∀ j, i ≤ j → j < n → P (l.getD j 0)) (by
  intro i l hi ⟨g1, g2, g3⟩
  obtain ⟨y, e, hy⟩ := hs i l hi g1 (g3 i (Nat.le_refl _) hi)
  refine ⟨_, e, by rw [List.length_set]; exact g1, fun j hj => ?_, fun j hj hj2 => ?_⟩
  ·
   rw [Xex l i j y (by omega)]
   by_cases h : i = j
   ·
    rw [if_pos h]; exact hy
   ·
    rw [if_neg h]; exact g2 j (by omega)
  ·
   rw [Xex l i j y (by omega), if_neg (by omega)]; exact g3 j (by omega) hj2) he l0 ⟨h0, fun j hj => by omega, fun j _ hj => hb _ (by rw [Xcf l0 j (by omega)]; exact List.getElem_mem _)⟩
 refine ⟨o, e, h1, fun x hx => ?_⟩
 obtain ⟨j, hj, rfl⟩ := List.getElem_of_mem hx
 have := h2 j (by omega)
 rwa [Xcf o j hj] at this
theorem Xco (l : List Int) (n B : Int) (hn : (l.length : Int) = n) (hn2 : n ≤ 1000000) (hB : 0 ≤ B ∧ B ≤ 100000000) (h : inB B l) : Xcc l n B = some true := by
 unfold Xcc
 rw [Xbf (by simp only [bne_eq_false_iff_eq]; exact hn), Yaa l.length (f := Xe4 l n B) (by
  intro i hi
  have := Xnp h hi
  unfold Xe4
  rw [syA, rqA, wkA (e := 0 - B), Xal, Xab, Int.toNat_natCast, decide_eq_true (by omega), Bool.not_true, Xap, wkA]
  rfl) (by unfold Xe4; rw [snA]), Xab]
def Xz8 (n i : Int) (v17 : Int × Int) : Option (Lp (Int × Int) (Ou Unit Int)) :=
 sel (decide (v17.2 ≤ (Xaa .i64 ((Xaa .i64 (2 * n)) - 2)))) (
 bnd (it (Xue n i v17) 20 (v17.1, 0)) fun o47 => match o47 with
 | .out v43 => (
 some (.go (v43, Xaa .i64 (v17.2 + 1))))
 | .ret r => some (.done (.ret r))) (
 some (.done (.out ())))
theorem Yqj {n i : Int} {v : Int × Int} {x : Lp (Int × Int) (Ou Unit Int)} (h : Xz8 n i v = some x) : Xpp n i v = some x := by
 unfold Xz8 at h
 unfold Xpp
 rcases Xjl h with ⟨hb, h⟩ | ⟨hb, h⟩
 ·
  rw [hb, Xaw]
  obtain ⟨a, h1, h2⟩ := Xbe h
  rw [Xis.2 ⟨20, h1⟩, Xab]
  exact h2
 ·
  rw [hb, Xap]; exact h
theorem Yx6 {V O : Type} {f g : V → Option (Lp V O)} (hf : ∀ v y, f v = some y → g v = some y) {o : O} : ∀ (k : Nat) (v : V), it f k v = some o → it g k v = some o
 | 0, v, h => by cases h
 | k + 1, v, h => by
  rw [it] at h ⊢
  cases e : f v with
  | none => rw [e] at h; cases h
  | some s =>
   rw [e] at h
   rw [hf v s e]
   cases s with
   | go y => exact Yx6 hf k y h
   | done o' => exact h
def Xgm (n i : Int) : Int := match it (Xz8 n i) 20 (0, 0) with | some (.ret q) => q | _ => -1
theorem Yyk : ∀ i : Fin 16, (0 ≤ Xgm 4 (i.val : Int) ∧ Xgm 4 (i.val : Int) < 16) := by decide +kernel
theorem Yyl : ∀ i : Fin 64, (0 ≤ Xgm 8 (i.val : Int) ∧ Xgm 8 (i.val : Int) < 64) := by decide +kernel
theorem Xhw (n : Int) (hn : n = 4 ∨ n = 8) (i : Nat) (hi : (i : Int) < n * n) : 0 ≤ Xgm n i ∧ Xgm n i < n * n := by
 rcases hn with rfl | rfl
 ·
  exact Yyk ⟨i, by omega⟩
 ·
  exact Yyl ⟨i, by omega⟩
theorem Xg1 (n : Int) (hn : n = 4 ∨ n = 8) (i : Nat) (hi : (i : Int) < n * n) : Xsn n i = some (Xgm n i) := by
 have hp := Xhw n hn i hi
 unfold Xsn
 have hw : Xaa .i64 (n * n) = n * n := by rcases hn with rfl | rfl <;> exact wkA
 have hc : (sel (n != 4) (sel (n != 8) (some true) (sel (decide ((i : Int) < 0)) (some true) (some (decide ((i : Int) ≥ (Xaa .i64 (n * n))))))) (sel (decide ((i : Int) < 0)) (some true) (some (decide ((i : Int) ≥ (Xaa .i64 (n * n))))))) = some false := by
  rw [hw, Xar (show ¬ (i : Int) < 0 by omega), decide_eq_false (show ¬ (i : Int) ≥ n * n by omega)]
  rcases hn with rfl | rfl <;> rfl
 rw [hc, Xab, Xap]
 unfold Xgm at hp ⊢
 cases e : it (Xz8 n i) 20 (0, 0) with
 | none => rw [e] at hp; simp only at hp; omega
 | some s =>
  rw [e] at hp
  have h := Yx6 (fun v y => Yqj (n := n) (i := i)) 20 _ e
  rw [Xis.2 ⟨20, h⟩, Xab]
  cases s with
  | out u => simp only at hp; omega
  | ret q => rfl
theorem Xpq (n : Int) (hn : n = 4 ∨ n = 8) (l : List Int) (B : Int) (hl : (l.length : Int) = n * n) (hb : inB B l) : ∃ o, Xh1 n l = some (o, true) ∧ o.length = l.length ∧ inB B o := by
 have hm : maxLen = 9223372036854775807 := rfl
 have hw : Xaa .i64 (n * n) = n * n := by rcases hn with rfl | rfl <;> exact wkA
 have hl2 : l.length ≤ 64 := by rcases hn with rfl | rfl <;> omega
 unfold Xh1
 have hc : (sel (n != 4) (sel (n != 8) (some true) (some ((l.length : Int) != (Xaa .i64 (n * n))))) (some ((l.length : Int) != (Xaa .i64 (n * n))))) = some false := by
  rw [hw, hl, bne_self_eq_false]
  rcases hn with rfl | rfl <;> rfl
 rw [hc, Xab, Xap]
 obtain ⟨o, e, h1, h2⟩ := Xdu (f := Xec n l) l.length (fun i s => s.length = i ∧ inB B s) (by
  intro i s hi ⟨g1, g2⟩
  have hp := Xhw n hn i (by omega)
  have ha := Xnp hb (i := (Xgm n i).toNat) (by omega)
  unfold Xec
  simp only
  rw [hw, syA, Xg1 n hn i (by omega), Xab, rqA, Xa2 (by simp only [List.length_singleton]; omega), wkA]
  exact ⟨_, rfl, by simp; omega, Xmj g2 (Ym9 ha)⟩) (by intro s; unfold Xec; simp only; rw [hw, snA]) [] ⟨rfl, Xxk B⟩
 exact ⟨o, (Xf2 e).trans rfl, h1, h2⟩
theorem Xfu (n : Int) (hn : n = 4 ∨ n = 8) (l : List Int) (B : Int) (hB : 0 ≤ B) (hl : (l.length : Int) = n * n) (hb : inB B l) : ∃ o, Xe3 n l = some (o, true) ∧ o.length = l.length ∧ inB B o := by
 have hm : maxLen = 9223372036854775807 := rfl
 have hw : Xaa .i64 (n * n) = n * n := by rcases hn with rfl | rfl <;> exact wkA
 have hl2 : l.length ≤ 64 := by rcases hn with rfl | rfl <;> omega
 unfold Xe3
 have hc : (sel (n != 4) (sel (n != 8) (some true) (some ((l.length : Int) != (Xaa .i64 (n * n))))) (some ((l.length : Int) != (Xaa .i64 (n * n))))) = some false := by
  rw [hw, hl, bne_self_eq_false]
  rcases hn with rfl | rfl <;> rfl
 rw [hc, Xab, Xap, rqA, Int.toNat_natCast]
 obtain ⟨o, e, h1, h2⟩ := Xdu (f := Xc3 n l) l.length (fun i s => s.length = l.length ∧ inB B s) (by
  intro i s hi ⟨g1, g2⟩
  have hp := Xhw n hn i (by omega)
  have ha := Xnp hb hi
  unfold Xc3
  simp only
  rw [hw, syA, Xg1 n hn i (by omega), Xab, rqA, rqA, rqA, wkA, Int.toNat_natCast]
  exact ⟨_, rfl, by rw [List.length_set]; exact g1, Yrf g2 _ ha⟩) (by intro s; unfold Xc3; simp only; rw [hw, snA]) (List.replicate l.length 0) ⟨List.length_replicate, Yre _ hB⟩
 exact ⟨o, (Xf2 e).trans rfl, h1, h2⟩
def Xi6 (u v : Int) : Int := match it Xm7 10 (1, (IntKind.wrap .i64 (BitVec.ofInt (IntKind.bits .i64) u &&& BitVec.ofInt (IntKind.bits .i64) v).toNat)) with | some q => q | none => 7
theorem Ywv : ∀ u v : Fin 8, (-1 ≤ Xi6 (u.val : Int) (v.val : Int) ∧ Xi6 (u.val : Int) (v.val : Int) ≤ 1) := by decide +kernel
theorem Xwi (u v : Nat) (hu : u < 8) (hv : v < 8) : ∃ s, Xmt u v = some s ∧ -1 ≤ s ∧ s ≤ 1 := by
 have h := Ywv ⟨u, hu⟩ ⟨v, hv⟩
 simp only at h
 unfold Xmt
 rw [Xal, Xab, decide_eq_true (by omega), Xaw, Xal, Xab, decide_eq_true (by omega), Bool.not_true, Xab, Xap]
 unfold Xi6 at h
 cases e : it Xm7 10 (1, (IntKind.wrap .i64 (BitVec.ofInt (IntKind.bits .i64) (u : Int) &&& BitVec.ofInt (IntKind.bits .i64) (v : Int)).toNat)) with
 | none => rw [e] at h; simp only at h; omega
 | some q =>
  rw [e] at h
  rw [Xis.2 ⟨10, e⟩, Xab]
  exact ⟨q, rfl, h⟩
def Xsv (qp : Int) : Int := if qp.tmod 6 = 0 then 10 else if qp.tmod 6 = 1 then 11 else if qp.tmod 6 = 2 then 13 else if qp.tmod 6 = 3 then 14 else if qp.tmod 6 = 4 then 16 else 18
def Xpv (qp : Int) : Int := match it (Xm9 qp) 10 (Xsv qp, 0) with | some q => q | none => 0
theorem Yw3 : ∀ q : Fin 41, (10 ≤ Xpv (q.val : Int) ∧ Xpv (q.val : Int) ≤ 1152) := by decide +kernel
theorem Xwl (qp : Int) (h0 : 0 ≤ qp ∧ qp ≤ 40) : ∃ s, Xjy qp = some s ∧ 10 ≤ s ∧ s ≤ 1152 := by
 have h := Yw3 ⟨qp.toNat, by omega⟩
 simp only at h
 rw [show ((qp.toNat : Nat) : Int) = qp by omega] at h
 unfold Xjy
 rw [Xal, Xab, decide_eq_true (by omega), Bool.not_true, Xap, rqA]
 have hb : (sel ((qp.tmod 6) == 0) (some (10 : Int)) (sel ((qp.tmod 6) == 1) (some 11) (sel ((qp.tmod 6) == 2) (some 13) (sel ((qp.tmod 6) == 3) (some 14) (sel ((qp.tmod 6) == 4) (some 16) (some 18)))))) = some (Xsv qp) := by
  unfold Xsv
  simp only [Yiq, beq_iff_eq]
  repeat' split
  all_goals rfl
 rw [hb, Xab]
 unfold Xpv at h
 cases e : it (Xm9 qp) 10 (Xsv qp, 0) with
 | none => rw [e] at h; simp only at h; omega
 | some q =>
  rw [e] at h
  rw [Xis.2 ⟨10, e⟩, Xab]
  exact ⟨q, rfl, h⟩
theorem Xqs (p : Int) (h : 0 ≤ p ∧ p ≤ 15) : ∃ k, Xpn p = some k ∧ 0 ≤ k ∧ k ≤ 2 := by
 unfold Xpn
 rw [Xal, Xab, decide_eq_true h, Bool.not_true, Xap, rqA, rqA, rqA, rqA, Xdg, Xab]
 cases ((Xaa .i64 (p.tdiv 4)).tmod 2 == 0 && (p.tmod 4).tmod 2 == 0) with
 | true => exact ⟨0, rfl, by omega, by omega⟩
 | false =>
  rw [Xap, Xdg, Xab]
  cases ((Xaa .i64 (p.tdiv 4)).tmod 2 == 1 && (p.tmod 4).tmod 2 == 1) with
  | true => exact ⟨1, rfl, by omega, by omega⟩
  | false => exact ⟨2, rfl, by omega, by omega⟩
theorem Xa4 (k a b c : Int) : ∃ x, Xbc k a b c = some x ∧ (x = a ∨ x = b ∨ x = c) := by
 unfold Xbc
 cases (k == 0) with
 | true => exact ⟨a, rfl, Or.inl rfl⟩
 | false =>
  cases (k == 1) with
  | true => exact ⟨b, rfl, Or.inr (Or.inl rfl)⟩
  | false => exact ⟨c, rfl, Or.inr (Or.inr rfl)⟩
theorem Yum (qp : Int) (h0 : 0 ≤ qp ∧ qp ≤ 40) (x : Int) (hx : 0 ≤ x ∧ x ≤ 29) : ∃ o, loop (Xfs qp) (x, 0) = some o ∧ 0 ≤ o ∧ o ≤ 1856 := by
 obtain ⟨o, e, h1, h2⟩ := Xp0 (f := Xfs qp) (qp / 6).toNat (fun i s => 0 ≤ s ∧ s ≤ 29 * 2 ^ i) (by
  intro i s hi ⟨g1, g2⟩
  have h6 : (2 : Int) ^ i ≤ 64 := by
   have : i ≤ 6 := by omega
   obtain rfl | rfl | rfl | rfl | rfl | rfl | rfl : i = 0 ∨ i = 1 ∨ i = 2 ∨ i = 3 ∨ i = 4 ∨ i = 5 ∨ i = 6 := by omega
   all_goals decide
  have h7 : (2 : Int) ^ (i + 1) = 2 * 2 ^ i := by rw [Int.pow_succ, Int.mul_comm]
  unfold Xfs
  simp only
  rw [rqA, Xbt (by omega), wkA (e := qp / 6), syA, wkA (e := 2 * s), wkA (e := (i : Int) + 1)]
  exact ⟨_, rfl, by omega, by rw [h7]; omega⟩) (by intro s; unfold Xfs; simp only; rw [rqA, Xbt (by omega), wkA (e := qp / 6), snA]) x ⟨hx.1, by simp; omega⟩
 have h6 : (2 : Int) ^ (qp / 6).toNat ≤ 64 := by
  generalize hi : (qp / 6).toNat = i
  obtain rfl | rfl | rfl | rfl | rfl | rfl | rfl : i = 0 ∨ i = 1 ∨ i = 2 ∨ i = 3 ∨ i = 4 ∨ i = 5 ∨ i = 6 := by omega
  all_goals decide
 exact ⟨o, e, h1, by omega⟩
theorem Yix (qp p : Int) (h0 : 0 ≤ qp ∧ qp ≤ 40) (hp : 0 ≤ p ∧ p ≤ 15) : ∃ s, Xnt qp p = some s ∧ 0 ≤ s ∧ s ≤ 1856 := by
 unfold Xnt
 obtain ⟨k, e, k0, k1⟩ := Xqs p hp
 rw [e, Xab, Xal, Xab, decide_eq_true h0, Xaw, decide_eq_false (by omega), Xab, Xap, rqA]
 obtain ⟨a1, e1, b1⟩ := Xa4 k 10 16 13
 obtain ⟨a2, e2, b2⟩ := Xa4 k 11 18 14
 obtain ⟨a3, e3, b3⟩ := Xa4 k 13 20 16
 obtain ⟨a4, e4, b4⟩ := Xa4 k 14 23 18
 obtain ⟨a5, e5, b5⟩ := Xa4 k 16 25 20
 obtain ⟨a6, e6, b6⟩ := Xa4 k 18 29 23
 rw [e1, e2, e3, e4, e5, e6]
 simp only [Xab, Ytd]
 obtain ⟨o, eo, o1, o2⟩ := Yum qp h0 (sel (qp.tmod 6 == 0) a1 (sel (qp.tmod 6 == 1) a2 (sel (qp.tmod 6 == 2) a3 (sel (qp.tmod 6 == 3) a4 (sel (qp.tmod 6 == 4) a5 (sel (qp.tmod 6 == 5) a6 0)))))) (by
  simp only [Yiq]
  repeat' split
  all_goals omega)
 exact ⟨o, (Xf2 eo).trans rfl, o1, o2⟩
theorem Yiy (qp p : Int) (h0 : 0 ≤ qp ∧ qp ≤ 40) (hp : 0 ≤ p ∧ p ≤ 15) : ∃ s, Xnu qp p = some s ∧ 0 ≤ s ∧ s ≤ 13107 := by
 unfold Xnu
 obtain ⟨k, e, k0, k1⟩ := Xqs p hp
 rw [e, Xab, Xal, Xab, decide_eq_true h0, Xaw, decide_eq_false (by omega), Xab, Xap, rqA]
 obtain ⟨a1, e1, b1⟩ := Xa4 k 13107 5243 8066
 obtain ⟨a2, e2, b2⟩ := Xa4 k 11916 4660 7490
 obtain ⟨a3, e3, b3⟩ := Xa4 k 10082 4194 6554
 obtain ⟨a4, e4, b4⟩ := Xa4 k 9362 3647 5825
 obtain ⟨a5, e5, b5⟩ := Xa4 k 8192 3355 5243
 obtain ⟨a6, e6, b6⟩ := Xa4 k 7282 2893 4559
 rw [e1, e2, e3, e4, e5, e6]
 simp only [Xab, Ytd]
 refine ⟨_, rfl, ?_⟩
 simp only [Yiq]
 repeat' split
 all_goals omega
theorem Ys2 {a s B : Int} (ha : -B ≤ a ∧ a ≤ B) (hs : -1 ≤ s ∧ s ≤ 1) : (-B ≤ a * s ∧ a * s ≤ B) ∧ (-B ≤ s * a ∧ s * a ≤ B) := by
 obtain rfl | rfl | rfl : s = -1 ∨ s = 0 ∨ s = 1 := by omega
 all_goals omega
theorem Yld (p : List Int) (B : Int) (hB : 0 ≤ B ∧ B ≤ 1000000000000) (hl : p.length = 64) (hb : inB B p) (i v : Nat) (hi : i < 8) (hv : v < 8) : ∃ o, Xpr p i v = some o ∧ -(8 * B) ≤ o ∧ o ≤ 8 * B := by
 unfold Xpr
 obtain ⟨o, e, h1, h2⟩ := Xp0 (f := Xe5 p i v) 8 (fun k s => -(B * k) ≤ s ∧ s ≤ B * k) (by
  intro k s hk ⟨g1, g2⟩
  obtain ⟨q, eq, q0, q1⟩ := Xwi v k hv hk
  have ha := Xnp hb (i := 8 * i + k) (by omega)
  have hm := (Ys2 ha ⟨q0, q1⟩).1
  have hk8 : B * k ≤ B * 8 := Int.mul_le_mul_of_nonneg_left (by omega) hB.1
  have hk0 : B * ((k + 1 : Nat) : Int) = B * k + B := by rw [Int.natCast_add, Int.mul_add]; simp
  unfold Xe5
  simp only
  rw [syA, wkA (e := 8 * (i : Int)), wkA (e := 8 * (i : Int) + (k : Int)), rqA, eq, Xab, show (8 * (i : Int) + (k : Int)).toNat = 8 * i + k by omega, wkA (e := p.getD (8 * i + k) 0 * q), wkA (e := s + p.getD (8 * i + k) 0 * q), wkA (e := (k : Int) + 1)]
  exact ⟨_, rfl, by rw [hk0]; omega, by rw [hk0]; omega⟩) (by intro s; unfold Xe5; rw [Xar (by simp)]) 0 (by simp)
 exact ⟨o, (Xf2 e).trans rfl, by omega, by omega⟩
theorem Xum (p : List Int) (B : Int) (hB : 0 ≤ B ∧ B ≤ 10000000000) (hl : p.length = 64) (hb : inB B p) : ∃ o, Xkk p = some o ∧ o.length = 64 ∧ inB (64 * B) o := by
 have hm : maxLen = 9223372036854775807 := rfl
 unfold Xkk
 obtain ⟨h, eh, hh1, hh2⟩ := Xdu (f := Xdi p) 8 (fun i s => s.length = 8 * i ∧ inB (8 * B) s) (by
  intro i s hi ⟨g1, g2⟩
  obtain ⟨t, et, t1, t2⟩ := Xdu (f := Xdj p ((i : Int), s)) 8 (fun v s => s.length = 8 * i + v ∧ inB (8 * B) s) (by
   intro v s hv ⟨g1, g2⟩
   obtain ⟨r, er, r1, r2⟩ := Yld p B ⟨hB.1, by omega⟩ hl hb i v hi hv
   unfold Xdj
   simp only
   rw [syA, er, Xab, Xa2 (by simp only [List.length_singleton]; omega), wkA (e := (v : Int) + 1)]
   exact ⟨_, rfl, by simp; omega, Xmj g2 (Ym9 ⟨by omega, r2⟩)⟩) (by intro s; unfold Xdj; rw [Xar (by simp)]) s ⟨by omega, g2⟩
  unfold Xdi
  simp only
  rw [syA, et, Xab, wkA (e := (i : Int) + 1)]
  exact ⟨_, rfl, by omega, t2⟩) (by intro s; unfold Xdi; rw [Xar (by simp)]) [] ⟨rfl, Xxk _⟩
 rw [eh, Xab]
 obtain ⟨o, eo, o1, o2⟩ := Xdu (f := Xc4 h) 8 (fun i s => s.length = 8 * i ∧ inB (64 * B) s) (by
  intro i s hi ⟨g1, g2⟩
  obtain ⟨t, et, t1, t2⟩ := Xdu (f := Xc5 h ((i : Int), s)) 8 (fun v s => s.length = 8 * i + v ∧ inB (64 * B) s) (by
   intro v r hv ⟨g1, g2⟩
   obtain ⟨a, ea, a1, a2⟩ := Xp0 (f := Xc6 h ((i : Int), s) ((v : Int), r)) 8 (fun k s => -(8 * B * k) ≤ s ∧ s ≤ 8 * B * k) (by
    intro k c hk ⟨g1, g2⟩
    obtain ⟨q, eq, q0, q1⟩ := Xwi i k hi hk
    have ha := Xnp hh2 (i := 8 * k + v) (by omega)
    have hm := (Ys2 ha ⟨q0, q1⟩).2
    have hk8 : 8 * B * k ≤ 8 * B * 8 := Int.mul_le_mul_of_nonneg_left (by omega) (by omega)
    have hk0 : 8 * B * ((k + 1 : Nat) : Int) = 8 * B * k + 8 * B := by rw [Int.natCast_add, Int.mul_add]; simp
    unfold Xc6
    simp only
    rw [syA, eq, Xab, wkA (e := 8 * (k : Int)), wkA (e := 8 * (k : Int) + (v : Int)), rqA, rqA, show (8 * (k : Int) + (v : Int)).toNat = 8 * k + v by omega, wkA (e := q * h.getD (8 * k + v) 0), wkA (e := c + q * h.getD (8 * k + v) 0), wkA (e := (k : Int) + 1)]
    exact ⟨_, rfl, by rw [hk0]; omega, by rw [hk0]; omega⟩) (by intro s; unfold Xc6; rw [Xar (by simp)]) 0 (by simp)
   unfold Xc5
   simp only
   rw [syA, ea, Xab, Xa2 (by simp only [List.length_singleton]; omega), wkA (e := (v : Int) + 1)]
   exact ⟨_, rfl, by simp; omega, Xmj g2 (Ym9 ⟨by omega, by omega⟩)⟩) (by intro s; unfold Xc5; rw [Xar (by simp)]) s ⟨by omega, g2⟩
  unfold Xc4
  simp only
  rw [syA, et, Xab, wkA (e := (i : Int) + 1)]
  exact ⟨_, rfl, by omega, t2⟩) (by intro s; unfold Xc4; rw [Xar (by simp)]) [] ⟨rfl, Xxk _⟩
 exact ⟨o, (Xf2 eo).trans rfl, by omega, o2⟩
theorem Xlp (a b : Int) (ha : -1000000000000 ≤ a ∧ a ≤ 1000000000000) (hb : b = 2 ∨ b = 64) : ∃ d, Xdy a b = some d ∧ b * d ≤ a ∧ a < b * d + b := by
 unfold Xdy
 have h1 : b * (a.tdiv b) + a.tmod b = a := Int.mul_tdiv_add_tmod a b
 have h2 : -b < a.tmod b ∧ a.tmod b < b := by
  have hb0 : 0 < b := by omega
  refine ⟨?_, Int.tmod_lt_of_pos a hb0⟩
  have := Int.lt_tmod_of_pos a hb0
  omega
 rw [rqA, rqA]
 generalize a.tmod b = m at h1 h2
 generalize a.tdiv b = t at h1 h2
 have ht : -1000000000001 ≤ t ∧ t ≤ 1000000000001 := by rcases hb with rfl | rfl <;> omega
 by_cases h : m < 0
 ·
  rw [Xbi h, Xab, wkA (e := t), wkA (e := t - 1)]
  refine ⟨_, rfl, ?_⟩
  rcases hb with rfl | rfl <;> omega
 ·
  rw [Xar h, Xab, wkA (e := t)]
  refine ⟨_, rfl, ?_⟩
  rcases hb with rfl | rfl <;> omega
theorem Yag (p : List Int) (hl : p.length = 64) (hb : inB 255 p) : ∃ o, Xrn p = some o ∧ o.length = 64 := by
 unfold Xrn
 obtain ⟨o, e, h1, h2⟩ := Xum p 255 (by omega) hl hb
 rw [Xco p 64 1000 (by omega) (by omega) (by omega) (Xp6 hb (by omega)), Xab, Bool.not_true, Xap, e, Xab]
 exact ⟨o, rfl, h1⟩
theorem Yb7 (p : List Int) (hl : p.length = 64) (hb : inB 5760000 p) : ∃ o, Xi9 p = some o ∧ o.length = 64 ∧ inB 10000000 o := by
 unfold Xi9
 obtain ⟨o, e, h1, h2⟩ := Xum p 5760000 (by omega) hl hb
 rw [Xco p 64 10000000 (by omega) (by omega) (by omega) (Xp6 hb (by omega)), Xab, Bool.not_true, Xap, e, Xab]
 obtain ⟨r, er, r1, r2⟩ := Xm3 (f := Xik) 64 (fun x => -368640000 ≤ x ∧ x ≤ 368640000) (fun x => -10000000 ≤ x ∧ x ≤ 10000000) (by
  intro i l hi hll hx
  obtain ⟨d, ed, d1, d2⟩ := Xlp (l.getD i 0 + 32) 64 (by omega) (Or.inr rfl)
  unfold Xik
  simp only [Int.toNat_natCast]
  rw [syA, rqA, rqA, wkA (e := l.getD i 0 + 32), ed, Xab, rqA, rqA, wkA (e := (i : Int) + 1)]
  exact ⟨d, rfl, by omega, by omega⟩) (by intro s; unfold Xik; rw [Xar (by simp)]) o h1 (fun x hx => by have := h2 x hx; omega)
 exact ⟨r, (Xf2 er).trans rfl, r1, r2⟩
theorem Xlr (p : List Int) (B : Int) (hB : 0 ≤ B) (hl : p.length = 16) (hb : inB B p) : ∃ o, Xfz p = some o ∧ o.length = 16 ∧ inB B o := by
 unfold Xfz
 rw [rqA]
 obtain ⟨o, e, h1, h2⟩ := Xdu (f := Xed p) 16 (fun i s => s.length = 16 ∧ inB B s) (by
  intro i s hi ⟨g1, g2⟩
  have ha := Xnp hb (i := i) (by omega)
  unfold Xed
  simp only
  rw [syA, rqA, rqA, rqA, Xbu (by omega), Xbt (by omega), wkA (e := (i : Int) / 4), wkA (e := (i : Int) % 4 * 4), wkA (e := (i : Int) % 4 * 4 + (i : Int) / 4), rqA, rqA, wkA (e := (i : Int) + 1), Int.toNat_natCast]
  exact ⟨_, rfl, by rw [List.length_set]; exact g1, Yrf g2 _ ha⟩) (by intro s; unfold Xed; rw [Xar (by simp)]) (List.replicate (16 : Int).toNat 0) ⟨by simp, Yre _ hB⟩
 exact ⟨o, (Xf2 e).trans rfl, h1, h2⟩
theorem Ysm {B a b c d : Int} (h1 : -B ≤ a ∧ a ≤ B) (h2 : -B ≤ b ∧ b ≤ B) (h3 : -B ≤ c ∧ c ≤ B) (h4 : -B ≤ d ∧ d ≤ B) : inB B [a, b, c, d] := fun x hx => by
 simp only [List.mem_cons, List.not_mem_nil, or_false] at hx
 rcases hx with rfl | rfl | rfl | rfl
 ·
  exact h1
 ·
  exact h2
 ·
  exact h3
 ·
  exact h4
theorem Xuk (p : List Int) (B : Int) (hB : 0 ≤ B ∧ B ≤ 1000000000) (hl : p.length = 16) (hb : inB B p) : ∃ o, Xkj p = some o ∧ o.length = 16 ∧ inB (6 * B) o := by
 have hm : maxLen = 9223372036854775807 := rfl
 unfold Xkj
 obtain ⟨o, e, h1, h2⟩ := Xdu (f := Xee p) 4 (fun i s => s.length = 4 * i ∧ inB (6 * B) s) (by
  intro i s hi ⟨g1, g2⟩
  have a0 := Xnp hb (i := 4 * i) (by omega)
  have a1 := Xnp hb (i := 4 * i + 1) (by omega)
  have a2 := Xnp hb (i := 4 * i + 2) (by omega)
  have a3 := Xnp hb (i := 4 * i + 3) (by omega)
  unfold Xee
  simp only
  rw [syA, wkA (e := 4 * (i : Int)), wkA (e := 4 * (i : Int) + 1), wkA (e := 4 * (i : Int) + 2), wkA (e := 4 * (i : Int) + 3), rqA, rqA, rqA, rqA, show (4 * (i : Int)).toNat = 4 * i by omega, show (4 * (i : Int) + 1).toNat = 4 * i + 1 by omega, show (4 * (i : Int) + 2).toNat = 4 * i + 2 by omega, show (4 * (i : Int) + 3).toNat = 4 * i + 3 by omega]
  generalize p.getD (4 * i) 0 = a at *
  generalize p.getD (4 * i + 1) 0 = b at *
  generalize p.getD (4 * i + 2) 0 = c at *
  generalize p.getD (4 * i + 3) 0 = d at *
  rw [wkA (e := (i : Int) + 1)]
  have w1 : Xaa .i64 (Xaa .i64 (Xaa .i64 (a + b) + c) + d) = a + b + c + d := by
   rw [wkA (e := a + b), wkA (e := a + b + c), wkA]
  have w2 : Xaa .i64 (Xaa .i64 (Xaa .i64 (Xaa .i64 (2 * a) + b) - c) - Xaa .i64 (2 * d)) = 2 * a + b - c - 2 * d := by
   rw [wkA (e := 2 * a), wkA (e := 2 * d), wkA (e := 2 * a + b), wkA (e := 2 * a + b - c), wkA]
  have w3 : Xaa .i64 (Xaa .i64 (Xaa .i64 (a - b) - c) + d) = a - b - c + d := by
   rw [wkA (e := a - b), wkA (e := a - b - c), wkA]
  have w4 : Xaa .i64 (Xaa .i64 (Xaa .i64 (a - Xaa .i64 (2 * b)) + Xaa .i64 (2 * c)) - d) = a - 2 * b + 2 * c - d := by
   rw [wkA (e := 2 * b), wkA (e := 2 * c), wkA (e := a - 2 * b), wkA (e := a - 2 * b + 2 * c), wkA]
  rw [w1, w2, w3, w4, Xa2 (by simp only [List.length_cons, List.length_nil]; omega)]
  exact ⟨_, rfl, by simp; omega, Xmj g2 (Ysm (by omega) (by omega) (by omega) (by omega))⟩) (by intro s; unfold Xee; rw [Xar (by simp)]) [] ⟨rfl, Xxk _⟩
 exact ⟨o, (Xf2 e).trans rfl, h1, h2⟩
theorem Xs9 (p : List Int) (B : Int) (hB : 0 ≤ B ∧ B ≤ 1000000000) (hl : p.length = 16) (hb : inB B p) : ∃ o, Xim p = some o ∧ o.length = 16 ∧ inB (4 * B + 2) o := by
 have hm : maxLen = 9223372036854775807 := rfl
 unfold Xim
 obtain ⟨o, e, h1, h2⟩ := Xdu (f := Xdh p) 4 (fun i s => s.length = 4 * i ∧ inB (4 * B + 2) s) (by
  intro i s hi ⟨g1, g2⟩
  have a0 := Xnp hb (i := 4 * i) (by omega)
  have a1 := Xnp hb (i := 4 * i + 1) (by omega)
  have a2 := Xnp hb (i := 4 * i + 2) (by omega)
  have a3 := Xnp hb (i := 4 * i + 3) (by omega)
  obtain ⟨f, ef, f1, f2⟩ := Xlp (p.getD (4 * i + 1) 0) 2 (by omega) (Or.inl rfl)
  obtain ⟨g, eg, g1', g2'⟩ := Xlp (p.getD (4 * i + 3) 0) 2 (by omega) (Or.inl rfl)
  unfold Xdh
  simp only
  rw [syA, wkA (e := 4 * (i : Int)), wkA (e := 4 * (i : Int) + 1), wkA (e := 4 * (i : Int) + 2), wkA (e := 4 * (i : Int) + 3), rqA, rqA, rqA, rqA, show (4 * (i : Int)).toNat = 4 * i by omega, show (4 * (i : Int) + 1).toNat = 4 * i + 1 by omega, show (4 * (i : Int) + 2).toNat = 4 * i + 2 by omega, show (4 * (i : Int) + 3).toNat = 4 * i + 3 by omega, ef, Xab, eg, Xab]
  generalize p.getD (4 * i) 0 = a at *
  generalize p.getD (4 * i + 1) 0 = b at *
  generalize p.getD (4 * i + 2) 0 = c at *
  generalize p.getD (4 * i + 3) 0 = d at *
  rw [wkA (e := (i : Int) + 1), wkA (e := a + c), wkA (e := a - c), wkA (e := b + g), wkA (e := f - d), wkA (e := a + c + (b + g)), wkA (e := a - c + (f - d)), wkA (e := a - c - (f - d)), wkA (e := a + c - (b + g)), Xa2 (by simp only [List.length_cons, List.length_nil]; omega)]
  exact ⟨_, rfl, by simp; omega, Xmj g2 (Ysm (by omega) (by omega) (by omega) (by omega))⟩) (by intro s; unfold Xdh; rw [Xar (by simp)]) [] ⟨rfl, Xxk _⟩
 exact ⟨o, (Xf2 e).trans rfl, h1, h2⟩
theorem Ydc (p : List Int) (hl : p.length = 16) (hb : inB 255 p) : ∃ o, Xub p = some o ∧ o.length = 16 ∧ inB 9180 o := by
 unfold Xub
 obtain ⟨a, ea, a1, a2⟩ := Xuk p 255 (by omega) hl hb
 obtain ⟨b, eb, b1, b2⟩ := Xlr a (6 * 255) (by omega) a1 a2
 obtain ⟨c, ec, c1, c2⟩ := Xuk b (6 * 255) (by omega) b1 b2
 obtain ⟨d, ed, d1, d2⟩ := Xlr c (6 * (6 * 255)) (by omega) c1 c2
 rw [Xco p 16 1000 (by omega) (by omega) (by omega) (Xp6 hb (by omega)), Xab, Bool.not_true, Xap, ea, Xab, eb, Xab, ec, Xab, ed, Xab]
 exact ⟨d, rfl, d1, d2⟩
theorem Xs6 (p : List Int) (hl : p.length = 16) (hb : inB 10000000 p) : ∃ o, Xlh p = some o ∧ o.length = 16 ∧ inB 10000000 o := by
 unfold Xlh
 obtain ⟨a, ea, a1, a2⟩ := Xs9 p 10000000 (by omega) hl hb
 obtain ⟨b, eb, b1, b2⟩ := Xlr a _ (by omega) a1 a2
 obtain ⟨c, ec, c1, c2⟩ := Xs9 b _ (by omega) b1 b2
 obtain ⟨d, ed, d1, d2⟩ := Xlr c _ (by omega) c1 c2
 rw [Xco p 16 10000000 (by omega) (by omega) (by omega) hb, Xab, Bool.not_true, Xap, ea, Xab, eb, Xab, ec, Xab, ed, Xab]
 obtain ⟨r, er, r1, r2⟩ := Xm3 (f := Xjn) 16 (fun x => -160000010 ≤ x ∧ x ≤ 160000010) (fun x => -10000000 ≤ x ∧ x ≤ 10000000) (by
  intro i l hi hll hx
  obtain ⟨d, ed, d1, d2⟩ := Xlp (l.getD i 0 + 32) 64 (by omega) (Or.inr rfl)
  unfold Xjn
  simp only [Int.toNat_natCast]
  rw [syA, rqA, rqA, wkA (e := l.getD i 0 + 32), ed, Xab, rqA, rqA, wkA (e := (i : Int) + 1)]
  exact ⟨d, rfl, by omega, by omega⟩) (by intro s; unfold Xjn; rw [Xar (by simp)]) d d1 (fun x hx => by have := d2 x hx; omega)
 exact ⟨r, (Xf2 er).trans rfl, r1, r2⟩
theorem Xoe (x : Int) (h : -1000000000000 ≤ x ∧ x ≤ 1000000000000) : Xgd x = some (Ycs x) := by
 unfold Xgd Ycs
 by_cases hx : x < 0
 ·
  rw [Xbi hx, if_pos hx, wkA]; congr 1; omega
 ·
  rw [Xar hx, if_neg hx]
theorem Xru (w x B : Int) (h : 0 ≤ x ∧ x ≤ B) (hB : B ≤ 1000000000) : ∃ o, Xje w x = some o ∧ -B ≤ o ∧ o ≤ B := by
 unfold Xje
 by_cases hx : w < 0
 ·
  rw [Xbi hx, wkA]; exact ⟨_, rfl, by omega, by omega⟩
 ·
  rw [Xar hx]; exact ⟨_, rfl, by omega, by omega⟩
def Yym (qp : Int) : Int := Xaa .i64 (1 * 2 ^ min (Xaa .u64 (Xaa .i64 (15 + (Xaa .i64 (qp.tdiv 6))))).toNat (IntKind.bits .i64))
theorem Yyn : ∀ q : Fin 41, (0 ≤ Xaa .u64 (Xaa .i64 (15 + (Xaa .i64 ((q.val : Int).tdiv 6)))) ∧ 32768 ≤ Yym (q.val : Int) ∧ Yym (q.val : Int) ≤ 2097152) := by decide +kernel
theorem Xqc (w qp p : Int) (hw : -9180 ≤ w ∧ w ≤ 9180) (h0 : 0 ≤ qp ∧ qp ≤ 40) (hp : 0 ≤ p ∧ p ≤ 15) : ∃ o, Xh2 w qp p = some o ∧ -5000 ≤ o ∧ o ≤ 5000 := by
 have hs := Yyn ⟨qp.toNat, by omega⟩
 simp only at hs
 rw [show ((qp.toNat : Nat) : Int) = qp by omega] at hs
 obtain ⟨s1, s2, s3⟩ := hs
 obtain ⟨s, es, q0, q1⟩ := Yiy qp p h0 hp
 unfold Xh2
 have en : Xaa .i64 (1 * 2 ^ min (Xaa .u64 (Xaa .i64 (15 + (Xaa .i64 (qp.tdiv 6))))).toNat (IntKind.bits .i64)) = Yym qp := rfl
 rw [Xal, Xab, decide_eq_true (by omega), Xaw, Xal, Xab, decide_eq_true h0, Xaw, Xal, Xab, decide_eq_true hp, Bool.not_true, Xab, Xap, rqA, Xa2 s1, Xoe w (by omega), Xab, es, Xab, rqA, en]
 generalize Yym qp = n at *
 have ha : 0 ≤ Ycs w ∧ Ycs w ≤ 9180 := by unfold Ycs; split <;> omega
 generalize Ycs w = a at *
 have hm : 0 ≤ a * s ∧ a * s ≤ 9180 * 13107 := ⟨Int.mul_nonneg ha.1 q0, Int.mul_le_mul ha.2 q1 q0 (by omega)⟩
 rw [rqA, wkA (e := a * s), Xbt (a := n) (by omega), wkA (e := n / 3), wkA (e := a * s + n / 3), Xbt (by omega)]
 have d0 : 0 ≤ (a * s + n / 3) / n := Int.ediv_nonneg (by omega) (by omega)
 have d1 : (a * s + n / 3) / n < 5000 := Int.ediv_lt_of_lt_mul (by omega) (by omega)
 rw [wkA]
 obtain ⟨o, eo, o1, o2⟩ := Xru w _ 5000 ⟨d0, by omega⟩ (by omega)
 rw [eo, Xab]
 exact ⟨o, rfl, o1, o2⟩
theorem Xqa (w qp : Int) (h0 : 0 ≤ qp ∧ qp ≤ 40) : ∃ o, Xh0 w qp = some o ∧ -5000 ≤ o ∧ o ≤ 5000 := by
 unfold Xh0
 rw [Xal, Xab]
 by_cases hw : -20000 ≤ w ∧ w ≤ 20000
 ·
  obtain ⟨s, es, q0, q1⟩ := Xwl qp h0
  rw [decide_eq_true hw, Xaw, Xal, Xab, decide_eq_true h0, Bool.not_true, Xab, Xap, es, Xab, Xoe w (by omega), Xab]
  have ha : 0 ≤ Ycs w ∧ Ycs w ≤ 20000 := by unfold Ycs; split <;> omega
  generalize Ycs w = a at *
  rw [rqA, rqA, Xbt (a := s) (by omega), wkA (e := s / 2), wkA (e := a + s / 2), Xbt (by omega)]
  have d0 : 0 ≤ (a + s / 2) / s := Int.ediv_nonneg (by omega) (by omega)
  have d1 : (a + s / 2) / s < 5000 := Int.ediv_lt_of_lt_mul (by omega) (by omega)
  rw [wkA]
  obtain ⟨o, eo, o1, o2⟩ := Xru w _ 5000 ⟨d0, by omega⟩ (by omega)
  rw [eo, Xab]
  exact ⟨o, rfl, o1, o2⟩
 ·
  rw [decide_eq_false hw, Xap, Xab, Xaw]
  exact ⟨0, rfl, by omega, by omega⟩
theorem Xrs (l qp p : Int) (hl : -5000 ≤ l ∧ l ≤ 5000) (h0 : 0 ≤ qp ∧ qp ≤ 40) (hp : 0 ≤ p ∧ p ≤ 15) : ∃ o, Xjb l qp p = some o ∧ -10000000 ≤ o ∧ o ≤ 10000000 := by
 unfold Xjb
 obtain ⟨s, es, q0, q1⟩ := Yix qp p h0 hp
 rw [Xal, Xab, decide_eq_true hl, Bool.not_true, Xap, es, Xab]
 have m1 : l * s ≤ 5000 * s := Int.mul_le_mul_of_nonneg_right hl.2 q0
 have m2 : -5000 * s ≤ l * s := Int.mul_le_mul_of_nonneg_right hl.1 q0
 rw [wkA]
 exact ⟨_, rfl, by omega, by omega⟩
theorem Xro (l qp : Int) (hl : -5000 ≤ l ∧ l ≤ 5000) (h0 : 0 ≤ qp ∧ qp ≤ 40) : ∃ o, Xja l qp = some o ∧ -5760000 ≤ o ∧ o ≤ 5760000 := by
 unfold Xja
 obtain ⟨s, es, q0, q1⟩ := Xwl qp h0
 rw [Xal, Xab, decide_eq_true hl, Bool.not_true, Xap, es, Xab]
 have m1 : l * s ≤ 5000 * s := Int.mul_le_mul_of_nonneg_right hl.2 (by omega)
 have m2 : -5000 * s ≤ l * s := Int.mul_le_mul_of_nonneg_right hl.1 (by omega)
 rw [wkA]
 exact ⟨_, rfl, by omega, by omega⟩
theorem Yrm {l : List Int} (h1 : l.length = 64) (h2 : inB 5000 l) : Yfs l = true := by
 unfold Yfs
 rw [Bool.and_eq_true, decide_eq_true_eq, List.all_eq_true]
 exact ⟨h1, fun x hx => by unfold Yok; rw [decide_eq_true_eq]; exact h2 x hx⟩
theorem Yia {l : List Int} (h : Yfs l = true) : l.length = 64 ∧ inB 5000 l := by
 obtain ⟨h1, h2⟩ := Xo0 h
 refine ⟨h1, fun x hx => ?_⟩
 have := List.all_eq_true.1 h2 x hx
 unfold Yok at this
 rwa [decide_eq_true_eq] at this
theorem Xx9 {c : Xe9} (h : Xio c = true) : 0 ≤ c.Qp ∧ c.Qp ≤ 40 := by
 unfold Xio at h
 rw [Bool.and_eq_true, decide_eq_true_eq] at h
 exact h.1
theorem Xqe (p : List Int) (k : Nat) (hk : k < 4) (B : Int) (hl : p.length = 64) (hb : inB B p) : ∃ o, Xh4 p k = some o ∧ o.length = 16 ∧ inB B o := by
 have hm : maxLen = 9223372036854775807 := rfl
 unfold Xh4
 obtain ⟨o, e, h1, h2⟩ := Xdu (f := Xb6 p k) 16 (fun i s => s.length = i ∧ inB B s) (by
  intro i s hi ⟨g1, g2⟩
  have ha := Xnp hb (i := (8 * ((k : Int) / 2 * 4 + (i : Int) / 4) + (k : Int) % 2 * 4 + (i : Int) % 4).toNat) (by omega)
  unfold Xb6
  simp only
  rw [syA, rqA, rqA, rqA, rqA, Xbt (a := (k : Int)) (by omega), Xbt (a := (i : Int)) (by omega), Xbu (a := (k : Int)) (by omega), Xbu (a := (i : Int)) (by omega), wkA (e := (k : Int) / 2), wkA (e := (k : Int) / 2 * 4), wkA (e := (i : Int) / 4), wkA (e := (k : Int) / 2 * 4 + (i : Int) / 4), wkA (e := 8 * ((k : Int) / 2 * 4 + (i : Int) / 4)), wkA (e := (k : Int) % 2 * 4), wkA (e := 8 * ((k : Int) / 2 * 4 + (i : Int) / 4) + (k : Int) % 2 * 4), wkA (e := 8 * ((k : Int) / 2 * 4 + (i : Int) / 4) + (k : Int) % 2 * 4 + (i : Int) % 4), rqA, Xa2 (by simp only [List.length_singleton]; omega), wkA (e := (i : Int) + 1)]
  exact ⟨_, rfl, by simp; omega, Xmj g2 (Ym9 ha)⟩) (by intro s; unfold Xb6; rw [Xar (by simp)]) [] ⟨rfl, Xxk _⟩
 exact ⟨o, (Xf2 e).trans rfl, h1, h2⟩
theorem Xs7 (p : List Int) (c : Xe9) (hc : Xio c = true) (hl : p.length = 64) (hb : inB 255 p) : ∃ o, Xds p c = some (o, true) ∧ Yfs o = true := by
 have hm : maxLen = 9223372036854775807 := rfl
 have hq := Xx9 hc
 unfold Xds
 rw [Xgz, Xab, hc, Xaw, Xco p 64 255 (by omega) (by omega) (by omega) hb, Xab, Bool.not_true, Xab, Xap]
 cases hE : c.Exact with
 | true =>
  obtain ⟨o, e, h1, h2⟩ := Xpq 8 (Or.inr rfl) p 255 (by omega) hb
  rw [Xaw, e, Xab]
  exact ⟨o, rfl, Yrm (by omega) (Xp6 h2 (by omega))⟩
 | false =>
  rw [Xap]
  cases hL : c.Large with
  | true =>
   obtain ⟨w, ew, w1⟩ := Yag p hl hb
   obtain ⟨l, el, l1, l2⟩ := Xm3 (f := Xb9 c) 64 (fun _ => True) (fun x => -5000 ≤ x ∧ x ≤ 5000) (by
    intro i l hi hll _
    obtain ⟨d, ed, d1, d2⟩ := Xqa (l.getD i 0) c.Qp hq
    unfold Xb9
    simp only [Int.toNat_natCast]
    rw [syA, rqA, rqA, ed, Xab, rqA, rqA, wkA (e := (i : Int) + 1)]
    exact ⟨d, rfl, d1, d2⟩) (by intro s; unfold Xb9; rw [Xar (by simp)]) w w1 (fun _ _ => trivial)
   obtain ⟨o, e, h1, h2⟩ := Xpq 8 (Or.inr rfl) l 5000 (by omega) l2
   rw [Xaw, ew, Xab, el, Xab, e, Xab]
   exact ⟨o, rfl, Yrm (by omega) h2⟩
  | false =>
   obtain ⟨o, eo, o1, o2⟩ := Xdu (f := Xd1 p c) 4 (fun k s => s.length = 16 * k ∧ inB 5000 s) (by
    intro k s hk ⟨g1, g2⟩
    obtain ⟨a, ea, a1, a2⟩ := Xqe p k hk 255 hl hb
    obtain ⟨b, eb, b1, b2⟩ := Ydc a a1 a2
    obtain ⟨l, el, l1, l2⟩ := Xm3 (f := Xb4 c) 16 (fun x => -9180 ≤ x ∧ x ≤ 9180) (fun x => -5000 ≤ x ∧ x ≤ 5000) (by
     intro i l hi hll hx
     obtain ⟨d, ed, d1, d2⟩ := Xqc (l.getD i 0) c.Qp i hx hq (by omega)
     unfold Xb4
     simp only [Int.toNat_natCast]
     rw [syA, rqA, rqA, ed, Xab, rqA, rqA, wkA (e := (i : Int) + 1)]
     exact ⟨d, rfl, d1, d2⟩) (by intro s; unfold Xb4; rw [Xar (by simp)]) b b1 b2
    obtain ⟨r, er, r1, r2⟩ := Xpq 4 (Or.inl rfl) l 5000 (by omega) l2
    unfold Xd1
    simp only
    rw [syA, ea, Xab, eb, Xab, el, Xab, er, Xab]
    simp only
    rw [rqA, wkA (e := (k : Int) + 1)]
    exact ⟨_, rfl, by rw [List.length_append]; omega, Xmj g2 r2⟩) (by intro s; unfold Xd1; rw [Xar (by simp)]) [] ⟨rfl, Xxk _⟩
   rw [Xap, eo, Xab]
   exact ⟨o, rfl, Yrm (by omega) o2⟩
theorem Xqb (p : List Int) (c : Xe9) (hc : Xio c = true) (hp : Yfs p = true) : ∃ o, Xfq p c = some (o, true) ∧ o.length = 64 ∧ inB 10000000 o := by
 have hm : maxLen = 9223372036854775807 := rfl
 have hq := Xx9 hc
 obtain ⟨hl, hb⟩ := Yia hp
 unfold Xfq
 rw [Xgz, Xab, hc, Xaw, Xco p 64 5000 (by omega) (by omega) (by omega) hb, Xab, Bool.not_true, Xab, Xap]
 cases hE : c.Exact with
 | true =>
  obtain ⟨o, e, h1, h2⟩ := Xfu 8 (Or.inr rfl) p 5000 (by omega) (by omega) hb
  rw [Xaw, e, Xab]
  exact ⟨o, rfl, by omega, Xp6 h2 (by omega)⟩
 | false =>
  rw [Xap]
  cases hL : c.Large with
  | true =>
   obtain ⟨w, ew, w1, w2⟩ := Xfu 8 (Or.inr rfl) p 5000 (by omega) (by omega) hb
   obtain ⟨l, el, l1, l2⟩ := Xm3 (f := Xbh c) 64 (fun x => -5000 ≤ x ∧ x ≤ 5000) (fun x => -5760000 ≤ x ∧ x ≤ 5760000) (by
    intro i l hi hll hx
    obtain ⟨d, ed, d1, d2⟩ := Xro (l.getD i 0) c.Qp hx hq
    unfold Xbh
    simp only [Int.toNat_natCast]
    rw [syA, rqA, rqA, ed, Xab, rqA, rqA, wkA (e := (i : Int) + 1)]
    exact ⟨d, rfl, d1, d2⟩) (by intro s; unfold Xbh; rw [Xar (by simp)]) w (by omega) w2
   obtain ⟨o, e, h1, h2⟩ := Yb7 l l1 l2
   rw [Xaw, ew, Xab, el, Xab, e, Xab]
   exact ⟨o, rfl, h1, h2⟩
  | false =>
   obtain ⟨o, eo, o1, o2⟩ := Xdu (f := Xc2 p c) 4 (fun k s => s.length = 64 ∧ inB 10000000 s) (by
    intro k s hk ⟨g1, g2⟩
    have hcut : ((p.drop (16 * k)).take 16).length = 16 := by rw [List.length_take, List.length_drop]; omega
    obtain ⟨a, ea, a1, a2⟩ := Xfu 4 (Or.inl rfl) ((p.drop (16 * k)).take 16) 5000 (by omega) (by omega) (Ysn (Ysl hb _) _)
    obtain ⟨l, el, l1, l2⟩ := Xm3 (f := Xbg c) 16 (fun x => -5000 ≤ x ∧ x ≤ 5000) (fun x => -10000000 ≤ x ∧ x ≤ 10000000) (by
     intro i l hi hll hx
     obtain ⟨d, ed, d1, d2⟩ := Xrs (l.getD i 0) c.Qp i hx hq (by omega)
     unfold Xbg
     simp only [Int.toNat_natCast]
     rw [syA, rqA, rqA, ed, Xab, rqA, rqA, wkA (e := (i : Int) + 1)]
     exact ⟨d, rfl, d1, d2⟩) (by intro s; unfold Xbg; rw [Xar (by simp)]) a (by omega) a2
    obtain ⟨b, eb, b1, b2⟩ := Xs6 l l1 l2
    obtain ⟨r, er, r1, r2⟩ := Xdu (f := Xbm ((k : Int), s) b) 16 (fun i s => s.length = 64 ∧ inB 10000000 s) (by
     intro i s hi ⟨g1, g2⟩
     have ha := Xnp b2 (i := i) (by omega)
     unfold Xbm
     simp only
     rw [syA, rqA, rqA, rqA, rqA, rqA, rqA, Xbt (a := (k : Int)) (by omega), Xbt (a := (i : Int)) (by omega), Xbu (a := (k : Int)) (by omega), Xbu (a := (i : Int)) (by omega), wkA (e := (k : Int) / 2), wkA (e := (k : Int) / 2 * 4), wkA (e := (i : Int) / 4), wkA (e := (k : Int) / 2 * 4 + (i : Int) / 4), wkA (e := 8 * ((k : Int) / 2 * 4 + (i : Int) / 4)), wkA (e := (k : Int) % 2 * 4), wkA (e := 8 * ((k : Int) / 2 * 4 + (i : Int) / 4) + (k : Int) % 2 * 4), wkA (e := 8 * ((k : Int) / 2 * 4 + (i : Int) / 4) + (k : Int) % 2 * 4 + (i : Int) % 4), rqA, rqA, wkA (e := (i : Int) + 1), Int.toNat_natCast]
     exact ⟨_, rfl, by rw [List.length_set]; exact g1, Yrf g2 _ ha⟩) (by intro s; unfold Xbm; rw [Xar (by simp)]) s ⟨g1, g2⟩
    unfold Xc2
    simp only
    rw [syA, wkA (e := 16 * (k : Int)), wkA (e := 16 * (k : Int) + 16), rqA, show (16 * (k : Int)).toNat = 16 * k by omega, show (16 * (k : Int) + 16).toNat - 16 * k = 16 by omega, ea, Xab, el, Xab, eb, Xab, er, Xab, wkA (e := (k : Int) + 1)]
    exact ⟨_, rfl, r1, r2⟩) (by intro s; unfold Xc2; rw [Xar (by simp)]) (List.replicate (64 : Int).toNat 0) ⟨by simp, Yre _ (by omega)⟩
   rw [Xap, rqA, eo, Xab]
   exact ⟨o, rfl, o1, o2⟩
theorem Xgp (l : List Int) (h : Xbv l = true) : Xf0 l = some true := by
 obtain ⟨h1, h2⟩ := Xbo h
 unfold Xf0
 rw [Xbf (by simp only [bne_eq_false_iff_eq]; omega), Yaa l.length (f := Xef l) (by
  intro i hi
  have := h2 i (by omega)
  unfold Xef
  rw [syA, rqA, Xal, Xab, Int.toNat_natCast, decide_eq_true this, Bool.not_true, Xap, wkA]
  rfl) (by unfold Xef; rw [snA]), Xab]
theorem Yo4 {l : List Int} (h1 : l.length = 64) (h2 : ∀ x ∈ l, 0 ≤ x ∧ x ≤ 255) : Xbv l = true := by
 unfold Xbv
 rw [Bool.and_eq_true, decide_eq_true_eq, List.all_eq_true]
 exact ⟨h1, fun x hx => by unfold Yq7; rw [decide_eq_true_eq]; exact h2 x hx⟩
theorem Xwf (g b : List Int) (hg : Xbv g = true) (hl : b.length = 64) (hb : inB 10000000 b) : ∃ o, Xmr g b = some o ∧ Xbv o = true := by
 have hm : maxLen = 9223372036854775807 := rfl
 obtain ⟨g1, g2⟩ := Xbo hg
 unfold Xmr
 rw [Xgp g hg, Xab, Xaw, Xco b 64 10000000 (by omega) (by omega) (by omega) hb, Xab, Bool.not_true, Xab, Xap]
 obtain ⟨o, e, h1, h2⟩ := Xdu (f := Xg0 g b) 64 (fun i s => s.length = i ∧ ∀ x ∈ s, 0 ≤ x ∧ x ≤ 255) (by
  intro i s hi ⟨k1, k2⟩
  have ha := Xnp hb (i := i) (by omega)
  have hd := g2 i hi
  have br := Xfc (n := g.getD i 0 + b.getD i 0) (a := 0) (b := 255) (by omega)
  unfold Xg0
  simp only [Int.toNat_natCast]
  rw [syA, rqA, rqA, wkA (e := g.getD i 0 + b.getD i 0), Xfn, Xab, Xa2 (by simp only [List.length_singleton]; omega), wkA (e := (i : Int) + 1)]
  refine ⟨_, rfl, by simp; omega, fun x hx => ?_⟩
  rcases List.mem_append.1 hx with hx | hx
  ·
   exact k2 x hx
  ·
   rw [List.mem_singleton.1 hx]; exact br) (by intro s; unfold Xg0; rw [Xar (by simp)]) [] ⟨rfl, fun x hx => by simp at hx⟩
 exact ⟨o, (Xf2 e).trans rfl, Yo4 h1 h2⟩
def Xtk (e : Xiw) : Prop := (e.Above.length = 0 ∨ e.Above.length = 8) ∧ (e.Left.length = 0 ∨ e.Left.length = 8) ∧ (∀ x ∈ e.Above, 0 ≤ x ∧ x ≤ 255) ∧ (∀ x ∈ e.Left, 0 ≤ x ∧ x ≤ 255) ∧ -1 ≤ e.Corner ∧ e.Corner ≤ 255
theorem Xtc {p : Pic} (ok : Xc1 p = true) (x y : Int) : Xnd p x y 8 8 = some (Xdb p x y) := by
 obtain ⟨k1, k2, k3⟩ := Xbl ok
 unfold Xnd Xdb
 rw [Xgc, Xab, ok, Xaw, Xal, Xab, Xal, Xab, wkA (e := p.Wide - 8), wkA (e := p.High - 8), Xal, Xab, Xal, Xab]
 simp only [Xdg, Xab]
 congr 1
 rw [Bool.eq_iff_iff]
 simp only [Bool.and_eq_true, decide_eq_true_eq]
 omega
theorem Xgq {p : Pic} (ok : Xc1 p = true) {x y : Int} (hx : x.tmod 8 = 0) (hy : y.tmod 8 = 0) (h : Xdb p x y = true) : Xkl p x y = some true := by
 unfold Xkl
 rw [rqA, hx, rqA, hy, Xtc ok, Xab, h]
 rfl
theorem Xua {p : Pic} (ok : Xc1 p = true) {x y : Int} (hx : x.tmod 8 = 0) (hy : y.tmod 8 = 0) (h : Xdb p x y = true) : ∃ e, Xhz p x y = some (e, true) ∧ Xtk e := by
 have hm : maxLen = 9223372036854775807 := rfl
 obtain ⟨k1, k2, k3⟩ := Xbl ok
 have h' := h
 unfold Xdb at h'
 rw [decide_eq_true_eq] at h'
 unfold Xhz
 rw [Xgq ok hx hy h, Xab, Bool.not_true, Xap]
 obtain ⟨o, e, o1, o2, o3, o4, o5, o6⟩ := Xdu (f := Xfo p x y) 8 (fun i s => (y > 0 → s.1.length = i) ∧ (¬ y > 0 → s.1.length = 0) ∧ (x > 0 → s.2.length = i) ∧ (¬ x > 0 → s.2.length = 0) ∧ (∀ z ∈ s.1, 0 ≤ z ∧ z ≤ 255) ∧ (∀ z ∈ s.2, 0 ≤ z ∧ z ≤ 255)) (by
  intro i s hi ⟨g1, g2, g3, g4, g5, g6⟩
  obtain ⟨a, b⟩ := s
  simp only at g1 g2 g3 g4 g5 g6
  have d1 := Xr2 p (x + i) (y - 1)
  have d2 := Xr2 p (x - 1) (y + i)
  have st1 : ∃ a', (sel (decide (y > 0)) (bnd (Xep p (Xaa .i64 (x + (i : Int))) (Xaa .i64 (y - 1))) fun q16 => req ((a.length + ([q16]).length) * 8 ≤ 140737488355328 ∧ a.length + ([q16]).length ≤ maxLen) <| some (a ++ ([q16]))) (some a)) = some a' ∧ (y > 0 → a'.length = i + 1) ∧ (¬ y > 0 → a'.length = 0) ∧ (∀ z ∈ a', 0 ≤ z ∧ z ≤ 255) := by
   by_cases c : y > 0
   ·
    rw [Xbi c, wkA (e := x + (i : Int)), wkA (e := y - 1), Xii ok, Xab, Xa2 (by simp only [List.length_singleton]; have := g1 c; omega)]
    refine ⟨_, rfl, fun _ => by simp; exact g1 c, fun hn => absurd c hn, fun z hz => ?_⟩
    rcases List.mem_append.1 hz with hz | hz
    ·
     exact g5 z hz
    ·
     rw [List.mem_singleton.1 hz]; exact d1
   ·
    rw [Xar c]
    exact ⟨_, rfl, fun hn => absurd hn c, fun _ => g2 c, g5⟩
  obtain ⟨a', ea, a1, a2, a3⟩ := st1
  have st2 : ∃ b', (sel (decide (x > 0)) (bnd (Xep p (Xaa .i64 (x - 1)) (Xaa .i64 (y + (i : Int)))) fun q17 => req ((b.length + ([q17]).length) * 8 ≤ 140737488355328 ∧ b.length + ([q17]).length ≤ maxLen) <| some (a', (b ++ ([q17])))) (some (a', b))) = some (a', b') ∧ (x > 0 → b'.length = i + 1) ∧ (¬ x > 0 → b'.length = 0) ∧ (∀ z ∈ b', 0 ≤ z ∧ z ≤ 255) := by
   by_cases c : x > 0
   ·
    rw [Xbi c, wkA (e := y + (i : Int)), wkA (e := x - 1), Xii ok, Xab, Xa2 (by simp only [List.length_singleton]; have := g3 c; omega)]
    refine ⟨_, rfl, fun _ => by simp; exact g3 c, fun hn => absurd c hn, fun z hz => ?_⟩
    rcases List.mem_append.1 hz with hz | hz
    ·
     exact g6 z hz
    ·
     rw [List.mem_singleton.1 hz]; exact d2
   ·
    rw [Xar c]
    exact ⟨_, rfl, fun hn => absurd hn c, fun _ => g4 c, g6⟩
  obtain ⟨b', eb, b1, b2, b3⟩ := st2
  unfold Xfo
  simp only
  rw [syA, ea, Xab, eb, Xab, wkA (e := (i : Int) + 1)]
  exact ⟨(a', b'), rfl, a1, a2, b1, b2, a3, b3⟩) (by intro s; unfold Xfo; rw [Xar (by simp)]) ([], []) ⟨fun _ => rfl, fun _ => rfl, fun _ => rfl, fun _ => rfl, fun z hz => by simp at hz, fun z hz => by simp at hz⟩
 rw [e, Xab, Xdg, Xab]
 have d3 := Xr2 p (x - 1) (y - 1)
 have ha : o.1.length = 0 ∨ o.1.length = 8 := by
  by_cases c : y > 0
  ·
   exact Or.inr (o1 c)
  ·
   exact Or.inl (o2 c)
 have hb : o.2.length = 0 ∨ o.2.length = 8 := by
  by_cases c : x > 0
  ·
   exact Or.inr (o3 c)
  ·
   exact Or.inl (o4 c)
 cases hc : (decide (x > 0) && decide (y > 0)) with
 | true =>
  rw [Xaw, wkA (e := x - 1), wkA (e := y - 1), Xii ok, Xab, Xab]
  exact ⟨_, rfl, ha, hb, o5, o6, by simp only; omega, by simp only; omega⟩
 | false =>
  rw [Xap, Xab]
  exact ⟨_, rfl, ha, hb, o5, o6, by simp only; omega, by simp only; omega⟩
theorem Xtd (l : List Int) (hl : l.length = 0 ∨ l.length = 8) (h : ∀ x ∈ l, 0 ≤ x ∧ x ≤ 255) : Xqd l = some true := by
 unfold Xqd
 have hc : (sel ((l.length : Int) != 0) (some ((l.length : Int) != 8)) (some false)) = some false := by
  rcases hl with e | e
  ·
   rw [e]; rfl
  ·
   rw [e]; rfl
 rw [hc, Xab, Xap, Yaa l.length (f := Xlt l) (by
  intro i hi
  have := h (l.getD i 0) (by rw [Xcf l i hi]; exact List.getElem_mem _)
  unfold Xlt
  rw [syA, rqA, Xal, Xab, Int.toNat_natCast, decide_eq_true this, Bool.not_true, Xap, wkA]
  rfl) (by unfold Xlt; rw [snA]), Xab]
theorem Xjm {e : Xiw} (h : Xtk e) : Xp9 e = some true := by
 obtain ⟨h1, h2, h3, h4, h5, h6⟩ := h
 unfold Xp9
 rw [Xtd _ h1 h3, Xab, Xaw, Xtd _ h2 h4, Xab, Xaw, Xal, Xab, decide_eq_true ⟨h5, h6⟩, Xab]
theorem Xrv (l : List Int) (k : Nat) (hk : k < 8) (hl : l.length = 0 ∨ l.length = 8) (h : ∀ x ∈ l, 0 ≤ x ∧ x ≤ 255) : ∃ x, Xe6 l k = some x ∧ 0 ≤ x ∧ x ≤ 255 := by
 unfold Xe6
 rcases hl with e | e
 ·
  rw [Xbq (by rw [e]; rfl)]; exact ⟨_, rfl, by omega, by omega⟩
 ·
  rw [Xbf (by rw [e]; rfl), rqA, Int.toNat_natCast]
  exact ⟨_, rfl, h _ (by rw [Xcf l k (by omega)]; exact List.getElem_mem _)⟩
theorem Xwo {e : Xiw} (h : Xtk e) : ∃ x, Xps e = some x ∧ 0 ≤ x ∧ x ≤ 255 := by
 obtain ⟨h1, h2, h3, h4, _, _⟩ := h
 unfold Xps
 rw [wkA (e := (e.Above.length : Int) + (e.Left.length : Int))]
 by_cases hz : (e.Above.length : Int) + (e.Left.length : Int) = 0
 ·
  rw [Xbq (by simpa using hz)]; exact ⟨_, rfl, by omega, by omega⟩
 ·
  rw [Xbf (by simpa using hz), rqA, Xbt (by omega), wkA (e := ((e.Above.length : Int) + (e.Left.length : Int)) / 2)]
  obtain ⟨a, ea, a1, a2⟩ := Xp0 (f := Xjf e) e.Above.length (fun i s => 0 ≤ s ∧ s ≤ ((e.Above.length : Int) + (e.Left.length : Int)) / 2 + 255 * i) (by
   intro i s hi ⟨g1, g2⟩
   have := h3 (e.Above.getD i 0) (by rw [Xcf _ i hi]; exact List.getElem_mem _)
   unfold Xjf
   simp only [Int.toNat_natCast]
   rw [syA, rqA, wkA (e := s + e.Above.getD i 0), wkA (e := (i : Int) + 1)]
   exact ⟨_, rfl, by omega, by omega⟩) (by intro s; unfold Xjf; rw [Xar (by simp)]) (((e.Above.length : Int) + (e.Left.length : Int)) / 2) ⟨by omega, by omega⟩
  obtain ⟨b, eb, b1, b2⟩ := Xp0 (f := Xjg e) e.Left.length (fun i s => 0 ≤ s ∧ s ≤ ((e.Above.length : Int) + (e.Left.length : Int)) / 2 + 255 * e.Above.length + 255 * i) (by
   intro i s hi ⟨g1, g2⟩
   have := h4 (e.Left.getD i 0) (by rw [Xcf _ i hi]; exact List.getElem_mem _)
   unfold Xjg
   simp only [Int.toNat_natCast]
   rw [syA, rqA, wkA (e := s + e.Left.getD i 0), wkA (e := (i : Int) + 1)]
   exact ⟨_, rfl, by omega, by omega⟩) (by intro s; unfold Xjg; rw [Xar (by simp)]) a ⟨by omega, by omega⟩
  rw [ea, Xab, eb, Xab, Xa2 hz, Xbt b1]
  have hn : (e.Above.length : Int) + (e.Left.length : Int) = 8 ∨ (e.Above.length : Int) + (e.Left.length : Int) = 16 := by omega
  have hr : 0 ≤ b / ((e.Above.length : Int) + (e.Left.length : Int)) ∧ b / ((e.Above.length : Int) + (e.Left.length : Int)) ≤ 255 := by
   rcases hn with hn | hn <;> rw [hn] <;> omega
  rw [wkA]
  exact ⟨_, rfl, hr⟩
theorem Xli (m : Int) (hm0 : 0 ≤ m ∧ m ≤ 3) {e : Xiw} (h : Xtk e) : ∃ g, Xew m e = some g ∧ Xbv g = true := by
 have hm : maxLen = 9223372036854775807 := rfl
 have h' := h
 obtain ⟨h1, h2, h3, h4, h5, h6⟩ := h'
 obtain ⟨mid, em, m1, m2⟩ := Xwo h
 unfold Xew
 rw [Xjm h, Xab, Xaw, Xal, Xab, decide_eq_true hm0, Bool.not_true, Xab, Xap]
 have hc : ∃ v, sel (decide (e.Corner < 0)) (some (128 : Int)) (some e.Corner) = some v ∧ 0 ≤ v ∧ v ≤ 255 := by
  by_cases c : e.Corner < 0
  ·
   rw [Xbi c]; exact ⟨_, rfl, by omega, by omega⟩
  ·
   rw [Xar c]; exact ⟨_, rfl, by omega, by omega⟩
 obtain ⟨v, ev, v1, v2⟩ := hc
 rw [ev, Xab]
 obtain ⟨o, eo, o1, o2⟩ := Xdu (f := Xeb m e v) 64 (fun i s => s.length = i ∧ ∀ x ∈ s, 0 ≤ x ∧ x ≤ 255) (by
  intro i s hi ⟨g1, g2⟩
  obtain ⟨a, ea, a1, a2⟩ := Xrv e.Above (i % 8) (by omega) h1 h3
  obtain ⟨b, eb, b1, b2⟩ := Xrv e.Left (i / 8) (by omega) h2 h4
  have br := Xfc (n := b + a - v) (a := 0) (b := 255) (by omega)
  have put : ∀ z : Int, 0 ≤ z ∧ z ≤ 255 → (s ++ [z]).length = i + 1 ∧ ∀ x ∈ s ++ [z], 0 ≤ x ∧ x ≤ 255 := by
   intro z hz
   refine ⟨by simp; omega, fun x hx => ?_⟩
   rcases List.mem_append.1 hx with hx | hx
   ·
    exact g2 x hx
   ·
    rw [List.mem_singleton.1 hx]; exact hz
  unfold Xeb
  simp only
  rw [syA, rqA, Xbu (by omega), show (i : Int) % 8 = ((i % 8 : Nat) : Int) by omega, ea, Xab, rqA, Xbt (by omega), wkA (e := (i : Int) / 8), show (i : Int) / 8 = ((i / 8 : Nat) : Int) by omega, eb, Xab, wkA (e := (i : Int) + 1), em]
  cases (m == 0) with
  | true =>
   rw [Xaw, Xab, Xa2 (by simp only [List.length_singleton]; omega), Xab]
   exact ⟨_, rfl, put _ ⟨m1, m2⟩⟩
  | false =>
   rw [Xap]
   cases (m == 1) with
   | true =>
    rw [Xaw, Xa2 (by simp only [List.length_singleton]; omega), Xab]
    exact ⟨_, rfl, put _ ⟨a1, a2⟩⟩
   | false =>
    rw [Xap]
    cases (m == 2) with
    | true =>
     rw [Xaw, Xa2 (by simp only [List.length_singleton]; omega), Xab]
     exact ⟨_, rfl, put _ ⟨b1, b2⟩⟩
    | false =>
     rw [Xap, wkA (e := b + a), wkA (e := b + a - v), Xfn, Xab, Xa2 (by simp only [List.length_singleton]; omega), Xab]
     exact ⟨_, rfl, put _ br⟩) (by intro s; unfold Xeb; rw [Xar (by simp)]) [] ⟨rfl, fun x hx => by simp at hx⟩
 exact ⟨o, (Xf2 eo).trans rfl, Yo4 o1 o2⟩
theorem Ysk {l : List Int} (h : Xbv l = true) : l.length = 64 ∧ inB 1000 l := by
 simp only [Xbv, Bool.and_eq_true, decide_eq_true_eq] at h
 refine ⟨h.1, fun x hx => ?_⟩
 have := List.all_eq_true.1 h.2 x hx
 simp only [Yq7, decide_eq_true_eq] at this
 omega
theorem Xsm {a b : List Int} (ha : Xbv a = true) (hb : Xbv b = true) : Xu9 a b = some (Xo3 a b 64) := by
 have la := Ysk ha
 have lb := Ysk hb
 unfold Xu9
 rw [Xco a 64 1000 (by omega) (by omega) (by omega) la.2, Xab, Xaw, Xco b 64 1000 (by omega) (by omega) (by omega) lb.2, Xab, Bool.not_true, Xab, Xap]
 have key : ∀ i : Nat, i ≤ 64 → loop (Xot a b) (Xo3 a b i, (i : Int)) = some (Xo3 a b 64) := by
  refine Xhc _ ?_ ?_
  ·
   exact Xgl (by unfold Xot; rw [Xar (by simp)])
  ·
   intro i hi ih
   refine lgo (y := (Xo3 a b (i + 1), ((i + 1 : Nat) : Int))) ?_ ih
   have p := (Xbo ha).2 i hi
   have q := (Xbo hb).2 i hi
   have g := Xj1 ha hb i (by omega)
   have ab : 0 ≤ Ycs (a.getD i 0 - b.getD i 0) ∧ Ycs (a.getD i 0 - b.getD i 0) ≤ 255 := by unfold Ycs; split <;> omega
   unfold Xot
   simp only [Int.toNat_natCast]
   rw [syA, rqA, rqA, wkA (e := a.getD i 0 - b.getD i 0), Xoe _ (by omega), Xab, wkA (e := Xo3 a b i + Ycs (a.getD i 0 - b.getD i 0)), wkA (e := (i : Int) + 1)]
   rfl
 exact (Xf2 (key 0 (by omega))).trans rfl
theorem Yk8 (m : Int) (h : 0 ≤ m ∧ m ≤ 3) : ∃ s, Xmv m = some s ∧ 0 ≤ s ∧ s ≤ 39 := by
 have := Xe7 m.toNat (by omega)
 unfold Xmv Yce
 rw [Xal, Xab, decide_eq_true (by omega), Bool.not_true, Xap, show m = ((m.toNat : Nat) : Int) by omega, Xst _ (by omega), Xab, Xab]
 refine ⟨_, rfl, ?_⟩
 rw [strOfNums_size]; omega
theorem Yb4 {w : List Int} (hw : Xbv w = true) {e : Xiw} (h : Xtk e) : ∃ m c, Xi7 w e = some (m, c) ∧ 0 ≤ m ∧ m ≤ 3 := by
 unfold Xi7
 rw [Xjm h, Xab, Xaw, Xgp w hw, Xab, Bool.not_true, Xab, Xap]
 obtain ⟨o, eo, o1, o2⟩ := Xoq (f := Xd0 w e) (fun v => (0 ≤ v.1 ∧ v.1 ≤ 3) ∧ 0 ≤ v.2.2 ∧ v.2.2 ≤ 4) (fun v => (4 - v.2.2).toNat) (fun _ o => 0 ≤ o.1 ∧ o.1 ≤ 3) (by
  intro ⟨m, c, i⟩ ⟨g1, g2, g3⟩
  simp only at g1 g2 g3
  unfold Xd0
  simp only
  by_cases hi : i < 4
  ·
   obtain ⟨g, eg, hg⟩ := Xli i ⟨g2, by omega⟩ h
   obtain ⟨s, es, s1, s2⟩ := Yk8 i ⟨g2, by omega⟩
   rw [Xbi hi, eg, Xab, Xsm hw hg, Xab, es, Xab, Ydb, Xab, wkA (e := i + 1)]
   cases (decide (c < 0) || decide (Xaa IntKind.i64 (Xo3 w g 64 + s) < c)) with
   | true => exact .inr ⟨_, rfl, ⟨by simp only; omega, by simp only; omega, by simp only; omega⟩, by simp only; omega, fun _ h => h⟩
   | false => exact .inr ⟨_, rfl, ⟨by simp only; omega, by simp only; omega, by simp only; omega⟩, by simp only; omega, fun _ h => h⟩
  ·
   rw [Xar hi]
   exact .inl ⟨_, rfl, g1⟩) (0, -1, 0) ⟨by simp, by simp, by simp⟩
 exact ⟨o.1, o.2, (Xf2 eo).trans rfl, o1, o2⟩
theorem Xwg (d : Int) (h : -500000 ≤ d ∧ d ≤ 500000) : Xso d = some (Yu2 d) := by
 unfold Xso Ylz Yu2
 rw [Xal, Xab, decide_eq_true h, Bool.not_true, Xap, Yn3 d h, Xab, Xab, strOfNums_size]
theorem Yut {m : Int} {l : List Int} (hm : 0 ≤ m ∧ m ≤ 3) (hl : Yfs l = true) : Xuo ⟨2, m, 0, 0, l⟩ = true := by
 unfold Xuo
 simp only
 rw [if_neg (by omega), if_neg (by omega), if_pos trivial, hl, decide_eq_true hm]
 rfl
theorem Yw2 {dx dy : Int} {l : List Int} (hx : -16 ≤ dx ∧ dx ≤ 16) (hy : -16 ≤ dy ∧ dy ≤ 16) (hl : Yfs l = true) : Xuo ⟨1, 0, dx, dy, l⟩ = true := by
 unfold Xuo
 simp only
 rw [if_neg (by omega), if_pos trivial, hl, decide_eq_true hx, decide_eq_true hy]
 rfl
def Yx7 (p q : Pic) : Bool := Xc1 p && (Xc1 q && ((p.Wide == q.Wide) && (p.High == q.High)))
theorem Yi8 (p q : Pic) : Xqf p q = some (Yx7 p q) := by
 unfold Xqf Yx7
 rw [Xgc, Xab, Xgc, Xab]
 simp only [Xdg, Xab]
theorem Yx8 {p q : Pic} (h1 : Xc1 p = true) (h2 : Xc1 q = true) (h3 : q.Wide = p.Wide) (h4 : q.High = p.High) : Yx7 p q = true := by
 unfold Yx7
 simp only [Bool.and_eq_true, beq_iff_eq]
 exact ⟨h1, h2, h3.symm, h4.symm⟩
theorem Xwp {p : Pic} {x y : Int} {d : List Int} (ok : Xc1 p = true) (h0 : Xdb p x y = true) (hd : Xbv d = true) : ∃ p', Xh5 p x y d = some p' ∧ Xc1 p' = true ∧ p'.Wide = p.Wide ∧ p'.High = p.High := by
 have hm : maxLen = 9223372036854775807 := rfl
 obtain ⟨k1, k2, k3⟩ := Xbl ok
 have ar := Xgr k1 k2
 unfold Xdb at h0
 rw [decide_eq_true_eq] at h0
 have hdl := (Xbo hd).1
 have hn := Xdr p.Dots
 unfold Xh5
 rw [rqA]
 obtain ⟨o, e, o1⟩ := Xdu (f := Xc8 p x y d) 64 (fun _ s => s.length = p.Dots.size) (by
  intro i s hi g1
  have b1 : 0 ≤ (y + (i : Int) / 8) * p.Wide := Int.mul_nonneg (by omega) (by omega)
  have b2 : (y + (i : Int) / 8) * p.Wide ≤ (p.High - 1) * p.Wide := Int.mul_le_mul_of_nonneg_right (by omega) (by omega)
  have b3 : (p.High - 1) * p.Wide = p.Wide * p.High - p.Wide := by rw [Int.sub_mul, Int.one_mul, Int.mul_comm]
  unfold Xc8
  simp only
  rw [syA, rqA, rqA, rqA, Xbt (by omega), Xbu (by omega), wkA (e := (i : Int) / 8), wkA (e := y + (i : Int) / 8), wkA (e := (y + (i : Int) / 8) * p.Wide), wkA (e := (y + (i : Int) / 8) * p.Wide + x), wkA (e := (y + (i : Int) / 8) * p.Wide + x + (i : Int) % 8), rqA, rqA, wkA (e := (i : Int) + 1)]
  exact ⟨_, rfl, by rw [List.length_set]; exact g1⟩) (by intro s; unfold Xc8; rw [Xar (by simp)]) (Xba p.Dots) hn
 refine ⟨_, (Xf2 e).trans rfl, Xz2 k1 k2 ?_, rfl, rfl⟩
 simp only
 rw [strOfNums_size]; omega
def Xxu (n : Int) : Bool := decide (n.tmod 8 = 0) && decide (8 ≤ n ∧ n ≤ 64)
theorem Xxz (c : Xbj) (hc : Xoj c) : ∃ p c', Xgo c = some (p, c') ∧ Xkm p = true ∧ Xoj c' := by
 unfold Xgo
 obtain ⟨x, c1, e1, x0, x1, _, h1⟩ := Xay c 41 hc
 obtain ⟨b, c2, e2, h2⟩ := Xln c1 4 h1
 obtain ⟨y, c3, e3, y0, y1, _, h3⟩ := Xay c2 3 h2
 have x1' := x1 (by omega)
 rw [e1, Xab]
 simp only
 rw [e2, Xab]
 simp only
 rw [e3, Xab]
 simp only
 have po : ∀ (l e f : Bool), (l && e) = false → Xkm ⟨x, l, e, f⟩ = true := by
  intro l e f h
  unfold Xkm
  rw [Bool.and_eq_true, decide_eq_true_eq]
  exact ⟨by simp only; omega, by simp only [h]; rfl⟩
 cases (y == 0) with
 | true => exact ⟨_, _, rfl, po _ _ _ rfl, h3⟩
 | false =>
  cases (y == 1) with
  | true => exact ⟨_, _, rfl, po _ _ _ rfl, h3⟩
  | false => exact ⟨_, _, rfl, po _ _ _ rfl, h3⟩
theorem Yv9 : ∀ c r b : Int, (c = 1 ∨ c = 2) → (r = 1 ∨ r = 2) → (b = 3 ∨ b = 4 ∨ b = 5) → Xb8 ⟨Xu1 [c] [r], b, [c], [r]⟩ = 1 ∧ Xjx ⟨Xu1 [c] [r], b, [c], [r]⟩ = (8 * c, 8 * r) := by
 intro c r b hc hr hb
 rcases hc with rfl | rfl <;> rcases hr with rfl | rfl <;> rcases hb with rfl | rfl | rfl <;> decide +kernel
theorem Xzz (c r b : Int) (p : Par) (t : Rate) (e n : Int) (hc : c = 1 ∨ c = 2) (hr : r = 1 ∨ r = 2) (hb : b = 3 ∨ b = 4 ∨ b = 5) (hp : Xkm p = true) (ht : Xkg t = true) (he : 1 ≤ e ∧ e ≤ 5) (hn : 0 ≤ n ∧ n ≤ 2) : Xa9 (Xo1 c r b p t e n) = true := by
 have hm := (Yv9 c r b hc hr hb).1
 have hpow : (0 : Int) < 2 ^ b.toNat := by rcases hb with rfl | rfl | rfl <;> decide
 unfold Xa9 Xo1
 simp only
 rw [decide_eq_true hm, hp, ht, decide_eq_true ⟨by omega, hpow⟩, decide_eq_true (by omega)]
 rfl
theorem Yb9 (c r b : Int) (p : Par) (t : Rate) (e n : Int) (hc : c = 1 ∨ c = 2) (hr : r = 1 ∨ r = 2) (hb : b = 3 ∨ b = 4 ∨ b = 5) (hp : Xkm p = true) (ht : Xkg t = true) (he : 1 ≤ e ∧ e ≤ 5) (hn : 0 ≤ n ∧ n ≤ 2) : Xjc c r b p t e n = some (Xo1 c r b p t e n, true) := by
 have hs := Xzz c r b p t e n hc hr hb hp ht he hn
 have hw : (Lit.int .i64 b).wf = true := by rcases hb with rfl | rfl | rfl <;> decide
 unfold Xjc
 rw [Ye1, Xab]
 have := Ye3 (Xo1 c r b p t e n) hw
 unfold Xo1 at this hs ⊢
 rw [this, hs, Xab]
 rfl
theorem Yna {V O : Type} {f g : V → Option (Lp V O)} (I : V → Prop) (h : ∀ v, I v → f v = g v) (hI : ∀ v v', I v → g v = some (.go v') → I v') : ∀ (k : Nat) (v : V), I v → it f k v = it g k v
 | 0, _, _ => rfl
 | k + 1, v, hv => by
  rw [it, it, h v hv]
  cases e : g v with
  | none => rfl
  | some s =>
   cases s with
   | go y => exact Yna I h hI k y (hI v y hv e)
   | done o => rfl
end Go.Proofs.YtnhflbeahbcklaaGreat.A.Pure
