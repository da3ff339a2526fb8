/- The pure statement of the law FnFills, part 1: over numbers, texts and lists alone, what the law computes is true. Conditions: the sizes of what a machine holds. -/
import Derived.Test.YtlebkepfhdjnmacDFnFills
namespace Go.Proofs.Ytlebkepfhdjnmac.A.Pure
open Go Go.Proofs Go.Proofs.YtlebkepfhdjnmacAL Go.RowKit
set_option linter.unusedVariables false
set_option linter.unusedSimpArgs false
set_option maxHeartbeats 1000000
noncomputable section
def Xmc (p0 : Xd1) : Option Bool :=
 bnd (
 bnd (Xas p0.Qp 0 40) fun q2 =>
 sel q2 (
 sel p0.Large (
 some (!p0.Exact)) (
 some true)) (
 some false)) fun v1 =>
 some v1
def Xdm (p0 : (List Int)) (p1 : Int) (p2 : Int) (v3 : Int) : Option (Lp Int (Ou Unit Bool)) :=
 sel (decide (v3 < p1)) (
 req (0 ≤ v3 ∧ v3 < p0.length) <|
 bnd (Xas (p0.getD v3.toNat 0) (Xaa .i64 (0 - p2)) p2) fun q7 =>
 sel (!q7) (
 some (.done (.ret false))) (
 some (.go (Xaa .i64 (v3 + 1))))) (
 some (.done (.out ())))
def Xdl (p0 : (List Int)) (p1 : Int) (p2 : Int) : Option Bool :=
 sel ((p0.length : Int) != p1) (
 some false) (
 bnd (loop (Xdm p0 p1 p2) 0) fun o8 => match o8 with
| .out v6 => (
 some true)
| .ret r => some r)
def Xme (p0 : Xap) : Option Bool :=
 sel (p0.Kind == 0) (
 bnd (
 sel (p0.Mode == 0) (
 sel (p0.Dx == 0) (
 sel (p0.Dy == 0) (
 some ((p0.Levels.length : Int) == 0)) (
 some false)) (
 some false)) (
 some false)) fun v1 =>
 some v1) (
 sel (p0.Kind == 1) (
 bnd (
 sel (p0.Mode == 0) (
 bnd (Xas p0.Dx (-16) 16) fun q3 =>
 sel q3 (
 bnd (Xas p0.Dy (-16) 16) fun q4 =>
 sel q4 (
 bnd (Xdl p0.Levels 64 5000) fun q5 =>
 some q5) (
 some false)) (
 some false)) (
 some false)) fun v2 =>
 some v2) (
 sel (p0.Kind == 2) (
 bnd (
 bnd (Xas p0.Mode 0 3) fun q7 =>
 sel q7 (
 sel (p0.Dx == 0) (
 sel (p0.Dy == 0) (
 bnd (Xdl p0.Levels 64 5000) fun q8 =>
 some q8) (
 some false)) (
 some false)) (
 some false)) fun v6 =>
 some v6) (
 some false)))
def Xjt (p0 : Pic) : Option Bool :=
 bnd (
 bnd (Xas p0.Wide 1 256) fun q2 =>
 sel q2 (
 bnd (Xas p0.High 1 256) fun q3 =>
 sel q3 (
 some ((p0.Dots.size : Int) == (Xaa .i64 (p0.Wide * p0.High)))) (
 some false)) (
 some false)) fun v1 =>
 some v1
def Xkv (p0 : Pic) (p1 : Int) (p2 : Int) (p3 : Int) (p4 : Int) : Option Bool :=
 bnd (
 bnd (Xjt p0) fun q2 =>
 sel q2 (
 bnd (Xas p3 1 p0.Wide) fun q3 =>
 sel q3 (
 bnd (Xas p4 1 p0.High) fun q4 =>
 sel q4 (
 bnd (Xas p1 0 (Xaa .i64 (p0.Wide - p3))) fun q5 =>
 sel q5 (
 bnd (Xas p2 0 (Xaa .i64 (p0.High - p4))) fun q6 =>
 some q6) (
 some false)) (
 some false)) (
 some false)) (
 some false)) fun v1 =>
 some v1
def Xji (p0 : Pic) (p1 : Xov) (v3 : (Int × (List Int))) : Option (Lp (Int × (List Int)) (List Int)) :=
 sel (decide (v3.1 < (Xaa .i64 (p1.Top + p1.High)))) (
 req (0 ≤ (Xaa .i64 ((Xaa .i64 (v3.1 * p0.Wide)) + p1.Left)) ∧ (Xaa .i64 ((Xaa .i64 (v3.1 * p0.Wide)) + p1.Left)) ≤ (Xaa .i64 ((Xaa .i64 ((Xaa .i64 (v3.1 * p0.Wide)) + p1.Left)) + p1.Wide)) ∧ (Xaa .i64 ((Xaa .i64 ((Xaa .i64 (v3.1 * p0.Wide)) + p1.Left)) + p1.Wide)) ≤ (p0.Dots.size : Int)) <|
 req ((v3.2.length + (Xaz (p0.Dots.extract (Xaa .i64 ((Xaa .i64 (v3.1 * p0.Wide)) + p1.Left)).toNat (Xaa .i64 ((Xaa .i64 ((Xaa .i64 (v3.1 * p0.Wide)) + p1.Left)) + p1.Wide)).toNat)).length) * 1 ≤ 140737488355328 ∧ v3.2.length + (Xaz (p0.Dots.extract (Xaa .i64 ((Xaa .i64 (v3.1 * p0.Wide)) + p1.Left)).toNat (Xaa .i64 ((Xaa .i64 ((Xaa .i64 (v3.1 * p0.Wide)) + p1.Left)) + p1.Wide)).toNat)).length ≤ maxLen) <|
 some (.go (Xaa .i64 (v3.1 + 1), (v3.2 ++ (Xaz (p0.Dots.extract (Xaa .i64 ((Xaa .i64 (v3.1 * p0.Wide)) + p1.Left)).toNat (Xaa .i64 ((Xaa .i64 ((Xaa .i64 (v3.1 * p0.Wide)) + p1.Left)) + p1.Wide)).toNat)))))) (
 some (.done v3.2))
def Xkm (p0 : Pic) (p1 : Int) (p2 : Int) : Option Bool :=
 bnd (
 req ((8 : Int) ≠ 0) <|
 sel ((p1.tmod 8) == 0) (
 req ((8 : Int) ≠ 0) <|
 sel ((p2.tmod 8) == 0) (
 bnd (Xkv p0 p1 p2 8 8) fun q2 =>
 some q2) (
 some false)) (
 some false)) fun v1 =>
 some v1
def Xe7 (p0 : Int) (p1 : Int) (p2 : Int) : Option Int :=
 bnd (
 sel (decide (p2 < p1)) (
 some true) (
 some (decide (p0 < p1)))) fun v1 =>
 sel v1 (
 some p1) (
 sel (decide (p0 > p2)) (
 some p2) (
 some p0))
def Xdw (p0 : Pic) (p1 : Int) (p2 : Int) : Option Int :=
 bnd (Xjt p0) fun q1 =>
 sel (!q1) (
 some (-1)) (
 bnd (Xe7 p2 0 (Xaa .i64 (p0.High - 1))) fun q2 =>
 bnd (Xe7 p1 0 (Xaa .i64 (p0.Wide - 1))) fun q3 =>
 req (0 ≤ (Xaa .i64 ((Xaa .i64 (q2 * p0.Wide)) + q3)) ∧ (Xaa .i64 ((Xaa .i64 (q2 * p0.Wide)) + q3)) < p0.Dots.size) <|
 some (Xaa .i64 ((Xx3 p0.Dots (Xaa .i64 ((Xaa .i64 (q2 * p0.Wide)) + q3))))))
def Xbt (p0 : Pic) (p1 : Int) (p2 : Int) (v7 : (Int × (List Int) × (List Int))) : Option (Lp (Int × (List Int) × (List Int)) ((List Int) × (List Int))) :=
 sel (decide (v7.1 < 8)) (
 bnd (
 bnd (
 sel (decide (p2 > 0)) (
 bnd (Xdw p0 (Xaa .i64 (p1 + v7.1)) (Xaa .i64 (p2 - 1))) fun q16 =>
 req ((v7.2.1.length + ([q16]).length) * 8 ≤ 140737488355328 ∧ v7.2.1.length + ([q16]).length ≤ maxLen) <|
 some (v7.2.1 ++ ([q16]))) (
 some v7.2.1)) fun v15 =>
 sel (decide (p1 > 0)) (
 bnd (Xdw p0 (Xaa .i64 (p1 - 1)) (Xaa .i64 (p2 + v7.1))) fun q17 =>
 req ((v7.2.2.length + ([q17]).length) * 8 ≤ 140737488355328 ∧ v7.2.2.length + ([q17]).length ≤ maxLen) <|
 some (v15, (v7.2.2 ++ ([q17])))) (
 some (v15, v7.2.2))) fun v14 =>
 some (.go (Xaa .i64 (v7.1 + 1), v14.1, v14.2))) (
 some (.done (v7.2.1, v7.2.2)))
def Xd5 (p0 : Pic) (p1 : Int) (p2 : Int) : Option (Xhn × Bool) :=
 bnd (Xkm p0 p1 p2) fun q1 =>
 sel (!q1) (
 some ((⟨[], [], 0⟩ : Xhn), false)) (
 bnd (loop (Xbt p0 p1 p2) (0, [], [])) fun v13 =>
 bnd (
 bnd (
 sel (decide (p1 > 0)) (
 some (decide (p2 > 0))) (
 some false)) fun v20 =>
 sel v20 (
 bnd (Xdw p0 (Xaa .i64 (p1 - 1)) (Xaa .i64 (p2 - 1))) fun q21 =>
 some q21) (
 some (-1))) fun v19 =>
 some ((⟨v13.1, v13.2, v19⟩ : Xhn), true))
def Xnc (p0 : Int) (p1 : Int) (v17 : (Int × Int)) (v38 : (Int × Int)) : Option (Lp (Int × Int) (Ou Int Int)) :=
 sel (decide (v38.2 < p0)) (
 Ynq (fun (v44 : Int) =>
 some (.go (v44, Xaa .i64 (v38.2 + 1)))) fun j36 =>
 bnd (
 req ((2 : Int) ≠ 0) <|
 sel ((v17.2.tmod 2) == 0) (
 some (Xaa .i64 ((Xaa .i64 (p0 - 1)) - v38.2))) (
 some v38.2)) fun v45 =>
 bnd (Xas (Xaa .i64 (v17.2 - v45)) 0 (Xaa .i64 (p0 - 1))) fun q46 =>
 sel (!q46) (
 j36 v38.1) (
 sel (v38.1 == p1) (
 some (.done (.ret (Xaa .i64 ((Xaa .i64 ((Xaa .i64 (p0 * v45)) + v17.2)) - v45))))) (
 j36 (Xaa .i64 (v38.1 + 1))))) (
 some (.done (.out v38.1)))
def Xj5 (p0 : Int) (p1 : Int) (v17 : (Int × Int)) : Option (Lp (Int × Int) (Ou Unit Int)) :=
 sel (decide (v17.2 ≤ (Xaa .i64 ((Xaa .i64 (2 * p0)) - 2)))) (
 bnd (loop (Xnc p0 p1 v17) (v17.1, 0)) fun o47 => match o47 with
| .out v43 => (
 some (.go (v43, Xaa .i64 (v17.2 + 1))))
| .ret r => some (.done (.ret r))) (
 some (.done (.out ())))
def Xph (p0 : Int) (p1 : Int) : Option Int :=
 bnd (
 sel (p0 != 4) (
 sel (p0 != 8) (
 some true) (
 sel (decide (p1 < 0)) (
 some true) (
 some (decide (p1 ≥ (Xaa .i64 (p0 * p0))))))) (
 sel (decide (p1 < 0)) (
 some true) (
 some (decide (p1 ≥ (Xaa .i64 (p0 * p0))))))) fun v1 =>
 sel v1 (
 some (-1)) (
 bnd (loop (Xj5 p0 p1) (0, 0)) fun o48 => match o48 with
| .out v33 => (
 some (-1))
| .ret r => some r)
def Xb7 (p0 : Int) (p1 : (List Int)) (v4 : (Int × (List Int))) : Option (Lp (Int × (List Int)) (List Int)) :=
 sel (decide (v4.1 < (Xaa .i64 (p0 * p0)))) (
 bnd (Xph p0 v4.1) fun q8 =>
 req (0 ≤ v4.1 ∧ v4.1 < p1.length) <|
 req (0 ≤ q8 ∧ q8 < v4.2.length) <|
 req (q8.toNat < v4.2.length) <|
 some (.go (Xaa .i64 (v4.1 + 1), (v4.2.set q8.toNat (p1.getD v4.1.toNat 0))))) (
 some (.done v4.2))
def Xdk (p0 : Int) (p1 : (List Int)) : Option ((List Int) × Bool) :=
 bnd (
 sel (p0 != 4) (
 sel (p0 != 8) (
 some true) (
 some ((p1.length : Int) != (Xaa .i64 (p0 * p0))))) (
 some ((p1.length : Int) != (Xaa .i64 (p0 * p0))))) fun v1 =>
 sel v1 (
 some (([] : List Int), false)) (
 req (0 ≤ (p1.length : Int) ∧ (p1.length : Int) ≤ (p1.length : Int) ∧ (p1.length : Int) * 8 ≤ 281474976710656) <|
 bnd (loop (Xb7 p0 p1) (0, (List.replicate (p1.length : Int).toNat (0 : Int)))) fun v7 =>
 some (v7, true))
def Xig (p0 : Int) (v4 : (Int × Int)) : Option (Lp (Int × Int) Int) :=
 req ((6 : Int) ≠ 0) <|
 sel (decide (v4.2 < (Xaa .i64 (p0.tdiv 6)))) (
 some (.go (Xaa .i64 (2 * v4.1), Xaa .i64 (v4.2 + 1)))) (
 some (.done v4.1))
def Xf8 (p0 : Int) : Option Int :=
 bnd (Xas p0 0 40) fun q1 =>
 sel (!q1) (
 some 0) (
 bnd (
 req ((6 : Int) ≠ 0) <|
 sel ((p0.tmod 6) == 0) (
 some 10) (
 sel ((p0.tmod 6) == 1) (
 some 11) (
 sel ((p0.tmod 6) == 2) (
 some 13) (
 sel ((p0.tmod 6) == 3) (
 some 14) (
 sel ((p0.tmod 6) == 4) (
 some 16) (
 some 18)))))) fun v2 =>
 bnd (loop (Xig p0) (v2, 0)) fun v6 =>
 some v6)
def Xco (p0 : Int) (p1 : Int) : Option Int :=
 bnd (Xas p0 (-5000) 5000) fun q1 =>
 sel (!q1) (
 some 0) (
 bnd (Xf8 p1) fun q2 =>
 some (Xaa .i64 (p0 * q2)))
def Xif (v6 : (Int × Int)) : Option (Lp (Int × Int) Int) :=
 sel (decide (v6.2 > 0)) (
 bnd (
 req ((2 : Int) ≠ 0) <|
 sel ((v6.2.tmod 2) == 1) (
 some (Xaa .i64 (0 - v6.1))) (
 some v6.1)) fun v10 =>
 req ((2 : Int) ≠ 0) <|
 some (.go (v10, Xaa .i64 (v6.2.tdiv 2)))) (
 some (.done v6.1))
def Xh3 (p0 : Int) (p1 : Int) : Option Int :=
 bnd (
 bnd (Xas p0 0 7) fun q2 =>
 sel q2 (
 bnd (Xas p1 0 7) fun q3 =>
 some (!q3)) (
 some true)) fun v1 =>
 sel v1 (
 some 0) (
 bnd (loop (Xif) (1, (IntKind.wrap .i64 (BitVec.ofInt (IntKind.bits .i64) p0 &&& BitVec.ofInt (IntKind.bits .i64) p1).toNat))) fun v9 =>
 some v9)
def Xdn (p0 : (List Int)) (p1 : Int) (p2 : Int) (v3 : (Int × Int)) : Option (Lp (Int × Int) Int) :=
 sel (decide (v3.2 < 8)) (
 req (0 ≤ (Xaa .i64 ((Xaa .i64 (8 * p1)) + v3.2)) ∧ (Xaa .i64 ((Xaa .i64 (8 * p1)) + v3.2)) < p0.length) <|
 bnd (Xh3 p2 v3.2) fun q7 =>
 some (.go (Xaa .i64 (v3.1 + (Xaa .i64 ((p0.getD (Xaa .i64 ((Xaa .i64 (8 * p1)) + v3.2)).toNat 0) * q7))), Xaa .i64 (v3.2 + 1)))) (
 some (.done v3.1))
def Xj8 (p0 : (List Int)) (p1 : Int) (p2 : Int) : Option Int :=
 bnd (loop (Xdn p0 p1 p2) (0, 0)) fun v6 =>
 some v6
def Xcj (p0 : (List Int)) (v10 : (Int × (List Int))) (v23 : (Int × (List Int))) : Option (Lp (Int × (List Int)) (List Int)) :=
 sel (decide (v23.1 < 8)) (
 bnd (Xj8 p0 v10.1 v23.1) fun q27 =>
 req ((v23.2.length + ([q27]).length) * 8 ≤ 140737488355328 ∧ v23.2.length + ([q27]).length ≤ maxLen) <|
 some (.go (Xaa .i64 (v23.1 + 1), (v23.2 ++ ([q27]))))) (
 some (.done v23.2))
def Xci (p0 : (List Int)) (v10 : (Int × (List Int))) : Option (Lp (Int × (List Int)) (List Int)) :=
 sel (decide (v10.1 < 8)) (
 bnd (loop (Xcj p0 v10) (0, v10.2)) fun v26 =>
 some (.go (Xaa .i64 (v10.1 + 1), v26))) (
 some (.done v10.2))
def Xca (v20 : (List Int)) (v60 : (Int × (List Int))) (v101 : (Int × (List Int))) (v114 : (Int × Int)) : Option (Lp (Int × Int) Int) :=
 sel (decide (v114.2 < 8)) (
 bnd (Xh3 v60.1 v114.2) fun q118 =>
 req (0 ≤ (Xaa .i64 ((Xaa .i64 (8 * v114.2)) + v101.1)) ∧ (Xaa .i64 ((Xaa .i64 (8 * v114.2)) + v101.1)) < v20.length) <|
 req ((Xaa .i64 ((Xaa .i64 (8 * v114.2)) + v101.1)).toNat < v20.length) <|
 some (.go (Xaa .i64 (v114.1 + (Xaa .i64 (q118 * (v20.getD ((Xaa .i64 ((Xaa .i64 (8 * v114.2)) + v101.1)).toNat) 0)))), Xaa .i64 (v114.2 + 1)))) (
 some (.done v114.1))
def Xb9 (v20 : (List Int)) (v60 : (Int × (List Int))) (v101 : (Int × (List Int))) : Option (Lp (Int × (List Int)) (List Int)) :=
 sel (decide (v101.1 < 8)) (
 bnd (loop (Xca v20 v60 v101) (0, 0)) fun v117 =>
 req ((v101.2.length + ([v117]).length) * 8 ≤ 140737488355328 ∧ v101.2.length + ([v117]).length ≤ maxLen) <|
 some (.go (Xaa .i64 (v101.1 + 1), (v101.2 ++ ([v117]))))) (
 some (.done v101.2))
def Xb8 (v20 : (List Int)) (v60 : (Int × (List Int))) : Option (Lp (Int × (List Int)) (List Int)) :=
 sel (decide (v60.1 < 8)) (
 bnd (loop (Xb9 v20 v60) (0, v60.2)) fun v111 =>
 some (.go (Xaa .i64 (v60.1 + 1), v111))) (
 some (.done v60.2))
def Xiw (p0 : (List Int)) : Option (List Int) :=
 bnd (loop (Xci p0) (0, ([] : List Int))) fun v20 =>
 bnd (loop (Xb8 v20) (0, ([] : List Int))) fun v91 =>
 some v91
def Xcp (p0 : Int) (p1 : Int) : Option Int :=
 req (p1 ≠ 0) <|
 bnd (
 req (p1 ≠ 0) <|
 sel (decide ((p0.tmod p1) < 0)) (
 some (Xaa .i64 ((Xaa .i64 (p0.tdiv p1)) - 1))) (
 some (Xaa .i64 (p0.tdiv p1)))) fun v1 =>
 some v1
def Xb6 (v5 : (Int × (List Int))) : Option (Lp (Int × (List Int)) (List Int)) :=
 sel (decide (v5.1 < 64)) (
 req (0 ≤ v5.1 ∧ v5.1 < v5.2.length) <|
 req (v5.1.toNat < v5.2.length) <|
 bnd (Xcp (Xaa .i64 ((v5.2.getD v5.1.toNat 0) + 32)) 64) fun q9 =>
 req (0 ≤ v5.1 ∧ v5.1 < v5.2.length) <|
 req (v5.1.toNat < v5.2.length) <|
 some (.go (Xaa .i64 (v5.1 + 1), (v5.2.set v5.1.toNat q9)))) (
 some (.done v5.2))
def Xcm (p0 : (List Int)) : Option (List Int) :=
 bnd (Xdl p0 64 10000000) fun q1 =>
 sel (!q1) (
 some ([] : List Int)) (
 bnd (Xiw p0) fun q2 =>
 bnd (loop (Xb6) (0, q2)) fun v8 =>
 some v8)
def Xmd (p0 : Int) : Option Int :=
 bnd (Xas p0 0 15) fun q1 =>
 sel (!q1) (
 some (-1)) (
 req ((4 : Int) ≠ 0) <|
 req ((2 : Int) ≠ 0) <|
 req ((4 : Int) ≠ 0) <|
 req ((2 : Int) ≠ 0) <|
 bnd (
 sel (((Xaa .i64 (p0.tdiv 4)).tmod 2) == 0) (
 some (((p0.tmod 4).tmod 2) == 0)) (
 some false)) fun v2 =>
 sel v2 (
 some 0) (
 bnd (
 sel (((Xaa .i64 (p0.tdiv 4)).tmod 2) == 1) (
 some (((p0.tmod 4).tmod 2) == 1)) (
 some false)) fun v3 =>
 sel v3 (
 some 1) (
 some 2)))
def Xbi (p0 : Int) (p1 : Int) (p2 : Int) (p3 : Int) : Option Int :=
 sel (p0 == 0) (
 some p1) (
 sel (p0 == 1) (
 some p2) (
 some p3))
def Xdy (p0 : Int) (v12 : (Int × Int)) : Option (Lp (Int × Int) Int) :=
 req ((6 : Int) ≠ 0) <|
 sel (decide (v12.2 < (Xaa .i64 (p0.tdiv 6)))) (
 some (.go (Xaa .i64 (2 * v12.1), Xaa .i64 (v12.2 + 1)))) (
 some (.done v12.1))
def Xiu (p0 : Int) (p1 : Int) : Option Int :=
 bnd (Xmd p1) fun q1 =>
 bnd (
 bnd (Xas p0 0 40) fun q3 =>
 sel q3 (
 some (decide (q1 < 0))) (
 some true)) fun v2 =>
 sel v2 (
 some 0) (
 bnd (
 req ((6 : Int) ≠ 0) <|
 sel ((p0.tmod 6) == 0) (
 bnd (Xbi q1 10 16 13) fun q5 =>
 some q5) (
 sel ((p0.tmod 6) == 1) (
 bnd (Xbi q1 11 18 14) fun q6 =>
 some q6) (
 sel ((p0.tmod 6) == 2) (
 bnd (Xbi q1 13 20 16) fun q7 =>
 some q7) (
 sel ((p0.tmod 6) == 3) (
 bnd (Xbi q1 14 23 18) fun q8 =>
 some q8) (
 sel ((p0.tmod 6) == 4) (
 bnd (Xbi q1 16 25 20) fun q9 =>
 some q9) (
 sel ((p0.tmod 6) == 5) (
 bnd (Xbi q1 18 29 23) fun q10 =>
 some q10) (
 some 0))))))) fun v4 =>
 bnd (loop (Xdy p0) (v4, 0)) fun v14 =>
 some v14)
def Xdj (p0 : Int) (p1 : Int) (p2 : Int) : Option Int :=
 bnd (Xas p0 (-5000) 5000) fun q1 =>
 sel (!q1) (
 some 0) (
 bnd (Xiu p1 p2) fun q2 =>
 some (Xaa .i64 (p0 * q2)))
def Xch (p0 : (List Int)) (v4 : (Int × (List Int))) : Option (Lp (Int × (List Int)) (List Int)) :=
 sel (decide (v4.1 < 4)) (
 req (0 ≤ (Xaa .i64 (4 * v4.1)) ∧ (Xaa .i64 (4 * v4.1)) < p0.length) <|
 req (0 ≤ (Xaa .i64 ((Xaa .i64 (4 * v4.1)) + 1)) ∧ (Xaa .i64 ((Xaa .i64 (4 * v4.1)) + 1)) < p0.length) <|
 req (0 ≤ (Xaa .i64 ((Xaa .i64 (4 * v4.1)) + 2)) ∧ (Xaa .i64 ((Xaa .i64 (4 * v4.1)) + 2)) < p0.length) <|
 req (0 ≤ (Xaa .i64 ((Xaa .i64 (4 * v4.1)) + 3)) ∧ (Xaa .i64 ((Xaa .i64 (4 * v4.1)) + 3)) < p0.length) <|
 bnd (Xcp (p0.getD (Xaa .i64 ((Xaa .i64 (4 * v4.1)) + 1)).toNat 0) 2) fun q9 =>
 bnd (Xcp (p0.getD (Xaa .i64 ((Xaa .i64 (4 * v4.1)) + 3)).toNat 0) 2) fun q10 =>
 req ((v4.2.length + ([Xaa .i64 ((Xaa .i64 ((p0.getD (Xaa .i64 (4 * v4.1)).toNat 0) + (p0.getD (Xaa .i64 ((Xaa .i64 (4 * v4.1)) + 2)).toNat 0))) + (Xaa .i64 ((p0.getD (Xaa .i64 ((Xaa .i64 (4 * v4.1)) + 1)).toNat 0) + q10))), Xaa .i64 ((Xaa .i64 ((p0.getD (Xaa .i64 (4 * v4.1)).toNat 0) - (p0.getD (Xaa .i64 ((Xaa .i64 (4 * v4.1)) + 2)).toNat 0))) + (Xaa .i64 (q9 - (p0.getD (Xaa .i64 ((Xaa .i64 (4 * v4.1)) + 3)).toNat 0)))), Xaa .i64 ((Xaa .i64 ((p0.getD (Xaa .i64 (4 * v4.1)).toNat 0) - (p0.getD (Xaa .i64 ((Xaa .i64 (4 * v4.1)) + 2)).toNat 0))) - (Xaa .i64 (q9 - (p0.getD (Xaa .i64 ((Xaa .i64 (4 * v4.1)) + 3)).toNat 0)))), Xaa .i64 ((Xaa .i64 ((p0.getD (Xaa .i64 (4 * v4.1)).toNat 0) + (p0.getD (Xaa .i64 ((Xaa .i64 (4 * v4.1)) + 2)).toNat 0))) - (Xaa .i64 ((p0.getD (Xaa .i64 ((Xaa .i64 (4 * v4.1)) + 1)).toNat 0) + q10)))]).length) * 8 ≤ 140737488355328 ∧ v4.2.length + ([Xaa .i64 ((Xaa .i64 ((p0.getD (Xaa .i64 (4 * v4.1)).toNat 0) + (p0.getD (Xaa .i64 ((Xaa .i64 (4 * v4.1)) + 2)).toNat 0))) + (Xaa .i64 ((p0.getD (Xaa .i64 ((Xaa .i64 (4 * v4.1)) + 1)).toNat 0) + q10))), Xaa .i64 ((Xaa .i64 ((p0.getD (Xaa .i64 (4 * v4.1)).toNat 0) - (p0.getD (Xaa .i64 ((Xaa .i64 (4 * v4.1)) + 2)).toNat 0))) + (Xaa .i64 (q9 - (p0.getD (Xaa .i64 ((Xaa .i64 (4 * v4.1)) + 3)).toNat 0)))), Xaa .i64 ((Xaa .i64 ((p0.getD (Xaa .i64 (4 * v4.1)).toNat 0) - (p0.getD (Xaa .i64 ((Xaa .i64 (4 * v4.1)) + 2)).toNat 0))) - (Xaa .i64 (q9 - (p0.getD (Xaa .i64 ((Xaa .i64 (4 * v4.1)) + 3)).toNat 0)))), Xaa .i64 ((Xaa .i64 ((p0.getD (Xaa .i64 (4 * v4.1)).toNat 0) + (p0.getD (Xaa .i64 ((Xaa .i64 (4 * v4.1)) + 2)).toNat 0))) - (Xaa .i64 ((p0.getD (Xaa .i64 ((Xaa .i64 (4 * v4.1)) + 1)).toNat 0) + q10)))]).length ≤ maxLen) <|
 some (.go (Xaa .i64 (v4.1 + 1), (v4.2 ++ ([Xaa .i64 ((Xaa .i64 ((p0.getD (Xaa .i64 (4 * v4.1)).toNat 0) + (p0.getD (Xaa .i64 ((Xaa .i64 (4 * v4.1)) + 2)).toNat 0))) + (Xaa .i64 ((p0.getD (Xaa .i64 ((Xaa .i64 (4 * v4.1)) + 1)).toNat 0) + q10))), Xaa .i64 ((Xaa .i64 ((p0.getD (Xaa .i64 (4 * v4.1)).toNat 0) - (p0.getD (Xaa .i64 ((Xaa .i64 (4 * v4.1)) + 2)).toNat 0))) + (Xaa .i64 (q9 - (p0.getD (Xaa .i64 ((Xaa .i64 (4 * v4.1)) + 3)).toNat 0)))), Xaa .i64 ((Xaa .i64 ((p0.getD (Xaa .i64 (4 * v4.1)).toNat 0) - (p0.getD (Xaa .i64 ((Xaa .i64 (4 * v4.1)) + 2)).toNat 0))) - (Xaa .i64 (q9 - (p0.getD (Xaa .i64 ((Xaa .i64 (4 * v4.1)) + 3)).toNat 0)))), Xaa .i64 ((Xaa .i64 ((p0.getD (Xaa .i64 (4 * v4.1)).toNat 0) + (p0.getD (Xaa .i64 ((Xaa .i64 (4 * v4.1)) + 2)).toNat 0))) - (Xaa .i64 ((p0.getD (Xaa .i64 ((Xaa .i64 (4 * v4.1)) + 1)).toNat 0) + q10)))]))))) (
 some (.done v4.2))
def Xfg (p0 : (List Int)) : Option (List Int) :=
 bnd (loop (Xch p0) (0, ([] : List Int))) fun v8 =>
 some v8
def Xc0 (p0 : (List Int)) (v2 : (Int × (List Int))) : Option (Lp (Int × (List Int)) (List Int)) :=
 sel (decide (v2.1 < 16)) (
 req ((4 : Int) ≠ 0) <|
 req ((4 : Int) ≠ 0) <|
 req (0 ≤ v2.1 ∧ v2.1 < p0.length) <|
 req (0 ≤ (Xaa .i64 ((Xaa .i64 ((v2.1.tmod 4) * 4)) + (Xaa .i64 (v2.1.tdiv 4)))) ∧ (Xaa .i64 ((Xaa .i64 ((v2.1.tmod 4) * 4)) + (Xaa .i64 (v2.1.tdiv 4)))) < v2.2.length) <|
 req ((Xaa .i64 ((Xaa .i64 ((v2.1.tmod 4) * 4)) + (Xaa .i64 (v2.1.tdiv 4)))).toNat < v2.2.length) <|
 some (.go (Xaa .i64 (v2.1 + 1), (v2.2.set ((Xaa .i64 ((Xaa .i64 ((v2.1.tmod 4) * 4)) + (Xaa .i64 (v2.1.tdiv 4)))).toNat) (p0.getD v2.1.toNat 0))))) (
 some (.done v2.2))
def Xgj (p0 : (List Int)) : Option (List Int) :=
 req (0 ≤ (16 : Int) ∧ (16 : Int) ≤ (16 : Int) ∧ (16 : Int) * 8 ≤ 281474976710656) <|
 bnd (loop (Xc0 p0) (0, (List.replicate (16 : Int).toNat (0 : Int)))) fun v4 =>
 some v4
def Xcg (v8 : (Int × (List Int))) : Option (Lp (Int × (List Int)) (List Int)) :=
 sel (decide (v8.1 < 16)) (
 req (0 ≤ v8.1 ∧ v8.1 < v8.2.length) <|
 req (v8.1.toNat < v8.2.length) <|
 bnd (Xcp (Xaa .i64 ((v8.2.getD v8.1.toNat 0) + 32)) 64) fun q12 =>
 req (0 ≤ v8.1 ∧ v8.1 < v8.2.length) <|
 req (v8.1.toNat < v8.2.length) <|
 some (.go (Xaa .i64 (v8.1 + 1), (v8.2.set v8.1.toNat q12)))) (
 some (.done v8.2))
def Xd9 (p0 : (List Int)) : Option (List Int) :=
 bnd (Xdl p0 16 10000000) fun q1 =>
 sel (!q1) (
 some ([] : List Int)) (
 bnd (Xfg p0) fun q2 =>
 bnd (Xgj q2) fun q3 =>
 bnd (Xfg q3) fun q4 =>
 bnd (Xgj q4) fun q5 =>
 bnd (loop (Xcg) (0, q5)) fun v11 =>
 some v11)
def Xa0 (p1 : Xd1) (v8 : (Int × (List Int))) : Option (Lp (Int × (List Int)) (List Int)) :=
 sel (decide (v8.1 < 64)) (
 req (0 ≤ v8.1 ∧ v8.1 < v8.2.length) <|
 req (v8.1.toNat < v8.2.length) <|
 bnd (Xco (v8.2.getD v8.1.toNat 0) p1.Qp) fun q12 =>
 req (0 ≤ v8.1 ∧ v8.1 < v8.2.length) <|
 req (v8.1.toNat < v8.2.length) <|
 some (.go (Xaa .i64 (v8.1 + 1), (v8.2.set v8.1.toNat q12)))) (
 some (.done v8.2))
def Xaw (p1 : Xd1) (v52 : (Int × (List Int))) : Option (Lp (Int × (List Int)) (List Int)) :=
 sel (decide (v52.1 < 16)) (
 req (0 ≤ v52.1 ∧ v52.1 < v52.2.length) <|
 req (v52.1.toNat < v52.2.length) <|
 bnd (Xdj (v52.2.getD v52.1.toNat 0) p1.Qp v52.1) fun q56 =>
 req (0 ≤ v52.1 ∧ v52.1 < v52.2.length) <|
 req (v52.1.toNat < v52.2.length) <|
 some (.go (Xaa .i64 (v52.1 + 1), (v52.2.set v52.1.toNat q56)))) (
 some (.done v52.2))
def Xa1 (v31 : (Int × (List Int))) (q58 : (List Int)) (v60 : (Int × (List Int))) : Option (Lp (Int × (List Int)) (List Int)) :=
 sel (decide (v60.1 < 16)) (
 req ((2 : Int) ≠ 0) <|
 req ((4 : Int) ≠ 0) <|
 req ((2 : Int) ≠ 0) <|
 req ((4 : Int) ≠ 0) <|
 req (0 ≤ v60.1 ∧ v60.1 < q58.length) <|
 req (v60.1.toNat < q58.length) <|
 req (0 ≤ (Xaa .i64 ((Xaa .i64 ((Xaa .i64 (8 * (Xaa .i64 ((Xaa .i64 ((Xaa .i64 (v31.1.tdiv 2)) * 4)) + (Xaa .i64 (v60.1.tdiv 4)))))) + (Xaa .i64 ((v31.1.tmod 2) * 4)))) + (v60.1.tmod 4))) ∧ (Xaa .i64 ((Xaa .i64 ((Xaa .i64 (8 * (Xaa .i64 ((Xaa .i64 ((Xaa .i64 (v31.1.tdiv 2)) * 4)) + (Xaa .i64 (v60.1.tdiv 4)))))) + (Xaa .i64 ((v31.1.tmod 2) * 4)))) + (v60.1.tmod 4))) < v60.2.length) <|
 req ((Xaa .i64 ((Xaa .i64 ((Xaa .i64 (8 * (Xaa .i64 ((Xaa .i64 ((Xaa .i64 (v31.1.tdiv 2)) * 4)) + (Xaa .i64 (v60.1.tdiv 4)))))) + (Xaa .i64 ((v31.1.tmod 2) * 4)))) + (v60.1.tmod 4))).toNat < v60.2.length) <|
 some (.go (Xaa .i64 (v60.1 + 1), (v60.2.set ((Xaa .i64 ((Xaa .i64 ((Xaa .i64 (8 * (Xaa .i64 ((Xaa .i64 ((Xaa .i64 (v31.1.tdiv 2)) * 4)) + (Xaa .i64 (v60.1.tdiv 4)))))) + (Xaa .i64 ((v31.1.tmod 2) * 4)))) + (v60.1.tmod 4))).toNat) (q58.getD v60.1.toNat 0))))) (
 some (.done v60.2))
def Xa7 (p0 : (List Int)) (p1 : Xd1) (v31 : (Int × (List Int))) : Option (Lp (Int × (List Int)) (List Int)) :=
 sel (decide (v31.1 < 4)) (
 req (0 ≤ (Xaa .i64 (16 * v31.1)) ∧ (Xaa .i64 (16 * v31.1)) ≤ (Xaa .i64 ((Xaa .i64 (16 * v31.1)) + 16)) ∧ (Xaa .i64 ((Xaa .i64 (16 * v31.1)) + 16)) ≤ (p0.length : Int)) <|
 bnd (Xdk 4 ((p0.drop (Xaa .i64 (16 * v31.1)).toNat).take ((Xaa .i64 ((Xaa .i64 (16 * v31.1)) + 16)).toNat - (Xaa .i64 (16 * v31.1)).toNat))) fun q49 =>
 bnd (loop (Xaw p1) (0, q49.1)) fun v55 =>
 bnd (Xd9 v55) fun q58 =>
 bnd (loop (Xa1 v31 q58) (0, v31.2)) fun v62 =>
 some (.go (Xaa .i64 (v31.1 + 1), v62))) (
 some (.done v31.2))
def Xbg (p0 : (List Int)) (p1 : Xd1) : Option ((List Int) × Bool) :=
 bnd (
 bnd (Xmc p1) fun q2 =>
 sel q2 (
 bnd (Xdl p0 64 5000) fun q3 =>
 some (!q3)) (
 some true)) fun v1 =>
 sel v1 (
 some (([] : List Int), false)) (
 sel p1.Exact (
 bnd (Xdk 8 p0) fun q4 =>
 some (q4.1, q4.2)) (
 sel p1.Large (
 bnd (Xdk 8 p0) fun q5 =>
 bnd (loop (Xa0 p1) (0, q5.1)) fun v11 =>
 bnd (Xcm v11) fun q14 =>
 some (q14, true)) (
 req (0 ≤ (64 : Int) ∧ (64 : Int) ≤ (64 : Int) ∧ (64 : Int) * 8 ≤ 281474976710656) <|
 bnd (loop (Xa7 p0 p1) (0, (List.replicate (64 : Int).toNat (0 : Int)))) fun v48 =>
 some (v48, true))))
def Xhj (p0 : (List Int)) (v4 : Int) : Option (Lp Int (Ou Unit Bool)) :=
 sel (decide (v4 < (p0.length : Int))) (
 req (0 ≤ v4 ∧ v4 < p0.length) <|
 bnd (Xas (p0.getD v4.toNat 0) 0 255) fun q8 =>
 sel (!q8) (
 some (.done (.ret false))) (
 some (.go (Xaa .i64 (v4 + 1))))) (
 some (.done (.out ())))
def Xkn (p0 : (List Int)) : Option Bool :=
 bnd (
 sel ((p0.length : Int) != 0) (
 some ((p0.length : Int) != 8)) (
 some false)) fun v1 =>
 sel v1 (
 some false) (
 bnd (loop (Xhj p0) 0) fun o9 => match o9 with
| .out v7 => (
 some true)
| .ret r => some r)
def Xm7 (p0 : Xhn) : Option Bool :=
 bnd (
 bnd (Xkn p0.Above) fun q2 =>
 sel q2 (
 bnd (Xkn p0.Left) fun q3 =>
 sel q3 (
 bnd (Xas p0.Corner (-1) 255) fun q4 =>
 some q4) (
 some false)) (
 some false)) fun v1 =>
 some v1
def Xdo (p0 : (List Int)) (p1 : Int) : Option Int :=
 sel ((p0.length : Int) == 0) (
 some 128) (
 req (0 ≤ p1 ∧ p1 < p0.length) <|
 some (p0.getD p1.toNat 0))
def Xcq (p0 : Xhn) (v2 : (Int × Int)) : Option (Lp (Int × Int) Int) :=
 sel (decide (v2.2 < (p0.Above.length : Int))) (
 req (0 ≤ v2.2 ∧ v2.2 < p0.Above.length) <|
 some (.go (Xaa .i64 (v2.1 + (p0.Above.getD v2.2.toNat 0)), Xaa .i64 (v2.2 + 1)))) (
 some (.done v2.1))
def Xcr (p0 : Xhn) (v7 : (Int × Int)) : Option (Lp (Int × Int) Int) :=
 sel (decide (v7.2 < (p0.Left.length : Int))) (
 req (0 ≤ v7.2 ∧ v7.2 < p0.Left.length) <|
 some (.go (Xaa .i64 (v7.1 + (p0.Left.getD v7.2.toNat 0)), Xaa .i64 (v7.2 + 1)))) (
 some (.done v7.1))
def Xf9 (p0 : Xhn) : Option Int :=
 sel ((Xaa .i64 ((p0.Above.length : Int) + (p0.Left.length : Int))) == 0) (
 some 128) (
 req ((2 : Int) ≠ 0) <|
 bnd (loop (Xcq p0) (Xaa .i64 ((Xaa .i64 ((p0.Above.length : Int) + (p0.Left.length : Int))).tdiv 2), 0)) fun v4 =>
 bnd (loop (Xcr p0) (v4, 0)) fun v9 =>
 req ((Xaa .i64 ((p0.Above.length : Int) + (p0.Left.length : Int))) ≠ 0) <|
 some (Xaa .i64 (v9.tdiv (Xaa .i64 ((p0.Above.length : Int) + (p0.Left.length : Int))))))
def Xbk (p0 : Int) (p1 : Xhn) (v4 : Int) (v11 : (Int × (List Int))) : Option (Lp (Int × (List Int)) (List Int)) :=
 sel (decide (v11.1 < 64)) (
 bnd (
 req ((8 : Int) ≠ 0) <|
 bnd (Xdo p1.Above (v11.1.tmod 8)) fun q20 =>
 req ((8 : Int) ≠ 0) <|
 bnd (Xdo p1.Left (Xaa .i64 (v11.1.tdiv 8))) fun q21 =>
 sel (p0 == 0) (
 bnd (Xf9 p1) fun q22 =>
 req ((v11.2.length + ([q22]).length) * 8 ≤ 140737488355328 ∧ v11.2.length + ([q22]).length ≤ maxLen) <|
 some (v11.2 ++ ([q22]))) (
 sel (p0 == 1) (
 req ((v11.2.length + ([q20]).length) * 8 ≤ 140737488355328 ∧ v11.2.length + ([q20]).length ≤ maxLen) <|
 some (v11.2 ++ ([q20]))) (
 sel (p0 == 2) (
 req ((v11.2.length + ([q21]).length) * 8 ≤ 140737488355328 ∧ v11.2.length + ([q21]).length ≤ maxLen) <|
 some (v11.2 ++ ([q21]))) (
 bnd (Xe7 (Xaa .i64 ((Xaa .i64 (q21 + q20)) - v4)) 0 255) fun q23 =>
 req ((v11.2.length + ([q23]).length) * 8 ≤ 140737488355328 ∧ v11.2.length + ([q23]).length ≤ maxLen) <|
 some (v11.2 ++ ([q23])))))) fun v19 =>
 some (.go (Xaa .i64 (v11.1 + 1), v19))) (
 some (.done v11.2))
def Xcn (p0 : Int) (p1 : Xhn) : Option (List Int) :=
 bnd (
 bnd (Xm7 p1) fun q2 =>
 sel q2 (
 bnd (Xas p0 0 3) fun q3 =>
 some (!q3)) (
 some true)) fun v1 =>
 sel v1 (
 some ([] : List Int)) (
 bnd (
 sel (decide (p1.Corner < 0)) (
 some 128) (
 some p1.Corner)) fun v4 =>
 bnd (loop (Xbk p0 p1 v4) (0, ([] : List Int))) fun v18 =>
 some v18)
def Xhi (p0 : (List Int)) (v3 : Int) : Option (Lp Int (Ou Unit Bool)) :=
 sel (decide (v3 < 64)) (
 req (0 ≤ v3 ∧ v3 < p0.length) <|
 bnd (Xas (p0.getD v3.toNat 0) 0 255) fun q7 =>
 sel (!q7) (
 some (.done (.ret false))) (
 some (.go (Xaa .i64 (v3 + 1))))) (
 some (.done (.out ())))
def Xnh (p0 : (List Int)) : Option Bool :=
 sel ((p0.length : Int) != 64) (
 some false) (
 bnd (loop (Xhi p0) 0) fun o8 => match o8 with
| .out v6 => (
 some true)
| .ret r => some r)
def Xcb (p0 : (List Int)) (p1 : (List Int)) (v6 : (Int × (List Int))) : Option (Lp (Int × (List Int)) (List Int)) :=
 sel (decide (v6.1 < 64)) (
 req (0 ≤ v6.1 ∧ v6.1 < p0.length) <|
 req (0 ≤ v6.1 ∧ v6.1 < p1.length) <|
 bnd (Xe7 (Xaa .i64 ((p0.getD v6.1.toNat 0) + (p1.getD v6.1.toNat 0))) 0 255) fun q10 =>
 req ((v6.2.length + ([q10]).length) * 8 ≤ 140737488355328 ∧ v6.2.length + ([q10]).length ≤ maxLen) <|
 some (.go (Xaa .i64 (v6.1 + 1), (v6.2 ++ ([q10]))))) (
 some (.done v6.2))
def Xe8 (p0 : (List Int)) (p1 : (List Int)) : Option (List Int) :=
 bnd (
 bnd (Xnh p0) fun q2 =>
 sel q2 (
 bnd (Xdl p1 64 10000000) fun q3 =>
 some (!q3)) (
 some true)) fun v1 =>
 sel v1 (
 some ([] : List Int)) (
 bnd (loop (Xcb p0 p1) (0, ([] : List Int))) fun v9 =>
 some v9)
def Xg8 (p0 : Pic) (p1 : Int) (p2 : Int) (v7 : (Int × (List Int))) : Option (Lp (Int × (List Int)) (List Int)) :=
 sel (decide (v7.1 < 64)) (
 req ((8 : Int) ≠ 0) <|
 req ((8 : Int) ≠ 0) <|
 bnd (Xdw p0 (Xaa .i64 (p1 + (v7.1.tmod 8))) (Xaa .i64 (p2 + (Xaa .i64 (v7.1.tdiv 8))))) fun q11 =>
 req ((v7.2.length + ([q11]).length) * 8 ≤ 140737488355328 ∧ v7.2.length + ([q11]).length ≤ maxLen) <|
 some (.go (Xaa .i64 (v7.1 + 1), (v7.2 ++ ([q11]))))) (
 some (.done v7.2))
def Xm4 (p0 : Pic) (p1 : Int) (p2 : Int) : Option (List Int) :=
 bnd (
 bnd (Xjt p0) fun q2 =>
 sel q2 (
 bnd (Xas p1 (-1000) 1000) fun q3 =>
 sel q3 (
 bnd (Xas p2 (-1000) 1000) fun q4 =>
 some (!q4)) (
 some true)) (
 some true)) fun v1 =>
 sel v1 (
 some ([] : List Int)) (
 bnd (loop (Xg8 p0 p1 p2) (0, ([] : List Int))) fun v10 =>
 some v10)
def Xhc (p0 : Pic) (p1 : Pic) (p2 : Int) (p3 : Int) (p4 : Xd1) (p5 : Int) (p6 : Int) (p7 : Xap) : Option ((List Int) × Bool) :=
 bnd (
 bnd (Xkm p0 p5 p6) fun q2 =>
 sel q2 (
 bnd (Xas p2 0 256) fun q3 =>
 sel q3 (
 bnd (Xas p3 0 256) fun q4 =>
 sel q4 (
 bnd (Xme p7) fun q5 =>
 sel q5 (
 bnd (Xmc p4) fun q6 =>
 some (!q6)) (
 some true)) (
 some true)) (
 some true)) (
 some true)) fun v1 =>
 sel v1 (
 some (([] : List Int), false)) (
 sel (p7.Kind == 2) (
 bnd (Xd5 p0 p5 p6) fun q7 =>
 bnd (Xbg p7.Levels p4) fun q8 =>
 bnd (Xcn p7.Mode q7.1) fun q9 =>
 bnd (Xe8 q9 q8.1) fun q10 =>
 some (q10, true)) (
 bnd (
 sel p4.Key (
 some true) (
 bnd (Xjt p1) fun q12 =>
 some (!q12))) fun v11 =>
 sel v11 (
 some (([] : List Int), false)) (
 bnd (Xm4 p1 (Xaa .i64 ((Xaa .i64 (p2 + p5)) + p7.Dx)) (Xaa .i64 ((Xaa .i64 (p3 + p6)) + p7.Dy))) fun q13 =>
 sel (p7.Kind == 0) (
 some (q13, true)) (
 bnd (Xbg p7.Levels p4) fun q14 =>
 bnd (Xe8 q13 q14.1) fun q15 =>
 some (q15, true)))))
def Xeq (p0 : Pic) (p1 : Int) (p2 : Int) (p3 : (List Int)) (v2 : (Int × (List Int))) : Option (Lp (Int × (List Int)) (List Int)) :=
 sel (decide (v2.1 < 64)) (
 req ((8 : Int) ≠ 0) <|
 req ((8 : Int) ≠ 0) <|
 req (0 ≤ v2.1 ∧ v2.1 < p3.length) <|
 req (0 ≤ (Xaa .i64 ((Xaa .i64 ((Xaa .i64 ((Xaa .i64 (p2 + (Xaa .i64 (v2.1.tdiv 8)))) * p0.Wide)) + p1)) + (v2.1.tmod 8))) ∧ (Xaa .i64 ((Xaa .i64 ((Xaa .i64 ((Xaa .i64 (p2 + (Xaa .i64 (v2.1.tdiv 8)))) * p0.Wide)) + p1)) + (v2.1.tmod 8))) < v2.2.length) <|
 req ((Xaa .i64 ((Xaa .i64 ((Xaa .i64 ((Xaa .i64 (p2 + (Xaa .i64 (v2.1.tdiv 8)))) * p0.Wide)) + p1)) + (v2.1.tmod 8))).toNat < v2.2.length) <|
 some (.go (Xaa .i64 (v2.1 + 1), (v2.2.set ((Xaa .i64 ((Xaa .i64 ((Xaa .i64 ((Xaa .i64 (p2 + (Xaa .i64 (v2.1.tdiv 8)))) * p0.Wide)) + p1)) + (v2.1.tmod 8))).toNat) (Xaa .u8 ((p3.getD v2.1.toNat 0))))))) (
 some (.done v2.2))
def Xga (p0 : Pic) (p1 : Int) (p2 : Int) (p3 : (List Int)) : Option Pic :=
 req (p0.Dots.size ≤ maxLen) <|
 bnd (loop (Xeq p0 p1 p2 p3) (0, (Xaz p0.Dots))) fun v4 =>
 some (⟨p0.Wide, p0.High, (strOfNums v4)⟩ : Pic)
end
theorem Xab {α β : Type} (a : α) (f : α → Option β) : bnd (some a) f = f a := rfl
theorem Xgn {α β : Type} {x : Option α} {a : α} {f : α → Option β} (h : x = some a) : bnd x f = f a := by subst h; rfl
theorem Xa3 {β : Type} (x y : β) : sel true x y = x := rfl
theorem Xax {β : Type} (x y : β) : sel false x y = y := rfl
theorem Ydo {β : Type} (b : Bool) (x y : β) : sel (!b) x y = sel b y x := by cases b <;> rfl
theorem Xe5 (b x : Bool) : sel b (some x) (some false) = some (b && x) := by cases b <;> rfl
theorem Yf4 (b x : Bool) : sel b (some true) (some x) = some (b || x) := by cases b <;> rfl
theorem Ybu (b x : Bool) : sel b (some x) (some true) = some (!b || x) := by cases b <;> rfl
theorem Yip {β : Type} (b : Bool) (x y : β) : sel b (some x) (some y) = some (sel b x y) := by cases b <;> rfl
theorem Ybt {β : Type} (b : Bool) (x y : β) : sel b x y = if b = true then x else y := by cases b <;> rfl
theorem Yio {β : Type} (p : Prop) [Decidable p] (x y : β) : sel (decide p) x y = if p then x else y := by
 by_cases h : p <;> simp [h, sel]
theorem Xbm {β : Type} {b : Bool} {x y : β} (h : b = true) : sel b x y = x := by subst h; rfl
theorem Xbo {β : Type} {b : Bool} {x y : β} (h : b = false) : sel b x y = y := by subst h; rfl
theorem Xdi {β : Type} {p : Prop} [Decidable p] {x y : β} (h : p) : sel (decide p) x y = x := by simp [h, sel]
theorem Xar {β : Type} {p : Prop} [Decidable p] {x y : β} (h : ¬ p) : sel (decide p) x y = y := by simp [h, sel]
theorem Xba {β : Type} {c : Prop} [Decidable c] {k : Option β} (h : c) : req c k = k := if_pos h
theorem wk {e : Int} (h1 : -9223372036854775808 ≤ e) (h2 : e ≤ 9223372036854775807) : Xaa .i64 e = e := by
 show wrap64 e = e
 unfold wrap64; omega
theorem rqA {β : Type} {c : Prop} [Decidable c] {k : Option β} (h : c := by omega) : req c k = k := Xba h
theorem syA {β : Type} {c : Prop} [Decidable c] {x y : β} (h : c := by omega) : sel (decide c) x y = x := Xdi h
theorem snA {β : Type} {c : Prop} [Decidable c] {x y : β} (h : ¬ c := by omega) : sel (decide c) x y = y := Xar h
theorem wkA {e : Int} (h1 : -9223372036854775808 ≤ e := by omega) (h2 : e ≤ 9223372036854775807 := by omega) : Xaa .i64 e = e := wk h1 h2
theorem w8 {e : Int} (h1 : 0 ≤ e) (h2 : e ≤ 255) : Xaa .u8 e = e := by
 show IntKind.wrap .u8 e = e
 simp [IntKind.wrap, IntKind.signed, IntKind.bits]; omega
theorem Xbz {a b : Int} (h : 0 ≤ a) : Int.tmod a b = a % b := Int.tmod_eq_emod_of_nonneg h
theorem Xbd {a b : Int} (h : 0 ≤ a) : Int.tdiv a b = a / b := Int.tdiv_eq_ediv_of_nonneg h
theorem Xf6 {P : Nat → Prop} (n : Nat) (h0 : P n) (hs : ∀ i, i < n → P (i + 1) → P i) : ∀ i, i ≤ n → P i := by
 intro i hi
 obtain ⟨k, rfl⟩ : ∃ k, n = i + k := ⟨n - i, by omega⟩
 clear hi
 induction k generalizing i with
 | zero => exact h0
 | succ k ih =>
  refine hs i (by omega) ?_
  exact ih (i + 1) (by rw [show i + 1 + k = i + (k + 1) by omega]; exact h0) (fun j hj => hs j (by omega))
theorem lgo {V O : Type} {f : V → Option (Lp V O)} {x y : V} {r : Option O} (h : f x = some (.go y)) (k : loop f y = r) : loop f x = r := by rw [Xer h]; exact k
theorem Xi6 {V O : Type} {f : V → Option (Lp V O)} {x : V} {o : O} (h : f x = some (.done o)) : loop f x = some o := Xis h
theorem Xq7 {V O : Type} {f : V → Option (Lp V O)} (I : V → Prop) (m : V → Nat) (Q : V → O → Prop) (h : ∀ v, I v → (∃ o, f v = some (.done o) ∧ Q v o) ∨ ∃ v', f v = some (.go v') ∧ I v' ∧ m v' < m v ∧ ∀ o, Q v' o → Q v o) : ∀ v, I v → ∃ o, loop f v = some o ∧ Q v o := by
 intro v
 generalize hn : m v = n
 induction n using Nat.strongRecOn generalizing v with
 | _ n ih =>
  intro hv
  rcases h v hv with ⟨o, h1, h2⟩ | ⟨v', h1, h2, h3, h4⟩
  ·
   exact ⟨o, Xis h1, h2⟩
  ·
   obtain ⟨o, h5, h6⟩ := ih (m v') (by omega) v' rfl h2
   exact ⟨o, by rw [Xer h1]; exact h5, h4 o h6⟩
theorem Xct {α : Type} (l : List α) (i : Nat) (h : i < l.length) (d : α) : l.getD i d = l[i] := by
 simp [List.getD_eq_getElem?_getD, List.getElem?_eq_getElem h]
theorem Xam (a b c : Int) : Xak a b c = some (decide (b ≤ a ∧ a ≤ c)) := by
 unfold Xak
 by_cases h : b ≤ a <;> simp [bnd, sel, h]
theorem Xaj (a b c : Int) : Xas a b c = some (decide (b ≤ a ∧ a ≤ c)) := by
 unfold Xas
 by_cases h : b ≤ a <;> simp [bnd, sel, h]
theorem Yiq {α : Type} (a : List α) (x y : α) (b : List α) : (a ++ x :: b).set a.length y = a ++ y :: b := by
 induction a with
 | nil => rfl
 | cons z a ih => simp only [List.cons_append, List.length_cons, List.set_cons_succ, ih]
theorem Xpy {α : Type} (a : List α) (x d : α) (b : List α) : (a ++ x :: b).getD a.length d = x := by
 induction a with
 | nil => rfl
 | cons z a ih => simp
theorem Xrd {f : Int → Option (Lp Int (Ou Unit Bool))} (n : Nat) (h : ∀ i : Nat, i < n → f i = some (.go ((i + 1 : Nat) : Int))) (h0 : f n = some (.done (.out ()))) : loop f 0 = some (.out ()) :=
 Xf6 (P := fun i => loop f (i : Int) = some (.out ())) n (Xis h0) (fun i hi ih => by rw [Xer (h i hi)]; exact ih) 0 (by omega)
theorem Xvm (y : Int) : 0 ≤ IntKind.wrap .i64 (BitVec.ofInt (IntKind.bits .i64) y &&& BitVec.ofInt (IntKind.bits .i64) 255).toNat ∧ IntKind.wrap .i64 (BitVec.ofInt (IntKind.bits .i64) y &&& BitVec.ofInt (IntKind.bits .i64) 255).toNat ≤ 255 := by
 have h : (BitVec.ofInt (IntKind.bits .i64) y &&& BitVec.ofInt (IntKind.bits .i64) 255).toNat ≤ 255 := by
  rw [BitVec.toNat_and]
  exact Nat.le_trans Nat.and_le_right (by decide)
 generalize (BitVec.ofInt (IntKind.bits .i64) y &&& BitVec.ofInt (IntKind.bits .i64) 255).toNat = n at h ⊢
 rw [← Xmh, wkA]
 omega
def Xew (c : Xaq) : Prop := c.b_.length ≤ 1048576 ∧ 0 ≤ c.i_
theorem Xop (b : List Int) (hb : b.length ≤ 1048576) : ∃ c, Xh4 b = some c ∧ Xew c := by
 unfold Xh4
 obtain ⟨o, h, _⟩ := Xq7 (f := Xih b) (fun v => 0 ≤ v.2) (fun v => b.length - v.2.toNat) (fun _ _ => True) (by
  intro ⟨h, i⟩ hi
  unfold Xih
  simp only [Xe5, Xab] at hi ⊢
  by_cases h1 : i < b.length ∧ i < 4000
  ·
   rw [Xbm (by simp; exact h1), Xba ⟨hi, h1.1⟩]
   refine .inr ⟨_, rfl, ?_, ?_, fun _ _ => trivial⟩
   ·
    simp only; rw [wkA]; omega
   ·
    simp only; rw [wkA]; omega
  ·
   rw [Xbo (by simp; omega)]
   exact .inl ⟨_, rfl, trivial⟩) (Xaa .i64 (94701 + (b.length : Int)), 0) (by simp)
 rw [h]
 exact ⟨_, rfl, hb, by simp⟩
theorem Xdz (c : Xaq) (hc : Xew c) : ∃ x c', Xbx c = some (x, c') ∧ 0 ≤ x ∧ x ≤ 255 ∧ Xew c' := by
 unfold Xbx
 rw [Xba (by decide), Xba (by decide)]
 obtain ⟨h1, h2⟩ := hc
 by_cases h : c.i_ < c.b_.length
 ·
  rw [Xdi h, Xba ⟨h2, h⟩, Xab]
  refine ⟨_, _, rfl, (Xvm _).1, (Xvm _).2, h1, ?_⟩
  simp only; rw [wkA]; omega
 ·
  rw [Xar h, Xab]
  exact ⟨_, _, rfl, (Xvm _).1, (Xvm _).2, h1, h2⟩
theorem Xao (c : Xaq) (n : Int) (hc : Xew c) : ∃ x c', Xal c n = some (x, c') ∧ 0 ≤ x ∧ (0 < n → x < n) ∧ (n ≤ 0 → x = 0) ∧ Xew c' := by
 unfold Xal
 by_cases h0 : n ≤ 0
 ·
  rw [Xdi h0]; exact ⟨_, _, rfl, by omega, fun h => by omega, fun _ => rfl, hc⟩
 ·
  rw [Xar h0]
  obtain ⟨x, c1, e1, a1, b1, hc1⟩ := Xdz c hc
  by_cases h1 : n ≤ 256
  ·
   rw [Xdi h1, e1, Xab, rqA]
   refine ⟨_, _, rfl, ?_, fun _ => ?_, fun h => by omega, hc1⟩
   ·
    simp only; rw [Xbz a1]; exact Int.emod_nonneg _ (by omega)
   ·
    simp only; rw [Xbz a1]; exact Int.emod_lt_of_pos _ (by omega)
  ·
   obtain ⟨y, c2, e2, a2, b2, hc2⟩ := Xdz c1 hc1
   obtain ⟨z, c3, e3, a3, b3, hc3⟩ := Xdz c2 hc2
   obtain ⟨u, c4, e4, a4, b4, hc4⟩ := Xdz c3 hc3
   rw [Xar h1, e1, Xab]
   simp only
   rw [e2, Xab]
   simp only
   rw [e3, Xab]
   simp only
   rw [e4, Xab, rqA]
   simp only
   rw [wkA (e := x * 16777216), wkA (e := y * 65536), wkA (e := z * 256), wkA (e := x * 16777216 + y * 65536), wkA (e := x * 16777216 + y * 65536 + z * 256), wkA, Xbz (by omega)]
   exact ⟨_, _, rfl, Int.emod_nonneg _ (by omega), fun _ => Int.emod_lt_of_pos _ (by omega), fun h => by omega, hc4⟩
theorem Xbv (c : Xaq) (n : Int) (hc : Xew c) : ∃ x c', Xbb c n = some (x, c') ∧ Xew c' := by
 unfold Xbb
 obtain ⟨x, c', e, _, _, _, h⟩ := Xao c n hc
 rw [e, Xab]; exact ⟨_, _, rfl, h⟩
theorem Yel (l : List Int) : Xu9 l = some (decide ((l.length : Int) > 1048576)) := rfl
def Xbe (n a b : Int) : Int := if b < a ∨ n < a then a else if n > b then b else n
theorem Xgp (n a b : Int) : Xc5 n a b = some (Xbe n a b) := by
 unfold Xc5 Xbe
 congr 1
 repeat' split
 all_goals omega
theorem Xgb {n a b : Int} (h : a ≤ b) : a ≤ Xbe n a b ∧ Xbe n a b ≤ b := by
 unfold Xbe
 repeat' split
 all_goals omega
theorem Xcy (n a b : Int) : Xe7 n a b = some (Xbe n a b) := by
 unfold Xe7 Xbe
 rw [Yf4, Xab]
 by_cases h : b < a ∨ n < a
 ·
  rw [if_pos h, Xbm (by simpa using h)]
 ·
  rw [if_neg h, Xbo (by simp; omega), Yio]; split <;> rfl
def Xtk (n : Int) : Bool := decide (1 ≤ n ∧ n ≤ 8)
def Yjy : List Int → Int
 | [] => 0
 | x :: r => x + Yjy r
def Xpc (l : List Int) : Bool := decide (1 ≤ l.length ∧ l.length ≤ 4) && l.all Xtk
def Xxt (l : List Int) : Int := if Xpc l = true then Yjy l else 0
theorem Xwx : ∀ {l : List Int}, l.all Xtk = true → (l.length : Int) ≤ Yjy l ∧ Yjy l ≤ 8 * l.length
 | [], _ => by simp [Yjy]
 | x :: r, h => by
  rw [List.all_cons, Bool.and_eq_true] at h
  have := Xwx h.2
  have hx := h.1
  unfold Xtk at hx
  simp only [decide_eq_true_eq] at hx
  rw [Yjy, List.length_cons]
  omega
theorem Xtn (l : List Int) : 0 ≤ Xxt l ∧ Xxt l ≤ 32 := by
 unfold Xxt
 split
 ·
  rename_i h
  unfold Xpc at h
  rw [Bool.and_eq_true, decide_eq_true_eq] at h
  have := Xwx h.2
  omega
 ·
  omega
theorem Xor (l : List Int) : Xh5 l = some (Xxt l) := by
 unfold Xh5 Xxt Xpc
 rw [Yf4, Xab]
 by_cases h : 1 ≤ l.length ∧ l.length ≤ 4
 ·
  rw [Xbo (by simp; omega), decide_eq_true h, Bool.true_and]
  have key : ∀ (r a : List Int) (t : Int), l = a ++ r → 0 ≤ t → t ≤ 8 * a.length → loop (Xeo l) (t, (a.length : Int)) = some (if r.all Xtk = true then .out (t + Yjy r) else .ret 0) := by
   intro r
   induction r with
   | nil =>
    intro a t ha h0 h1
    rw [List.append_nil] at ha
    refine Xi6 ?_
    unfold Xeo
    simp only
    rw [Xar (by rw [ha]; omega)]
    simp [Yjy]
   | cons x r ih =>
    intro a t ha h0 h1
    have hlen : a.length < l.length := by rw [ha]; simp
    have hx : l.getD a.length 0 = x := by rw [ha]; exact Xpy a x _ r
    have hstep : Xeo l (t, (a.length : Int)) = sel (Xtk x) (some (.go (Xaa .i64 (t + x), ((a.length + 1 : Nat) : Int)))) (some (.done (.ret 0))) := by
     unfold Xeo
     simp only [Int.toNat_natCast, hx]
     rw [syA, rqA, Xaj, Xab, Ydo, rqA, wkA (e := (a.length : Int) + 1)]
     rfl
    cases e : Xtk x with
    | true =>
     rw [e] at hstep
     have hx2 := e
     unfold Xtk at hx2
     simp only [decide_eq_true_eq] at hx2
     rw [wkA, Xa3] at hstep
     have := ih (a ++ [x]) (t + x) (by rw [ha]; simp) (by omega) (by simp; omega)
     rw [List.length_append, List.length_singleton] at this
     rw [Xer hstep, this, List.all_cons, e, Bool.true_and, Yjy, Int.add_assoc]
    | false =>
     rw [e, Xax] at hstep
     rw [Xis hstep, List.all_cons, e, Bool.false_and]; rfl
  have := key l [] 0 rfl (by omega) (by simp)
  simp only [List.length_nil, Int.zero_add] at this
  rw [show (((0 : Int), (0 : Int))) = (0, ((0 : Nat) : Int)) from rfl, this, Xab]
  cases l.all Xtk <;> rfl
 ·
  rw [Xbm (by simp; omega), decide_eq_false h, Bool.false_and]; rfl
def Xkw (s : Seq) : Int := Xxt s.Cols * Xxt s.Rows
theorem Xzg (s : Seq) : 0 ≤ Xkw s ∧ Xkw s ≤ 1024 := by
 unfold Xkw
 have h1 := Xtn s.Cols
 have h2 := Xtn s.Rows
 refine ⟨Int.mul_nonneg h1.1 h2.1, ?_⟩
 calc Xxt s.Cols * Xxt s.Rows ≤ 32 * Xxt s.Rows := Int.mul_le_mul_of_nonneg_right h1.2 h2.1
  _ ≤ 1024 := by omega
theorem Xll (s : Seq) : Xen s = some (Xkw s) := by
 have h := Xzg s
 unfold Xen
 rw [Xor, Xab, Xor, Xab, wk (by show _ ≤ Xkw s; omega) (by show Xkw s ≤ _; omega)]
 rfl
def Xm1 (n : Int) : Int := if n = 1 then 16 else if n = 2 then 64 else if n = 3 then 256 else 0
theorem Xn0 (n : Int) : Xdx n = some (Xm1 n) := by
 unfold Xdx Xm1
 simp only [Ybt, beq_iff_eq]
 repeat' split
 all_goals rfl
def Yew (s : Seq) : Bool := decide (1 ≤ Xkw s ∧ Xkw s ≤ Xm1 s.Level) && decide (3 ≤ s.Bits ∧ s.Bits ≤ 8)
theorem Ybz (s : Seq) : Xli s = some (Yew s) := by
 unfold Xli Yew
 simp only [Xll, Xn0, Xaj, Xab, Xe5]
theorem Yex {s : Seq} (h : Yew s = true) : Xpc s.Cols = true ∧ Xpc s.Rows = true ∧ 3 ≤ s.Bits ∧ s.Bits ≤ 8 := by
 unfold Yew at h
 rw [Bool.and_eq_true, decide_eq_true_eq, decide_eq_true_eq] at h
 obtain ⟨⟨h1, _⟩, h3⟩ := h
 unfold Xkw Xxt at h1
 refine ⟨?_, ?_, h3⟩
 ·
  refine Classical.byContradiction fun e => ?_
  rw [if_neg e, Int.zero_mul] at h1; omega
 ·
  refine Classical.byContradiction fun e => ?_
  rw [if_neg e, Int.mul_zero] at h1; omega
def Ye4 (s : Seq) : Int := if Yew s = true then (s.Cols.length : Int) * s.Rows.length else 0
theorem Xw3 {l : List Int} (h : Xpc l = true) : 1 ≤ l.length ∧ l.length ≤ 4 := by
 unfold Xpc at h; rw [Bool.and_eq_true, decide_eq_true_eq] at h; exact h.1
theorem Ye6 {s : Seq} (h : Yew s = true) : 1 ≤ (s.Cols.length : Int) * s.Rows.length ∧ (s.Cols.length : Int) * s.Rows.length ≤ 16 := by
 obtain ⟨h1, h2, _⟩ := Yex h
 have a := Xw3 h1
 have b := Xw3 h2
 have e : ∀ x y : Nat, 1 ≤ x → x ≤ 4 → 1 ≤ y → y ≤ 4 → 1 ≤ x * y ∧ x * y ≤ 16 := by
  intro x y h1 h2 h3 h4
  rcases (show x = 1 ∨ x = 2 ∨ x = 3 ∨ x = 4 by omega) with rfl | rfl | rfl | rfl <;> omega
 have := e _ _ a.1 a.2 b.1 b.2
 rw [← Int.natCast_mul]; omega
theorem Xxk (s : Seq) : Xiv s = some (Ye4 s) := by
 unfold Xiv Ye4
 rw [Ybz, Xab, Ydo]
 cases h : Yew s with
 | false => rfl
 | true => have := Ye6 h; rw [Xa3, wkA, if_pos rfl]
def Xy1 (p : Par) : Bool := decide (0 ≤ p.Qp ∧ p.Qp ≤ 40) && !(p.Large && p.Exact)
theorem Xlz (p : Par) : Xhs p = some (Xy1 p) := by
 unfold Xhs Xy1
 rw [Xam, Xab, Ybu, Xe5, Xab]
 cases p.Large <;> cases p.Exact <;> rfl
def Xck (p : Pic) : Bool := decide (1 ≤ p.Wide ∧ p.Wide ≤ 256) && (decide (1 ≤ p.High ∧ p.High ≤ 256) && ((p.Dots.size : Int) == p.Wide * p.High))
theorem Xeg {w h : Int} (h1 : 1 ≤ w ∧ w ≤ 256) (h2 : 1 ≤ h ∧ h ≤ 256) : 1 ≤ w * h ∧ w * h ≤ 65536 := by
 have a : w * 1 ≤ w * h := Int.mul_le_mul_of_nonneg_left h2.1 (by omega)
 have b : w * h ≤ 256 * h := Int.mul_le_mul_of_nonneg_right h1.2 (by omega)
 omega
theorem Xhb (p : Pic) : Xjt p = some (Xck p) := by
 unfold Xjt Xck
 simp only [Xaj, Xab, Xe5]
 by_cases h1 : 1 ≤ p.Wide ∧ p.Wide ≤ 256
 ·
  by_cases h2 : 1 ≤ p.High ∧ p.High ≤ 256
  ·
   have := Xeg h1 h2
   rw [wkA]
  ·
   rw [decide_eq_false h2, Bool.false_and, Bool.false_and]
 ·
  rw [decide_eq_false h1, Bool.false_and, Bool.false_and]
theorem Xgu (p : Pic) : Xdr p = some (Xck p) := by
 unfold Xdr Xck
 simp only [Xam, Xab, Xe5]
 by_cases h1 : 1 ≤ p.Wide ∧ p.Wide ≤ 256
 ·
  by_cases h2 : 1 ≤ p.High ∧ p.High ≤ 256
  ·
   have := Xeg h1 h2
   rw [wkA]
  ·
   rw [decide_eq_false h2, Bool.false_and, Bool.false_and]
 ·
  rw [decide_eq_false h1, Bool.false_and, Bool.false_and]
def Ycd (l : List Int) : Prop := ∀ x ∈ l, 0 ≤ x ∧ x ≤ 255
theorem Xki (l : List Int) (h : Ycd l) : Xaz (strOfNums l) = l := by
 unfold Xaz
 rw [strOfNums_data, List.map_map]
 have : ∀ x ∈ l, ((fun b : UInt8 => (b.toNat : Int)) ∘ fun n : Int => UInt8.ofNat n.toNat) x = x := by
  intro x hx
  have := h x hx
  simp only [Function.comp_apply, UInt8.toNat_ofNat']
  omega
 rw [List.map_congr_left this, List.map_id']
theorem Xtb (l : List Int) (h : Ycd l) (i : Nat) (hi : i < l.length) : Xx3 (strOfNums l) (i : Int) = l.getD i 0 := by
 unfold Xx3
 rw [dif_pos (by rw [Int.toNat_natCast, strOfNums_size]; exact hi)]
 have hx := h l[i] (List.getElem_mem hi)
 rw [Xct l i hi]
 show ((((l.map fun n => UInt8.ofNat n.toNat).toArray)[(i : Int).toNat]'(by simpa using hi)).toNat : Int) = _
 simp only [Int.toNat_natCast, List.getElem_toArray, List.getElem_map, UInt8.toNat_ofNat']
 omega
theorem Ynm (y : Int) : IntKind.wrap .i64 (BitVec.ofInt (IntKind.bits .i64) y &&& BitVec.ofInt (IntKind.bits .i64) 1).toNat = y % 2 := by
 have h : (BitVec.ofInt 64 y &&& BitVec.ofInt 64 1).toNat = (y % 2).toNat := by
  rw [BitVec.toNat_and]
  have e1 : (BitVec.ofInt 64 1).toNat = 1 := by decide
  rw [e1, Nat.and_one_is_mod, BitVec.toNat_ofInt]
  omega
 show IntKind.wrap .i64 ((BitVec.ofInt 64 y &&& BitVec.ofInt 64 1).toNat : Int) = _
 rw [h, ← Xmh, wkA]
 omega
def Ykz : Nat → Int → List Int
 | 0, _ => []
 | w + 1, n => Ykz w (n / 2) ++ [48 + n % 2]
def Xto (l : List Int) : Prop := ∀ x ∈ l, x = 48 ∨ x = 49
theorem Xb0 {a b : List Int} (ha : Xto a) (hb : Xto b) : Xto (a ++ b) := fun x hx => (List.mem_append.1 hx).elim (ha x) (hb x)
theorem Yji (n : Nat) : Xto (List.replicate n 48) := fun x hx => .inl (List.eq_of_mem_replicate hx)
theorem Xea {l : List Int} (h : Xto l) : Ycd l := fun x hx => by rcases h x hx with e | e <;> omega
theorem Xpr : Xto [] := fun x hx => by simp at hx
theorem Ygt (w : Nat) : ∀ (k : Nat) (n : Int) (s : List Int), 0 ≤ n → n ≤ 9223372036854775807 → k + s.length ≤ 100000 → loop Xg3 (n, (k : Int) - 1, List.replicate k 0 ++ s) = some (Ykz k n ++ s) := by
 intro k
 induction k with
 | zero =>
  intro n s h0 h1 hl
  refine Xi6 ?_
  unfold Xg3
  simp only
  rw [snA]
  simp [Ykz]
 | succ k ih =>
  intro n s h0 h1 hl
  have e1 : List.replicate (k + 1) (0 : Int) ++ s = List.replicate k 0 ++ 0 :: s := by rw [List.replicate_succ', List.append_assoc]; rfl
  have e2 := Yiq (List.replicate k (0 : Int)) 0 (48 + n % 2) s
  rw [List.length_replicate] at e2
  refine lgo (y := (n / 2, (k : Int) - 1, List.replicate k 0 ++ (48 + n % 2) :: s)) ?_ ?_
  ·
   unfold Xg3
   have e3 : (((k + 1 : Nat) : Int) - 1).toNat = k := by omega
   simp only [e1, e3]
   rw [syA, Xba (by simp; omega), Xba (by simp), Xba (by decide), Ynm, wkA (e := 48 + n % 2), w8 (by omega) (by omega), e2, wkA]
   rw [show ((k + 1 : Nat) : Int) - 1 - 1 = (k : Int) - 1 by omega]
   rfl
  ·
   rw [ih (n / 2) ((48 + n % 2) :: s) (by omega) (by omega) (by simp; omega), Ykz, List.append_assoc]; rfl
theorem Ya2 (n : Int) (w : Nat) (h0 : 0 ≤ n) (h1 : n ≤ 9223372036854775807) (hw : w ≤ 1000) : Xld n (w : Int) = some (strOfNums (Ykz w n)) := by
 unfold Xld
 rw [rqA, wkA, Int.toNat_natCast]
 have := Ygt w w n [] h0 h1 (by simp; omega)
 rw [List.append_nil, List.append_nil] at this
 rw [this, Xab]
def Xnk (m : Nat) : Nat := if h : m = 0 then 0 else Xnk (m / 2) + 1
termination_by m
decreasing_by omega
def Yfc (m : Nat) : List Int := if h : m = 0 then [] else Yfc (m / 2) ++ [48 + ((m % 2 : Nat) : Int)]
termination_by m
decreasing_by omega
theorem Yaj (m : Nat) : (Yfc m).length = Xnk m := by
 induction m using Nat.strongRecOn with
 | _ m ih =>
  rw [Yfc, Xnk]
  by_cases h : m = 0
  ·
   rw [dif_pos h, dif_pos h]; rfl
  ·
   rw [dif_neg h, dif_neg h, List.length_append, ih (m / 2) (by omega)]; rfl
theorem Yec {m j : Nat} (h : m < 2 ^ j) : Xnk m ≤ j := by
 induction j generalizing m with
 | zero => rw [Xnk, dif_pos (by simp at h; omega)]; omega
 | succ j ih =>
  rw [Xnk]
  split
  ·
   omega
  ·
   have := ih (m := m / 2) (by rw [Nat.pow_succ] at h; omega)
   omega
theorem Yao {m : Nat} (h : 0 < m) : 1 ≤ Xnk m := by rw [Xnk, dif_neg (by omega)]; omega
theorem Yjh (m : Nat) : Xto (Yfc m) := by
 induction m using Nat.strongRecOn with
 | _ m ih =>
  rw [Yfc]
  by_cases h : m = 0
  ·
   rw [dif_pos h]; exact Xpr
  ·
   rw [dif_neg h]; exact Xb0 (ih (m / 2) (by omega)) (fun x hx => by rw [List.mem_singleton.1 hx]; omega)
theorem Yjq (z m : Nat) : Ykz (Xnk m + z) m = List.replicate z 48 ++ Yfc m := by
 induction m using Nat.strongRecOn with
 | _ m ih =>
  rw [Yfc, Xnk]
  by_cases h : m = 0
  ·
   rw [dif_pos h, dif_pos h, h, List.append_nil, Nat.zero_add]
   clear ih h
   induction z with
   | zero => rfl
   | succ z iz => rw [Ykz, show ((0 : Nat) : Int) / 2 = ((0 : Nat) : Int) from rfl, iz, List.replicate_succ']; rfl
  ·
   rw [dif_neg h, dif_neg h, show Xnk (m / 2) + 1 + z = Xnk (m / 2) + z + 1 by omega, Ykz, show (m : Int) / 2 = ((m / 2 : Nat) : Int) by omega, ih (m / 2) (by omega), List.append_assoc, show (m : Int) % 2 = ((m % 2 : Nat) : Int) by omega]
def ueL (n : Nat) : List Int := List.replicate (Xnk (n + 1) - 1) 48 ++ Yfc (n + 1)
theorem Xhk (n : Nat) : Xto (ueL n) := Xb0 (Yji _) (Yjh _)
theorem Xkx (n : Nat) (h : n ≤ 1000000) : (ueL n).length ≤ 39 ∧ 1 ≤ (ueL n).length := by
 unfold ueL
 rw [List.length_append, List.length_replicate, Yaj]
 have := Yec (m := n + 1) (j := 20) (by omega)
 have := Yao (m := n + 1) (by omega)
 omega
theorem Xyc : ∀ (m : Nat) (k : Int), 0 ≤ k → k ≤ 1000 → m ≤ 9223372036854775807 → loop Xb3 ((m : Int), k) = some (k + Xnk m) := by
 have main : ∀ (j m : Nat) (k : Int), m < 2 ^ j → j ≤ 63 → 0 ≤ k → k + j ≤ 2000 → loop Xb3 ((m : Int), k) = some (k + Xnk m) := by
  intro j
  induction j with
  | zero =>
   intro m k hm _ _ _
   have : m = 0 := by simp at hm; omega
   subst this
   refine Xi6 ?_
   unfold Xb3
   simp only
   rw [snA, Xnk, dif_pos rfl]; simp
  | succ j ih =>
   intro m k hm hj h0 h1
   by_cases h : m = 0
   ·
    subst h
    refine Xi6 ?_
    unfold Xb3
    simp only
    rw [snA, Xnk, dif_pos rfl]; simp
   ·
    refine lgo (y := (((m / 2 : Nat) : Int), k + 1)) ?_ ?_
    ·
     unfold Xb3
     simp only
     rw [syA, Xba (by decide), wkA]
     show some (Lp.go ((m : Int) / 2, k + 1)) = _
     congr 3
    ·
     rw [ih (m / 2) (k + 1) (by rw [Nat.pow_succ] at hm; omega) (by omega) (by omega) (by omega), Xnk.eq_def m, dif_neg h]
     congr 1; omega
 intro m k h0 h1 hm
 exact main 63 m k (by omega) (by omega) h0 (by omega)
theorem Xjr (n : Nat) (h : n ≤ 1000000) : Xj3 (n : Int) = some (strOfNums (ueL n)) := by
 unfold Xj3 Xia
 rw [wkA (e := (n : Int) + 1)]
 have := Xyc (n + 1) 0 (by omega) (by omega) (by omega)
 rw [show ((n + 1 : Nat) : Int) = (n : Int) + 1 by omega, Int.zero_add] at this
 rw [this, Xab, Xab]
 have h1 := Yec (m := n + 1) (j := 20) (by omega)
 have h2 := Yao (m := n + 1) (by omega)
 rw [wkA (e := 2 * (Xnk (n + 1) : Int)), wkA, show 2 * (Xnk (n + 1) : Int) - 1 = ((Xnk (n + 1) + (Xnk (n + 1) - 1) : Nat) : Int) by omega, Ya2 _ _ (by omega) (by omega) (by omega), Xab,
  show (n : Int) + 1 = ((n + 1 : Nat) : Int) by omega, Yjq]
 rfl
theorem Yjj (x : Int) (h : x = 48 ∨ x = 49) : ((x != 48) && (x != 49)) = false := by rcases h with rfl | rfl <;> rfl
theorem Yj7 (l : List Int) (hl : Xto l) (hn : l.length ≤ 9223372036854775806) (f : Int → Option (Lp Int (Ou Unit Bool)))
  (h : ∀ i : Nat, i < l.length → f (i : Int) = sel (((l.getD i 0) != 48) && ((l.getD i 0) != 49)) (some (.done (.ret false))) (some (.go ((i + 1 : Nat) : Int)))) (h0 : f (l.length : Int) = some (.done (.out ()))) : loop f 0 = some (.out ()) :=
 Xrd l.length (fun i hi => by rw [h i hi, Yjj _ (by rw [Xct l i hi]; exact hl _ (List.getElem_mem hi)), Xax]) h0
theorem Yau (l : List Int) (hl : Xto l) (hn : l.length ≤ 400000) : Xk5 (strOfNums l) = some true := by
 unfold Xk5
 rw [strOfNums_size, snA, Yj7 l hl (by omega) (Xgw (strOfNums l)) (fun i hi => by
  unfold Xgw
  rw [strOfNums_size, Xtb l (Xea hl) i hi, syA, rqA, rqA, Xe5, Xab, wkA]; rfl) (by
  unfold Xgw; rw [strOfNums_size, snA])]
 rfl
def Xxy (l : List Int) : Int := l.foldl (fun x b => 2 * x + b - 48) 0
theorem Ymd (l : List Int) : ∀ x : Int, l.foldl (fun x b => 2 * x + b - 48) x = x * 2 ^ l.length + Xxy l := by
 induction l with
 | nil => intro x; simp [Xxy]
 | cons b l ih =>
  intro x
  unfold Xxy
  rw [List.foldl_cons, List.foldl_cons, ih, ih (2 * 0 + b - 48), List.length_cons, Int.pow_succ]
  have e1 : (2 * x + b - 48) * 2 ^ l.length = 2 * (x * 2 ^ l.length) + (b - 48) * 2 ^ l.length := by
   rw [show 2 * x + b - 48 = 2 * x + (b - 48) by omega, Int.add_mul, Int.mul_assoc]
  have e2 : x * (2 ^ l.length * 2) = 2 * (x * 2 ^ l.length) := by rw [← Int.mul_assoc, Int.mul_comm]
  rw [e1, e2, show (2 : Int) * 0 + b - 48 = b - 48 by omega]
  omega
theorem Xxz (a b : List Int) : Xxy (a ++ b) = Xxy a * 2 ^ b.length + Xxy b := by
 show (a ++ b).foldl _ 0 = _
 rw [List.foldl_append]
 exact Ymd b (Xxy a)
theorem Ymf (z : Nat) : Xxy (List.replicate z 48) = 0 := by
 induction z with
 | zero => rfl
 | succ z ih => rw [List.replicate_succ', Xxz, ih]; rfl
theorem Yi4 {l : List Int} (h : Xto l) : 0 ≤ Xxy l ∧ Xxy l < 2 ^ l.length := by
 induction l with
 | nil => simp [Xxy]
 | cons b l ih =>
  have h1 := ih (fun x hx => h x (by simp [hx]))
  have h2 := h b (by simp)
  rw [show b :: l = [b] ++ l from rfl, Xxz, List.length_append, Int.pow_add, show Xxy [b] = b - 48 by simp [Xxy]]
  have : (2 : Int) ^ [b].length = 2 := rfl
  rw [this]
  rcases h2 with rfl | rfl <;> omega
def Xyd (n : Int) : Nat := if n > 0 then (2 * n - 1).toNat else (-2 * n).toNat
theorem Xn5 (n : Int) (h : -500000 ≤ n ∧ n ≤ 500000) : Xhq n = some ((Xyd n : Int), true) := by
 unfold Xhq Xyd
 rw [Xam, Xab, Ydo, Xdi h, Yio, wkA (e := 2 * n), wkA, wkA]
 split
 ·
  rw [Int.toNat_of_nonneg (by omega)]
 ·
  rw [Int.toNat_of_nonneg (by omega)]
theorem Xu7 (n : Int) (h : -500000 ≤ n ∧ n ≤ 500000) : Xyd n ≤ 1000000 := by unfold Xyd; split <;> omega
def seL (n : Int) : List Int := ueL (Xyd n)
theorem Xpg (n : Int) (h : -500000 ≤ n ∧ n ≤ 500000) : (seL n).length ≤ 39 := (Xkx _ (Xu7 n h)).1
theorem Xqf (n : Int) (h : -500000 ≤ n ∧ n ≤ 500000) : Xjn n = some (strOfNums (seL n), true) := by
 have := Xu7 n h
 unfold Xjn
 rw [Xn5 n h, Xab, Ydo, Xa3]
 unfold Xnm
 rw [Xam, Xab, Ydo, syA, Xjr _ this, Xab, Xab]; rfl
def Yc9 (x : Int) : Bool := decide (-5000 ≤ x ∧ x ≤ 5000)
theorem Ybi {x : Int} : Yc9 x = true ↔ -5000 ≤ x ∧ x ≤ 5000 := by simp [Yc9]
def nz : List Int → Nat
 | [] => 0
 | x :: r => if x = 0 then nz r else nz r + 1
theorem Yh9 : ∀ l : List Int, nz l ≤ l.length
 | [] => by simp [nz]
 | x :: r => by rw [nz, List.length_cons]; have := Yh9 r; split <;> omega
def Xjh : Nat → List Int → List Int
 | _, [] => []
 | g, x :: r => if x = 0 then Xjh (g + 1) r else ueL g ++ seL x ++ Xjh 0 r
def Xfn (l : List Int) : List Int := ueL (nz l) ++ Xjh 0 l
theorem Xxe : ∀ (l : List Int) (g : Nat), Xto (Xjh g l)
 | [], _ => Xpr
 | x :: r, g => by
  rw [Xjh]
  split
  ·
   exact Xxe r _
  ·
   exact Xb0 (Xb0 (Xhk _) (Xhk _)) (Xxe r _)
theorem Xxf : ∀ (l : List Int) (g : Nat), l.all Yc9 = true → g + l.length ≤ 1000 → (Xjh g l).length ≤ 78 * l.length
 | [], _, _, _ => by simp [Xjh]
 | x :: r, g, h, hg => by
  rw [List.all_cons, Bool.and_eq_true, Ybi] at h
  rw [List.length_cons] at hg ⊢
  rw [Xjh]
  split
  ·
   have := Xxf r (g + 1) h.2 (by omega); omega
  ·
   have := Xxf r 0 h.2 (by omega)
   have a := Xkx g (by omega)
   have b := Xpg x (by omega)
   simp only [List.length_append]; omega
theorem Xm3 (l : List Int) : Xto (Xfn l) := Xb0 (Xhk _) (Xxe _ _)
theorem Xg7 (l : List Int) (h : l.all Yc9 = true) (hl : l.length ≤ 64) : (Xfn l).length ≤ 39 + 78 * l.length := by
 have := Xxf l 0 h (by omega)
 have := Yh9 l
 have := Xkx (nz l) (by omega)
 unfold Xfn; rw [List.length_append]; omega
theorem Xtf (l : List Int) (h : l.all Yc9 = true) (hl : l.length ≤ 64) : Xlb l = some (Xfn l) := by
 have hm : maxLen = 9223372036854775807 := rfl
 unfold Xlb
 have k1 : ∀ (r a : List Int) (n : Nat), l = a ++ r → n ≤ a.length → loop (Xgf l) ((n : Int), (a.length : Int)) = some ((n + nz r : Nat) : Int) := by
  intro r
  induction r with
  | nil =>
   intro a n ha _
   rw [List.append_nil] at ha
   refine Xi6 ?_
   unfold Xgf
   simp only
   rw [Xar (by rw [ha]; omega)]; rfl
  | cons x r ih =>
   intro a n ha hn
   have hlen : a.length < l.length := by rw [ha]; simp
   have hx : l.getD a.length 0 = x := by rw [ha]; exact Xpy a x _ r
   by_cases e : x = 0
   ·
    have hnext := ih (a ++ [x]) n (by rw [ha]; simp) (by simp; omega)
    rw [List.length_append, List.length_singleton] at hnext
    rw [nz, if_pos e, ← hnext]
    refine Xer ?_
    unfold Xgf
    simp only [Int.toNat_natCast, hx]
    rw [syA, rqA, Xbo (by simpa using e), Xab, wkA]
    rfl
   ·
    have hnext := ih (a ++ [x]) (n + 1) (by rw [ha]; simp) (by simp; omega)
    rw [List.length_append, List.length_singleton] at hnext
    rw [nz, if_neg e, show n + (nz r + 1) = n + 1 + nz r by omega, ← hnext]
    refine Xer ?_
    unfold Xgf
    simp only [Int.toNat_natCast, hx]
    rw [syA, rqA, Xbm (by simpa using e), Xab, wkA, wkA]
    rfl
 refine (Xgn (k1 l [] 0 rfl (by omega))).trans ?_
 have hz := Yh9 l
 have u := Xkx (nz l) (by omega)
 simp only [Nat.zero_add]
 rw [Xjr _ (by omega), Xab, Xki _ (Xea (Xhk _)), Xba (by simp only [List.length_nil]; omega), List.nil_append]
 have key : ∀ (r a : List Int) (g : Nat) (s : List Int), l = a ++ r → g ≤ a.length → s.length ≤ 39 + 78 * a.length → loop (Xgg l) ((g : Int), (a.length : Int), s) = some (s ++ Xjh g r) := by
  intro r
  induction r with
  | nil =>
   intro a g s ha _ _
   rw [List.append_nil] at ha
   refine Xi6 ?_
   unfold Xgg
   simp only
   rw [Xar (by rw [ha]; omega), Xjh, List.append_nil]
  | cons x r ih =>
   intro a g s ha hg hs
   have hlen : a.length < l.length := by rw [ha]; simp
   have hx : l.getD a.length 0 = x := by rw [ha]; exact Xpy a x _ r
   have hxi : -5000 ≤ x ∧ x ≤ 5000 := Ybi.1 (List.all_eq_true.1 h x (by rw [ha]; simp))
   by_cases e : x = 0
   ·
    have hnext := ih (a ++ [x]) (g + 1) s (by rw [ha]; simp) (by simp; omega) (by simp; omega)
    rw [List.length_append, List.length_singleton] at hnext
    rw [Xjh, if_pos e, ← hnext]
    refine Xer ?_
    unfold Xgg
    simp only [Int.toNat_natCast, hx]
    rw [syA, rqA, Xbm (by simpa using e), Xab, wkA, wkA]
    rfl
   ·
    have u1 := Xkx g (by omega)
    have u2 := Xpg x (by omega)
    have hnext := ih (a ++ [x]) 0 (s ++ ueL g ++ seL x) (by rw [ha]; simp) (by omega) (by simp only [List.length_append, List.length_singleton]; omega)
    rw [List.length_append, List.length_singleton] at hnext
    rw [Xjh, if_neg e, ← List.append_assoc, ← List.append_assoc, ← hnext]
    refine Xer ?_
    unfold Xgg
    simp only [Int.toNat_natCast, hx]
    rw [syA, rqA, Xbo (by simpa using e), Xn5 x (by omega), Xab, Xjr g (by omega), Xab, Xki _ (Xea (Xhk _)), rqA, Xjr _ (Xu7 x (by omega)), Xab, Xki _ (Xea (Xhk _)), Xba (by rw [List.length_append]; have : (seL x).length = (ueL (Xyd x)).length := rfl; omega), Xab, wkA]
    rfl
 exact Xgn (key l [] 0 (ueL (nz l)) rfl (by omega) (by simp; omega))
def Ydv (l : List Int) : Bool := decide (l.length = 64) && l.all Yc9
theorem Ye7 (p : Int → Bool) (l : List Int) (f : Int → Option (Lp Int (Ou Unit Bool))) (h : ∀ i : Nat, i < l.length → f (i : Int) = sel (!(p (l.getD i 0))) (some (.done (.ret false))) (some (.go ((i + 1 : Nat) : Int)))) (h0 : f (l.length : Int) = some (.done (.out ()))) :
  loop f 0 = some (if l.all p = true then .out () else .ret false) := by
 have key : ∀ (r a : List Int), l = a ++ r → loop f (a.length : Int) = some (if r.all p = true then .out () else .ret false) := by
  intro r
  induction r with
  | nil => intro a ha; rw [List.append_nil] at ha; rw [← ha, Xis h0]; rfl
  | cons x r ih =>
   intro a ha
   have hlen : a.length < l.length := by rw [ha]; simp
   have hx : l.getD a.length 0 = x := by rw [ha]; exact Xpy a x _ r
   have hs := h a.length hlen
   rw [hx] at hs
   cases e : p x with
   | true =>
    rw [e] at hs
    have := ih (a ++ [x]) (by rw [ha]; simp)
    rw [List.length_append, List.length_singleton] at this
    rw [Xer hs, this, List.all_cons, e, Bool.true_and]
   | false => rw [e] at hs; rw [Xis hs, List.all_cons, e, Bool.false_and]; rfl
 exact key l [] rfl
theorem Xzd (l : List Int) : Xdl l 64 5000 = some (Ydv l) := by
 unfold Xdl Ydv
 by_cases h : l.length = 64
 ·
  rw [Xbo (by simp only [bne_eq_false_iff_eq]; omega), Ye7 Yc9 l (Xdm l 64 5000) (by
   intro i hi
   unfold Xdm
   rw [syA, rqA, wkA (e := 0 - 5000), Xaj, Xab, wkA, Int.toNat_natCast]
   rfl) (by unfold Xdm; rw [snA]), Xab, decide_eq_true h, Bool.true_and]
  cases l.all Yc9 <;> rfl
 ·
  rw [Xbm (by simp only [bne_iff_ne, ne_eq]; omega), decide_eq_false h, Bool.false_and]
theorem Xje (l : List Int) (n lo hi : Int) (hl : l.length ≤ 9223372036854775806) : Xcs l n lo hi = some (l.all (fun x => decide (lo ≤ x ∧ x ≤ hi)) && ((l.length : Int) == n)) := by
 unfold Xcs
 rw [Ye7 (fun x => decide (lo ≤ x ∧ x ≤ hi)) l (Xgz l lo hi) (by
   intro i hi
   unfold Xgz
   rw [syA, rqA, Xam, Xab, wkA, Int.toNat_natCast]
   rfl) (by unfold Xgz; rw [snA]), Xab]
 cases l.all (fun x => decide (lo ≤ x ∧ x ≤ hi)) <;> rfl
theorem Xk8 (l : List Int) (hl : l.length ≤ 9223372036854775806) : Xdh l = some (Ydv l) := by
 unfold Xdh Ydv
 rw [Xje l _ _ _ hl, Xab]
 show some (l.all Yc9 && ((l.length : Int) == 64)) = _
 have : ((l.length : Int) == 64) = decide (l.length = 64) := by rw [Bool.eq_iff_iff]; simp only [beq_iff_eq, decide_eq_true_eq]; omega
 rw [this, Bool.and_comm]
theorem Xjs {l : List Int} (h : Ydv l = true) : l.length = 64 ∧ l.all Yc9 = true := by
 unfold Ydv at h; rw [Bool.and_eq_true, decide_eq_true_eq] at h; exact h
def Yb5 (l : List Int) (c : Xd1) : List Int := if (c.Large || c.Exact) = true then Xfn l else Xfn (l.take 16) ++ Xfn ((l.drop 16).take 16) ++ Xfn ((l.drop 32).take 16) ++ Xfn (l.drop 48)
theorem Xgm {l : List Int} (h : l.all Yc9 = true) (n : Nat) : (l.take n).all Yc9 = true := List.all_eq_true.2 fun x hx => List.all_eq_true.1 h x (List.mem_of_mem_take hx)
theorem Xgl {l : List Int} (h : l.all Yc9 = true) (n : Nat) : (l.drop n).all Yc9 = true := List.all_eq_true.2 fun x hx => List.all_eq_true.1 h x (List.mem_of_mem_drop hx)
theorem Yfp (l : List Int) (c : Xd1) : Xto (Yb5 l c) := by
 unfold Yb5
 split
 ·
  exact Xm3 l
 ·
  exact Xb0 (Xb0 (Xb0 (Xm3 _) (Xm3 _)) (Xm3 _)) (Xm3 _)
theorem Xva {l : List Int} {c : Xd1} (h : Ydv l = true) : (Yb5 l c).length ≤ 5148 := by
 obtain ⟨h1, h2⟩ := Xjs h
 unfold Yb5
 split
 ·
  have := Xg7 l h2 (by omega); omega
 ·
  have a := Xg7 (l.take 16) (Xgm h2 _) (by rw [List.length_take]; omega)
  have b := Xg7 ((l.drop 16).take 16) (Xgm (Xgl h2 _) _) (by rw [List.length_take, List.length_drop]; omega)
  have c := Xg7 ((l.drop 32).take 16) (Xgm (Xgl h2 _) _) (by rw [List.length_take, List.length_drop]; omega)
  have d := Xg7 (l.drop 48) (Xgl h2 _) (by rw [List.length_drop]; omega)
  rw [List.length_take] at a
  rw [List.length_take, List.length_drop] at b c
  rw [List.length_drop] at d
  simp only [List.length_append]; omega
theorem Xla (l : List Int) (c : Xd1) (h : Ydv l = true) : Xel l c = some (Yb5 l c) := by
 have hm : maxLen = 9223372036854775807 := rfl
 obtain ⟨h1, h2⟩ := Xjs h
 unfold Xel Yb5
 rw [Yf4, Xab]
 by_cases e : (c.Large || c.Exact) = true
 ·
  rw [Xbm e, if_pos e, Xtf l h2 (by omega), Xab]
 ·
  rw [Xbo (by simpa using e), if_neg e]
  have step : ∀ (n : Nat) (s : List Int), n < 4 → s.length ≤ 4000 → Xb4 l ((n : Int), s) = some (.go (((n + 1 : Nat) : Int), s ++ Xfn ((l.drop (16 * n)).take 16))) := by
   intro n s hn hs
   have g := Xg7 ((l.drop (16 * n)).take 16) (Xgm (Xgl h2 _) _) (by rw [List.length_take, List.length_drop]; omega)
   rw [List.length_take, List.length_drop] at g
   unfold Xb4
   simp only
   rw [syA, wkA (e := 16 * (n : Int)), wkA (e := 16 * (n : Int) + 16), rqA, show (16 * (n : Int)).toNat = 16 * n by omega, show (16 * (n : Int) + 16).toNat - 16 * n = 16 by omega, Xtf _ (Xgm (Xgl h2 _) _) (by rw [List.length_take, List.length_drop]; omega), Xab, rqA, wkA]
   rfl
  have g0 := Xg7 ((l.drop (16 * 0)).take 16) (Xgm (Xgl h2 _) _) (by rw [List.length_take, List.length_drop]; omega)
  have g1 := Xg7 ((l.drop (16 * 1)).take 16) (Xgm (Xgl h2 _) _) (by rw [List.length_take, List.length_drop]; omega)
  have g2 := Xg7 ((l.drop (16 * 2)).take 16) (Xgm (Xgl h2 _) _) (by rw [List.length_take, List.length_drop]; omega)
  rw [List.length_take, List.length_drop] at g0 g1 g2
  have l4 : ∀ s, Xb4 l (((4 : Nat) : Int), s) = some (.done s) := by intro s; unfold Xb4; simp only; rw [snA]
  have e : loop (Xb4 l) (((0 : Nat) : Int), []) = some ([] ++ Xfn ((l.drop (16 * 0)).take 16) ++ Xfn ((l.drop (16 * 1)).take 16) ++ Xfn ((l.drop (16 * 2)).take 16) ++ Xfn ((l.drop (16 * 3)).take 16)) := by
   rw [Xer (step 0 [] (by omega) (by simp)), Xer (step 1 _ (by omega) (by simp only [List.length_append, List.length_nil]; omega)), Xer (step 2 _ (by omega) (by simp only [List.length_append, List.length_nil]; omega)), Xer (step 3 _ (by omega) (by simp only [List.length_append, List.length_nil]; omega)), Xis (l4 _)]
  refine (Xgn e).trans ?_
  rw [List.nil_append, show 16 * 0 = 0 from rfl, List.drop_zero, show (l.drop (16 * 3)).take 16 = l.drop 48 from List.take_of_length_le (by rw [List.length_drop]; omega)]
def Xdp (c : Xd1) : Bool := decide (0 ≤ c.Qp ∧ c.Qp ≤ 40) && !(c.Large && c.Exact)
theorem Xfx (c : Xd1) : Xmc c = some (Xdp c) := by
 unfold Xmc Xdp
 rw [Xaj, Xab, Ybu, Xe5, Xab]
 cases c.Large <;> cases c.Exact <;> rfl
theorem Xei (c : Xd1) : Xdf c = some (Xdp c) := by
 unfold Xdf Xdp
 rw [Xam, Xab, Ybu, Xe5, Xab]
 cases c.Large <;> cases c.Exact <;> rfl
def Xpm (s : Xap) : Bool :=
 if s.Kind = 0 then decide (s.Mode = 0 ∧ s.Dx = 0 ∧ s.Dy = 0 ∧ s.Levels.length = 0)
 else if s.Kind = 1 then decide (s.Mode = 0) && (decide (-16 ≤ s.Dx ∧ s.Dx ≤ 16) && (decide (-16 ≤ s.Dy ∧ s.Dy ≤ 16) && Ydv s.Levels))
 else if s.Kind = 2 then decide (0 ≤ s.Mode ∧ s.Mode ≤ 3) && (decide (s.Dx = 0) && (decide (s.Dy = 0) && Ydv s.Levels))
 else false
theorem Yd6 (a b : Int) : (a == b) = decide (a = b) := by rw [Bool.eq_iff_iff]; simp
theorem Xmq (s : Xap) : Xme s = some (Xpm s) := by
 unfold Xme Xpm
 simp only [Xaj, Xzd, Xab, Xe5, Yd6]
 simp only [Yio]
 by_cases h0 : s.Kind = 0
 ·
  rw [if_pos h0, if_pos h0]; congr 1; rw [Bool.eq_iff_iff]; simp
 ·
  rw [if_neg h0, if_neg h0]
  by_cases h1 : s.Kind = 1
  ·
   rw [if_pos h1, if_pos h1]
  ·
   rw [if_neg h1, if_neg h1]
   by_cases h2 : s.Kind = 2
   ·
    rw [decide_eq_true h2, Bool.true_and, if_pos h2]
   ·
    rw [decide_eq_false h2, Bool.false_and, if_neg h2]
theorem Xi4 (s : Xap) (hl : s.Levels.length ≤ 9223372036854775806) : Xd8 s = some (Xpm s) := by
 unfold Xd8 Xpm
 simp only [Xam, Xk8 _ hl, Xab, Xe5, Yd6]
 simp only [Yio]
 by_cases h0 : s.Kind = 0
 ·
  rw [if_pos h0, if_pos h0]; congr 1; rw [Bool.eq_iff_iff]; simp
 ·
  rw [if_neg h0, if_neg h0]
  by_cases h1 : s.Kind = 1
  ·
   rw [if_pos h1, if_pos h1]
  ·
   rw [if_neg h1, if_neg h1]
   by_cases h2 : s.Kind = 2
   ·
    rw [decide_eq_true h2, Bool.true_and, if_pos h2]
   ·
    rw [decide_eq_false h2, Bool.false_and, if_neg h2]
def Xlo (s : Xap) (c : Xd1) : Bool := !c.Key || s.Kind == 2
def sqL (s : Xap) (c : Xd1) : List Int :=
 (if c.Key = true then [] else ueL s.Kind.toNat) ++
 (if s.Kind = 1 then seL s.Dx ++ seL s.Dy ++ Yb5 s.Levels c else if s.Kind = 2 then ueL s.Mode.toNat ++ Yb5 s.Levels c else [])
theorem Xlp {s : Xap} (h : Xpm s = true) : 0 ≤ s.Kind ∧ s.Kind ≤ 2 := by
 unfold Xpm at h
 repeat' split at h
 all_goals first | omega | simp at h
theorem Xmf {s : Xap} (h : Xpm s = true) (h1 : s.Kind = 1) : (-16 ≤ s.Dx ∧ s.Dx ≤ 16) ∧ (-16 ≤ s.Dy ∧ s.Dy ≤ 16) ∧ Ydv s.Levels = true := by
 unfold Xpm at h
 rw [if_neg (by omega), if_pos h1] at h
 simp only [Bool.and_eq_true, decide_eq_true_eq] at h
 exact ⟨h.2.1, h.2.2.1, h.2.2.2⟩
theorem Xnt {s : Xap} (h : Xpm s = true) (h1 : s.Kind = 2) : (0 ≤ s.Mode ∧ s.Mode ≤ 3) ∧ Ydv s.Levels = true := by
 unfold Xpm at h
 rw [if_neg (by omega), if_neg (by omega), if_pos h1] at h
 simp only [Bool.and_eq_true, decide_eq_true_eq] at h
 exact ⟨h.1, h.2.2.2⟩
theorem Yiv (s : Xap) (c : Xd1) : Xto (sqL s c) := by
 unfold sqL
 refine Xb0 ?_ ?_
 ·
  split
  ·
   exact Xpr
  ·
   exact Xhk _
 ·
  split
  ·
   exact Xb0 (Xb0 (Xhk _) (Xhk _)) (Yfp _ _)
  ·
   split
   ·
    exact Xb0 (Xhk _) (Yfp _ _)
   ·
    exact Xpr
theorem Yiw {s : Xap} {c : Xd1} (h : Xpm s = true) : (sqL s c).length ≤ 5265 := by
 have hk := Xlp h
 have u := Xkx s.Kind.toNat (by omega)
 have e1 : (if c.Key = true then [] else ueL s.Kind.toNat).length ≤ 39 := by split; simp; exact u.1
 unfold sqL
 rw [List.length_append]
 by_cases h1 : s.Kind = 1
 ·
  obtain ⟨a, b, d⟩ := Xmf h h1
  have x := Xpg s.Dx (by omega)
  have y := Xpg s.Dy (by omega)
  have z := Xva (c := c) d
  rw [if_pos h1]; simp only [List.length_append]; omega
 ·
  by_cases h2 : s.Kind = 2
  ·
   obtain ⟨a, d⟩ := Xnt h h2
   have x := Xkx s.Mode.toNat (by omega)
   have z := Xva (c := c) d
   rw [if_neg h1, if_pos h2]; simp only [List.length_append]; omega
  ·
   rw [if_neg h1, if_neg h2]; simp only [List.length_nil]; omega
theorem Xr9 (s : Xap) (c : Xd1) (hl : s.Levels.length ≤ 9223372036854775806) : Xft s c = some (if (Xpm s && (Xdp c && Xlo s c)) = true then (strOfNums (sqL s c), true) else (⟨#[]⟩, false)) := by
 have hm : maxLen = 9223372036854775807 := rfl
 unfold Xft Xcw
 rw [Xi4 s hl, Xab, Xei, Xab, Ybu, Xab, Xab]
 by_cases hok : (Xpm s && (Xdp c && Xlo s c)) = true
 ·
  rw [if_pos hok]
  simp only [Bool.and_eq_true] at hok
  obtain ⟨h, hc, hlet⟩ := hok
  have hk := Xlp h
  have u := Xkx s.Kind.toNat (by omega)
  unfold Xlo at hlet
  rw [h, hc, Xa3, Xa3, hlet, Xab, Bool.not_true, Xax]
  have e1 : (sel (!c.Key) (bnd (Xj3 s.Kind) fun q6 => req ((([] : List Int).length + (Xaz q6).length) * 1 ≤ 140737488355328 ∧ ([] : List Int).length + (Xaz q6).length ≤ maxLen) <| some (([] : List Int) ++ (Xaz q6))) (some ([] : List Int))) = some (if c.Key = true then [] else ueL s.Kind.toNat) := by
   rw [show s.Kind = ((s.Kind.toNat : Nat) : Int) by omega, Xjr _ (by omega), Xab, Xki _ (Xea (Xhk _)), Xba (by simp only [List.length_nil]; omega), Int.toNat_natCast]
   cases c.Key <;> rfl
  rw [e1, Xab]
  have e2 : (if c.Key = true then [] else ueL s.Kind.toNat).length ≤ 39 := by split; simp; exact u.1
  unfold sqL
  generalize (if c.Key = true then [] else ueL s.Kind.toNat) = k at e2 ⊢
  by_cases h1 : s.Kind = 1
  ·
   obtain ⟨a, b, d⟩ := Xmf h h1
   have x := Xpg s.Dx (by omega)
   have y := Xpg s.Dy (by omega)
   have z := Xva (c := c) d
   rw [if_pos h1, Xbm (by simpa using h1), Xqf _ (by omega), Xab, Xqf _ (by omega), Xab]
   simp only
   rw [Xki (seL s.Dx) (Xea (Xhk _)), Xki (seL s.Dy) (Xea (Xhk _)), rqA, Xba (by rw [List.length_append]; omega), Xla _ c d, Xab, Xba (by simp only [List.length_append]; omega), Xab]
   simp only [List.append_assoc]
  ·
   rw [if_neg h1, Xbo (by simpa using h1)]
   by_cases h2 : s.Kind = 2
   ·
    obtain ⟨a, d⟩ := Xnt h h2
    have x := Xkx s.Mode.toNat (by omega)
    have z := Xva (c := c) d
    rw [if_pos h2, Xbm (by simpa using h2), show s.Mode = ((s.Mode.toNat : Nat) : Int) by omega, Xjr _ (by omega), Xab, Xki _ (Xea (Xhk _)), rqA, Xla _ c d, Xab, Xba (by simp only [List.length_append]; omega), Xab, Int.toNat_natCast]
    simp only [List.append_assoc]
   ·
    rw [if_neg h2, Xbo (by simpa using h2), Xab, List.append_nil]
 ·
  rw [if_neg hok]
  unfold Xlo at hok
  cases h1 : Xpm s <;> cases h2 : Xdp c <;> cases h3 : (!c.Key || s.Kind == 2) <;> simp_all [bnd, sel]
def Xfj : List Xap → Xd1 → List Int
 | [], _ => []
 | s :: r, c => sqL s c ++ Xfj r c
def Xu4 (l : List Xap) (c : Xd1) : Bool := l.all fun s => Xpm s && (Xdp c && Xlo s c)
theorem Xz7 : ∀ (l : List Xap) (c : Xd1), Xto (Xfj l c)
 | [], _ => Xpr
 | s :: r, c => Xb0 (Yiv s c) (Xz7 r c)
theorem Xz8 : ∀ {l : List Xap} {c : Xd1}, Xu4 l c = true → (Xfj l c).length ≤ 5265 * l.length
 | [], _, _ => by simp [Xfj]
 | s :: r, c, h => by
  unfold Xu4 at h
  rw [List.all_cons, Bool.and_eq_true, Bool.and_eq_true] at h
  have h1 := Yiw (c := c) h.1.1
  have h2 := Xz8 (l := r) (c := c) h.2
  rw [Xfj, List.length_append, List.length_cons]; omega
def Xxv (l : List Xap) (c : Xd1) : ByteArray × Bool := if (decide (1 ≤ l.length ∧ l.length ≤ 64) && Xu4 l c) = true then (strOfNums (Xfj l c), true) else (⟨#[]⟩, false)
theorem Xwj (l : List Xap) (c : Xd1) (hs : ∀ s ∈ l, s.Levels.length ≤ 9223372036854775806) : Xio l c = some (Xxv l c) := by
 have hm : maxLen = 9223372036854775807 := rfl
 unfold Xio Xxv
 rw [Xam, Xab, Ydo]
 by_cases hl : 1 ≤ l.length ∧ l.length ≤ 64
 ·
  rw [syA, decide_eq_true hl, Bool.true_and]
  have key : ∀ (r a : List Xap) (t : List Int), l = a ++ r → t.length ≤ 5265 * a.length → loop (Xds l c) ((a.length : Int), t) = some (if Xu4 r c = true then .out (t ++ Xfj r c) else .ret (⟨#[]⟩, false)) := by
   intro r
   induction r with
   | nil =>
    intro a t ha _
    rw [List.append_nil] at ha
    exact Xi6 (by unfold Xds; simp only; rw [Xar (by rw [ha]; omega), Xfj, List.append_nil]; rfl)
   | cons s r ih =>
    intro a t ha ht
    have hlen : a.length < l.length := by rw [ha]; simp
    have hx : l.getD a.length Xdd = s := by rw [ha]; exact Xpy a s _ r
    have hone : Xu4 (s :: r) c = ((Xpm s && (Xdp c && Xlo s c)) && Xu4 r c) := by unfold Xu4; rw [List.all_cons]
    have hrow := Xr9 s c (hs s (by rw [ha]; simp))
    rw [hone]
    cases e : (Xpm s && (Xdp c && Xlo s c)) with
    | true =>
     rw [e, if_pos rfl] at hrow
     have hok : Xpm s = true := by rw [Bool.and_eq_true] at e; exact e.1
     have g := Yiw (c := c) hok
     have hn := ih (a ++ [s]) (t ++ sqL s c) (by rw [ha]; simp) (by simp only [List.length_append, List.length_singleton]; omega)
     rw [List.length_append, List.length_singleton] at hn
     rw [Bool.true_and, Xfj, ← List.append_assoc, ← hn]
     refine Xer ?_
     unfold Xds
     simp only [Int.toNat_natCast, hx]
     rw [syA, rqA, show (⟨s.Kind, s.Mode, s.Dx, s.Dy, s.Levels⟩ : Xap) = s from rfl, hrow, Xab, Ydo, Xa3, Xki _ (Xea (Yiv _ _)), rqA, wkA]
     rfl
    | false =>
     rw [e, if_neg (by decide)] at hrow
     rw [Bool.false_and, if_neg (by decide)]
     refine Xi6 ?_
     unfold Xds
     simp only [Int.toNat_natCast, hx]
     rw [syA, rqA, show (⟨s.Kind, s.Mode, s.Dx, s.Dy, s.Levels⟩ : Xap) = s from rfl, hrow, Xab, Ydo, Xax]
  refine (Xgn (key l [] [] rfl (by simp))).trans ?_
  cases Xu4 l c <;> rfl
 ·
  rw [snA, decide_eq_false hl, Bool.false_and]; rfl
theorem Yal (b : ByteArray) (i : Int) : 0 ≤ Xx3 b i ∧ Xx3 b i ≤ 255 := by
 unfold Xx3
 split
 ·
  rename_i h
  have := (b[i.toNat]'h).toNat_lt
  omega
 ·
  omega
theorem Xa6 {p : Pic} (h : Xck p = true) : (1 ≤ p.Wide ∧ p.Wide ≤ 256) ∧ (1 ≤ p.High ∧ p.High ≤ 256) ∧ (p.Dots.size : Int) = p.Wide * p.High := by
 unfold Xck at h
 simp only [Bool.and_eq_true, decide_eq_true_eq, beq_iff_eq] at h
 exact ⟨h.1, h.2.1, h.2.2⟩
theorem Xvc {p : Pic} (h1 : 1 ≤ p.Wide ∧ p.Wide ≤ 256) (h2 : 1 ≤ p.High ∧ p.High ≤ 256) (h3 : (p.Dots.size : Int) = p.Wide * p.High) : Xck p = true := by
 unfold Xck
 simp only [Bool.and_eq_true, decide_eq_true_eq, beq_iff_eq]
 exact ⟨h1, h2, h3⟩
def Xf5 (p : Pic) (x y : Int) : Int := Xx3 p.Dots (Xbe y 0 (p.High - 1) * p.Wide + Xbe x 0 (p.Wide - 1))
theorem Xls (p : Pic) (x y : Int) : 0 ≤ Xf5 p x y ∧ Xf5 p x y ≤ 255 := Yal _ _
theorem Yci {p : Pic} (ok : Xck p = true) (x y : Int) : 0 ≤ Xbe y 0 (p.High - 1) * p.Wide + Xbe x 0 (p.Wide - 1) ∧ Xbe y 0 (p.High - 1) * p.Wide + Xbe x 0 (p.Wide - 1) < p.Dots.size ∧ 0 ≤ Xbe y 0 (p.High - 1) * p.Wide ∧ Xbe y 0 (p.High - 1) * p.Wide ≤ 65536 := by
 obtain ⟨h1, h2, h3⟩ := Xa6 ok
 have b1 := Xgb (n := y) (a := 0) (b := p.High - 1) (by omega)
 have b2 := Xgb (n := x) (a := 0) (b := p.Wide - 1) (by omega)
 have m1 := Int.mul_nonneg b1.1 (show 0 ≤ p.Wide by omega)
 have m2 := Int.mul_le_mul_of_nonneg_right b1.2 (show 0 ≤ p.Wide by omega)
 have m3 : (p.High - 1) * p.Wide = p.Wide * p.High - p.Wide := by rw [Int.sub_mul, Int.one_mul, Int.mul_comm]
 have m4 := (Xeg h1 h2).2
 omega
theorem Xwl {p : Pic} (ok : Xck p = true) (x y : Int) : Xc9 p x y = some (Xf5 p x y) := by
 obtain ⟨h1, h2, h3⟩ := Xa6 ok
 unfold Xc9 Xf5
 rw [Xgp, Xab, Xgp, Xab, wkA (e := p.High - 1), wkA (e := p.Wide - 1)]
 obtain ⟨p1, p2, p3, p4⟩ := Yci ok x y
 have b2 := Xgb (n := x) (a := 0) (b := p.Wide - 1) (by omega)
 have br := Yal p.Dots (Xbe y 0 (p.High - 1) * p.Wide + Xbe x 0 (p.Wide - 1))
 rw [wkA (e := Xbe y 0 (p.High - 1) * p.Wide), wkA (e := Xbe y 0 (p.High - 1) * p.Wide + Xbe x 0 (p.Wide - 1)), Xba ⟨p1, p2⟩, wkA]
theorem Xdc {p : Pic} (ok : Xck p = true) (x y : Int) : Xdw p x y = some (Xf5 p x y) := by
 obtain ⟨h1, h2, h3⟩ := Xa6 ok
 unfold Xdw Xf5
 rw [Xhb, Xab, ok, Bool.not_true, Xax, Xcy, Xab, Xcy, Xab, wkA (e := p.High - 1), wkA (e := p.Wide - 1)]
 obtain ⟨p1, p2, p3, p4⟩ := Yci ok x y
 have b2 := Xgb (n := x) (a := 0) (b := p.Wide - 1) (by omega)
 have br := Yal p.Dots (Xbe y 0 (p.High - 1) * p.Wide + Xbe x 0 (p.Wide - 1))
 rw [wkA (e := Xbe y 0 (p.High - 1) * p.Wide), wkA (e := Xbe y 0 (p.High - 1) * p.Wide + Xbe x 0 (p.Wide - 1)), Xba ⟨p1, p2⟩, wkA]
def Ygd (p : Pic) (x y : Int) (i : Nat) : Int := Xf5 p (x + ((i % 8 : Nat) : Int)) (y + ((i / 8 : Nat) : Int))
def Xyb (p : Pic) (x y : Int) (n : Nat) : List Int := (List.range n).map (Ygd p x y)
theorem Ycc (p : Pic) (x y : Int) (n : Nat) : Xyb p x y (n + 1) = Xyb p x y n ++ [Ygd p x y n] := by simp [Xyb, List.range_succ]
theorem Xow (p : Pic) (x y : Int) (n : Nat) : (Xyb p x y n).length = n := by simp [Xyb]
def Yjm (x : Int) : Bool := decide (0 ≤ x ∧ x ≤ 255)
def Xgc (l : List Int) : Bool := decide (l.length = 64) && l.all Yjm
theorem Xky {l : List Int} (h : Xgc l = true) : l.length = 64 ∧ ∀ i : Nat, i < 64 → 0 ≤ l.getD i 0 ∧ l.getD i 0 ≤ 255 := by
 simp only [Xgc, Bool.and_eq_true, decide_eq_true_eq] at h
 refine ⟨h.1, fun i hi => ?_⟩
 have := List.all_eq_true.1 h.2 (l.getD i 0) (by rw [Xct l i (by omega)]; exact List.getElem_mem _)
 simpa [Yjm] using this
theorem Xps (p : Pic) (x y : Int) : Xgc (Xyb p x y 64) = true := by
 simp only [Xgc, Xow, decide_true, Bool.true_and, List.all_eq_true]
 intro z hz
 obtain ⟨i, _, rfl⟩ := List.mem_map.1 hz
 simp only [Yjm, decide_eq_true_eq]
 exact Xls _ _ _
theorem Xm5 {p : Pic} (ok : Xck p = true) (x y : Int) (hx : -1000 ≤ x ∧ x ≤ 1000) (hy : -1000 ≤ y ∧ y ≤ 1000) : Xm4 p x y = some (Xyb p x y 64) := by
 have hm : maxLen = 9223372036854775807 := rfl
 unfold Xm4
 rw [Xhb, Xab, ok, Xa3, Xaj, Xab, syA, Xaj, Xab, Xab, decide_eq_true (by omega), Bool.not_true, Xax]
 have key : ∀ i : Nat, i ≤ 64 → loop (Xg8 p x y) ((i : Int), Xyb p x y i) = some (Xyb p x y 64) := by
  refine Xf6 _ ?_ ?_
  ·
   exact Xi6 (by unfold Xg8; rw [Xar (by simp)])
  ·
   intro i hi ih
   refine lgo (y := (((i + 1 : Nat) : Int), Xyb p x y (i + 1))) ?_ ih
   unfold Xg8
   simp only
   rw [syA, rqA, rqA, Xbz (by omega), Xbd (by omega), wkA (e := (i : Int) / 8), wkA (e := x + (i : Int) % 8), wkA (e := y + (i : Int) / 8), Xdc ok, Xab, Xba (by rw [Xow]; simp only [List.length_singleton]; omega), wkA (e := (i : Int) + 1)]
   have e2 : Xf5 p (x + (i : Int) % 8) (y + (i : Int) / 8) = Ygd p x y i := by unfold Ygd; congr 1
   rw [e2, ← Ycc]
   rfl
 have := key 0 (by omega)
 exact (Xgn this).trans rfl
theorem Xqr {p : Pic} (ok : Xck p = true) (x y : Int) (hx : -1000 ≤ x ∧ x ≤ 1000) (hy : -1000 ≤ y ∧ y ≤ 1000) : Xek p x y = some (Xyb p x y 64) := by
 have hm : maxLen = 9223372036854775807 := rfl
 unfold Xek
 rw [rqA]
 have key : ∀ r : Nat, r ≤ 8 → loop (Xc7 p x y) ((r : Int), Xyb p x y (8 * r)) = some (Xyb p x y 64) := by
  refine Xf6 _ ?_ ?_
  ·
   exact Xi6 (by unfold Xc7; rw [Xar (by simp)])
  ·
   intro r hr ih
   refine lgo (y := (((r + 1 : Nat) : Int), Xyb p x y (8 * (r + 1)))) ?_ ih
   unfold Xc7
   simp only
   have inner : ∀ c : Nat, c ≤ 8 → loop (Xc8 p x y ((r : Int), Xyb p x y (8 * r))) ((c : Int), Xyb p x y (8 * r + c)) = some (Xyb p x y (8 * (r + 1))) := by
    refine Xf6 _ ?_ ?_
    ·
     exact Xi6 (by unfold Xc8; rw [Xar (by simp)]; rfl)
    ·
     intro c hc ih2
     refine lgo (y := (((c + 1 : Nat) : Int), Xyb p x y (8 * r + (c + 1)))) ?_ ih2
     unfold Xc8
     simp only
     rw [syA, wkA (e := x + (c : Int)), wkA (e := y + (r : Int)), Xwl ok, Xab, Xba (by rw [Xow]; simp only [List.length_singleton]; omega), wkA (e := (c : Int) + 1)]
     have e2 : Xf5 p (x + (c : Int)) (y + (r : Int)) = Ygd p x y (8 * r + c) := by
      unfold Ygd
      rw [show (8 * r + c) % 8 = c by omega, show (8 * r + c) / 8 = r by omega]
     rw [e2, ← Ycc]
     rfl
   have i0 := inner 0 (by omega)
   rw [syA]
   refine (Xgn i0).trans ?_
   rw [wkA (e := (r : Int) + 1)]
   rfl
 have := key 0 (by omega)
 exact (Xgn this).trans rfl
theorem Xwk (l : List Int) (hl : l.length ≤ 9223372036854775806) : Xcs l 64 0 255 = some (Xgc l) := by
 rw [Xje l _ _ _ hl]
 have : ((l.length : Int) == 64) = decide (l.length = 64) := by rw [Bool.eq_iff_iff]; simp only [beq_iff_eq, decide_eq_true_eq]; omega
 rw [this, Bool.and_comm]
 rfl
def Yns (d : Int) : Int := ((seL d).length : Int)
theorem Yin : Yns 0 = 1 := by
 have : Xyd 0 = 0 := by simp [Xyd]
 unfold Yns seL ueL
 rw [this, List.length_append, Yaj]
 simp [Xnk]
theorem Xxo (c : Xaq) (n : Int) (hc : Xew c) (h0 : 0 ≤ n) (h1 : n ≤ 100000) : ∃ s c', Xix c n = some (s, c') ∧ (s.size : Int) = n ∧ Xew c' := by
 have hm : maxLen = 9223372036854775807 := rfl
 unfold Xix
 obtain ⟨z, c0, ez, z0, z1, hz⟩ := Xdz c hc
 rw [ez, Xab]
 simp only
 obtain ⟨o, h, h2, h3⟩ := Xq7 (f := Xhg n) (fun v => (0 ≤ v.1 ∧ v.1 ≤ 255) ∧ 0 ≤ v.2.1 ∧ v.2.1 ≤ n ∧ Xew ⟨v.2.2.1, v.2.2.2.1, v.2.2.2.2.1⟩ ∧ (v.2.2.2.2.2.length : Int) = v.2.1) (fun v => (n - v.2.1).toNat) (fun _ o => (o.1.length : Int) = n ∧ Xew ⟨o.2.1, o.2.2.1, o.2.2.2⟩) (by
  intro ⟨w, i, b, j, h, l⟩ ⟨hw, h1, h2, h3, h4⟩
  unfold Xhg
  simp only at hw h1 h2 h3 h4 ⊢
  by_cases hi : i < n
  ·
   rw [Xdi hi]
   obtain ⟨x, c', ex, x0, x1, _, hx⟩ := Xao _ 6 h3
   rw [ex, Xab]
   simp only
   have step : ∃ w' c2, (sel (x == 0) (bnd (Xbx c') fun q16 => some (q16.1, q16.2.b_, q16.2.i_, q16.2.h_)) (sel (x == 1) (bnd (Xal c' 9) fun q17 => some ((IntKind.wrap .i64 (BitVec.ofInt (IntKind.bits .i64) (Xaa .i64 ((Xaa .i64 (w + q17.1)) + 252)) &&& BitVec.ofInt (IntKind.bits .i64) 255).toNat), q17.2.b_, q17.2.i_, q17.2.h_)) (some (w, c'.b_, c'.i_, c'.h_)))) = some (w', c2.b_, c2.i_, c2.h_) ∧ (0 ≤ w' ∧ w' ≤ 255) ∧ Xew c2 := by
    cases e0 : (x == 0) with
    | true =>
     obtain ⟨y, c2, ey, y0, y1, hy⟩ := Xdz c' hx
     rw [Xa3, ey, Xab]
     exact ⟨y, c2, rfl, ⟨y0, y1⟩, hy⟩
    | false =>
     rw [Xax]
     cases e1 : (x == 1) with
     | true =>
      obtain ⟨y, c2, ey, y0, y1, _, hy⟩ := Xao c' 9 hx
      rw [Xa3, ey, Xab]
      exact ⟨_, c2, rfl, Xvm _, hy⟩
     | false => rw [Xax]; exact ⟨w, c', rfl, hw, hx⟩
   obtain ⟨w', c2, es, hw', hc2⟩ := step
   rw [es, Xab, Xba (by rw [hm]; simp only [List.length_singleton]; omega)]
   refine .inr ⟨_, rfl, ?_, ?_, fun _ h => h⟩
   ·
    simp only
    rw [wkA (e := i + 1)]
    exact ⟨hw', by omega, by omega, hc2, by simp; omega⟩
   ·
    simp only; rw [wkA (e := i + 1)]; omega
  ·
   rw [Xar hi]
   exact .inl ⟨_, rfl, by simp only; omega, h3⟩) (z, 0, c0.b_, c0.i_, c0.h_, []) ⟨⟨z0, z1⟩, by simp, h0, hz, by simp⟩
 rw [h, Xab]
 exact ⟨_, _, rfl, by rw [strOfNums_size]; exact h2, h3⟩
theorem Xuz (c : Xaq) (w h : Int) (hc : Xew c) (hw : 1 ≤ w ∧ w ≤ 256) (hh : 1 ≤ h ∧ h ≤ 256) : ∃ p c', Xhh c w h = some (p, c') ∧ p.Wide = w ∧ p.High = h ∧ Xck p = true ∧ Xew c' := by
 have a := Xeg hw hh
 unfold Xhh
 rw [wkA (e := w * h)]
 obtain ⟨s, c', e, hs, hc'⟩ := Xxo c (w * h) hc (by omega) (by omega)
 rw [e, Xab]
 exact ⟨_, _, rfl, rfl, rfl, Xvc hw hh hs, hc'⟩
def Xij (p : Pic) (x y : Int) : Bool := decide (0 ≤ x ∧ x ≤ p.Wide - 8 ∧ 0 ≤ y ∧ y ≤ p.High - 8)
theorem Xt6 {p : Pic} (ok : Xck p = true) (x y : Int) (hx : x.tmod 8 = 0) (hy : y.tmod 8 = 0) (h : Xij p x y = true) : Xb2 p x y = some true := by
 obtain ⟨k1, k2, k3⟩ := Xa6 ok
 unfold Xij at h
 rw [decide_eq_true_eq] at h
 unfold Xb2
 rw [rqA, hx, rqA, hy, wkA (e := p.Wide - 8), wkA (e := p.High - 8), Xam, Xab, Xam, Xab, decide_eq_true (by omega), decide_eq_true (by omega)]
 rfl
def rd (x : List Int) (i : Int) : Int := x.getD i.toNat 0
theorem Xs3 (s : ByteArray) : strOfNums (Xaz s) = s := by
 apply ByteArray.ext
 apply Array.ext'
 simp only [strOfNums, Xaz, List.map_map]
 conv => rhs; rw [← List.map_id s.data.toList]
 refine List.map_congr_left fun c _ => ?_
 simp
def inB (B : Int) (l : List Int) : Prop := ∀ x ∈ l, -B ≤ x ∧ x ≤ B
theorem Xjf {B C : Int} {l : List Int} (h : inB B l) (hc : B ≤ C) : inB C l := fun x hx => by have := h x hx; omega
theorem Xsh {B : Int} {a b : List Int} (ha : inB B a) (hb : inB B b) : inB B (a ++ b) := fun x hx => (List.mem_append.1 hx).elim (ha x) (hb x)
theorem Yei (B : Int) : inB B [] := fun x hx => by simp at hx
theorem Yht {B x : Int} (h : -B ≤ x ∧ x ≤ B) : inB B [x] := fun y hy => by rw [List.mem_singleton.1 hy]; exact h
theorem Ya7 {B : Int} {l : List Int} (h : inB B l) (i : Nat) {y : Int} (hy : -B ≤ y ∧ y ≤ B) : inB B (l.set i y) := fun x hx => by
 rcases List.mem_or_eq_of_mem_set hx with hx | hx
 ·
  exact h x hx
 ·
  rw [hx]; exact hy
theorem Xww (n : Nat) {B : Int} (h : 0 ≤ B) : inB B (List.replicate n 0) := fun x hx => by rw [List.eq_of_mem_replicate hx]; omega
theorem Xhl {B : Int} {l : List Int} (h : inB B l) {i : Nat} (hi : i < l.length) : -B ≤ l.getD i 0 ∧ l.getD i 0 ≤ B := h _ (by rw [Xct l i hi]; exact List.getElem_mem _)
theorem Ya8 {B : Int} {l : List Int} (h : inB B l) (n : Nat) : inB B (l.take n) := fun x hx => h x (List.mem_of_mem_take hx)
theorem Ya6 {B : Int} {l : List Int} (h : inB B l) (n : Nat) : inB B (l.drop n) := fun x hx => h x (List.mem_of_mem_drop hx)
theorem Xc2 {S : Type} {f : Int × S → Option (Lp (Int × S) S)} (n : Nat) (I : Nat → S → Prop) (hs : ∀ (i : Nat) (l : S), i < n → I i l → ∃ l', f ((i : Int), l) = some (.go (((i + 1 : Nat) : Int), l')) ∧ I (i + 1) l') (he : ∀ l, f ((n : Int), l) = some (.done l)) (l0 : S) (h0 : I 0 l0) : ∃ o, loop f (0, l0) = some o ∧ I n o := by
 have key : ∀ i : Nat, i ≤ n → ∀ l, I i l → ∃ o, loop f ((i : Int), l) = some o ∧ I n o := by
  refine Xf6 _ ?_ ?_
  ·
   intro l h; exact ⟨l, Xi6 (he l), h⟩
  ·
   intro i hi ih l h
   obtain ⟨l', e, h'⟩ := hs i l hi h
   obtain ⟨o, e2, h2⟩ := ih l' h'
   exact ⟨o, lgo e e2, h2⟩
 exact key 0 (by omega) l0 h0
theorem Xh7 {S : Type} {f : S × Int → Option (Lp (S × Int) S)} (n : Nat) (I : Nat → S → Prop) (hs : ∀ (i : Nat) (l : S), i < n → I i l → ∃ l', f (l, (i : Int)) = some (.go (l', ((i + 1 : Nat) : Int))) ∧ I (i + 1) l') (he : ∀ l, f (l, (n : Int)) = some (.done l)) (l0 : S) (h0 : I 0 l0) : ∃ o, loop f (l0, 0) = some o ∧ I n o := by
 have key : ∀ i : Nat, i ≤ n → ∀ l, I i l → ∃ o, loop f (l, (i : Int)) = some o ∧ I n o := by
  refine Xf6 _ ?_ ?_
  ·
   intro l h; exact ⟨l, Xi6 (he l), h⟩
  ·
   intro i hi ih l h
   obtain ⟨l', e, h'⟩ := hs i l hi h
   obtain ⟨o, e2, h2⟩ := ih l' h'
   exact ⟨o, lgo e e2, h2⟩
 exact key 0 (by omega) l0 h0
theorem Xde (l : List Int) (i j : Nat) (y : Int) (hi : i < l.length) : (l.set i y).getD j 0 = if i = j then y else l.getD j 0 := by
 rw [List.getD_eq_getElem?_getD, List.getElem?_set, List.getD_eq_getElem?_getD]
 by_cases h : i = j
 ·
  subst h; rw [if_pos rfl, if_pos rfl, if_pos hi]; rfl
 ·
  rw [if_neg h, if_neg h]
theorem Xjg {f : Int × List Int → Option (Lp (Int × List Int) (List Int))} (n : Nat) (P Q : Int → Prop) (hs : ∀ (i : Nat) (l : List Int), i < n → l.length = n → P (l.getD i 0) → ∃ y, f ((i : Int), l) = some (.go (((i + 1 : Nat) : Int), l.set i y)) ∧ Q y) (he : ∀ l, f ((n : Int), l) = some (.done l)) (l0 : List Int) (h0 : l0.length = n) (hb : ∀ x ∈ l0, P x) : ∃ o, loop f (0, l0) = some o ∧ o.length = n ∧ ∀ x ∈ o, Q x := by
 obtain ⟨o, e, h1, h2, _⟩ := Xc2 (f := f) n (fun i l => l.length = n ∧ (∀ j, j < i → Q (l.getD j 0)) ∧ ∀ j, i ≤ j → j < n → P (l.getD j 0)) (by
  intro i l hi ⟨g1, g2, g3⟩
  obtain ⟨y, e, hy⟩ := hs i l hi g1 (g3 i (Nat.le_refl _) hi)
  refine ⟨_, e, by rw [List.length_set]; exact g1, fun j hj => ?_, fun j hj hj2 => ?_⟩
  ·
   rw [Xde l i j y (by omega)]
   by_cases h : i = j
   ·
    rw [if_pos h]; exact hy
   ·
    rw [if_neg h]; exact g2 j (by omega)
  ·
   rw [Xde l i j y (by omega), if_neg (by omega)]; exact g3 j (by omega) hj2) he l0 ⟨h0, fun j hj => by omega, fun j _ hj => hb _ (by rw [Xct l0 j (by omega)]; exact List.getElem_mem _)⟩
 refine ⟨o, e, h1, fun x hx => ?_⟩
 obtain ⟨j, hj, rfl⟩ := List.getElem_of_mem hx
 have := h2 j (by omega)
 rwa [Xct o j hj] at this
theorem Xc3 (l : List Int) (n B : Int) (hn : (l.length : Int) = n) (hn2 : n ≤ 1000000) (hB : 0 ≤ B ∧ B ≤ 100000000) (h : inB B l) : Xdl l n B = some true := by
 unfold Xdl
 rw [Xbo (by simp only [bne_eq_false_iff_eq]; exact hn), Xrd l.length (f := Xdm l n B) (by
  intro i hi
  have := Xhl h hi
  unfold Xdm
  rw [syA, rqA, wkA (e := 0 - B), Xaj, Xab, Int.toNat_natCast, decide_eq_true (by omega), Bool.not_true, Xax, wkA]
  rfl) (by unfold Xdm; rw [snA]), Xab]
def Xrc (n i : Int) (v17 : Int × Int) : Option (Lp (Int × Int) (Ou Unit Int)) :=
 sel (decide (v17.2 ≤ (Xaa .i64 ((Xaa .i64 (2 * n)) - 2)))) (
 bnd (it (Xnc n i v17) 20 (v17.1, 0)) fun o47 => match o47 with
 | .out v43 => (
 some (.go (v43, Xaa .i64 (v17.2 + 1))))
 | .ret r => some (.done (.ret r))) (
 some (.done (.out ())))
theorem Ydm {n i : Int} {v : Int × Int} {x : Lp (Int × Int) (Ou Unit Int)} (h : Xrc n i v = some x) : Xj5 n i v = some x := by
 unfold Xrc at h
 unfold Xj5
 rcases Xmb h with ⟨hb, h⟩ | ⟨hb, h⟩
 ·
  rw [hb, Xa3]
  obtain ⟨a, h1, h2⟩ := Xcf h
  rw [Xfm.2 ⟨20, h1⟩, Xab]
  exact h2
 ·
  rw [hb, Xax]; exact h
theorem Yjz {V O : Type} {f g : V → Option (Lp V O)} (hf : ∀ v y, f v = some y → g v = some y) {o : O} : ∀ (k : Nat) (v : V), it f k v = some o → it g k v = some o
 | 0, v, h => by cases h
 | k + 1, v, h => by
  rw [it] at h ⊢
  cases e : f v with
  | none => rw [e] at h; cases h
  | some s =>
   rw [e] at h
   rw [hf v s e]
   cases s with
   | go y => exact Yjz hf k y h
   | done o' => exact h
def Xe4 (n i : Int) : Int := match it (Xrc n i) 20 (0, 0) with | some (.ret q) => q | _ => -1
theorem Yka : ∀ i : Fin 16, (0 ≤ Xe4 4 (i.val : Int) ∧ Xe4 4 (i.val : Int) < 16) := by decide +kernel
theorem Ykb : ∀ i : Fin 64, (0 ≤ Xe4 8 (i.val : Int) ∧ Xe4 8 (i.val : Int) < 64) := by decide +kernel
theorem Xkl (n : Int) (hn : n = 4 ∨ n = 8) (i : Nat) (hi : (i : Int) < n * n) : 0 ≤ Xe4 n i ∧ Xe4 n i < n * n := by
 rcases hn with rfl | rfl
 ·
  exact Yka ⟨i, by omega⟩
 ·
  exact Ykb ⟨i, by omega⟩
theorem Xku (n : Int) (hn : n = 4 ∨ n = 8) (i : Nat) (hi : (i : Int) < n * n) : Xph n i = some (Xe4 n i) := by
 have hp := Xkl n hn i hi
 unfold Xph
 have hw : Xaa .i64 (n * n) = n * n := by rcases hn with rfl | rfl <;> exact wkA
 have hc : (sel (n != 4) (sel (n != 8) (some true) (sel (decide ((i : Int) < 0)) (some true) (some (decide ((i : Int) ≥ (Xaa .i64 (n * n))))))) (sel (decide ((i : Int) < 0)) (some true) (some (decide ((i : Int) ≥ (Xaa .i64 (n * n))))))) = some false := by
  rw [hw, Xar (show ¬ (i : Int) < 0 by omega), decide_eq_false (show ¬ (i : Int) ≥ n * n by omega)]
  rcases hn with rfl | rfl <;> rfl
 rw [hc, Xab, Xax]
 unfold Xe4 at hp ⊢
 cases e : it (Xrc n i) 20 (0, 0) with
 | none => rw [e] at hp; simp only at hp; omega
 | some s =>
  rw [e] at hp
  have h := Yjz (fun v y => Ydm (n := n) (i := i)) 20 _ e
  rw [Xfm.2 ⟨20, h⟩, Xab]
  cases s with
  | out u => simp only at hp; omega
  | ret q => rfl
theorem Xbn (n : Int) (hn : n = 4 ∨ n = 8) (l : List Int) (B : Int) (hB : 0 ≤ B) (hl : (l.length : Int) = n * n) (hb : inB B l) : ∃ o, Xdk n l = some (o, true) ∧ o.length = l.length ∧ inB B o := by
 have hm : maxLen = 9223372036854775807 := rfl
 have hw : Xaa .i64 (n * n) = n * n := by rcases hn with rfl | rfl <;> exact wkA
 have hl2 : l.length ≤ 64 := by rcases hn with rfl | rfl <;> omega
 unfold Xdk
 have hc : (sel (n != 4) (sel (n != 8) (some true) (some ((l.length : Int) != (Xaa .i64 (n * n))))) (some ((l.length : Int) != (Xaa .i64 (n * n))))) = some false := by
  rw [hw, hl, bne_self_eq_false]
  rcases hn with rfl | rfl <;> rfl
 rw [hc, Xab, Xax, rqA, Int.toNat_natCast]
 obtain ⟨o, e, h1, h2⟩ := Xc2 (f := Xb7 n l) l.length (fun i s => s.length = l.length ∧ inB B s) (by
  intro i s hi ⟨g1, g2⟩
  have hp := Xkl n hn i (by omega)
  have ha := Xhl hb hi
  unfold Xb7
  simp only
  rw [hw, syA, Xku n hn i (by omega), Xab, rqA, rqA, rqA, wkA, Int.toNat_natCast]
  exact ⟨_, rfl, by rw [List.length_set]; exact g1, Ya7 g2 _ ha⟩) (by intro s; unfold Xb7; simp only; rw [hw, snA]) (List.replicate l.length 0) ⟨List.length_replicate, Xww _ hB⟩
 exact ⟨o, (Xgn e).trans rfl, h1, h2⟩
def Xfw (u v : Int) : Int := match it Xif 10 (1, (IntKind.wrap .i64 (BitVec.ofInt (IntKind.bits .i64) u &&& BitVec.ofInt (IntKind.bits .i64) v).toNat)) with | some q => q | none => 7
theorem Xxg : ∀ u v : Fin 8, (-1 ≤ Xfw (u.val : Int) (v.val : Int) ∧ Xfw (u.val : Int) (v.val : Int) ≤ 1) := by decide +kernel
theorem Xom (u v : Nat) (hu : u < 8) (hv : v < 8) : ∃ s, Xh3 u v = some s ∧ -1 ≤ s ∧ s ≤ 1 := by
 have h := Xxg ⟨u, hu⟩ ⟨v, hv⟩
 simp only at h
 unfold Xh3
 rw [Xaj, Xab, decide_eq_true (by omega), Xa3, Xaj, Xab, decide_eq_true (by omega), Bool.not_true, Xab, Xax]
 unfold Xfw at h
 cases e : it Xif 10 (1, (IntKind.wrap .i64 (BitVec.ofInt (IntKind.bits .i64) (u : Int) &&& BitVec.ofInt (IntKind.bits .i64) (v : Int)).toNat)) with
 | none => rw [e] at h; simp only at h; omega
 | some q =>
  rw [e] at h
  rw [Xfm.2 ⟨10, e⟩, Xab]
  exact ⟨q, rfl, h⟩
def Xmg (qp : Int) : Int := if qp.tmod 6 = 0 then 10 else if qp.tmod 6 = 1 then 11 else if qp.tmod 6 = 2 then 13 else if qp.tmod 6 = 3 then 14 else if qp.tmod 6 = 4 then 16 else 18
def Xka (qp : Int) : Int := match it (Xig qp) 10 (Xmg qp, 0) with | some q => q | none => 0
theorem Yiy : ∀ q : Fin 41, (10 ≤ Xka (q.val : Int) ∧ Xka (q.val : Int) ≤ 1152) := by decide +kernel
theorem Xon (qp : Int) (h0 : 0 ≤ qp ∧ qp ≤ 40) : ∃ s, Xf8 qp = some s ∧ 10 ≤ s ∧ s ≤ 1152 := by
 have h := Yiy ⟨qp.toNat, by omega⟩
 simp only at h
 rw [show ((qp.toNat : Nat) : Int) = qp by omega] at h
 unfold Xf8
 rw [Xaj, Xab, decide_eq_true (by omega), Bool.not_true, Xax, rqA]
 have hb : (sel ((qp.tmod 6) == 0) (some (10 : Int)) (sel ((qp.tmod 6) == 1) (some 11) (sel ((qp.tmod 6) == 2) (some 13) (sel ((qp.tmod 6) == 3) (some 14) (sel ((qp.tmod 6) == 4) (some 16) (some 18)))))) = some (Xmg qp) := by
  unfold Xmg
  simp only [Ybt, beq_iff_eq]
  repeat' split
  all_goals rfl
 rw [hb, Xab]
 unfold Xka at h
 cases e : it (Xig qp) 10 (Xmg qp, 0) with
 | none => rw [e] at h; simp only at h; omega
 | some q =>
  rw [e] at h
  rw [Xfm.2 ⟨10, e⟩, Xab]
  exact ⟨q, rfl, h⟩
theorem Xok (p : Int) (h : 0 ≤ p ∧ p ≤ 15) : ∃ k, Xmd p = some k ∧ 0 ≤ k ∧ k ≤ 2 := by
 unfold Xmd
 rw [Xaj, Xab, decide_eq_true h, Bool.not_true, Xax, rqA, rqA, rqA, rqA, Xe5, Xab]
 cases ((Xaa .i64 (p.tdiv 4)).tmod 2 == 0 && (p.tmod 4).tmod 2 == 0) with
 | true => exact ⟨0, rfl, by omega, by omega⟩
 | false =>
  rw [Xax, Xe5, Xab]
  cases ((Xaa .i64 (p.tdiv 4)).tmod 2 == 1 && (p.tmod 4).tmod 2 == 1) with
  | true => exact ⟨1, rfl, by omega, by omega⟩
  | false => exact ⟨2, rfl, by omega, by omega⟩
theorem Xa8 (k a b c : Int) : ∃ x, Xbi k a b c = some x ∧ (x = a ∨ x = b ∨ x = c) := by
 unfold Xbi
 cases (k == 0) with
 | true => exact ⟨a, rfl, Or.inl rfl⟩
 | false =>
  cases (k == 1) with
  | true => exact ⟨b, rfl, Or.inr (Or.inl rfl)⟩
  | false => exact ⟨c, rfl, Or.inr (Or.inr rfl)⟩
theorem Ygr (qp : Int) (h0 : 0 ≤ qp ∧ qp ≤ 40) (x : Int) (hx : 0 ≤ x ∧ x ≤ 29) : ∃ o, loop (Xdy qp) (x, 0) = some o ∧ 0 ≤ o ∧ o ≤ 1856 := by
 obtain ⟨o, e, h1, h2⟩ := Xh7 (f := Xdy qp) (qp / 6).toNat (fun i s => 0 ≤ s ∧ s ≤ 29 * 2 ^ i) (by
  intro i s hi ⟨g1, g2⟩
  have h6 : (2 : Int) ^ i ≤ 64 := by
   have : i ≤ 6 := by omega
   obtain rfl | rfl | rfl | rfl | rfl | rfl | rfl : i = 0 ∨ i = 1 ∨ i = 2 ∨ i = 3 ∨ i = 4 ∨ i = 5 ∨ i = 6 := by omega
   all_goals decide
  have h7 : (2 : Int) ^ (i + 1) = 2 * 2 ^ i := by rw [Int.pow_succ, Int.mul_comm]
  unfold Xdy
  simp only
  rw [rqA, Xbd (by omega), wkA (e := qp / 6), syA, wkA (e := 2 * s), wkA (e := (i : Int) + 1)]
  exact ⟨_, rfl, by omega, by rw [h7]; omega⟩) (by intro s; unfold Xdy; simp only; rw [rqA, Xbd (by omega), wkA (e := qp / 6), snA]) x ⟨hx.1, by simp; omega⟩
 have h6 : (2 : Int) ^ (qp / 6).toNat ≤ 64 := by
  generalize hi : (qp / 6).toNat = i
  obtain rfl | rfl | rfl | rfl | rfl | rfl | rfl : i = 0 ∨ i = 1 ∨ i = 2 ∨ i = 3 ∨ i = 4 ∨ i = 5 ∨ i = 6 := by omega
  all_goals decide
 exact ⟨o, e, h1, by omega⟩
theorem Xnb (qp p : Int) (h0 : 0 ≤ qp ∧ qp ≤ 40) (hp : 0 ≤ p ∧ p ≤ 15) : ∃ s, Xiu qp p = some s ∧ 0 ≤ s ∧ s ≤ 1856 := by
 unfold Xiu
 obtain ⟨k, e, k0, k1⟩ := Xok p hp
 rw [e, Xab, Xaj, Xab, decide_eq_true h0, Xa3, decide_eq_false (by omega), Xab, Xax, rqA]
 obtain ⟨a1, e1, b1⟩ := Xa8 k 10 16 13
 obtain ⟨a2, e2, b2⟩ := Xa8 k 11 18 14
 obtain ⟨a3, e3, b3⟩ := Xa8 k 13 20 16
 obtain ⟨a4, e4, b4⟩ := Xa8 k 14 23 18
 obtain ⟨a5, e5, b5⟩ := Xa8 k 16 25 20
 obtain ⟨a6, e6, b6⟩ := Xa8 k 18 29 23
 rw [e1, e2, e3, e4, e5, e6]
 simp only [Xab, Yip]
 obtain ⟨o, eo, o1, o2⟩ := Ygr qp h0 (sel (qp.tmod 6 == 0) a1 (sel (qp.tmod 6 == 1) a2 (sel (qp.tmod 6 == 2) a3 (sel (qp.tmod 6 == 3) a4 (sel (qp.tmod 6 == 4) a5 (sel (qp.tmod 6 == 5) a6 0)))))) (by
  simp only [Ybt]
  repeat' split
  all_goals omega)
 exact ⟨o, (Xgn eo).trans rfl, o1, o2⟩
theorem Xq8 {a s B : Int} (ha : -B ≤ a ∧ a ≤ B) (hs : -1 ≤ s ∧ s ≤ 1) : (-B ≤ a * s ∧ a * s ≤ B) ∧ (-B ≤ s * a ∧ s * a ≤ B) := by
 obtain rfl | rfl | rfl : s = -1 ∨ s = 0 ∨ s = 1 := by omega
 all_goals omega
theorem Xzf (p : List Int) (B : Int) (hB : 0 ≤ B ∧ B ≤ 1000000000000) (hl : p.length = 64) (hb : inB B p) (i v : Nat) (hi : i < 8) (hv : v < 8) : ∃ o, Xj8 p i v = some o ∧ -(8 * B) ≤ o ∧ o ≤ 8 * B := by
 unfold Xj8
 obtain ⟨o, e, h1, h2⟩ := Xh7 (f := Xdn p i v) 8 (fun k s => -(B * k) ≤ s ∧ s ≤ B * k) (by
  intro k s hk ⟨g1, g2⟩
  obtain ⟨q, eq, q0, q1⟩ := Xom v k hv hk
  have ha := Xhl hb (i := 8 * i + k) (by omega)
  have hm := (Xq8 ha ⟨q0, q1⟩).1
  have hk8 : B * k ≤ B * 8 := Int.mul_le_mul_of_nonneg_left (by omega) hB.1
  have hk0 : B * ((k + 1 : Nat) : Int) = B * k + B := by rw [Int.natCast_add, Int.mul_add]; simp
  unfold Xdn
  simp only
  rw [syA, wkA (e := 8 * (i : Int)), wkA (e := 8 * (i : Int) + (k : Int)), rqA, eq, Xab, show (8 * (i : Int) + (k : Int)).toNat = 8 * i + k by omega, wkA (e := p.getD (8 * i + k) 0 * q), wkA (e := s + p.getD (8 * i + k) 0 * q), wkA (e := (k : Int) + 1)]
  exact ⟨_, rfl, by rw [hk0]; omega, by rw [hk0]; omega⟩) (by intro s; unfold Xdn; rw [Xar (by simp)]) 0 (by simp)
 exact ⟨o, (Xgn e).trans rfl, by omega, by omega⟩
theorem Xng (p : List Int) (B : Int) (hB : 0 ≤ B ∧ B ≤ 10000000000) (hl : p.length = 64) (hb : inB B p) : ∃ o, Xiw p = some o ∧ o.length = 64 ∧ inB (64 * B) o := by
 have hm : maxLen = 9223372036854775807 := rfl
 unfold Xiw
 obtain ⟨h, eh, hh1, hh2⟩ := Xc2 (f := Xci p) 8 (fun i s => s.length = 8 * i ∧ inB (8 * B) s) (by
  intro i s hi ⟨g1, g2⟩
  obtain ⟨t, et, t1, t2⟩ := Xc2 (f := Xcj p ((i : Int), s)) 8 (fun v s => s.length = 8 * i + v ∧ inB (8 * B) s) (by
   intro v s hv ⟨g1, g2⟩
   obtain ⟨r, er, r1, r2⟩ := Xzf p B ⟨hB.1, by omega⟩ hl hb i v hi hv
   unfold Xcj
   simp only
   rw [syA, er, Xab, Xba (by simp only [List.length_singleton]; omega), wkA (e := (v : Int) + 1)]
   exact ⟨_, rfl, by simp; omega, Xsh g2 (Yht ⟨by omega, r2⟩)⟩) (by intro s; unfold Xcj; rw [Xar (by simp)]) s ⟨by omega, g2⟩
  unfold Xci
  simp only
  rw [syA, et, Xab, wkA (e := (i : Int) + 1)]
  exact ⟨_, rfl, by omega, t2⟩) (by intro s; unfold Xci; rw [Xar (by simp)]) [] ⟨rfl, Yei _⟩
 rw [eh, Xab]
 obtain ⟨o, eo, o1, o2⟩ := Xc2 (f := Xb8 h) 8 (fun i s => s.length = 8 * i ∧ inB (64 * B) s) (by
  intro i s hi ⟨g1, g2⟩
  obtain ⟨t, et, t1, t2⟩ := Xc2 (f := Xb9 h ((i : Int), s)) 8 (fun v s => s.length = 8 * i + v ∧ inB (64 * B) s) (by
   intro v r hv ⟨g1, g2⟩
   obtain ⟨a, ea, a1, a2⟩ := Xh7 (f := Xca h ((i : Int), s) ((v : Int), r)) 8 (fun k s => -(8 * B * k) ≤ s ∧ s ≤ 8 * B * k) (by
    intro k c hk ⟨g1, g2⟩
    obtain ⟨q, eq, q0, q1⟩ := Xom i k hi hk
    have ha := Xhl hh2 (i := 8 * k + v) (by omega)
    have hm := (Xq8 ha ⟨q0, q1⟩).2
    have hk8 : 8 * B * k ≤ 8 * B * 8 := Int.mul_le_mul_of_nonneg_left (by omega) (by omega)
    have hk0 : 8 * B * ((k + 1 : Nat) : Int) = 8 * B * k + 8 * B := by rw [Int.natCast_add, Int.mul_add]; simp
    unfold Xca
    simp only
    rw [syA, eq, Xab, wkA (e := 8 * (k : Int)), wkA (e := 8 * (k : Int) + (v : Int)), rqA, rqA, show (8 * (k : Int) + (v : Int)).toNat = 8 * k + v by omega, wkA (e := q * h.getD (8 * k + v) 0), wkA (e := c + q * h.getD (8 * k + v) 0), wkA (e := (k : Int) + 1)]
    exact ⟨_, rfl, by rw [hk0]; omega, by rw [hk0]; omega⟩) (by intro s; unfold Xca; rw [Xar (by simp)]) 0 (by simp)
   unfold Xb9
   simp only
   rw [syA, ea, Xab, Xba (by simp only [List.length_singleton]; omega), wkA (e := (v : Int) + 1)]
   exact ⟨_, rfl, by simp; omega, Xsh g2 (Yht ⟨by omega, by omega⟩)⟩) (by intro s; unfold Xb9; rw [Xar (by simp)]) s ⟨by omega, g2⟩
  unfold Xb8
  simp only
  rw [syA, et, Xab, wkA (e := (i : Int) + 1)]
  exact ⟨_, rfl, by omega, t2⟩) (by intro s; unfold Xb8; rw [Xar (by simp)]) [] ⟨rfl, Yei _⟩
 exact ⟨o, (Xgn eo).trans rfl, by omega, o2⟩
theorem Xd0 (a b : Int) (ha : -1000000000000 ≤ a ∧ a ≤ 1000000000000) (hb : b = 2 ∨ b = 64) : ∃ d, Xcp a b = some d ∧ b * d ≤ a ∧ a < b * d + b := by
 unfold Xcp
 have h1 : b * (a.tdiv b) + a.tmod b = a := Int.mul_tdiv_add_tmod a b
 have h2 : -b < a.tmod b ∧ a.tmod b < b := by
  have hb0 : 0 < b := by omega
  refine ⟨?_, Int.tmod_lt_of_pos a hb0⟩
  have := Int.lt_tmod_of_pos a hb0
  omega
 rw [rqA, rqA]
 generalize a.tmod b = m at h1 h2
 generalize a.tdiv b = t at h1 h2
 have ht : -1000000000001 ≤ t ∧ t ≤ 1000000000001 := by rcases hb with rfl | rfl <;> omega
 by_cases h : m < 0
 ·
  rw [Xdi h, Xab, wkA (e := t), wkA (e := t - 1)]
  refine ⟨_, rfl, ?_⟩
  rcases hb with rfl | rfl <;> omega
 ·
  rw [Xar h, Xab, wkA (e := t)]
  refine ⟨_, rfl, ?_⟩
  rcases hb with rfl | rfl <;> omega
theorem Xsq (p : List Int) (hl : p.length = 64) (hb : inB 5760000 p) : ∃ o, Xcm p = some o ∧ o.length = 64 ∧ inB 10000000 o := by
 unfold Xcm
 obtain ⟨o, e, h1, h2⟩ := Xng p 5760000 (by omega) hl hb
 rw [Xc3 p 64 10000000 (by omega) (by omega) (by omega) (Xjf hb (by omega)), Xab, Bool.not_true, Xax, e, Xab]
 obtain ⟨r, er, r1, r2⟩ := Xjg (f := Xb6) 64 (fun x => -368640000 ≤ x ∧ x ≤ 368640000) (fun x => -10000000 ≤ x ∧ x ≤ 10000000) (by
  intro i l hi hll hx
  obtain ⟨d, ed, d1, d2⟩ := Xd0 (l.getD i 0 + 32) 64 (by omega) (Or.inr rfl)
  unfold Xb6
  simp only [Int.toNat_natCast]
  rw [syA, rqA, rqA, wkA (e := l.getD i 0 + 32), ed, Xab, rqA, rqA, wkA (e := (i : Int) + 1)]
  exact ⟨d, rfl, by omega, by omega⟩) (by intro s; unfold Xb6; rw [Xar (by simp)]) o h1 (fun x hx => by have := h2 x hx; omega)
 exact ⟨r, (Xgn er).trans rfl, r1, r2⟩
theorem Xhf (p : List Int) (B : Int) (hB : 0 ≤ B) (hl : p.length = 16) (hb : inB B p) : ∃ o, Xgj p = some o ∧ o.length = 16 ∧ inB B o := by
 unfold Xgj
 rw [rqA]
 obtain ⟨o, e, h1, h2⟩ := Xc2 (f := Xc0 p) 16 (fun i s => s.length = 16 ∧ inB B s) (by
  intro i s hi ⟨g1, g2⟩
  have ha := Xhl hb (i := i) (by omega)
  unfold Xc0
  simp only
  rw [syA, rqA, rqA, rqA, Xbz (by omega), Xbd (by omega), wkA (e := (i : Int) / 4), wkA (e := (i : Int) % 4 * 4), wkA (e := (i : Int) % 4 * 4 + (i : Int) / 4), rqA, rqA, wkA (e := (i : Int) + 1), Int.toNat_natCast]
  exact ⟨_, rfl, by rw [List.length_set]; exact g1, Ya7 g2 _ ha⟩) (by intro s; unfold Xc0; rw [Xar (by simp)]) (List.replicate (16 : Int).toNat 0) ⟨by simp, Xww _ hB⟩
 exact ⟨o, (Xgn e).trans rfl, h1, h2⟩
theorem Yjw {B a b c d : Int} (h1 : -B ≤ a ∧ a ≤ B) (h2 : -B ≤ b ∧ b ≤ B) (h3 : -B ≤ c ∧ c ≤ B) (h4 : -B ≤ d ∧ d ≤ B) : inB B [a, b, c, d] := fun x hx => by
 simp only [List.mem_cons, List.not_mem_nil, or_false] at hx
 rcases hx with rfl | rfl | rfl | rfl
 ·
  exact h1
 ·
  exact h2
 ·
  exact h3
 ·
  exact h4
theorem Xf1 (p : List Int) (B : Int) (hB : 0 ≤ B ∧ B ≤ 1000000000) (hl : p.length = 16) (hb : inB B p) : ∃ o, Xfg p = some o ∧ o.length = 16 ∧ inB (4 * B + 2) o := by
 have hm : maxLen = 9223372036854775807 := rfl
 unfold Xfg
 obtain ⟨o, e, h1, h2⟩ := Xc2 (f := Xch p) 4 (fun i s => s.length = 4 * i ∧ inB (4 * B + 2) s) (by
  intro i s hi ⟨g1, g2⟩
  have a0 := Xhl hb (i := 4 * i) (by omega)
  have a1 := Xhl hb (i := 4 * i + 1) (by omega)
  have a2 := Xhl hb (i := 4 * i + 2) (by omega)
  have a3 := Xhl hb (i := 4 * i + 3) (by omega)
  obtain ⟨f, ef, f1, f2⟩ := Xd0 (p.getD (4 * i + 1) 0) 2 (by omega) (Or.inl rfl)
  obtain ⟨g, eg, g1', g2'⟩ := Xd0 (p.getD (4 * i + 3) 0) 2 (by omega) (Or.inl rfl)
  unfold Xch
  simp only
  rw [syA, wkA (e := 4 * (i : Int)), wkA (e := 4 * (i : Int) + 1), wkA (e := 4 * (i : Int) + 2), wkA (e := 4 * (i : Int) + 3), rqA, rqA, rqA, rqA, show (4 * (i : Int)).toNat = 4 * i by omega, show (4 * (i : Int) + 1).toNat = 4 * i + 1 by omega, show (4 * (i : Int) + 2).toNat = 4 * i + 2 by omega, show (4 * (i : Int) + 3).toNat = 4 * i + 3 by omega, ef, Xab, eg, Xab]
  generalize p.getD (4 * i) 0 = a at *
  generalize p.getD (4 * i + 1) 0 = b at *
  generalize p.getD (4 * i + 2) 0 = c at *
  generalize p.getD (4 * i + 3) 0 = d at *
  rw [wkA (e := (i : Int) + 1), wkA (e := a + c), wkA (e := a - c), wkA (e := b + g), wkA (e := f - d), wkA (e := a + c + (b + g)), wkA (e := a - c + (f - d)), wkA (e := a - c - (f - d)), wkA (e := a + c - (b + g)), Xba (by simp only [List.length_cons, List.length_nil]; omega)]
  exact ⟨_, rfl, by simp; omega, Xsh g2 (Yjw (by omega) (by omega) (by omega) (by omega))⟩) (by intro s; unfold Xch; rw [Xar (by simp)]) [] ⟨rfl, Yei _⟩
 exact ⟨o, (Xgn e).trans rfl, h1, h2⟩
theorem Xmp (p : List Int) (hl : p.length = 16) (hb : inB 10000000 p) : ∃ o, Xd9 p = some o ∧ o.length = 16 ∧ inB 10000000 o := by
 unfold Xd9
 obtain ⟨a, ea, a1, a2⟩ := Xf1 p 10000000 (by omega) hl hb
 obtain ⟨b, eb, b1, b2⟩ := Xhf a _ (by omega) a1 a2
 obtain ⟨c, ec, c1, c2⟩ := Xf1 b _ (by omega) b1 b2
 obtain ⟨d, ed, d1, d2⟩ := Xhf c _ (by omega) c1 c2
 rw [Xc3 p 16 10000000 (by omega) (by omega) (by omega) hb, Xab, Bool.not_true, Xax, ea, Xab, eb, Xab, ec, Xab, ed, Xab]
 obtain ⟨r, er, r1, r2⟩ := Xjg (f := Xcg) 16 (fun x => -160000010 ≤ x ∧ x ≤ 160000010) (fun x => -10000000 ≤ x ∧ x ≤ 10000000) (by
  intro i l hi hll hx
  obtain ⟨d, ed, d1, d2⟩ := Xd0 (l.getD i 0 + 32) 64 (by omega) (Or.inr rfl)
  unfold Xcg
  simp only [Int.toNat_natCast]
  rw [syA, rqA, rqA, wkA (e := l.getD i 0 + 32), ed, Xab, rqA, rqA, wkA (e := (i : Int) + 1)]
  exact ⟨d, rfl, by omega, by omega⟩) (by intro s; unfold Xcg; rw [Xar (by simp)]) d d1 (fun x hx => by have := d2 x hx; omega)
 exact ⟨r, (Xgn er).trans rfl, r1, r2⟩
theorem Xlj (l qp p : Int) (hl : -5000 ≤ l ∧ l ≤ 5000) (h0 : 0 ≤ qp ∧ qp ≤ 40) (hp : 0 ≤ p ∧ p ≤ 15) : ∃ o, Xdj l qp p = some o ∧ -10000000 ≤ o ∧ o ≤ 10000000 := by
 unfold Xdj
 obtain ⟨s, es, q0, q1⟩ := Xnb qp p h0 hp
 rw [Xaj, Xab, decide_eq_true hl, Bool.not_true, Xax, es, Xab]
 have m1 : l * s ≤ 5000 * s := Int.mul_le_mul_of_nonneg_right hl.2 q0
 have m2 : -5000 * s ≤ l * s := Int.mul_le_mul_of_nonneg_right hl.1 q0
 rw [wkA]
 exact ⟨_, rfl, by omega, by omega⟩
theorem Xlh (l qp : Int) (hl : -5000 ≤ l ∧ l ≤ 5000) (h0 : 0 ≤ qp ∧ qp ≤ 40) : ∃ o, Xco l qp = some o ∧ -5760000 ≤ o ∧ o ≤ 5760000 := by
 unfold Xco
 obtain ⟨s, es, q0, q1⟩ := Xon qp h0
 rw [Xaj, Xab, decide_eq_true hl, Bool.not_true, Xax, es, Xab]
 have m1 : l * s ≤ 5000 * s := Int.mul_le_mul_of_nonneg_right hl.2 (by omega)
 have m2 : -5000 * s ≤ l * s := Int.mul_le_mul_of_nonneg_right hl.1 (by omega)
 rw [wkA]
 exact ⟨_, rfl, by omega, by omega⟩
theorem Yh2 {l : List Int} (h : Ydv l = true) : l.length = 64 ∧ inB 5000 l := by
 obtain ⟨h1, h2⟩ := Xjs h
 refine ⟨h1, fun x hx => ?_⟩
 have := List.all_eq_true.1 h2 x hx
 unfold Yc9 at this
 rwa [decide_eq_true_eq] at this
theorem Xvs {c : Xd1} (h : Xdp c = true) : 0 ≤ c.Qp ∧ c.Qp ≤ 40 := by
 unfold Xdp at h
 rw [Bool.and_eq_true, decide_eq_true_eq] at h
 exact h.1
theorem Xeu (p : List Int) (c : Xd1) (hc : Xdp c = true) (hp : Ydv p = true) : ∃ o, Xbg p c = some (o, true) ∧ o.length = 64 ∧ inB 10000000 o := by
 have hm : maxLen = 9223372036854775807 := rfl
 have hq := Xvs hc
 obtain ⟨hl, hb⟩ := Yh2 hp
 unfold Xbg
 rw [Xfx, Xab, hc, Xa3, Xc3 p 64 5000 (by omega) (by omega) (by omega) hb, Xab, Bool.not_true, Xab, Xax]
 cases hE : c.Exact with
 | true =>
  obtain ⟨o, e, h1, h2⟩ := Xbn 8 (Or.inr rfl) p 5000 (by omega) (by omega) hb
  rw [Xa3, e, Xab]
  exact ⟨o, rfl, by omega, Xjf h2 (by omega)⟩
 | false =>
  rw [Xax]
  cases hL : c.Large with
  | true =>
   obtain ⟨w, ew, w1, w2⟩ := Xbn 8 (Or.inr rfl) p 5000 (by omega) (by omega) hb
   obtain ⟨l, el, l1, l2⟩ := Xjg (f := Xa0 c) 64 (fun x => -5000 ≤ x ∧ x ≤ 5000) (fun x => -5760000 ≤ x ∧ x ≤ 5760000) (by
    intro i l hi hll hx
    obtain ⟨d, ed, d1, d2⟩ := Xlh (l.getD i 0) c.Qp hx hq
    unfold Xa0
    simp only [Int.toNat_natCast]
    rw [syA, rqA, rqA, ed, Xab, rqA, rqA, wkA (e := (i : Int) + 1)]
    exact ⟨d, rfl, d1, d2⟩) (by intro s; unfold Xa0; rw [Xar (by simp)]) w (by omega) w2
   obtain ⟨o, e, h1, h2⟩ := Xsq l l1 l2
   rw [Xa3, ew, Xab, el, Xab, e, Xab]
   exact ⟨o, rfl, h1, h2⟩
  | false =>
   obtain ⟨o, eo, o1, o2⟩ := Xc2 (f := Xa7 p c) 4 (fun k s => s.length = 64 ∧ inB 10000000 s) (by
    intro k s hk ⟨g1, g2⟩
    have hcut : ((p.drop (16 * k)).take 16).length = 16 := by rw [List.length_take, List.length_drop]; omega
    obtain ⟨a, ea, a1, a2⟩ := Xbn 4 (Or.inl rfl) ((p.drop (16 * k)).take 16) 5000 (by omega) (by omega) (Ya8 (Ya6 hb _) _)
    obtain ⟨l, el, l1, l2⟩ := Xjg (f := Xaw c) 16 (fun x => -5000 ≤ x ∧ x ≤ 5000) (fun x => -10000000 ≤ x ∧ x ≤ 10000000) (by
     intro i l hi hll hx
     obtain ⟨d, ed, d1, d2⟩ := Xlj (l.getD i 0) c.Qp i hx hq (by omega)
     unfold Xaw
     simp only [Int.toNat_natCast]
     rw [syA, rqA, rqA, ed, Xab, rqA, rqA, wkA (e := (i : Int) + 1)]
     exact ⟨d, rfl, d1, d2⟩) (by intro s; unfold Xaw; rw [Xar (by simp)]) a (by omega) a2
    obtain ⟨b, eb, b1, b2⟩ := Xmp l l1 l2
    obtain ⟨r, er, r1, r2⟩ := Xc2 (f := Xa1 ((k : Int), s) b) 16 (fun i s => s.length = 64 ∧ inB 10000000 s) (by
     intro i s hi ⟨g1, g2⟩
     have ha := Xhl b2 (i := i) (by omega)
     unfold Xa1
     simp only
     rw [syA, rqA, rqA, rqA, rqA, rqA, rqA, Xbd (a := (k : Int)) (by omega), Xbd (a := (i : Int)) (by omega), Xbz (a := (k : Int)) (by omega), Xbz (a := (i : Int)) (by omega), wkA (e := (k : Int) / 2), wkA (e := (k : Int) / 2 * 4), wkA (e := (i : Int) / 4), wkA (e := (k : Int) / 2 * 4 + (i : Int) / 4), wkA (e := 8 * ((k : Int) / 2 * 4 + (i : Int) / 4)), wkA (e := (k : Int) % 2 * 4), wkA (e := 8 * ((k : Int) / 2 * 4 + (i : Int) / 4) + (k : Int) % 2 * 4), wkA (e := 8 * ((k : Int) / 2 * 4 + (i : Int) / 4) + (k : Int) % 2 * 4 + (i : Int) % 4), rqA, rqA, wkA (e := (i : Int) + 1), Int.toNat_natCast]
     exact ⟨_, rfl, by rw [List.length_set]; exact g1, Ya7 g2 _ ha⟩) (by intro s; unfold Xa1; rw [Xar (by simp)]) s ⟨g1, g2⟩
    unfold Xa7
    simp only
    rw [syA, wkA (e := 16 * (k : Int)), wkA (e := 16 * (k : Int) + 16), rqA, show (16 * (k : Int)).toNat = 16 * k by omega, show (16 * (k : Int) + 16).toNat - 16 * k = 16 by omega, ea, Xab, el, Xab, eb, Xab, er, Xab, wkA (e := (k : Int) + 1)]
    exact ⟨_, rfl, r1, r2⟩) (by intro s; unfold Xa7; rw [Xar (by simp)]) (List.replicate (64 : Int).toNat 0) ⟨by simp, Xww _ (by omega)⟩
   rw [Xax, rqA, eo, Xab]
   exact ⟨o, rfl, o1, o2⟩
theorem Xja (l : List Int) (h : Xgc l = true) : Xnh l = some true := by
 obtain ⟨h1, h2⟩ := Xky h
 unfold Xnh
 rw [Xbo (by simp only [bne_eq_false_iff_eq]; omega), Xrd l.length (f := Xhi l) (by
  intro i hi
  have := h2 i (by omega)
  unfold Xhi
  rw [syA, rqA, Xaj, Xab, Int.toNat_natCast, decide_eq_true this, Bool.not_true, Xax, wkA]
  rfl) (by unfold Xhi; rw [snA]), Xab]
theorem Ycj {l : List Int} (h1 : l.length = 64) (h2 : ∀ x ∈ l, 0 ≤ x ∧ x ≤ 255) : Xgc l = true := by
 unfold Xgc
 rw [Bool.and_eq_true, decide_eq_true_eq, List.all_eq_true]
 exact ⟨h1, fun x hx => by unfold Yjm; rw [decide_eq_true_eq]; exact h2 x hx⟩
theorem Xoj (g b : List Int) (hg : Xgc g = true) (hl : b.length = 64) (hb : inB 10000000 b) : ∃ o, Xe8 g b = some o ∧ Xgc o = true := by
 have hm : maxLen = 9223372036854775807 := rfl
 obtain ⟨g1, g2⟩ := Xky hg
 unfold Xe8
 rw [Xja g hg, Xab, Xa3, Xc3 b 64 10000000 (by omega) (by omega) (by omega) hb, Xab, Bool.not_true, Xab, Xax]
 obtain ⟨o, e, h1, h2⟩ := Xc2 (f := Xcb g b) 64 (fun i s => s.length = i ∧ ∀ x ∈ s, 0 ≤ x ∧ x ≤ 255) (by
  intro i s hi ⟨k1, k2⟩
  have ha := Xhl hb (i := i) (by omega)
  have hd := g2 i hi
  have br := Xgb (n := g.getD i 0 + b.getD i 0) (a := 0) (b := 255) (by omega)
  unfold Xcb
  simp only [Int.toNat_natCast]
  rw [syA, rqA, rqA, wkA (e := g.getD i 0 + b.getD i 0), Xcy, Xab, Xba (by simp only [List.length_singleton]; omega), wkA (e := (i : Int) + 1)]
  refine ⟨_, rfl, by simp; omega, fun x hx => ?_⟩
  rcases List.mem_append.1 hx with hx | hx
  ·
   exact k2 x hx
  ·
   rw [List.mem_singleton.1 hx]; exact br) (by intro s; unfold Xcb; rw [Xar (by simp)]) [] ⟨rfl, fun x hx => by simp at hx⟩
 exact ⟨o, (Xgn e).trans rfl, Ycj h1 h2⟩
def Xmj (e : Xhn) : Prop := (e.Above.length = 0 ∨ e.Above.length = 8) ∧ (e.Left.length = 0 ∨ e.Left.length = 8) ∧ (∀ x ∈ e.Above, 0 ≤ x ∧ x ≤ 255) ∧ (∀ x ∈ e.Left, 0 ≤ x ∧ x ≤ 255) ∧ -1 ≤ e.Corner ∧ e.Corner ≤ 255
theorem Xu0 {p : Pic} (ok : Xck p = true) (x y : Int) : Xkv p x y 8 8 = some (Xij p x y) := by
 obtain ⟨k1, k2, k3⟩ := Xa6 ok
 unfold Xkv Xij
 rw [Xhb, Xab, ok, Xa3, Xaj, Xab, Xaj, Xab, wkA (e := p.Wide - 8), wkA (e := p.High - 8), Xaj, Xab, Xaj, Xab]
 simp only [Xe5, Xab]
 congr 1
 rw [Bool.eq_iff_iff]
 simp only [Bool.and_eq_true, decide_eq_true_eq]
 omega
theorem Xef {p : Pic} (ok : Xck p = true) {x y : Int} (hx : x.tmod 8 = 0) (hy : y.tmod 8 = 0) (h : Xij p x y = true) : Xkm p x y = some true := by
 unfold Xkm
 rw [rqA, hx, rqA, hy, Xu0 ok, Xab, h]
 rfl
theorem Xm6 {p : Pic} (ok : Xck p = true) {x y : Int} (hx : x.tmod 8 = 0) (hy : y.tmod 8 = 0) (h : Xij p x y = true) : ∃ e, Xd5 p x y = some (e, true) ∧ Xmj e := by
 have hm : maxLen = 9223372036854775807 := rfl
 obtain ⟨k1, k2, k3⟩ := Xa6 ok
 have h' := h
 unfold Xij at h'
 rw [decide_eq_true_eq] at h'
 unfold Xd5
 rw [Xef ok hx hy h, Xab, Bool.not_true, Xax]
 obtain ⟨o, e, o1, o2, o3, o4, o5, o6⟩ := Xc2 (f := Xbt p x y) 8 (fun i s => (y > 0 → s.1.length = i) ∧ (¬ y > 0 → s.1.length = 0) ∧ (x > 0 → s.2.length = i) ∧ (¬ x > 0 → s.2.length = 0) ∧ (∀ z ∈ s.1, 0 ≤ z ∧ z ≤ 255) ∧ (∀ z ∈ s.2, 0 ≤ z ∧ z ≤ 255)) (by
  intro i s hi ⟨g1, g2, g3, g4, g5, g6⟩
  obtain ⟨a, b⟩ := s
  simp only at g1 g2 g3 g4 g5 g6
  have d1 := Xls p (x + i) (y - 1)
  have d2 := Xls p (x - 1) (y + i)
  have st1 : ∃ a', (sel (decide (y > 0)) (bnd (Xdw p (Xaa .i64 (x + (i : Int))) (Xaa .i64 (y - 1))) fun q16 => req ((a.length + ([q16]).length) * 8 ≤ 140737488355328 ∧ a.length + ([q16]).length ≤ maxLen) <| some (a ++ ([q16]))) (some a)) = some a' ∧ (y > 0 → a'.length = i + 1) ∧ (¬ y > 0 → a'.length = 0) ∧ (∀ z ∈ a', 0 ≤ z ∧ z ≤ 255) := by
   by_cases c : y > 0
   ·
    rw [Xdi c, wkA (e := x + (i : Int)), wkA (e := y - 1), Xdc ok, Xab, Xba (by simp only [List.length_singleton]; have := g1 c; omega)]
    refine ⟨_, rfl, fun _ => by simp; exact g1 c, fun hn => absurd c hn, fun z hz => ?_⟩
    rcases List.mem_append.1 hz with hz | hz
    ·
     exact g5 z hz
    ·
     rw [List.mem_singleton.1 hz]; exact d1
   ·
    rw [Xar c]
    exact ⟨_, rfl, fun hn => absurd hn c, fun _ => g2 c, g5⟩
  obtain ⟨a', ea, a1, a2, a3⟩ := st1
  have st2 : ∃ b', (sel (decide (x > 0)) (bnd (Xdw p (Xaa .i64 (x - 1)) (Xaa .i64 (y + (i : Int)))) fun q17 => req ((b.length + ([q17]).length) * 8 ≤ 140737488355328 ∧ b.length + ([q17]).length ≤ maxLen) <| some (a', (b ++ ([q17])))) (some (a', b))) = some (a', b') ∧ (x > 0 → b'.length = i + 1) ∧ (¬ x > 0 → b'.length = 0) ∧ (∀ z ∈ b', 0 ≤ z ∧ z ≤ 255) := by
   by_cases c : x > 0
   ·
    rw [Xdi c, wkA (e := y + (i : Int)), wkA (e := x - 1), Xdc ok, Xab, Xba (by simp only [List.length_singleton]; have := g3 c; omega)]
    refine ⟨_, rfl, fun _ => by simp; exact g3 c, fun hn => absurd c hn, fun z hz => ?_⟩
    rcases List.mem_append.1 hz with hz | hz
    ·
     exact g6 z hz
    ·
     rw [List.mem_singleton.1 hz]; exact d2
   ·
    rw [Xar c]
    exact ⟨_, rfl, fun hn => absurd hn c, fun _ => g4 c, g6⟩
  obtain ⟨b', eb, b1, b2, b3⟩ := st2
  unfold Xbt
  simp only
  rw [syA, ea, Xab, eb, Xab, wkA (e := (i : Int) + 1)]
  exact ⟨(a', b'), rfl, a1, a2, b1, b2, a3, b3⟩) (by intro s; unfold Xbt; rw [Xar (by simp)]) ([], []) ⟨fun _ => rfl, fun _ => rfl, fun _ => rfl, fun _ => rfl, fun z hz => by simp at hz, fun z hz => by simp at hz⟩
 rw [e, Xab, Xe5, Xab]
 have d3 := Xls p (x - 1) (y - 1)
 have ha : o.1.length = 0 ∨ o.1.length = 8 := by
  by_cases c : y > 0
  ·
   exact Or.inr (o1 c)
  ·
   exact Or.inl (o2 c)
 have hb : o.2.length = 0 ∨ o.2.length = 8 := by
  by_cases c : x > 0
  ·
   exact Or.inr (o3 c)
  ·
   exact Or.inl (o4 c)
 cases hc : (decide (x > 0) && decide (y > 0)) with
 | true =>
  rw [Xa3, wkA (e := x - 1), wkA (e := y - 1), Xdc ok, Xab, Xab]
  exact ⟨_, rfl, ha, hb, o5, o6, by simp only; omega, by simp only; omega⟩
 | false =>
  rw [Xax, Xab]
  exact ⟨_, rfl, ha, hb, o5, o6, by simp only; omega, by simp only; omega⟩
theorem Xmu (l : List Int) (hl : l.length = 0 ∨ l.length = 8) (h : ∀ x ∈ l, 0 ≤ x ∧ x ≤ 255) : Xkn l = some true := by
 unfold Xkn
 have hc : (sel ((l.length : Int) != 0) (some ((l.length : Int) != 8)) (some false)) = some false := by
  rcases hl with e | e
  ·
   rw [e]; rfl
  ·
   rw [e]; rfl
 rw [hc, Xab, Xax, Xrd l.length (f := Xhj l) (by
  intro i hi
  have := h (l.getD i 0) (by rw [Xct l i hi]; exact List.getElem_mem _)
  unfold Xhj
  rw [syA, rqA, Xaj, Xab, Int.toNat_natCast, decide_eq_true this, Bool.not_true, Xax, wkA]
  rfl) (by unfold Xhj; rw [snA]), Xab]
theorem Xi9 {e : Xhn} (h : Xmj e) : Xm7 e = some true := by
 obtain ⟨h1, h2, h3, h4, h5, h6⟩ := h
 unfold Xm7
 rw [Xmu _ h1 h3, Xab, Xa3, Xmu _ h2 h4, Xab, Xa3, Xaj, Xab, decide_eq_true ⟨h5, h6⟩, Xab]
theorem Xfi (l : List Int) (k : Nat) (hk : k < 8) (hl : l.length = 0 ∨ l.length = 8) (h : ∀ x ∈ l, 0 ≤ x ∧ x ≤ 255) : ∃ x, Xdo l k = some x ∧ 0 ≤ x ∧ x ≤ 255 := by
 unfold Xdo
 rcases hl with e | e
 ·
  rw [Xbm (by rw [e]; rfl)]; exact ⟨_, rfl, by omega, by omega⟩
 ·
  rw [Xbo (by rw [e]; rfl), rqA, Int.toNat_natCast]
  exact ⟨_, rfl, h _ (by rw [Xct l k (by omega)]; exact List.getElem_mem _)⟩
theorem Xos {e : Xhn} (h : Xmj e) : ∃ x, Xf9 e = some x ∧ 0 ≤ x ∧ x ≤ 255 := by
 obtain ⟨h1, h2, h3, h4, _, _⟩ := h
 unfold Xf9
 rw [wkA (e := (e.Above.length : Int) + (e.Left.length : Int))]
 by_cases hz : (e.Above.length : Int) + (e.Left.length : Int) = 0
 ·
  rw [Xbm (by simpa using hz)]; exact ⟨_, rfl, by omega, by omega⟩
 ·
  rw [Xbo (by simpa using hz), rqA, Xbd (by omega), wkA (e := ((e.Above.length : Int) + (e.Left.length : Int)) / 2)]
  obtain ⟨a, ea, a1, a2⟩ := Xh7 (f := Xcq e) e.Above.length (fun i s => 0 ≤ s ∧ s ≤ ((e.Above.length : Int) + (e.Left.length : Int)) / 2 + 255 * i) (by
   intro i s hi ⟨g1, g2⟩
   have := h3 (e.Above.getD i 0) (by rw [Xct _ i hi]; exact List.getElem_mem _)
   unfold Xcq
   simp only [Int.toNat_natCast]
   rw [syA, rqA, wkA (e := s + e.Above.getD i 0), wkA (e := (i : Int) + 1)]
   exact ⟨_, rfl, by omega, by omega⟩) (by intro s; unfold Xcq; rw [Xar (by simp)]) (((e.Above.length : Int) + (e.Left.length : Int)) / 2) ⟨by omega, by omega⟩
  obtain ⟨b, eb, b1, b2⟩ := Xh7 (f := Xcr e) e.Left.length (fun i s => 0 ≤ s ∧ s ≤ ((e.Above.length : Int) + (e.Left.length : Int)) / 2 + 255 * e.Above.length + 255 * i) (by
   intro i s hi ⟨g1, g2⟩
   have := h4 (e.Left.getD i 0) (by rw [Xct _ i hi]; exact List.getElem_mem _)
   unfold Xcr
   simp only [Int.toNat_natCast]
   rw [syA, rqA, wkA (e := s + e.Left.getD i 0), wkA (e := (i : Int) + 1)]
   exact ⟨_, rfl, by omega, by omega⟩) (by intro s; unfold Xcr; rw [Xar (by simp)]) a ⟨by omega, by omega⟩
  rw [ea, Xab, eb, Xab, Xba hz, Xbd b1]
  have hn : (e.Above.length : Int) + (e.Left.length : Int) = 8 ∨ (e.Above.length : Int) + (e.Left.length : Int) = 16 := by omega
  have hr : 0 ≤ b / ((e.Above.length : Int) + (e.Left.length : Int)) ∧ b / ((e.Above.length : Int) + (e.Left.length : Int)) ≤ 255 := by
   rcases hn with hn | hn <;> rw [hn] <;> omega
  rw [wkA]
  exact ⟨_, rfl, hr⟩
theorem Xm8 (m : Int) (hm0 : 0 ≤ m ∧ m ≤ 3) {e : Xhn} (h : Xmj e) : ∃ g, Xcn m e = some g ∧ Xgc g = true := by
 have hm : maxLen = 9223372036854775807 := rfl
 have h' := h
 obtain ⟨h1, h2, h3, h4, h5, h6⟩ := h'
 obtain ⟨mid, em, m1, m2⟩ := Xos h
 unfold Xcn
 rw [Xi9 h, Xab, Xa3, Xaj, Xab, decide_eq_true hm0, Bool.not_true, Xab, Xax]
 have hc : ∃ v, sel (decide (e.Corner < 0)) (some (128 : Int)) (some e.Corner) = some v ∧ 0 ≤ v ∧ v ≤ 255 := by
  by_cases c : e.Corner < 0
  ·
   rw [Xdi c]; exact ⟨_, rfl, by omega, by omega⟩
  ·
   rw [Xar c]; exact ⟨_, rfl, by omega, by omega⟩
 obtain ⟨v, ev, v1, v2⟩ := hc
 rw [ev, Xab]
 obtain ⟨o, eo, o1, o2⟩ := Xc2 (f := Xbk m e v) 64 (fun i s => s.length = i ∧ ∀ x ∈ s, 0 ≤ x ∧ x ≤ 255) (by
  intro i s hi ⟨g1, g2⟩
  obtain ⟨a, ea, a1, a2⟩ := Xfi e.Above (i % 8) (by omega) h1 h3
  obtain ⟨b, eb, b1, b2⟩ := Xfi e.Left (i / 8) (by omega) h2 h4
  have br := Xgb (n := b + a - v) (a := 0) (b := 255) (by omega)
  have put : ∀ z : Int, 0 ≤ z ∧ z ≤ 255 → (s ++ [z]).length = i + 1 ∧ ∀ x ∈ s ++ [z], 0 ≤ x ∧ x ≤ 255 := by
   intro z hz
   refine ⟨by simp; omega, fun x hx => ?_⟩
   rcases List.mem_append.1 hx with hx | hx
   ·
    exact g2 x hx
   ·
    rw [List.mem_singleton.1 hx]; exact hz
  unfold Xbk
  simp only
  rw [syA, rqA, Xbz (by omega), show (i : Int) % 8 = ((i % 8 : Nat) : Int) by omega, ea, Xab, rqA, Xbd (by omega), wkA (e := (i : Int) / 8), show (i : Int) / 8 = ((i / 8 : Nat) : Int) by omega, eb, Xab, wkA (e := (i : Int) + 1), em]
  cases (m == 0) with
  | true =>
   rw [Xa3, Xab, Xba (by simp only [List.length_singleton]; omega), Xab]
   exact ⟨_, rfl, put _ ⟨m1, m2⟩⟩
  | false =>
   rw [Xax]
   cases (m == 1) with
   | true =>
    rw [Xa3, Xba (by simp only [List.length_singleton]; omega), Xab]
    exact ⟨_, rfl, put _ ⟨a1, a2⟩⟩
   | false =>
    rw [Xax]
    cases (m == 2) with
    | true =>
     rw [Xa3, Xba (by simp only [List.length_singleton]; omega), Xab]
     exact ⟨_, rfl, put _ ⟨b1, b2⟩⟩
    | false =>
     rw [Xax, wkA (e := b + a), wkA (e := b + a - v), Xcy, Xab, Xba (by simp only [List.length_singleton]; omega), Xab]
     exact ⟨_, rfl, put _ br⟩) (by intro s; unfold Xbk; rw [Xar (by simp)]) [] ⟨rfl, fun x hx => by simp at hx⟩
 exact ⟨o, (Xgn eo).trans rfl, Ycj o1 o2⟩
def Xkd (n : Int) : Bool := decide (n.tmod 8 = 0) && decide (8 ≤ n ∧ n ≤ 64)
theorem Xj7 (c : Xaq) (hc : Xew c) : ∃ p c', Xc4 c = some (p, c') ∧ Xy1 p = true ∧ Xew c' := by
 unfold Xc4
 obtain ⟨x, c1, e1, x0, x1, _, h1⟩ := Xao c 41 hc
 obtain ⟨b, c2, e2, h2⟩ := Xbv c1 4 h1
 obtain ⟨y, c3, e3, y0, y1, _, h3⟩ := Xao c2 3 h2
 have x1' := x1 (by omega)
 rw [e1, Xab]
 simp only
 rw [e2, Xab]
 simp only
 rw [e3, Xab]
 simp only
 have po : ∀ (l e f : Bool), (l && e) = false → Xy1 ⟨x, l, e, f⟩ = true := by
  intro l e f h
  unfold Xy1
  rw [Bool.and_eq_true, decide_eq_true_eq]
  exact ⟨by simp only; omega, by simp only [h]; rfl⟩
 cases (y == 0) with
 | true => exact ⟨_, _, rfl, po _ _ _ rfl, h3⟩
 | false =>
  cases (y == 1) with
  | true => exact ⟨_, _, rfl, po _ _ _ rfl, h3⟩
  | false => exact ⟨_, _, rfl, po _ _ _ rfl, h3⟩
theorem Ya9 {V O : Type} {f g : V → Option (Lp V O)} (I : V → Prop) (h : ∀ v, I v → f v = g v) (hI : ∀ v v', I v → g v = some (.go v') → I v') : ∀ (k : Nat) (v : V), I v → it f k v = it g k v
 | 0, _, _ => rfl
 | k + 1, v, hv => by
  rw [it, it, h v hv]
  cases e : g v with
  | none => rfl
  | some s =>
   cases s with
   | go y => exact Ya9 I h hI k y (hI v y hv e)
   | done o => rfl
theorem Xzu {V O : Type} {f g : V → Option (Lp V O)} (I : V → Prop) (h : ∀ v, I v → f v = g v) (hI : ∀ v v', I v → g v = some (.go v') → I v') {v : V} (hv : I v) : loop f v = loop g v := by
 apply Option.ext
 intro o
 rw [Xfm, Xfm]
 exact ⟨fun ⟨k, hk⟩ => ⟨k, by rw [← Ya9 I h hI k v hv]; exact hk⟩, fun ⟨k, hk⟩ => ⟨k, by rw [Ya9 I h hI k v hv]; exact hk⟩⟩
theorem Yen {V O : Type} {f : V → Option (Lp V O)} {v : V} {o : O} (k : Nat) (h : it f k v = some o) : loop f v = some o := Xfm.2 ⟨k, h⟩
theorem Xsi {a b : List Int} {n : Nat} (ha : a.length = n) (hb : b.length = n) (h : ∀ i : Nat, i < n → a.getD i 0 = b.getD i 0) : a = b := by
 apply List.ext_getElem (by omega)
 intro i h1 h2
 have := h i (by omega)
 rwa [Xct a i h1, Xct b i h2] at this
theorem Xd6 {n : Nat} (g : Nat → Int) {i : Nat} (h : i < n) : ((List.range n).map g).getD i 0 = g i := by
 rw [Xct _ i (by simpa using h)]; simp
theorem Ye9 {α : Type} {f : Int × List α → Option (Lp (Int × List α) (List α))} (n : Nat) (g : Nat → α) (a : List α) (hs : ∀ i : Nat, i < n → f ((i : Int), a ++ (List.range i).map g) = some (.go (((i + 1 : Nat) : Int), a ++ (List.range i).map g ++ [g i]))) (he : f ((n : Int), a ++ (List.range n).map g) = some (.done (a ++ (List.range n).map g))) : loop f (0, a) = some (a ++ (List.range n).map g) := by
 have key : ∀ i : Nat, i ≤ n → loop f ((i : Int), a ++ (List.range i).map g) = some (a ++ (List.range n).map g) := by
  refine Xf6 _ (Xi6 he) ?_
  intro i hi ih
  refine lgo (hs i hi) ?_
  rw [List.append_assoc, show (List.range i).map g ++ [g i] = (List.range (i + 1)).map g by simp [List.range_succ]]
  exact ih
 have := key 0 (by omega)
 simpa using this
theorem Xii {S : Type} {f : Int × S → Option (Lp (Int × S) S)} (n : Nat) (I : Nat → S → Prop) (hs : ∀ (i : Nat) (l : S), i < n → I i l → ∃ l', f ((i : Int), l) = some (.go (((i + 1 : Nat) : Int), l')) ∧ I (i + 1) l') (he : ∀ l, I n l → f ((n : Int), l) = some (.done l)) (l0 : S) (h0 : I 0 l0) : ∃ o, loop f (0, l0) = some o ∧ I n o := by
 have key : ∀ i : Nat, i ≤ n → ∀ l, I i l → ∃ o, loop f ((i : Int), l) = some o ∧ I n o := by
  refine Xf6 _ ?_ ?_
  ·
   intro l h; exact ⟨l, Xi6 (he l h), h⟩
  ·
   intro i hi ih l h
   obtain ⟨l', e, h'⟩ := hs i l hi h
   obtain ⟨o, e2, h2⟩ := ih l' h'
   exact ⟨o, lgo e e2, h2⟩
 exact key 0 (by omega) l0 h0
theorem Xzy {f : Int × List Int → Option (Lp (Int × List Int) (List Int))} (n : Nat) (g : Nat → Int) (l : List Int) (hl : l.length = n) (hs : ∀ (i : Nat) (s : List Int), i < n → s.length = n → s.getD i 0 = l.getD i 0 → f ((i : Int), s) = some (.go (((i + 1 : Nat) : Int), s.set i (g i)))) (he : ∀ s : List Int, s.length = n → f ((n : Int), s) = some (.done s)) : loop f (0, l) = some ((List.range n).map g) := by
 obtain ⟨o, e, h1, h2, _⟩ := Xii (f := f) n (fun i s => s.length = n ∧ (∀ j, j < i → s.getD j 0 = g j) ∧ ∀ j, i ≤ j → s.getD j 0 = l.getD j 0) (by
  intro i s hi ⟨g1, g2, g3⟩
  refine ⟨_, hs i s hi g1 (g3 i (Nat.le_refl _)), by rw [List.length_set]; exact g1, fun j hj => ?_, fun j hj => ?_⟩
  ·
   rw [Xde s i j _ (by omega)]
   by_cases h : i = j
   ·
    rw [if_pos h, h]
   ·
    rw [if_neg h]; exact g2 j (by omega)
  ·
   rw [Xde s i j _ (by omega), if_neg (by omega)]; exact g3 j (by omega)) (fun s hs => he s hs.1) l ⟨hl, fun j hj => by omega, fun _ _ => rfl⟩
 rw [e]
 congr 1
 exact Xsi h1 (by simp) fun i hi => by rw [h2 i hi, Xd6 g hi]
theorem Yed : Xjp = Xcp := rfl
theorem Xza (qp : Int) (h0 : 0 ≤ qp ∧ qp ≤ 40) : Xf8 qp = some (Xka qp) := by
 have h := Yiy ⟨qp.toNat, by omega⟩
 simp only at h
 rw [show ((qp.toNat : Nat) : Int) = qp by omega] at h
 unfold Xf8
 rw [Xaj, Xab, decide_eq_true (by omega), Bool.not_true, Xax, rqA]
 have hb : (sel ((qp.tmod 6) == 0) (some (10 : Int)) (sel ((qp.tmod 6) == 1) (some 11) (sel ((qp.tmod 6) == 2) (some 13) (sel ((qp.tmod 6) == 3) (some 14) (sel ((qp.tmod 6) == 4) (some 16) (some 18)))))) = some (Xmg qp) := by
  unfold Xmg
  simp only [Ybt, beq_iff_eq]
  repeat' split
  all_goals rfl
 rw [hb, Xab]
 unfold Xka at h ⊢
 cases e : it (Xig qp) 10 (Xmg qp, 0) with
 | none => rw [e] at h; simp only at h; omega
 | some q => rw [Xfm.2 ⟨10, e⟩, Xab]
theorem Ya3 : ∀ q : Fin 41, Xhv (q.val : Int) = some (Xka (q.val : Int)) := by decide +kernel
theorem Xyp (qp : Int) (h0 : 0 ≤ qp ∧ qp ≤ 40) : Xhv qp = some (Xka qp) := by
 have := Ya3 ⟨qp.toNat, by omega⟩
 simp only at this
 rwa [show ((qp.toNat : Nat) : Int) = qp by omega] at this
theorem Yb8 (qp : Int) (h0 : 0 ≤ qp ∧ qp ≤ 40) : Xhv qp = Xf8 qp := by rw [Xyp qp h0, Xza qp h0]
theorem Xol (u v : Nat) (hu : u < 8) (hv : v < 8) : Xh3 u v = some (Xfw u v) := by
 have h := Xxg ⟨u, hu⟩ ⟨v, hv⟩
 simp only at h
 unfold Xh3
 rw [Xaj, Xab, decide_eq_true (by omega), Xa3, Xaj, Xab, decide_eq_true (by omega), Bool.not_true, Xab, Xax]
 unfold Xfw at h ⊢
 cases e : it Xif 10 (1, (IntKind.wrap .i64 (BitVec.ofInt (IntKind.bits .i64) (u : Int) &&& BitVec.ofInt (IntKind.bits .i64) (v : Int)).toNat)) with
 | none => rw [e] at h; simp only at h; omega
 | some q => rw [Xfm.2 ⟨10, e⟩, Xab]
theorem Ya0 : ∀ u v : Fin 8, Xhu (u.val : Int) (v.val : Int) = some (Xfw (u.val : Int) (v.val : Int)) := by decide +kernel
theorem Xs8 (u v : Nat) (hu : u < 8) (hv : v < 8) : Xhu u v = some (Xfw u v) := Ya0 ⟨u, hu⟩ ⟨v, hv⟩
def Ybs (qp p : Int) : Option Int :=
 bnd (Xmd p) fun q1 => bnd (Xbi q1 10 16 13) fun a1 => bnd (Xbi q1 11 18 14) fun a2 => bnd (Xbi q1 13 20 16) fun a3 => bnd (Xbi q1 14 23 18) fun a4 => bnd (Xbi q1 16 25 20) fun a5 => bnd (Xbi q1 18 29 23) fun a6 =>
 it (Xdy qp) 10 ((sel (qp.tmod 6 == 0) a1 (sel (qp.tmod 6 == 1) a2 (sel (qp.tmod 6 == 2) a3 (sel (qp.tmod 6 == 3) a4 (sel (qp.tmod 6 == 4) a5 (sel (qp.tmod 6 == 5) a6 0)))))), 0)
theorem Yij : ∀ q : Fin 41, ∀ p : Fin 16, (Ybs (q.val : Int) (p.val : Int)).isSome = true ∧ Xin (q.val : Int) (p.val : Int) = Ybs (q.val : Int) (p.val : Int) := by decide +kernel
theorem Yaf (qp p : Int) (h0 : 0 ≤ qp ∧ qp ≤ 40) (hp : 0 ≤ p ∧ p ≤ 15) : Xin qp p = Xiu qp p := by
 have := Yij ⟨qp.toNat, by omega⟩ ⟨p.toNat, by omega⟩
 simp only at this
 rw [show ((qp.toNat : Nat) : Int) = qp by omega, show ((p.toNat : Nat) : Int) = p by omega] at this
 obtain ⟨h1, h2⟩ := this
 rw [h2]
 cases e : Ybs qp p with
 | none => rw [e] at h1; cases h1
 | some o =>
  unfold Ybs at e
  unfold Xiu
  obtain ⟨k, ek, k0, k1⟩ := Xok p hp
  rw [ek, Xab] at e ⊢
  rw [Xaj, Xab, decide_eq_true h0, Xa3, decide_eq_false (by omega), Xab, Xax, rqA]
  obtain ⟨a1, e1, b1⟩ := Xa8 k 10 16 13
  obtain ⟨a2, e2, b2⟩ := Xa8 k 11 18 14
  obtain ⟨a3, e3, b3⟩ := Xa8 k 13 20 16
  obtain ⟨a4, e4, b4⟩ := Xa8 k 14 23 18
  obtain ⟨a5, e5, b5⟩ := Xa8 k 16 25 20
  obtain ⟨a6, e6, b6⟩ := Xa8 k 18 29 23
  rw [e1, e2, e3, e4, e5, e6] at e ⊢
  simp only [Xab, Yip] at e ⊢
  rw [Yen 10 e, Xab]
def Xlf (n : Int) (v16 : Int × List Int) : Option (Lp (Int × List Int) (List Int)) :=
 sel (decide (v16.1 ≤ (Xaa .i64 ((Xaa .i64 (2 * n)) - 2)))) (
 bnd (it (Xg1 n v16) 20 (0, v16.2)) fun v42 =>
 some (.go (Xaa .i64 (v16.1 + 1), v42))) (
 some (.done v16.2))
theorem Ydn {n : Int} {v : Int × List Int} {x : Lp (Int × List Int) (List Int)} (h : Xlf n v = some x) : Xet n v = some x := by
 unfold Xlf at h
 unfold Xet
 rcases Xmb h with ⟨hb, h⟩ | ⟨hb, h⟩
 ·
  rw [hb, Xa3]
  obtain ⟨a, h1, h2⟩ := Xcf h
  rw [Xfm.2 ⟨20, h1⟩, Xab]
  exact h2
 ·
  rw [hb, Xax]; exact h
def Xy3 (n : Int) : List Int := (it (Xlf n) 20 (0, [])).getD []
theorem Ylx : (it (Xlf 4) 20 (0, [])).isSome = true ∧ (Xy3 4).length = 16 := by decide +kernel
theorem Yly : (it (Xlf 8) 20 (0, [])).isSome = true ∧ (Xy3 8).length = 64 := by decide +kernel
theorem Yik : ∀ i : Fin 16, (Xy3 4).getD i.val 0 = Xe4 4 (i.val : Int) := by decide +kernel
theorem Yil : ∀ i : Fin 64, (Xy3 8).getD i.val 0 = Xe4 8 (i.val : Int) := by decide +kernel
theorem Xse (n : Int) (hn : n = 4 ∨ n = 8) : Xfu n = some (Xy3 n) ∧ ((Xy3 n).length : Int) = n * n ∧ ∀ i : Nat, (i : Int) < n * n → (Xy3 n).getD i 0 = Xe4 n i := by
 have h : (it (Xlf n) 20 (0, [])).isSome = true ∧ ((Xy3 n).length : Int) = n * n := by
  rcases hn with rfl | rfl
  ·
   have := Ylx; exact ⟨this.1, by omega⟩
  ·
   have := Yly; exact ⟨this.1, by omega⟩
 refine ⟨?_, h.2, fun i hi => ?_⟩
 ·
  obtain ⟨o, ho⟩ := Option.isSome_iff_exists.1 h.1
  have hl := Yen 20 (Yjz (fun v y => Ydn (n := n)) 20 _ ho)
  unfold Xfu
  rw [hl, Xab]
  unfold Xy3; rw [ho]; rfl
 ·
  rcases hn with rfl | rfl
  ·
   exact Yik ⟨i, by omega⟩
  ·
   exact Yil ⟨i, by omega⟩
theorem Xmv (n : Int) (hn : n = 4 ∨ n = 8) (l : List Int) (hl : (l.length : Int) = n * n) : Xdg n l = Xdk n l := by
 obtain ⟨e, h1, h2⟩ := Xse n hn
 have hw : Xaa .i64 (n * n) = n * n := by rcases hn with rfl | rfl <;> exact wkA
 have hn2 : n * n ≤ 64 := by rcases hn with rfl | rfl <;> omega
 unfold Xdg Xdk
 rw [e]
 have : loop (Xfb l (Xy3 n)) (0, List.replicate (l.length : Int).toNat 0) = loop (Xb7 n l) (0, List.replicate (l.length : Int).toNat 0) := by
  refine Xzu (fun v => (∃ i : Nat, v.1 = (i : Int) ∧ i ≤ l.length) ∧ v.2.length = l.length) ?_ ?_ ⟨⟨0, rfl, by omega⟩, by simp⟩
  ·
   intro ⟨i, s⟩ ⟨⟨k, ek, hk⟩, hs⟩
   simp only at hs ek
   subst ek
   unfold Xfb Xb7
   simp only [Int.toNat_natCast]
   rw [hw]
   by_cases hi : (k : Int) < n * n
   ·
    have hp := Xkl n hn k hi
    have h3 := h2 k hi
    simp only [h3]
    rw [syA, Xdi hi, Xku n hn k hi, Xab, rqA, rqA]
   ·
    rw [snA, Xar hi]
  ·
   intro ⟨i, s⟩ v' ⟨⟨k, ek, hk⟩, hs⟩ he
   simp only at hs ek
   subst ek
   unfold Xb7 at he
   simp only [Int.toNat_natCast] at he
   rw [hw] at he
   by_cases hi : (k : Int) < n * n
   ·
    have hp := Xkl n hn k hi
    rw [Xdi hi, Xku n hn k hi, Xab, rqA, rqA, rqA, wkA] at he
    cases he
    exact ⟨⟨k + 1, rfl, by omega⟩, by rw [List.length_set]; exact hs⟩
   ·
    rw [Xar hi] at he; cases he
 simp only [Xab, this]
def Xzj (t : Nat → Int) : Nat → Int
 | 0 => 0
 | k + 1 => Xaa .i64 (Xzj t k + t k)
def Yk3 (p : List Int) (i v k : Nat) : Int := Xaa .i64 (Xfw v k * p.getD (8 * i + k) 0)
def Ykx (p : List Int) (u v k : Nat) : Int := Xaa .i64 (Xfw u k * p.getD (8 * k + v) 0)
def Xlw (p : List Int) : List Int := (List.range 64).map fun j => Xzj (Yk3 p (j / 8) (j % 8)) 8
def Xs4 (p : List Int) : List Int := (List.range 64).map fun j => Xzj (Ykx (Xlw p) (j / 8) (j % 8)) 8
theorem Ycq (p : List Int) : (Xlw p).length = 64 := by simp [Xlw]
theorem Xxu (p : List Int) : (Xs4 p).length = 64 := by simp [Xs4]
theorem Ydt {f1 : Int × List Int → Option (Lp (Int × List Int) (List Int))} {f2 : Int × List Int → Int × List Int → Option (Lp (Int × List Int) (List Int))} {f3 : Int × List Int → Int × List Int → Int × List Int → Option (Lp (Int × List Int) (List Int))} (t : Nat → Nat → Nat → Int)
  (h1 : ∀ v, f1 v = sel (decide (v.1 < 8)) (bnd (loop (f2 v) (0, v.2)) fun w => some (.go (Xaa .i64 (v.1 + 1), w))) (some (.done v.2)))
  (h2 : ∀ v w, f2 v w = sel (decide (w.1 < 8)) (bnd (loop (f3 v w) (0, w.2)) fun x => some (.go (Xaa .i64 (w.1 + 1), x))) (some (.done w.2)))
  (h3 : ∀ (i v k : Nat) (a b s : List Int), i < 8 → v < 8 → k < 8 → s.length = 64 → f3 ((i : Int), a) ((v : Int), b) ((k : Int), s) = some (.go (((k + 1 : Nat) : Int), s.set (8 * i + v) (Xaa .i64 (s.getD (8 * i + v) 0 + t i v k)))))
  (h4 : ∀ (i v : Nat) (a b s : List Int), f3 ((i : Int), a) ((v : Int), b) (8, s) = some (.done s)) : loop f1 (0, List.replicate 64 0) = some ((List.range 64).map fun j => Xzj (t (j / 8) (j % 8)) 8) := by
 obtain ⟨o, e, o1, o2, _⟩ := Xii (f := f1) 8 (fun i s => s.length = 64 ∧ (∀ j, j < 8 * i → s.getD j 0 = Xzj (t (j / 8) (j % 8)) 8) ∧ ∀ j, 8 * i ≤ j → s.getD j 0 = 0) (by
  intro i s hi ⟨g1, g2, g3⟩
  obtain ⟨r, er, r1, r2, r3⟩ := Xii (f := f2 ((i : Int), s)) 8 (fun v s => s.length = 64 ∧ (∀ j, j < 8 * i + v → s.getD j 0 = Xzj (t (j / 8) (j % 8)) 8) ∧ ∀ j, 8 * i + v ≤ j → s.getD j 0 = 0) (by
   intro v s' hv ⟨k1, k2, k3⟩
   obtain ⟨q, eq, q1, q2, q3⟩ := Xii (f := f3 ((i : Int), s) ((v : Int), s')) 8 (fun k s => s.length = 64 ∧ (∀ j, j ≠ 8 * i + v → s.getD j 0 = s'.getD j 0) ∧ s.getD (8 * i + v) 0 = Xzj (t i v) k) (by
    intro k s'' hk ⟨m1, m2, m3⟩
    refine ⟨_, h3 i v k s s' s'' hi hv hk m1, by rw [List.length_set]; exact m1, fun j hj => ?_, ?_⟩
    ·
     rw [Xde _ _ _ _ (by omega), if_neg (fun h => hj h.symm)]; exact m2 j hj
    ·
     rw [Xde _ _ _ _ (by omega), if_pos rfl, m3]; rfl) (fun z _ => h4 i v s s' z) s' ⟨k1, fun _ _ => rfl, by rw [k3 _ (Nat.le_refl _)]; rfl⟩
   refine ⟨q, by rw [h2, Xdi (by simp only; omega), eq, Xab, wk (by simp only; omega) (by simp only; omega)]; rfl, q1, fun j hj => ?_, fun j hj => ?_⟩
   ·
    by_cases h : j = 8 * i + v
    ·
     rw [h, q3, show (8 * i + v) / 8 = i by omega, show (8 * i + v) % 8 = v by omega]
    ·
     rw [q2 j h]; exact k2 j (by omega)
   ·
    rw [q2 j (by omega)]; exact k3 j (by omega)) (fun z _ => by rw [h2, Xar (by simp)]) s ⟨g1, g2, g3⟩
  refine ⟨r, by rw [h1, Xdi (by simp only; omega), er, Xab, wk (by simp only; omega) (by simp only; omega)]; rfl, r1, fun j hj => r2 j (by omega), fun j hj => r3 j (by omega)⟩) (fun z _ => by rw [h1, Xar (by simp)]) (List.replicate 64 0) ⟨by simp, fun j hj => by omega, fun j _ => by
   by_cases h : j < 64
   ·
    rw [Xct _ _ (by rw [List.length_replicate]; exact h)]; exact List.getElem_replicate ..
   ·
    rw [List.getD_eq_getElem?_getD, List.getElem?_eq_none (by rw [List.length_replicate]; omega)]; rfl⟩
 rw [e]
 congr 1
 exact Xsi o1 (by simp) fun j hj => by rw [o2 j (by omega), Xd6 (fun j => Xzj (t (j / 8) (j % 8)) 8) hj]
end Go.Proofs.Ytlebkepfhdjnmac.A.Pure
