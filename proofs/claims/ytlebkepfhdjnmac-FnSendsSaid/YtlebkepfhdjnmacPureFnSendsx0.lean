/- The pure statement of the law FnSends, part 1: over numbers, texts and lists alone, what the law computes is true. Conditions: the sizes of what a machine holds. -/
import Derived.Test.YtlebkepfhdjnmacDFnSends
namespace Go.Proofs.Ytlebkepfhdjnmac.A.Pure
open Go Go.Proofs Go.Proofs.YtlebkepfhdjnmacAL Go.RowKit
set_option linter.unusedVariables false
set_option linter.unusedSimpArgs false
set_option maxHeartbeats 1000000
noncomputable section
def Xj5 (p0 : Xdm) : Option Bool :=
 bnd (
 bnd (Xao p0.Qp 0 40) fun q2 =>
 sel q2 (
 sel p0.Large (
 some (!p0.Exact)) (
 some true)) (
 some false)) fun v1 =>
 some v1
def Xei (p0 : (List Int)) (p1 : Int) (p2 : Int) (v3 : Int) : Option (Lp Int (Ou Unit Bool)) :=
 sel (decide (v3 < p1)) (
 req (0 ≤ v3 ∧ v3 < p0.length) <|
 bnd (Xao (p0.getD v3.toNat 0) (Xaa .i64 (0 - p2)) p2) fun q7 =>
 sel (!q7) (
 some (.done (.ret false))) (
 some (.go (Xaa .i64 (v3 + 1))))) (
 some (.done (.out ())))
def Xb2 (p0 : (List Int)) (p1 : Int) (p2 : Int) : Option Bool :=
 sel ((p0.length : Int) != p1) (
 some false) (
 bnd (loop (Xei p0 p1 p2) 0) fun o8 => match o8 with
| .out v6 => (
 some true)
| .ret r => some r)
def Xpf (p0 : Xam) : Option Bool :=
 sel (p0.Kind == 0) (
 bnd (
 sel (p0.Mode == 0) (
 sel (p0.Dx == 0) (
 sel (p0.Dy == 0) (
 some ((p0.Levels.length : Int) == 0)) (
 some false)) (
 some false)) (
 some false)) fun v1 =>
 some v1) (
 sel (p0.Kind == 1) (
 bnd (
 sel (p0.Mode == 0) (
 bnd (Xao p0.Dx (-16) 16) fun q3 =>
 sel q3 (
 bnd (Xao p0.Dy (-16) 16) fun q4 =>
 sel q4 (
 bnd (Xb2 p0.Levels 64 5000) fun q5 =>
 some q5) (
 some false)) (
 some false)) (
 some false)) fun v2 =>
 some v2) (
 sel (p0.Kind == 2) (
 bnd (
 bnd (Xao p0.Mode 0 3) fun q7 =>
 sel q7 (
 sel (p0.Dx == 0) (
 sel (p0.Dy == 0) (
 bnd (Xb2 p0.Levels 64 5000) fun q8 =>
 some q8) (
 some false)) (
 some false)) (
 some false)) fun v6 =>
 some v6) (
 some false)))
def Xkq (p0 : Pic) (p1 : Int) (p2 : Int) (p3 : Int) (p4 : Int) : Option Bool :=
 bnd (
 bnd (Xfp p0) fun q2 =>
 sel q2 (
 bnd (Xao p3 1 p0.Wide) fun q3 =>
 sel q3 (
 bnd (Xao p4 1 p0.High) fun q4 =>
 sel q4 (
 bnd (Xao p1 0 (Xaa .i64 (p0.Wide - p3))) fun q5 =>
 sel q5 (
 bnd (Xao p2 0 (Xaa .i64 (p0.High - p4))) fun q6 =>
 some q6) (
 some false)) (
 some false)) (
 some false)) (
 some false)) fun v1 =>
 some v1
def Xlr (p0 : Pic) (p1 : Ydn) (v3 : (Int × (List Int))) : Option (Lp (Int × (List Int)) (List Int)) :=
 sel (decide (v3.1 < (Xaa .i64 (p1.Top + p1.High)))) (
 req (0 ≤ (Xaa .i64 ((Xaa .i64 (v3.1 * p0.Wide)) + p1.Left)) ∧ (Xaa .i64 ((Xaa .i64 (v3.1 * p0.Wide)) + p1.Left)) ≤ (Xaa .i64 ((Xaa .i64 ((Xaa .i64 (v3.1 * p0.Wide)) + p1.Left)) + p1.Wide)) ∧ (Xaa .i64 ((Xaa .i64 ((Xaa .i64 (v3.1 * p0.Wide)) + p1.Left)) + p1.Wide)) ≤ (p0.Dots.size : Int)) <|
 req ((v3.2.length + (Xaz (p0.Dots.extract (Xaa .i64 ((Xaa .i64 (v3.1 * p0.Wide)) + p1.Left)).toNat (Xaa .i64 ((Xaa .i64 ((Xaa .i64 (v3.1 * p0.Wide)) + p1.Left)) + p1.Wide)).toNat)).length) * 1 ≤ 140737488355328 ∧ v3.2.length + (Xaz (p0.Dots.extract (Xaa .i64 ((Xaa .i64 (v3.1 * p0.Wide)) + p1.Left)).toNat (Xaa .i64 ((Xaa .i64 ((Xaa .i64 (v3.1 * p0.Wide)) + p1.Left)) + p1.Wide)).toNat)).length ≤ maxLen) <|
 some (.go (Xaa .i64 (v3.1 + 1), (v3.2 ++ (Xaz (p0.Dots.extract (Xaa .i64 ((Xaa .i64 (v3.1 * p0.Wide)) + p1.Left)).toNat (Xaa .i64 ((Xaa .i64 ((Xaa .i64 (v3.1 * p0.Wide)) + p1.Left)) + p1.Wide)).toNat)))))) (
 some (.done v3.2))
def Xi1 (p0 : Int) (p1 : Int) (v2 : (Int × (List Int))) : Option (Lp (Int × (List Int)) (List Int)) :=
 sel (decide (v2.1 < p0)) (
 req (0 ≤ v2.1 ∧ v2.1 < v2.2.length) <|
 req (v2.1.toNat < v2.2.length) <|
 some (.go (Xaa .i64 (v2.1 + 1), (v2.2.set v2.1.toNat p1)))) (
 some (.done v2.2))
def Xqr (p0 : Int) (p1 : Int) : Option ByteArray :=
 req (0 ≤ p0 ∧ p0 ≤ p0 ∧ p0 * 1 ≤ 281474976710656) <|
 bnd (loop (Xi1 p0 p1) (0, (List.replicate p0.toNat (0 : Int)))) fun v4 =>
 some (strOfNums v4)
def Xia (p0 : Pic) (p1 : Int) (p2 : Int) : Option Bool :=
 bnd (
 req ((8 : Int) ≠ 0) <|
 sel ((p1.tmod 8) == 0) (
 req ((8 : Int) ≠ 0) <|
 sel ((p2.tmod 8) == 0) (
 bnd (Xkq p0 p1 p2 8 8) fun q2 =>
 some q2) (
 some false)) (
 some false)) fun v1 =>
 some v1
def Xew (p0 : Pic) (p1 : Int) (p2 : Int) (v7 : (Int × (List Int) × (List Int))) : Option (Lp (Int × (List Int) × (List Int)) ((List Int) × (List Int))) :=
 sel (decide (v7.1 < 8)) (
 bnd (
 bnd (
 sel (decide (p2 > 0)) (
 bnd (Xd0 p0 (Xaa .i64 (p1 + v7.1)) (Xaa .i64 (p2 - 1))) fun q16 =>
 req ((v7.2.1.length + ([q16]).length) * 8 ≤ 140737488355328 ∧ v7.2.1.length + ([q16]).length ≤ maxLen) <|
 some (v7.2.1 ++ ([q16]))) (
 some v7.2.1)) fun v15 =>
 sel (decide (p1 > 0)) (
 bnd (Xd0 p0 (Xaa .i64 (p1 - 1)) (Xaa .i64 (p2 + v7.1))) fun q17 =>
 req ((v7.2.2.length + ([q17]).length) * 8 ≤ 140737488355328 ∧ v7.2.2.length + ([q17]).length ≤ maxLen) <|
 some (v15, (v7.2.2 ++ ([q17])))) (
 some (v15, v7.2.2))) fun v14 =>
 some (.go (Xaa .i64 (v7.1 + 1), v14.1, v14.2))) (
 some (.done (v7.2.1, v7.2.2)))
def Xe4 (p0 : Pic) (p1 : Int) (p2 : Int) : Option (Xg4 × Bool) :=
 bnd (Xia p0 p1 p2) fun q1 =>
 sel (!q1) (
 some ((⟨[], [], 0⟩ : Xg4), false)) (
 bnd (loop (Xew p0 p1 p2) (0, [], [])) fun v13 =>
 bnd (
 bnd (
 sel (decide (p1 > 0)) (
 some (decide (p2 > 0))) (
 some false)) fun v20 =>
 sel v20 (
 bnd (Xd0 p0 (Xaa .i64 (p1 - 1)) (Xaa .i64 (p2 - 1))) fun q21 =>
 some q21) (
 some (-1))) fun v19 =>
 some ((⟨v13.1, v13.2, v19⟩ : Xg4), true))
def Xqq (p0 : Int) (p1 : Int) (v17 : (Int × Int)) (v38 : (Int × Int)) : Option (Lp (Int × Int) (Ou Int Int)) :=
 sel (decide (v38.2 < p0)) (
 Ynj (fun (v44 : Int) =>
 some (.go (v44, Xaa .i64 (v38.2 + 1)))) fun j36 =>
 bnd (
 req ((2 : Int) ≠ 0) <|
 sel ((v17.2.tmod 2) == 0) (
 some (Xaa .i64 ((Xaa .i64 (p0 - 1)) - v38.2))) (
 some v38.2)) fun v45 =>
 bnd (Xao (Xaa .i64 (v17.2 - v45)) 0 (Xaa .i64 (p0 - 1))) fun q46 =>
 sel (!q46) (
 j36 v38.1) (
 sel (v38.1 == p1) (
 some (.done (.ret (Xaa .i64 ((Xaa .i64 ((Xaa .i64 (p0 * v45)) + v17.2)) - v45))))) (
 j36 (Xaa .i64 (v38.1 + 1))))) (
 some (.done (.out v38.1)))
def Xmi (p0 : Int) (p1 : Int) (v17 : (Int × Int)) : Option (Lp (Int × Int) (Ou Unit Int)) :=
 sel (decide (v17.2 ≤ (Xaa .i64 ((Xaa .i64 (2 * p0)) - 2)))) (
 bnd (loop (Xqq p0 p1 v17) (v17.1, 0)) fun o47 => match o47 with
| .out v43 => (
 some (.go (v43, Xaa .i64 (v17.2 + 1))))
| .ret r => some (.done (.ret r))) (
 some (.done (.out ())))
def Xpd (p0 : Int) (p1 : Int) : Option Int :=
 bnd (
 sel (p0 != 4) (
 sel (p0 != 8) (
 some true) (
 sel (decide (p1 < 0)) (
 some true) (
 some (decide (p1 ≥ (Xaa .i64 (p0 * p0))))))) (
 sel (decide (p1 < 0)) (
 some true) (
 some (decide (p1 ≥ (Xaa .i64 (p0 * p0))))))) fun v1 =>
 sel v1 (
 some (-1)) (
 bnd (loop (Xmi p0 p1) (0, 0)) fun o48 => match o48 with
| .out v33 => (
 some (-1))
| .ret r => some r)
def Xbl (p0 : Int) (p1 : (List Int)) (v4 : (Int × (List Int))) : Option (Lp (Int × (List Int)) (List Int)) :=
 sel (decide (v4.1 < (Xaa .i64 (p0 * p0)))) (
 bnd (Xpd p0 v4.1) fun q8 =>
 req (0 ≤ v4.1 ∧ v4.1 < p1.length) <|
 req (0 ≤ q8 ∧ q8 < v4.2.length) <|
 req (q8.toNat < v4.2.length) <|
 some (.go (Xaa .i64 (v4.1 + 1), (v4.2.set q8.toNat (p1.getD v4.1.toNat 0))))) (
 some (.done v4.2))
def Xcu (p0 : Int) (p1 : (List Int)) : Option ((List Int) × Bool) :=
 bnd (
 sel (p0 != 4) (
 sel (p0 != 8) (
 some true) (
 some ((p1.length : Int) != (Xaa .i64 (p0 * p0))))) (
 some ((p1.length : Int) != (Xaa .i64 (p0 * p0))))) fun v1 =>
 sel v1 (
 some (([] : List Int), false)) (
 req (0 ≤ (p1.length : Int) ∧ (p1.length : Int) ≤ (p1.length : Int) ∧ (p1.length : Int) * 8 ≤ 281474976710656) <|
 bnd (loop (Xbl p0 p1) (0, (List.replicate (p1.length : Int).toNat (0 : Int)))) fun v7 =>
 some (v7, true))
def Xko (p0 : Int) (v4 : (Int × Int)) : Option (Lp (Int × Int) Int) :=
 req ((6 : Int) ≠ 0) <|
 sel (decide (v4.2 < (Xaa .i64 (p0.tdiv 6)))) (
 some (.go (Xaa .i64 (2 * v4.1), Xaa .i64 (v4.2 + 1)))) (
 some (.done v4.1))
def Xc6 (p0 : Int) : Option Int :=
 bnd (Xao p0 0 40) fun q1 =>
 sel (!q1) (
 some 0) (
 bnd (
 req ((6 : Int) ≠ 0) <|
 sel ((p0.tmod 6) == 0) (
 some 10) (
 sel ((p0.tmod 6) == 1) (
 some 11) (
 sel ((p0.tmod 6) == 2) (
 some 13) (
 sel ((p0.tmod 6) == 3) (
 some 14) (
 sel ((p0.tmod 6) == 4) (
 some 16) (
 some 18)))))) fun v2 =>
 bnd (loop (Xko p0) (v2, 0)) fun v6 =>
 some v6)
def Xeh (p0 : Int) (p1 : Int) : Option Int :=
 bnd (Xao p0 (-5000) 5000) fun q1 =>
 sel (!q1) (
 some 0) (
 bnd (Xc6 p1) fun q2 =>
 some (Xaa .i64 (p0 * q2)))
def Xkm (v6 : (Int × Int)) : Option (Lp (Int × Int) Int) :=
 sel (decide (v6.2 > 0)) (
 bnd (
 req ((2 : Int) ≠ 0) <|
 sel ((v6.2.tmod 2) == 1) (
 some (Xaa .i64 (0 - v6.1))) (
 some v6.1)) fun v10 =>
 req ((2 : Int) ≠ 0) <|
 some (.go (v10, Xaa .i64 (v6.2.tdiv 2)))) (
 some (.done v6.1))
def Xj7 (p0 : Int) (p1 : Int) : Option Int :=
 bnd (
 bnd (Xao p0 0 7) fun q2 =>
 sel q2 (
 bnd (Xao p1 0 7) fun q3 =>
 some (!q3)) (
 some true)) fun v1 =>
 sel v1 (
 some 0) (
 bnd (loop (Xkm) (1, (IntKind.wrap .i64 (BitVec.ofInt (IntKind.bits .i64) p0 &&& BitVec.ofInt (IntKind.bits .i64) p1).toNat))) fun v9 =>
 some v9)
def Xej (p0 : (List Int)) (p1 : Int) (p2 : Int) (v3 : (Int × Int)) : Option (Lp (Int × Int) Int) :=
 sel (decide (v3.2 < 8)) (
 req (0 ≤ (Xaa .i64 ((Xaa .i64 (8 * p1)) + v3.2)) ∧ (Xaa .i64 ((Xaa .i64 (8 * p1)) + v3.2)) < p0.length) <|
 bnd (Xj7 p2 v3.2) fun q7 =>
 some (.go (Xaa .i64 (v3.1 + (Xaa .i64 ((p0.getD (Xaa .i64 ((Xaa .i64 (8 * p1)) + v3.2)).toNat 0) * q7))), Xaa .i64 (v3.2 + 1)))) (
 some (.done v3.1))
def Xmm (p0 : (List Int)) (p1 : Int) (p2 : Int) : Option Int :=
 bnd (loop (Xej p0 p1 p2) (0, 0)) fun v6 =>
 some v6
def Xc9 (p0 : (List Int)) (v10 : (Int × (List Int))) (v23 : (Int × (List Int))) : Option (Lp (Int × (List Int)) (List Int)) :=
 sel (decide (v23.1 < 8)) (
 bnd (Xmm p0 v10.1 v23.1) fun q27 =>
 req ((v23.2.length + ([q27]).length) * 8 ≤ 140737488355328 ∧ v23.2.length + ([q27]).length ≤ maxLen) <|
 some (.go (Xaa .i64 (v23.1 + 1), (v23.2 ++ ([q27]))))) (
 some (.done v23.2))
def Xc8 (p0 : (List Int)) (v10 : (Int × (List Int))) : Option (Lp (Int × (List Int)) (List Int)) :=
 sel (decide (v10.1 < 8)) (
 bnd (loop (Xc9 p0 v10) (0, v10.2)) fun v26 =>
 some (.go (Xaa .i64 (v10.1 + 1), v26))) (
 some (.done v10.2))
def Xcr (v20 : (List Int)) (v60 : (Int × (List Int))) (v101 : (Int × (List Int))) (v114 : (Int × Int)) : Option (Lp (Int × Int) Int) :=
 sel (decide (v114.2 < 8)) (
 bnd (Xj7 v60.1 v114.2) fun q118 =>
 req (0 ≤ (Xaa .i64 ((Xaa .i64 (8 * v114.2)) + v101.1)) ∧ (Xaa .i64 ((Xaa .i64 (8 * v114.2)) + v101.1)) < v20.length) <|
 req ((Xaa .i64 ((Xaa .i64 (8 * v114.2)) + v101.1)).toNat < v20.length) <|
 some (.go (Xaa .i64 (v114.1 + (Xaa .i64 (q118 * (v20.getD ((Xaa .i64 ((Xaa .i64 (8 * v114.2)) + v101.1)).toNat) 0)))), Xaa .i64 (v114.2 + 1)))) (
 some (.done v114.1))
def Xcq (v20 : (List Int)) (v60 : (Int × (List Int))) (v101 : (Int × (List Int))) : Option (Lp (Int × (List Int)) (List Int)) :=
 sel (decide (v101.1 < 8)) (
 bnd (loop (Xcr v20 v60 v101) (0, 0)) fun v117 =>
 req ((v101.2.length + ([v117]).length) * 8 ≤ 140737488355328 ∧ v101.2.length + ([v117]).length ≤ maxLen) <|
 some (.go (Xaa .i64 (v101.1 + 1), (v101.2 ++ ([v117]))))) (
 some (.done v101.2))
def Xcp (v20 : (List Int)) (v60 : (Int × (List Int))) : Option (Lp (Int × (List Int)) (List Int)) :=
 sel (decide (v60.1 < 8)) (
 bnd (loop (Xcq v20 v60) (0, v60.2)) fun v111 =>
 some (.go (Xaa .i64 (v60.1 + 1), v111))) (
 some (.done v60.2))
def Xh9 (p0 : (List Int)) : Option (List Int) :=
 bnd (loop (Xc8 p0) (0, ([] : List Int))) fun v20 =>
 bnd (loop (Xcp v20) (0, ([] : List Int))) fun v91 =>
 some v91
def Xdi (p0 : Int) (p1 : Int) : Option Int :=
 req (p1 ≠ 0) <|
 bnd (
 req (p1 ≠ 0) <|
 sel (decide ((p0.tmod p1) < 0)) (
 some (Xaa .i64 ((Xaa .i64 (p0.tdiv p1)) - 1))) (
 some (Xaa .i64 (p0.tdiv p1)))) fun v1 =>
 some v1
def Xcn (v5 : (Int × (List Int))) : Option (Lp (Int × (List Int)) (List Int)) :=
 sel (decide (v5.1 < 64)) (
 req (0 ≤ v5.1 ∧ v5.1 < v5.2.length) <|
 req (v5.1.toNat < v5.2.length) <|
 bnd (Xdi (Xaa .i64 ((v5.2.getD v5.1.toNat 0) + 32)) 64) fun q9 =>
 req (0 ≤ v5.1 ∧ v5.1 < v5.2.length) <|
 req (v5.1.toNat < v5.2.length) <|
 some (.go (Xaa .i64 (v5.1 + 1), (v5.2.set v5.1.toNat q9)))) (
 some (.done v5.2))
def Xeg (p0 : (List Int)) : Option (List Int) :=
 bnd (Xb2 p0 64 10000000) fun q1 =>
 sel (!q1) (
 some ([] : List Int)) (
 bnd (Xh9 p0) fun q2 =>
 bnd (loop (Xcn) (0, q2)) fun v8 =>
 some v8)
def Xmh (p0 : Int) : Option Int :=
 bnd (Xao p0 0 15) fun q1 =>
 sel (!q1) (
 some (-1)) (
 req ((4 : Int) ≠ 0) <|
 req ((2 : Int) ≠ 0) <|
 req ((4 : Int) ≠ 0) <|
 req ((2 : Int) ≠ 0) <|
 bnd (
 sel (((Xaa .i64 (p0.tdiv 4)).tmod 2) == 0) (
 some (((p0.tmod 4).tmod 2) == 0)) (
 some false)) fun v2 =>
 sel v2 (
 some 0) (
 bnd (
 sel (((Xaa .i64 (p0.tdiv 4)).tmod 2) == 1) (
 some (((p0.tmod 4).tmod 2) == 1)) (
 some false)) fun v3 =>
 sel v3 (
 some 1) (
 some 2)))
def Xa2 (p0 : Int) (p1 : Int) (p2 : Int) (p3 : Int) : Option Int :=
 sel (p0 == 0) (
 some p1) (
 sel (p0 == 1) (
 some p2) (
 some p3))
def Xex (p0 : Int) (v12 : (Int × Int)) : Option (Lp (Int × Int) Int) :=
 req ((6 : Int) ≠ 0) <|
 sel (decide (v12.2 < (Xaa .i64 (p0.tdiv 6)))) (
 some (.go (Xaa .i64 (2 * v12.1), Xaa .i64 (v12.2 + 1)))) (
 some (.done v12.1))
def Xk0 (p0 : Int) (p1 : Int) : Option Int :=
 bnd (Xmh p1) fun q1 =>
 bnd (
 bnd (Xao p0 0 40) fun q3 =>
 sel q3 (
 some (decide (q1 < 0))) (
 some true)) fun v2 =>
 sel v2 (
 some 0) (
 bnd (
 req ((6 : Int) ≠ 0) <|
 sel ((p0.tmod 6) == 0) (
 bnd (Xa2 q1 10 16 13) fun q5 =>
 some q5) (
 sel ((p0.tmod 6) == 1) (
 bnd (Xa2 q1 11 18 14) fun q6 =>
 some q6) (
 sel ((p0.tmod 6) == 2) (
 bnd (Xa2 q1 13 20 16) fun q7 =>
 some q7) (
 sel ((p0.tmod 6) == 3) (
 bnd (Xa2 q1 14 23 18) fun q8 =>
 some q8) (
 sel ((p0.tmod 6) == 4) (
 bnd (Xa2 q1 16 25 20) fun q9 =>
 some q9) (
 sel ((p0.tmod 6) == 5) (
 bnd (Xa2 q1 18 29 23) fun q10 =>
 some q10) (
 some 0))))))) fun v4 =>
 bnd (loop (Xex p0) (v4, 0)) fun v14 =>
 some v14)
def Xhe (p0 : Int) (p1 : Int) (p2 : Int) : Option Int :=
 bnd (Xao p0 (-5000) 5000) fun q1 =>
 sel (!q1) (
 some 0) (
 bnd (Xk0 p1 p2) fun q2 =>
 some (Xaa .i64 (p0 * q2)))
def Xc7 (p0 : (List Int)) (v4 : (Int × (List Int))) : Option (Lp (Int × (List Int)) (List Int)) :=
 sel (decide (v4.1 < 4)) (
 req (0 ≤ (Xaa .i64 (4 * v4.1)) ∧ (Xaa .i64 (4 * v4.1)) < p0.length) <|
 req (0 ≤ (Xaa .i64 ((Xaa .i64 (4 * v4.1)) + 1)) ∧ (Xaa .i64 ((Xaa .i64 (4 * v4.1)) + 1)) < p0.length) <|
 req (0 ≤ (Xaa .i64 ((Xaa .i64 (4 * v4.1)) + 2)) ∧ (Xaa .i64 ((Xaa .i64 (4 * v4.1)) + 2)) < p0.length) <|
 req (0 ≤ (Xaa .i64 ((Xaa .i64 (4 * v4.1)) + 3)) ∧ (Xaa .i64 ((Xaa .i64 (4 * v4.1)) + 3)) < p0.length) <|
 bnd (Xdi (p0.getD (Xaa .i64 ((Xaa .i64 (4 * v4.1)) + 1)).toNat 0) 2) fun q9 =>
 bnd (Xdi (p0.getD (Xaa .i64 ((Xaa .i64 (4 * v4.1)) + 3)).toNat 0) 2) fun q10 =>
 req ((v4.2.length + ([Xaa .i64 ((Xaa .i64 ((p0.getD (Xaa .i64 (4 * v4.1)).toNat 0) + (p0.getD (Xaa .i64 ((Xaa .i64 (4 * v4.1)) + 2)).toNat 0))) + (Xaa .i64 ((p0.getD (Xaa .i64 ((Xaa .i64 (4 * v4.1)) + 1)).toNat 0) + q10))), Xaa .i64 ((Xaa .i64 ((p0.getD (Xaa .i64 (4 * v4.1)).toNat 0) - (p0.getD (Xaa .i64 ((Xaa .i64 (4 * v4.1)) + 2)).toNat 0))) + (Xaa .i64 (q9 - (p0.getD (Xaa .i64 ((Xaa .i64 (4 * v4.1)) + 3)).toNat 0)))), Xaa .i64 ((Xaa .i64 ((p0.getD (Xaa .i64 (4 * v4.1)).toNat 0) - (p0.getD (Xaa .i64 ((Xaa .i64 (4 * v4.1)) + 2)).toNat 0))) - (Xaa .i64 (q9 - (p0.getD (Xaa .i64 ((Xaa .i64 (4 * v4.1)) + 3)).toNat 0)))), Xaa .i64 ((Xaa .i64 ((p0.getD (Xaa .i64 (4 * v4.1)).toNat 0) + (p0.getD (Xaa .i64 ((Xaa .i64 (4 * v4.1)) + 2)).toNat 0))) - (Xaa .i64 ((p0.getD (Xaa .i64 ((Xaa .i64 (4 * v4.1)) + 1)).toNat 0) + q10)))]).length) * 8 ≤ 140737488355328 ∧ v4.2.length + ([Xaa .i64 ((Xaa .i64 ((p0.getD (Xaa .i64 (4 * v4.1)).toNat 0) + (p0.getD (Xaa .i64 ((Xaa .i64 (4 * v4.1)) + 2)).toNat 0))) + (Xaa .i64 ((p0.getD (Xaa .i64 ((Xaa .i64 (4 * v4.1)) + 1)).toNat 0) + q10))), Xaa .i64 ((Xaa .i64 ((p0.getD (Xaa .i64 (4 * v4.1)).toNat 0) - (p0.getD (Xaa .i64 ((Xaa .i64 (4 * v4.1)) + 2)).toNat 0))) + (Xaa .i64 (q9 - (p0.getD (Xaa .i64 ((Xaa .i64 (4 * v4.1)) + 3)).toNat 0)))), Xaa .i64 ((Xaa .i64 ((p0.getD (Xaa .i64 (4 * v4.1)).toNat 0) - (p0.getD (Xaa .i64 ((Xaa .i64 (4 * v4.1)) + 2)).toNat 0))) - (Xaa .i64 (q9 - (p0.getD (Xaa .i64 ((Xaa .i64 (4 * v4.1)) + 3)).toNat 0)))), Xaa .i64 ((Xaa .i64 ((p0.getD (Xaa .i64 (4 * v4.1)).toNat 0) + (p0.getD (Xaa .i64 ((Xaa .i64 (4 * v4.1)) + 2)).toNat 0))) - (Xaa .i64 ((p0.getD (Xaa .i64 ((Xaa .i64 (4 * v4.1)) + 1)).toNat 0) + q10)))]).length ≤ maxLen) <|
 some (.go (Xaa .i64 (v4.1 + 1), (v4.2 ++ ([Xaa .i64 ((Xaa .i64 ((p0.getD (Xaa .i64 (4 * v4.1)).toNat 0) + (p0.getD (Xaa .i64 ((Xaa .i64 (4 * v4.1)) + 2)).toNat 0))) + (Xaa .i64 ((p0.getD (Xaa .i64 ((Xaa .i64 (4 * v4.1)) + 1)).toNat 0) + q10))), Xaa .i64 ((Xaa .i64 ((p0.getD (Xaa .i64 (4 * v4.1)).toNat 0) - (p0.getD (Xaa .i64 ((Xaa .i64 (4 * v4.1)) + 2)).toNat 0))) + (Xaa .i64 (q9 - (p0.getD (Xaa .i64 ((Xaa .i64 (4 * v4.1)) + 3)).toNat 0)))), Xaa .i64 ((Xaa .i64 ((p0.getD (Xaa .i64 (4 * v4.1)).toNat 0) - (p0.getD (Xaa .i64 ((Xaa .i64 (4 * v4.1)) + 2)).toNat 0))) - (Xaa .i64 (q9 - (p0.getD (Xaa .i64 ((Xaa .i64 (4 * v4.1)) + 3)).toNat 0)))), Xaa .i64 ((Xaa .i64 ((p0.getD (Xaa .i64 (4 * v4.1)).toNat 0) + (p0.getD (Xaa .i64 ((Xaa .i64 (4 * v4.1)) + 2)).toNat 0))) - (Xaa .i64 ((p0.getD (Xaa .i64 ((Xaa .i64 (4 * v4.1)) + 1)).toNat 0) + q10)))]))))) (
 some (.done v4.2))
def Xgt (p0 : (List Int)) : Option (List Int) :=
 bnd (loop (Xc7 p0) (0, ([] : List Int))) fun v8 =>
 some v8
def Xdu (p0 : (List Int)) (v2 : (Int × (List Int))) : Option (Lp (Int × (List Int)) (List Int)) :=
 sel (decide (v2.1 < 16)) (
 req ((4 : Int) ≠ 0) <|
 req ((4 : Int) ≠ 0) <|
 req (0 ≤ v2.1 ∧ v2.1 < p0.length) <|
 req (0 ≤ (Xaa .i64 ((Xaa .i64 ((v2.1.tmod 4) * 4)) + (Xaa .i64 (v2.1.tdiv 4)))) ∧ (Xaa .i64 ((Xaa .i64 ((v2.1.tmod 4) * 4)) + (Xaa .i64 (v2.1.tdiv 4)))) < v2.2.length) <|
 req ((Xaa .i64 ((Xaa .i64 ((v2.1.tmod 4) * 4)) + (Xaa .i64 (v2.1.tdiv 4)))).toNat < v2.2.length) <|
 some (.go (Xaa .i64 (v2.1 + 1), (v2.2.set ((Xaa .i64 ((Xaa .i64 ((v2.1.tmod 4) * 4)) + (Xaa .i64 (v2.1.tdiv 4)))).toNat) (p0.getD v2.1.toNat 0))))) (
 some (.done v2.2))
def Xe5 (p0 : (List Int)) : Option (List Int) :=
 req (0 ≤ (16 : Int) ∧ (16 : Int) ≤ (16 : Int) ∧ (16 : Int) * 8 ≤ 281474976710656) <|
 bnd (loop (Xdu p0) (0, (List.replicate (16 : Int).toNat (0 : Int)))) fun v4 =>
 some v4
def Xhp (v8 : (Int × (List Int))) : Option (Lp (Int × (List Int)) (List Int)) :=
 sel (decide (v8.1 < 16)) (
 req (0 ≤ v8.1 ∧ v8.1 < v8.2.length) <|
 req (v8.1.toNat < v8.2.length) <|
 bnd (Xdi (Xaa .i64 ((v8.2.getD v8.1.toNat 0) + 32)) 64) fun q12 =>
 req (0 ≤ v8.1 ∧ v8.1 < v8.2.length) <|
 req (v8.1.toNat < v8.2.length) <|
 some (.go (Xaa .i64 (v8.1 + 1), (v8.2.set v8.1.toNat q12)))) (
 some (.done v8.2))
def Xi0 (p0 : (List Int)) : Option (List Int) :=
 bnd (Xb2 p0 16 10000000) fun q1 =>
 sel (!q1) (
 some ([] : List Int)) (
 bnd (Xgt p0) fun q2 =>
 bnd (Xe5 q2) fun q3 =>
 bnd (Xgt q3) fun q4 =>
 bnd (Xe5 q4) fun q5 =>
 bnd (loop (Xhp) (0, q5)) fun v11 =>
 some v11)
def Xa0 (p1 : Xdm) (v8 : (Int × (List Int))) : Option (Lp (Int × (List Int)) (List Int)) :=
 sel (decide (v8.1 < 64)) (
 req (0 ≤ v8.1 ∧ v8.1 < v8.2.length) <|
 req (v8.1.toNat < v8.2.length) <|
 bnd (Xeh (v8.2.getD v8.1.toNat 0) p1.Qp) fun q12 =>
 req (0 ≤ v8.1 ∧ v8.1 < v8.2.length) <|
 req (v8.1.toNat < v8.2.length) <|
 some (.go (Xaa .i64 (v8.1 + 1), (v8.2.set v8.1.toNat q12)))) (
 some (.done v8.2))
def Xa6 (p1 : Xdm) (v52 : (Int × (List Int))) : Option (Lp (Int × (List Int)) (List Int)) :=
 sel (decide (v52.1 < 16)) (
 req (0 ≤ v52.1 ∧ v52.1 < v52.2.length) <|
 req (v52.1.toNat < v52.2.length) <|
 bnd (Xhe (v52.2.getD v52.1.toNat 0) p1.Qp v52.1) fun q56 =>
 req (0 ≤ v52.1 ∧ v52.1 < v52.2.length) <|
 req (v52.1.toNat < v52.2.length) <|
 some (.go (Xaa .i64 (v52.1 + 1), (v52.2.set v52.1.toNat q56)))) (
 some (.done v52.2))
def Xbh (v31 : (Int × (List Int))) (q58 : (List Int)) (v60 : (Int × (List Int))) : Option (Lp (Int × (List Int)) (List Int)) :=
 sel (decide (v60.1 < 16)) (
 req ((2 : Int) ≠ 0) <|
 req ((4 : Int) ≠ 0) <|
 req ((2 : Int) ≠ 0) <|
 req ((4 : Int) ≠ 0) <|
 req (0 ≤ v60.1 ∧ v60.1 < q58.length) <|
 req (v60.1.toNat < q58.length) <|
 req (0 ≤ (Xaa .i64 ((Xaa .i64 ((Xaa .i64 (8 * (Xaa .i64 ((Xaa .i64 ((Xaa .i64 (v31.1.tdiv 2)) * 4)) + (Xaa .i64 (v60.1.tdiv 4)))))) + (Xaa .i64 ((v31.1.tmod 2) * 4)))) + (v60.1.tmod 4))) ∧ (Xaa .i64 ((Xaa .i64 ((Xaa .i64 (8 * (Xaa .i64 ((Xaa .i64 ((Xaa .i64 (v31.1.tdiv 2)) * 4)) + (Xaa .i64 (v60.1.tdiv 4)))))) + (Xaa .i64 ((v31.1.tmod 2) * 4)))) + (v60.1.tmod 4))) < v60.2.length) <|
 req ((Xaa .i64 ((Xaa .i64 ((Xaa .i64 (8 * (Xaa .i64 ((Xaa .i64 ((Xaa .i64 (v31.1.tdiv 2)) * 4)) + (Xaa .i64 (v60.1.tdiv 4)))))) + (Xaa .i64 ((v31.1.tmod 2) * 4)))) + (v60.1.tmod 4))).toNat < v60.2.length) <|
 some (.go (Xaa .i64 (v60.1 + 1), (v60.2.set ((Xaa .i64 ((Xaa .i64 ((Xaa .i64 (8 * (Xaa .i64 ((Xaa .i64 ((Xaa .i64 (v31.1.tdiv 2)) * 4)) + (Xaa .i64 (v60.1.tdiv 4)))))) + (Xaa .i64 ((v31.1.tmod 2) * 4)))) + (v60.1.tmod 4))).toNat) (q58.getD v60.1.toNat 0))))) (
 some (.done v60.2))
def Xco (p0 : (List Int)) (p1 : Xdm) (v31 : (Int × (List Int))) : Option (Lp (Int × (List Int)) (List Int)) :=
 sel (decide (v31.1 < 4)) (
 req (0 ≤ (Xaa .i64 (16 * v31.1)) ∧ (Xaa .i64 (16 * v31.1)) ≤ (Xaa .i64 ((Xaa .i64 (16 * v31.1)) + 16)) ∧ (Xaa .i64 ((Xaa .i64 (16 * v31.1)) + 16)) ≤ (p0.length : Int)) <|
 bnd (Xcu 4 ((p0.drop (Xaa .i64 (16 * v31.1)).toNat).take ((Xaa .i64 ((Xaa .i64 (16 * v31.1)) + 16)).toNat - (Xaa .i64 (16 * v31.1)).toNat))) fun q49 =>
 bnd (loop (Xa6 p1) (0, q49.1)) fun v55 =>
 bnd (Xi0 v55) fun q58 =>
 bnd (loop (Xbh v31 q58) (0, v31.2)) fun v62 =>
 some (.go (Xaa .i64 (v31.1 + 1), v62))) (
 some (.done v31.2))
def Xbd (p0 : (List Int)) (p1 : Xdm) : Option ((List Int) × Bool) :=
 bnd (
 bnd (Xj5 p1) fun q2 =>
 sel q2 (
 bnd (Xb2 p0 64 5000) fun q3 =>
 some (!q3)) (
 some true)) fun v1 =>
 sel v1 (
 some (([] : List Int), false)) (
 sel p1.Exact (
 bnd (Xcu 8 p0) fun q4 =>
 some (q4.1, q4.2)) (
 sel p1.Large (
 bnd (Xcu 8 p0) fun q5 =>
 bnd (loop (Xa0 p1) (0, q5.1)) fun v11 =>
 bnd (Xeg v11) fun q14 =>
 some (q14, true)) (
 req (0 ≤ (64 : Int) ∧ (64 : Int) ≤ (64 : Int) ∧ (64 : Int) * 8 ≤ 281474976710656) <|
 bnd (loop (Xco p0 p1) (0, (List.replicate (64 : Int).toNat (0 : Int)))) fun v48 =>
 some (v48, true))))
def Xi8 (p0 : (List Int)) (v4 : Int) : Option (Lp Int (Ou Unit Bool)) :=
 sel (decide (v4 < (p0.length : Int))) (
 req (0 ≤ v4 ∧ v4 < p0.length) <|
 bnd (Xao (p0.getD v4.toNat 0) 0 255) fun q8 =>
 sel (!q8) (
 some (.done (.ret false))) (
 some (.go (Xaa .i64 (v4 + 1))))) (
 some (.done (.out ())))
def Xna (p0 : (List Int)) : Option Bool :=
 bnd (
 sel ((p0.length : Int) != 0) (
 some ((p0.length : Int) != 8)) (
 some false)) fun v1 =>
 sel v1 (
 some false) (
 bnd (loop (Xi8 p0) 0) fun o9 => match o9 with
| .out v7 => (
 some true)
| .ret r => some r)
def Xm7 (p0 : Xg4) : Option Bool :=
 bnd (
 bnd (Xna p0.Above) fun q2 =>
 sel q2 (
 bnd (Xna p0.Left) fun q3 =>
 sel q3 (
 bnd (Xao p0.Corner (-1) 255) fun q4 =>
 some q4) (
 some false)) (
 some false)) fun v1 =>
 some v1
def Xek (p0 : (List Int)) (p1 : Int) : Option Int :=
 sel ((p0.length : Int) == 0) (
 some 128) (
 req (0 ≤ p1 ∧ p1 < p0.length) <|
 some (p0.getD p1.toNat 0))
def Xhg (p0 : Xg4) (v2 : (Int × Int)) : Option (Lp (Int × Int) Int) :=
 sel (decide (v2.2 < (p0.Above.length : Int))) (
 req (0 ≤ v2.2 ∧ v2.2 < p0.Above.length) <|
 some (.go (Xaa .i64 (v2.1 + (p0.Above.getD v2.2.toNat 0)), Xaa .i64 (v2.2 + 1)))) (
 some (.done v2.1))
def Xhh (p0 : Xg4) (v7 : (Int × Int)) : Option (Lp (Int × Int) Int) :=
 sel (decide (v7.2 < (p0.Left.length : Int))) (
 req (0 ≤ v7.2 ∧ v7.2 < p0.Left.length) <|
 some (.go (Xaa .i64 (v7.1 + (p0.Left.getD v7.2.toNat 0)), Xaa .i64 (v7.2 + 1)))) (
 some (.done v7.1))
def Xmn (p0 : Xg4) : Option Int :=
 sel ((Xaa .i64 ((p0.Above.length : Int) + (p0.Left.length : Int))) == 0) (
 some 128) (
 req ((2 : Int) ≠ 0) <|
 bnd (loop (Xhg p0) (Xaa .i64 ((Xaa .i64 ((p0.Above.length : Int) + (p0.Left.length : Int))).tdiv 2), 0)) fun v4 =>
 bnd (loop (Xhh p0) (v4, 0)) fun v9 =>
 req ((Xaa .i64 ((p0.Above.length : Int) + (p0.Left.length : Int))) ≠ 0) <|
 some (Xaa .i64 (v9.tdiv (Xaa .i64 ((p0.Above.length : Int) + (p0.Left.length : Int))))))
def Xds (p0 : Int) (p1 : Xg4) (v4 : Int) (v11 : (Int × (List Int))) : Option (Lp (Int × (List Int)) (List Int)) :=
 sel (decide (v11.1 < 64)) (
 bnd (
 req ((8 : Int) ≠ 0) <|
 bnd (Xek p1.Above (v11.1.tmod 8)) fun q20 =>
 req ((8 : Int) ≠ 0) <|
 bnd (Xek p1.Left (Xaa .i64 (v11.1.tdiv 8))) fun q21 =>
 sel (p0 == 0) (
 bnd (Xmn p1) fun q22 =>
 req ((v11.2.length + ([q22]).length) * 8 ≤ 140737488355328 ∧ v11.2.length + ([q22]).length ≤ maxLen) <|
 some (v11.2 ++ ([q22]))) (
 sel (p0 == 1) (
 req ((v11.2.length + ([q20]).length) * 8 ≤ 140737488355328 ∧ v11.2.length + ([q20]).length ≤ maxLen) <|
 some (v11.2 ++ ([q20]))) (
 sel (p0 == 2) (
 req ((v11.2.length + ([q21]).length) * 8 ≤ 140737488355328 ∧ v11.2.length + ([q21]).length ≤ maxLen) <|
 some (v11.2 ++ ([q21]))) (
 bnd (Xeb (Xaa .i64 ((Xaa .i64 (q21 + q20)) - v4)) 0 255) fun q23 =>
 req ((v11.2.length + ([q23]).length) * 8 ≤ 140737488355328 ∧ v11.2.length + ([q23]).length ≤ maxLen) <|
 some (v11.2 ++ ([q23])))))) fun v19 =>
 some (.go (Xaa .i64 (v11.1 + 1), v19))) (
 some (.done v11.2))
def Xdg (p0 : Int) (p1 : Xg4) : Option (List Int) :=
 bnd (
 bnd (Xm7 p1) fun q2 =>
 sel q2 (
 bnd (Xao p0 0 3) fun q3 =>
 some (!q3)) (
 some true)) fun v1 =>
 sel v1 (
 some ([] : List Int)) (
 bnd (
 sel (decide (p1.Corner < 0)) (
 some 128) (
 some p1.Corner)) fun v4 =>
 bnd (loop (Xds p0 p1 v4) (0, ([] : List Int))) fun v18 =>
 some v18)
def Xdw (p0 : (List Int)) (v3 : Int) : Option (Lp Int (Ou Unit Bool)) :=
 sel (decide (v3 < 64)) (
 req (0 ≤ v3 ∧ v3 < p0.length) <|
 bnd (Xao (p0.getD v3.toNat 0) 0 255) fun q7 =>
 sel (!q7) (
 some (.done (.ret false))) (
 some (.go (Xaa .i64 (v3 + 1))))) (
 some (.done (.out ())))
def Xe6 (p0 : (List Int)) : Option Bool :=
 sel ((p0.length : Int) != 64) (
 some false) (
 bnd (loop (Xdw p0) 0) fun o8 => match o8 with
| .out v6 => (
 some true)
| .ret r => some r)
def Xct (p0 : (List Int)) (p1 : (List Int)) (v6 : (Int × (List Int))) : Option (Lp (Int × (List Int)) (List Int)) :=
 sel (decide (v6.1 < 64)) (
 req (0 ≤ v6.1 ∧ v6.1 < p0.length) <|
 req (0 ≤ v6.1 ∧ v6.1 < p1.length) <|
 bnd (Xeb (Xaa .i64 ((p0.getD v6.1.toNat 0) + (p1.getD v6.1.toNat 0))) 0 255) fun q10 =>
 req ((v6.2.length + ([q10]).length) * 8 ≤ 140737488355328 ∧ v6.2.length + ([q10]).length ≤ maxLen) <|
 some (.go (Xaa .i64 (v6.1 + 1), (v6.2 ++ ([q10]))))) (
 some (.done v6.2))
def Xgg (p0 : (List Int)) (p1 : (List Int)) : Option (List Int) :=
 bnd (
 bnd (Xe6 p0) fun q2 =>
 sel q2 (
 bnd (Xb2 p1 64 10000000) fun q3 =>
 some (!q3)) (
 some true)) fun v1 =>
 sel v1 (
 some ([] : List Int)) (
 bnd (loop (Xct p0 p1) (0, ([] : List Int))) fun v9 =>
 some v9)
def Xix (p0 : Pic) (p1 : Int) (p2 : Int) (v7 : (Int × (List Int))) : Option (Lp (Int × (List Int)) (List Int)) :=
 sel (decide (v7.1 < 64)) (
 req ((8 : Int) ≠ 0) <|
 req ((8 : Int) ≠ 0) <|
 bnd (Xd0 p0 (Xaa .i64 (p1 + (v7.1.tmod 8))) (Xaa .i64 (p2 + (Xaa .i64 (v7.1.tdiv 8))))) fun q11 =>
 req ((v7.2.length + ([q11]).length) * 8 ≤ 140737488355328 ∧ v7.2.length + ([q11]).length ≤ maxLen) <|
 some (.go (Xaa .i64 (v7.1 + 1), (v7.2 ++ ([q11]))))) (
 some (.done v7.2))
def Xh7 (p0 : Pic) (p1 : Int) (p2 : Int) : Option (List Int) :=
 bnd (
 bnd (Xfp p0) fun q2 =>
 sel q2 (
 bnd (Xao p1 (-1000) 1000) fun q3 =>
 sel q3 (
 bnd (Xao p2 (-1000) 1000) fun q4 =>
 some (!q4)) (
 some true)) (
 some true)) fun v1 =>
 sel v1 (
 some ([] : List Int)) (
 bnd (loop (Xix p0 p1 p2) (0, ([] : List Int))) fun v10 =>
 some v10)
def Xb0 (p0 : Pic) (p1 : Pic) (p2 : Int) (p3 : Int) (p4 : Xdm) (p5 : Int) (p6 : Int) (p7 : Xam) : Option ((List Int) × Bool) :=
 bnd (
 bnd (Xia p0 p5 p6) fun q2 =>
 sel q2 (
 bnd (Xao p2 0 256) fun q3 =>
 sel q3 (
 bnd (Xao p3 0 256) fun q4 =>
 sel q4 (
 bnd (Xpf p7) fun q5 =>
 sel q5 (
 bnd (Xj5 p4) fun q6 =>
 some (!q6)) (
 some true)) (
 some true)) (
 some true)) (
 some true)) fun v1 =>
 sel v1 (
 some (([] : List Int), false)) (
 sel (p7.Kind == 2) (
 bnd (Xe4 p0 p5 p6) fun q7 =>
 bnd (Xbd p7.Levels p4) fun q8 =>
 bnd (Xdg p7.Mode q7.1) fun q9 =>
 bnd (Xgg q9 q8.1) fun q10 =>
 some (q10, true)) (
 bnd (
 sel p4.Key (
 some true) (
 bnd (Xfp p1) fun q12 =>
 some (!q12))) fun v11 =>
 sel v11 (
 some (([] : List Int), false)) (
 bnd (Xh7 p1 (Xaa .i64 ((Xaa .i64 (p2 + p5)) + p7.Dx)) (Xaa .i64 ((Xaa .i64 (p3 + p6)) + p7.Dy))) fun q13 =>
 sel (p7.Kind == 0) (
 some (q13, true)) (
 bnd (Xbd p7.Levels p4) fun q14 =>
 bnd (Xgg q13 q14.1) fun q15 =>
 some (q15, true)))))
def Xcv (p0 : Pic) (p1 : Int) (p2 : Int) (p3 : (List Int)) (v2 : (Int × (List Int))) : Option (Lp (Int × (List Int)) (List Int)) :=
 sel (decide (v2.1 < 64)) (
 req ((8 : Int) ≠ 0) <|
 req ((8 : Int) ≠ 0) <|
 req (0 ≤ v2.1 ∧ v2.1 < p3.length) <|
 req (0 ≤ (Xaa .i64 ((Xaa .i64 ((Xaa .i64 ((Xaa .i64 (p2 + (Xaa .i64 (v2.1.tdiv 8)))) * p0.Wide)) + p1)) + (v2.1.tmod 8))) ∧ (Xaa .i64 ((Xaa .i64 ((Xaa .i64 ((Xaa .i64 (p2 + (Xaa .i64 (v2.1.tdiv 8)))) * p0.Wide)) + p1)) + (v2.1.tmod 8))) < v2.2.length) <|
 req ((Xaa .i64 ((Xaa .i64 ((Xaa .i64 ((Xaa .i64 (p2 + (Xaa .i64 (v2.1.tdiv 8)))) * p0.Wide)) + p1)) + (v2.1.tmod 8))).toNat < v2.2.length) <|
 some (.go (Xaa .i64 (v2.1 + 1), (v2.2.set ((Xaa .i64 ((Xaa .i64 ((Xaa .i64 ((Xaa .i64 (p2 + (Xaa .i64 (v2.1.tdiv 8)))) * p0.Wide)) + p1)) + (v2.1.tmod 8))).toNat) (Xaa .u8 ((p3.getD v2.1.toNat 0))))))) (
 some (.done v2.2))
def Xff (p0 : Pic) (p1 : Int) (p2 : Int) (p3 : (List Int)) : Option Pic :=
 req (p0.Dots.size ≤ maxLen) <|
 bnd (loop (Xcv p0 p1 p2 p3) (0, (Xaz p0.Dots))) fun v4 =>
 some (⟨p0.Wide, p0.High, (strOfNums v4)⟩ : Pic)
def Xnc (p0 : Pic) (p1 : Pic) : Option Bool :=
 bnd (
 bnd (Xfp p0) fun q2 =>
 sel q2 (
 bnd (Xfp p1) fun q3 =>
 sel q3 (
 sel (p0.Wide == p1.Wide) (
 some (p0.High == p1.High)) (
 some false)) (
 some false)) (
 some false)) fun v1 =>
 some v1
def Xmo (p0 : (List Int)) (p1 : (List Int)) (v2 : (Int × (List Int))) : Option (Lp (Int × (List Int)) (List Int)) :=
 sel (decide (v2.1 < 64)) (
 req (0 ≤ v2.1 ∧ v2.1 < p0.length) <|
 req (0 ≤ v2.1 ∧ v2.1 < p1.length) <|
 req ((v2.2.length + ([Xaa .i64 ((p0.getD v2.1.toNat 0) - (p1.getD v2.1.toNat 0))]).length) * 8 ≤ 140737488355328 ∧ v2.2.length + ([Xaa .i64 ((p0.getD v2.1.toNat 0) - (p1.getD v2.1.toNat 0))]).length ≤ maxLen) <|
 some (.go (Xaa .i64 (v2.1 + 1), (v2.2 ++ ([Xaa .i64 ((p0.getD v2.1.toNat 0) - (p1.getD v2.1.toNat 0))]))))) (
 some (.done v2.2))
def Xk4 (p0 : (List Int)) (p1 : (List Int)) : Option (List Int) :=
 bnd (loop (Xmo p0 p1) (0, ([] : List Int))) fun v4 =>
 some v4
def Xjc (p0 : (List Int)) (v2 : Int) : Option (Lp Int (Ou Unit Bool)) :=
 sel (decide (v2 < (p0.length : Int))) (
 req (0 ≤ v2 ∧ v2 < p0.length) <|
 sel ((p0.getD v2.toNat 0) != 0) (
 some (.done (.ret false))) (
 some (.go (Xaa .i64 (v2 + 1))))) (
 some (.done (.out ())))
def Xnd (p0 : (List Int)) : Option Bool :=
 bnd (loop (Xjc p0) 0) fun o5 => match o5 with
| .out v4 => (
 some true)
| .ret r => some r
def Xfe (p0 : Int) : Option Int :=
 sel (decide (p0 < 0)) (
 some (Xaa .i64 (0 - p0))) (
 some p0)
def Xls (p0 : (List Int)) (p1 : (List Int)) (v6 : (Int × Int)) : Option (Lp (Int × Int) Int) :=
 sel (decide (v6.2 < 64)) (
 req (0 ≤ v6.2 ∧ v6.2 < p0.length) <|
 req (0 ≤ v6.2 ∧ v6.2 < p1.length) <|
 bnd (Xfe (Xaa .i64 ((p0.getD v6.2.toNat 0) - (p1.getD v6.2.toNat 0)))) fun q10 =>
 some (.go (Xaa .i64 (v6.1 + q10), Xaa .i64 (v6.2 + 1)))) (
 some (.done v6.1))
def Xrc (p0 : (List Int)) (p1 : (List Int)) : Option Int :=
 bnd (
 bnd (Xb2 p0 64 1000) fun q2 =>
 sel q2 (
 bnd (Xb2 p1 64 1000) fun q3 =>
 some (!q3)) (
 some true)) fun v1 =>
 sel v1 (
 some (-1)) (
 bnd (loop (Xls p0 p1) (0, 0)) fun v9 =>
 some v9)
def Xi2 (v2 : (Int × ByteArray)) : Option (Lp (Int × ByteArray) ByteArray) :=
 sel (decide (v2.1 > 0)) (
 req ((2 : Int) ≠ 0) <|
 req ((strOfNums ([Xaa .u8 (Xaa .i64 (48 + (v2.1.tmod 2)))])).size + v2.2.size ≤ 9223372036854775807) <|
 req ((2 : Int) ≠ 0) <|
 some (.go (Xaa .i64 (v2.1.tdiv 2), ((strOfNums ([Xaa .u8 (Xaa .i64 (48 + (v2.1.tmod 2)))])) ++ v2.2)))) (
 some (.done v2.2))
def Xof (p0 : Int) : Option ByteArray :=
 bnd (loop (Xi2) (Xaa .i64 (p0 + 1), ⟨#[]⟩)) fun v4 =>
 bnd (Xqr (Xaa .i64 ((v4.size : Int) - 1)) 48) fun q6 =>
 req (q6.size + v4.size ≤ 9223372036854775807) <|
 some (q6 ++ v4)
def Xv8 (p0 : Int) : Option (ByteArray × Bool) :=
 bnd (Xao p0 0 1000000) fun q1 =>
 sel (!q1) (
 some (⟨#[]⟩, false)) (
 bnd (Xof p0) fun q2 =>
 some (q2, true))
def Xj8 (p0 : Int) : Option Int :=
 bnd (Xv8 p0) fun q1 =>
 some (q1.1.size : Int)
def Xdk (p0 : (List Int)) (p1 : Xg4) (v16 : (Int × Int × Int)) : Option (Lp (Int × Int × Int) (Int × Int)) :=
 sel (decide (v16.2.2 < 4)) (
 bnd (
 bnd (Xdg v16.2.2 p1) fun q25 =>
 bnd (Xrc p0 q25) fun q26 =>
 bnd (Xj8 v16.2.2) fun q27 =>
 bnd (
 sel (decide (v16.2.1 < 0)) (
 some true) (
 some (decide ((Xaa .i64 (q26 + q27)) < v16.2.1)))) fun v28 =>
 sel v28 (
 some (v16.2.2, Xaa .i64 (q26 + q27))) (
 some (v16.1, v16.2.1))) fun v24 =>
 some (.go (v24.1, v24.2, Xaa .i64 (v16.2.2 + 1)))) (
 some (.done (v16.1, v16.2.1)))
def Xhd (p0 : (List Int)) (p1 : Xg4) : Option (Int × Int) :=
 bnd (
 bnd (Xm7 p1) fun q2 =>
 sel q2 (
 bnd (Xe6 p0) fun q3 =>
 some (!q3)) (
 some true)) fun v1 =>
 sel v1 (
 some (0, (-1))) (
 bnd (loop (Xdk p0 p1) (0, (-1), 0)) fun v23 =>
 some (v23.1, v23.2))
def Xs4 (p0 : Int) : Option (Int × Bool) :=
 bnd (Xao p0 (-500000) 500000) fun q1 =>
 sel (!q1) (
 some (0, false)) (
 sel (decide (p0 > 0)) (
 some (Xaa .i64 ((Xaa .i64 (2 * p0)) - 1), true)) (
 some (Xaa .i64 ((-2) * p0), true)))
def Xwb (p0 : Int) : Option ByteArray :=
 bnd (Xs4 p0) fun q1 =>
 bnd (Xof q1.1) fun q2 =>
 some q2
def Ydd (p0 : Int) : Option (ByteArray × Bool) :=
 bnd (Xao p0 (-500000) 500000) fun q1 =>
 sel (!q1) (
 some (⟨#[]⟩, false)) (
 bnd (Xwb p0) fun q2 =>
 some (q2, true))
def Xpe (p0 : Int) : Option Int :=
 bnd (Ydd p0) fun q1 =>
 some (q1.1.size : Int)
def Xj4 (p0 : Pic) (p1 : (List Int)) (p2 : Int) (p3 : Int) (p4 : Int) (v32 : (Int × Int × Int × Int)) (v69 : (Int × Int × Int × Int)) : Option (Lp (Int × Int × Int × Int) (Int × Int × Int)) :=
 sel (decide (v69.2.2.2 ≤ p4)) (
 bnd (
 bnd (Xkq p0 (Xaa .i64 (p2 + v69.2.2.2)) (Xaa .i64 (p3 + v32.2.2.2)) 8 8) fun q80 =>
 sel (!q80) (
 some (v69.1, v69.2.1, v69.2.2.1)) (
 bnd (Xh7 p0 (Xaa .i64 (p2 + v69.2.2.2)) (Xaa .i64 (p3 + v32.2.2.2))) fun q81 =>
 bnd (Xrc p1 q81) fun q82 =>
 bnd (Xpe v69.2.2.2) fun q83 =>
 bnd (Xpe v32.2.2.2) fun q84 =>
 bnd (
 sel (decide (v69.2.2.1 < 0)) (
 some true) (
 some (decide ((Xaa .i64 ((Xaa .i64 (q82 + q83)) + q84)) < v69.2.2.1)))) fun v85 =>
 sel v85 (
 some (v69.2.2.2, v32.2.2.2, Xaa .i64 ((Xaa .i64 (q82 + q83)) + q84))) (
 some (v69.1, v69.2.1, v69.2.2.1)))) fun v79 =>
 some (.go (v79.1, v79.2.1, v79.2.2, Xaa .i64 (v69.2.2.2 + 1)))) (
 some (.done (v69.1, v69.2.1, v69.2.2.1)))
def Xj3 (p0 : Pic) (p1 : (List Int)) (p2 : Int) (p3 : Int) (p4 : Int) (v32 : (Int × Int × Int × Int)) : Option (Lp (Int × Int × Int × Int) (Int × Int × Int)) :=
 sel (decide (v32.2.2.2 ≤ p4)) (
 bnd (loop (Xj4 p0 p1 p2 p3 p4 v32) (v32.1, v32.2.1, v32.2.2.1, Xaa .i64 (0 - p4))) fun v78 =>
 some (.go (v78.1, v78.2.1, v78.2.2, Xaa .i64 (v32.2.2.2 + 1)))) (
 some (.done (v32.1, v32.2.1, v32.2.2.1)))
def Xlq (p0 : Pic) (p1 : (List Int)) (p2 : Int) (p3 : Int) (p4 : Int) : Option (Int × Int × Int) :=
 bnd (
 bnd (Xe6 p1) fun q2 =>
 sel q2 (
 bnd (Xao p4 0 4) fun q3 =>
 sel q3 (
 bnd (Xia p0 p2 p3) fun q4 =>
 some (!q4)) (
 some true)) (
 some true)) fun v1 =>
 sel v1 (
 some (0, 0, (-1))) (
 bnd (loop (Xj3 p0 p1 p2 p3 p4) (0, 0, (-1), Xaa .i64 (0 - p4))) fun v60 =>
 some (v60.1, v60.2.1, v60.2.2))
def Xbz (p0 : Int) (p1 : (List Int)) (v4 : (Int × (List Int))) : Option (Lp (Int × (List Int)) (List Int)) :=
 sel (decide (v4.1 < (Xaa .i64 (p0 * p0)))) (
 bnd (Xpd p0 v4.1) fun q8 =>
 req (0 ≤ q8 ∧ q8 < p1.length) <|
 req ((v4.2.length + ([(p1.getD q8.toNat 0)]).length) * 8 ≤ 140737488355328 ∧ v4.2.length + ([(p1.getD q8.toNat 0)]).length ≤ maxLen) <|
 some (.go (Xaa .i64 (v4.1 + 1), (v4.2 ++ ([(p1.getD q8.toNat 0)]))))) (
 some (.done v4.2))
def Xec (p0 : Int) (p1 : (List Int)) : Option ((List Int) × Bool) :=
 bnd (
 sel (p0 != 4) (
 sel (p0 != 8) (
 some true) (
 some ((p1.length : Int) != (Xaa .i64 (p0 * p0))))) (
 some ((p1.length : Int) != (Xaa .i64 (p0 * p0))))) fun v1 =>
 sel v1 (
 some (([] : List Int), false)) (
 bnd (loop (Xbz p0 p1) (0, ([] : List Int))) fun v7 =>
 some (v7, true))
def Xj6 (p0 : (List Int)) : Option (List Int) :=
 bnd (Xb2 p0 64 1000) fun q1 =>
 sel (!q1) (
 some ([] : List Int)) (
 bnd (Xh9 p0) fun q2 =>
 some q2)
def Xfq (p0 : Int) (p1 : Int) : Option Int :=
 sel (decide (p0 < 0)) (
 some (Xaa .i64 (0 - p1))) (
 some p1)
def Xdt (p0 : Int) (p1 : Int) : Option Int :=
 bnd (
 bnd (Xao p0 (-20000) 20000) fun q2 =>
 sel q2 (
 bnd (Xao p1 0 40) fun q3 =>
 some (!q3)) (
 some true)) fun v1 =>
 sel v1 (
 some 0) (
 bnd (Xc6 p1) fun q4 =>
 bnd (Xfe p0) fun q5 =>
 req ((2 : Int) ≠ 0) <|
 req (q4 ≠ 0) <|
 bnd (Xfq p0 (Xaa .i64 ((Xaa .i64 (q5 + (Xaa .i64 (q4.tdiv 2)))).tdiv q4))) fun q6 =>
 some q6)
def Xbw (p0 : (List Int)) (p1 : Int) (v2 : (Int × (List Int))) : Option (Lp (Int × (List Int)) (List Int)) :=
 sel (decide (v2.1 < 16)) (
 req ((2 : Int) ≠ 0) <|
 req ((4 : Int) ≠ 0) <|
 req ((2 : Int) ≠ 0) <|
 req ((4 : Int) ≠ 0) <|
 req (0 ≤ (Xaa .i64 ((Xaa .i64 ((Xaa .i64 (8 * (Xaa .i64 ((Xaa .i64 ((Xaa .i64 (p1.tdiv 2)) * 4)) + (Xaa .i64 (v2.1.tdiv 4)))))) + (Xaa .i64 ((p1.tmod 2) * 4)))) + (v2.1.tmod 4))) ∧ (Xaa .i64 ((Xaa .i64 ((Xaa .i64 (8 * (Xaa .i64 ((Xaa .i64 ((Xaa .i64 (p1.tdiv 2)) * 4)) + (Xaa .i64 (v2.1.tdiv 4)))))) + (Xaa .i64 ((p1.tmod 2) * 4)))) + (v2.1.tmod 4))) < p0.length) <|
 req ((v2.2.length + ([(p0.getD (Xaa .i64 ((Xaa .i64 ((Xaa .i64 (8 * (Xaa .i64 ((Xaa .i64 ((Xaa .i64 (p1.tdiv 2)) * 4)) + (Xaa .i64 (v2.1.tdiv 4)))))) + (Xaa .i64 ((p1.tmod 2) * 4)))) + (v2.1.tmod 4))).toNat 0)]).length) * 8 ≤ 140737488355328 ∧ v2.2.length + ([(p0.getD (Xaa .i64 ((Xaa .i64 ((Xaa .i64 (8 * (Xaa .i64 ((Xaa .i64 ((Xaa .i64 (p1.tdiv 2)) * 4)) + (Xaa .i64 (v2.1.tdiv 4)))))) + (Xaa .i64 ((p1.tmod 2) * 4)))) + (v2.1.tmod 4))).toNat 0)]).length ≤ maxLen) <|
 some (.go (Xaa .i64 (v2.1 + 1), (v2.2 ++ ([(p0.getD (Xaa .i64 ((Xaa .i64 ((Xaa .i64 (8 * (Xaa .i64 ((Xaa .i64 ((Xaa .i64 (p1.tdiv 2)) * 4)) + (Xaa .i64 (v2.1.tdiv 4)))))) + (Xaa .i64 ((p1.tmod 2) * 4)))) + (v2.1.tmod 4))).toNat 0)]))))) (
 some (.done v2.2))
def Xgl (p0 : (List Int)) (p1 : Int) : Option (List Int) :=
 bnd (loop (Xbw p0 p1) (0, ([] : List Int))) fun v4 =>
 some v4
def Xdv (p0 : (List Int)) (v2 : (Int × (List Int))) : Option (Lp (Int × (List Int)) (List Int)) :=
 sel (decide (v2.1 < 4)) (
 req (0 ≤ (Xaa .i64 (4 * v2.1)) ∧ (Xaa .i64 (4 * v2.1)) < p0.length) <|
 req (0 ≤ (Xaa .i64 ((Xaa .i64 (4 * v2.1)) + 1)) ∧ (Xaa .i64 ((Xaa .i64 (4 * v2.1)) + 1)) < p0.length) <|
 req (0 ≤ (Xaa .i64 ((Xaa .i64 (4 * v2.1)) + 2)) ∧ (Xaa .i64 ((Xaa .i64 (4 * v2.1)) + 2)) < p0.length) <|
 req (0 ≤ (Xaa .i64 ((Xaa .i64 (4 * v2.1)) + 3)) ∧ (Xaa .i64 ((Xaa .i64 (4 * v2.1)) + 3)) < p0.length) <|
 req ((v2.2.length + ([Xaa .i64 ((Xaa .i64 ((Xaa .i64 ((p0.getD (Xaa .i64 (4 * v2.1)).toNat 0) + (p0.getD (Xaa .i64 ((Xaa .i64 (4 * v2.1)) + 1)).toNat 0))) + (p0.getD (Xaa .i64 ((Xaa .i64 (4 * v2.1)) + 2)).toNat 0))) + (p0.getD (Xaa .i64 ((Xaa .i64 (4 * v2.1)) + 3)).toNat 0)), Xaa .i64 ((Xaa .i64 ((Xaa .i64 ((Xaa .i64 (2 * (p0.getD (Xaa .i64 (4 * v2.1)).toNat 0))) + (p0.getD (Xaa .i64 ((Xaa .i64 (4 * v2.1)) + 1)).toNat 0))) - (p0.getD (Xaa .i64 ((Xaa .i64 (4 * v2.1)) + 2)).toNat 0))) - (Xaa .i64 (2 * (p0.getD (Xaa .i64 ((Xaa .i64 (4 * v2.1)) + 3)).toNat 0)))), Xaa .i64 ((Xaa .i64 ((Xaa .i64 ((p0.getD (Xaa .i64 (4 * v2.1)).toNat 0) - (p0.getD (Xaa .i64 ((Xaa .i64 (4 * v2.1)) + 1)).toNat 0))) - (p0.getD (Xaa .i64 ((Xaa .i64 (4 * v2.1)) + 2)).toNat 0))) + (p0.getD (Xaa .i64 ((Xaa .i64 (4 * v2.1)) + 3)).toNat 0)), Xaa .i64 ((Xaa .i64 ((Xaa .i64 ((p0.getD (Xaa .i64 (4 * v2.1)).toNat 0) - (Xaa .i64 (2 * (p0.getD (Xaa .i64 ((Xaa .i64 (4 * v2.1)) + 1)).toNat 0))))) + (Xaa .i64 (2 * (p0.getD (Xaa .i64 ((Xaa .i64 (4 * v2.1)) + 2)).toNat 0))))) - (p0.getD (Xaa .i64 ((Xaa .i64 (4 * v2.1)) + 3)).toNat 0))]).length) * 8 ≤ 140737488355328 ∧ v2.2.length + ([Xaa .i64 ((Xaa .i64 ((Xaa .i64 ((p0.getD (Xaa .i64 (4 * v2.1)).toNat 0) + (p0.getD (Xaa .i64 ((Xaa .i64 (4 * v2.1)) + 1)).toNat 0))) + (p0.getD (Xaa .i64 ((Xaa .i64 (4 * v2.1)) + 2)).toNat 0))) + (p0.getD (Xaa .i64 ((Xaa .i64 (4 * v2.1)) + 3)).toNat 0)), Xaa .i64 ((Xaa .i64 ((Xaa .i64 ((Xaa .i64 (2 * (p0.getD (Xaa .i64 (4 * v2.1)).toNat 0))) + (p0.getD (Xaa .i64 ((Xaa .i64 (4 * v2.1)) + 1)).toNat 0))) - (p0.getD (Xaa .i64 ((Xaa .i64 (4 * v2.1)) + 2)).toNat 0))) - (Xaa .i64 (2 * (p0.getD (Xaa .i64 ((Xaa .i64 (4 * v2.1)) + 3)).toNat 0)))), Xaa .i64 ((Xaa .i64 ((Xaa .i64 ((p0.getD (Xaa .i64 (4 * v2.1)).toNat 0) - (p0.getD (Xaa .i64 ((Xaa .i64 (4 * v2.1)) + 1)).toNat 0))) - (p0.getD (Xaa .i64 ((Xaa .i64 (4 * v2.1)) + 2)).toNat 0))) + (p0.getD (Xaa .i64 ((Xaa .i64 (4 * v2.1)) + 3)).toNat 0)), Xaa .i64 ((Xaa .i64 ((Xaa .i64 ((p0.getD (Xaa .i64 (4 * v2.1)).toNat 0) - (Xaa .i64 (2 * (p0.getD (Xaa .i64 ((Xaa .i64 (4 * v2.1)) + 1)).toNat 0))))) + (Xaa .i64 (2 * (p0.getD (Xaa .i64 ((Xaa .i64 (4 * v2.1)) + 2)).toNat 0))))) - (p0.getD (Xaa .i64 ((Xaa .i64 (4 * v2.1)) + 3)).toNat 0))]).length ≤ maxLen) <|
 some (.go (Xaa .i64 (v2.1 + 1), (v2.2 ++ ([Xaa .i64 ((Xaa .i64 ((Xaa .i64 ((p0.getD (Xaa .i64 (4 * v2.1)).toNat 0) + (p0.getD (Xaa .i64 ((Xaa .i64 (4 * v2.1)) + 1)).toNat 0))) + (p0.getD (Xaa .i64 ((Xaa .i64 (4 * v2.1)) + 2)).toNat 0))) + (p0.getD (Xaa .i64 ((Xaa .i64 (4 * v2.1)) + 3)).toNat 0)), Xaa .i64 ((Xaa .i64 ((Xaa .i64 ((Xaa .i64 (2 * (p0.getD (Xaa .i64 (4 * v2.1)).toNat 0))) + (p0.getD (Xaa .i64 ((Xaa .i64 (4 * v2.1)) + 1)).toNat 0))) - (p0.getD (Xaa .i64 ((Xaa .i64 (4 * v2.1)) + 2)).toNat 0))) - (Xaa .i64 (2 * (p0.getD (Xaa .i64 ((Xaa .i64 (4 * v2.1)) + 3)).toNat 0)))), Xaa .i64 ((Xaa .i64 ((Xaa .i64 ((p0.getD (Xaa .i64 (4 * v2.1)).toNat 0) - (p0.getD (Xaa .i64 ((Xaa .i64 (4 * v2.1)) + 1)).toNat 0))) - (p0.getD (Xaa .i64 ((Xaa .i64 (4 * v2.1)) + 2)).toNat 0))) + (p0.getD (Xaa .i64 ((Xaa .i64 (4 * v2.1)) + 3)).toNat 0)), Xaa .i64 ((Xaa .i64 ((Xaa .i64 ((p0.getD (Xaa .i64 (4 * v2.1)).toNat 0) - (Xaa .i64 (2 * (p0.getD (Xaa .i64 ((Xaa .i64 (4 * v2.1)) + 1)).toNat 0))))) + (Xaa .i64 (2 * (p0.getD (Xaa .i64 ((Xaa .i64 (4 * v2.1)) + 2)).toNat 0))))) - (p0.getD (Xaa .i64 ((Xaa .i64 (4 * v2.1)) + 3)).toNat 0))]))))) (
 some (.done v2.2))
def Xh8 (p0 : (List Int)) : Option (List Int) :=
 bnd (loop (Xdv p0) (0, ([] : List Int))) fun v4 =>
 some v4
def Xqp (p0 : (List Int)) : Option (List Int) :=
 bnd (Xb2 p0 16 1000) fun q1 =>
 sel (!q1) (
 some ([] : List Int)) (
 bnd (Xh8 p0) fun q2 =>
 bnd (Xe5 q2) fun q3 =>
 bnd (Xh8 q3) fun q4 =>
 bnd (Xe5 q4) fun q5 =>
 some q5)
def Xk1 (p0 : Int) (p1 : Int) : Option Int :=
 bnd (Xmh p1) fun q1 =>
 bnd (
 bnd (Xao p0 0 40) fun q3 =>
 sel q3 (
 some (decide (q1 < 0))) (
 some true)) fun v2 =>
 sel v2 (
 some 0) (
 req ((6 : Int) ≠ 0) <|
 sel ((p0.tmod 6) == 0) (
 bnd (Xa2 q1 13107 5243 8066) fun q4 =>
 some q4) (
 sel ((p0.tmod 6) == 1) (
 bnd (Xa2 q1 11916 4660 7490) fun q5 =>
 some q5) (
 sel ((p0.tmod 6) == 2) (
 bnd (Xa2 q1 10082 4194 6554) fun q6 =>
 some q6) (
 sel ((p0.tmod 6) == 3) (
 bnd (Xa2 q1 9362 3647 5825) fun q7 =>
 some q7) (
 sel ((p0.tmod 6) == 4) (
 bnd (Xa2 q1 8192 3355 5243) fun q8 =>
 some q8) (
 bnd (Xa2 q1 7282 2893 4559) fun q9 =>
 some q9))))))
def Xgh (p0 : Int) (p1 : Int) (p2 : Int) : Option Int :=
 bnd (
 bnd (Xao p0 (-20000) 20000) fun q2 =>
 sel q2 (
 bnd (Xao p1 0 40) fun q3 =>
 sel q3 (
 bnd (Xao p2 0 15) fun q4 =>
 some (!q4)) (
 some true)) (
 some true)) fun v1 =>
 sel v1 (
 some 0) (
 req ((6 : Int) ≠ 0) <|
 req (0 ≤ (Xaa .u64 (Xaa .i64 (15 + (Xaa .i64 (p1.tdiv 6)))))) <|
 bnd (Xfe p0) fun q5 =>
 bnd (Xk1 p1 p2) fun q6 =>
 req ((3 : Int) ≠ 0) <|
 req ((Xaa .i64 (1 * 2 ^ min (Xaa .u64 (Xaa .i64 (15 + (Xaa .i64 (p1.tdiv 6))))).toNat (IntKind.bits .i64))) ≠ 0) <|
 bnd (Xfq p0 (Xaa .i64 ((Xaa .i64 ((Xaa .i64 (q5 * q6)) + (Xaa .i64 ((Xaa .i64 (1 * 2 ^ min (Xaa .u64 (Xaa .i64 (15 + (Xaa .i64 (p1.tdiv 6))))).toNat (IntKind.bits .i64))).tdiv 3)))).tdiv (Xaa .i64 (1 * 2 ^ min (Xaa .u64 (Xaa .i64 (15 + (Xaa .i64 (p1.tdiv 6))))).toNat (IntKind.bits .i64)))))) fun q7 =>
 some q7)
def Xa9 (p1 : Xdm) (v8 : (Int × (List Int))) : Option (Lp (Int × (List Int)) (List Int)) :=
 sel (decide (v8.1 < 64)) (
 req (0 ≤ v8.1 ∧ v8.1 < v8.2.length) <|
 req (v8.1.toNat < v8.2.length) <|
 bnd (Xdt (v8.2.getD v8.1.toNat 0) p1.Qp) fun q12 =>
 req (0 ≤ v8.1 ∧ v8.1 < v8.2.length) <|
 req (v8.1.toNat < v8.2.length) <|
 some (.go (Xaa .i64 (v8.1 + 1), (v8.2.set v8.1.toNat q12)))) (
 some (.done v8.2))
def Xbu (p1 : Xdm) (v45 : (Int × (List Int))) : Option (Lp (Int × (List Int)) (List Int)) :=
 sel (decide (v45.1 < 16)) (
 req (0 ≤ v45.1 ∧ v45.1 < v45.2.length) <|
 req (v45.1.toNat < v45.2.length) <|
 bnd (Xgh (v45.2.getD v45.1.toNat 0) p1.Qp v45.1) fun q49 =>
 req (0 ≤ v45.1 ∧ v45.1 < v45.2.length) <|
 req (v45.1.toNat < v45.2.length) <|
 some (.go (Xaa .i64 (v45.1 + 1), (v45.2.set v45.1.toNat q49)))) (
 some (.done v45.2))
def Xdl (p0 : (List Int)) (p1 : Xdm) (v27 : (Int × (List Int))) : Option (Lp (Int × (List Int)) (List Int)) :=
 sel (decide (v27.1 < 4)) (
 bnd (Xgl p0 v27.1) fun q41 =>
 bnd (Xqp q41) fun q42 =>
 bnd (loop (Xbu p1) (0, q42)) fun v48 =>
 bnd (Xec 4 v48) fun q51 =>
 req ((v27.2.length + q51.1.length) * 8 ≤ 140737488355328 ∧ v27.2.length + q51.1.length ≤ maxLen) <|
 some (.go (Xaa .i64 (v27.1 + 1), (v27.2 ++ q51.1)))) (
 some (.done v27.2))
def Xbt (p0 : (List Int)) (p1 : Xdm) : Option ((List Int) × Bool) :=
 bnd (
 bnd (Xj5 p1) fun q2 =>
 sel q2 (
 bnd (Xb2 p0 64 255) fun q3 =>
 some (!q3)) (
 some true)) fun v1 =>
 sel v1 (
 some (([] : List Int), false)) (
 sel p1.Exact (
 bnd (Xec 8 p0) fun q4 =>
 some (q4.1, q4.2)) (
 sel p1.Large (
 bnd (Xj6 p0) fun q5 =>
 bnd (loop (Xa9 p1) (0, q5)) fun v11 =>
 bnd (Xec 8 v11) fun q14 =>
 some (q14.1, q14.2)) (
 bnd (loop (Xdl p0 p1) (0, ([] : List Int))) fun v40 =>
 some (v40, true))))
def Xno (p0 : Pic) (p1 : Pic) (p2 : (List Int)) (p3 : Int) (p4 : Int) (p5 : Xdm) (p6 : Int) : Option Xam :=
 bnd (
 sel p5.Key (
 some false) (
 bnd (Xh7 p1 p3 p4) fun q2 =>
 bnd (Xk4 p2 q2) fun q3 =>
 bnd (Xnd q3) fun q4 =>
 some q4)) fun v1 =>
 sel v1 (
 some (⟨0, 0, 0, 0, []⟩ : Xam)) (
 bnd (Xe4 p0 p3 p4) fun q5 =>
 bnd (Xhd p2 q5.1) fun q6 =>
 Ynj (fun (v7 : Unit) =>
 bnd (Xdg q6.1 q5.1) fun q14 =>
 bnd (Xk4 p2 q14) fun q15 =>
 bnd (Xbt q15 p5) fun q16 =>
 some (⟨2, q6.1, 0, 0, q16.1⟩ : Xam)) fun j1 =>
 sel (!p5.Key) (
 bnd (Xlq p1 p2 p3 p4 p6) fun q8 =>
 sel (decide (q8.2.2 ≤ q6.2)) (
 bnd (Xh7 p1 (Xaa .i64 (p3 + q8.1)) (Xaa .i64 (p4 + q8.2.1))) fun q9 =>
 bnd (Xk4 p2 q9) fun q10 =>
 bnd (Xbt q10 p5) fun q11 =>
 bnd (
 sel (q8.1 == 0) (
 sel (q8.2.1 == 0) (
 bnd (Xnd q11.1) fun q13 =>
 some q13) (
 some false)) (
 some false)) fun v12 =>
 sel v12 (
 some (⟨0, 0, 0, 0, []⟩ : Xam)) (
 some (⟨1, 0, q8.1, q8.2.1, q11.1⟩ : Xam))) (
 j1 ())) (
 j1 ()))
def Xkn (p0 : Pic) (p1 : Pic) (p2 : (List Int)) (p3 : Int) (p4 : Int) (p5 : Xdm) (p6 : Int) : Option (Xam × (List Int) × Bool) :=
 bnd (
 bnd (Xia p0 p3 p4) fun q2 =>
 sel q2 (
 bnd (Xe6 p2) fun q3 =>
 sel q3 (
 bnd (Xj5 p5) fun q4 =>
 sel q4 (
 bnd (Xao p6 0 4) fun q5 =>
 sel q5 (
 sel p5.Key (
 some false) (
 bnd (Xnc p0 p1) fun q6 =>
 some (!q6))) (
 some true)) (
 some true)) (
 some true)) (
 some true)) fun v1 =>
 sel v1 (
 some ((⟨0, 0, 0, 0, []⟩ : Xam), ([] : List Int), false)) (
 bnd (Xno p0 p1 p2 p3 p4 p5 p6) fun q7 =>
 bnd (Xb0 p0 p1 0 0 p5 p3 p4 q7) fun q8 =>
 some (q7, q8.1, true))
end
theorem Xab {α β : Type} (a : α) (f : α → Option β) : bnd (some a) f = f a := rfl
theorem Xgz {α β : Type} {x : Option α} {a : α} {f : α → Option β} (h : x = some a) : bnd x f = f a := by subst h; rfl
theorem Xav {β : Type} (x y : β) : sel true x y = x := rfl
theorem Xaq {β : Type} (x y : β) : sel false x y = y := rfl
theorem Yif {β : Type} (b : Bool) (x y : β) : sel (!b) x y = sel b y x := by cases b <;> rfl
theorem Xgb (b x : Bool) : sel b (some x) (some false) = some (b && x) := by cases b <;> rfl
theorem Yhc (b x : Bool) : sel b (some true) (some x) = some (b || x) := by cases b <;> rfl
theorem Yig (b x : Bool) : sel b (some x) (some true) = some (!b || x) := by cases b <;> rfl
theorem Yjn {β : Type} (b : Bool) (x y : β) : sel b (some x) (some y) = some (sel b x y) := by cases b <;> rfl
theorem Ye8 {β : Type} (b : Bool) (x y : β) : sel b x y = if b = true then x else y := by cases b <;> rfl
theorem Ykj {β : Type} (p : Prop) [Decidable p] (x y : β) : sel (decide p) x y = if p then x else y := by
 by_cases h : p <;> simp [h, sel]
theorem Xc5 {β : Type} {b : Bool} {x y : β} (h : b = true) : sel b x y = x := by subst h; rfl
theorem Xb6 {β : Type} {b : Bool} {x y : β} (h : b = false) : sel b x y = y := by subst h; rfl
theorem Xbp {β : Type} {p : Prop} [Decidable p] {x y : β} (h : p) : sel (decide p) x y = x := by simp [h, sel]
theorem Xan {β : Type} {p : Prop} [Decidable p] {x y : β} (h : ¬ p) : sel (decide p) x y = y := by simp [h, sel]
theorem Xbe {β : Type} {c : Prop} [Decidable c] {k : Option β} (h : c) : req c k = k := if_pos h
theorem wk {e : Int} (h1 : -9223372036854775808 ≤ e) (h2 : e ≤ 9223372036854775807) : Xaa .i64 e = e := by
 show wrap64 e = e
 unfold wrap64; omega
theorem rqA {β : Type} {c : Prop} [Decidable c] {k : Option β} (h : c := by omega) : req c k = k := Xbe h
theorem syA {β : Type} {c : Prop} [Decidable c] {x y : β} (h : c := by omega) : sel (decide c) x y = x := Xbp h
theorem snA {β : Type} {c : Prop} [Decidable c] {x y : β} (h : ¬ c := by omega) : sel (decide c) x y = y := Xan h
theorem wkA {e : Int} (h1 : -9223372036854775808 ≤ e := by omega) (h2 : e ≤ 9223372036854775807 := by omega) : Xaa .i64 e = e := wk h1 h2
theorem w8 {e : Int} (h1 : 0 ≤ e) (h2 : e ≤ 255) : Xaa .u8 e = e := by
 show IntKind.wrap .u8 e = e
 simp [IntKind.wrap, IntKind.signed, IntKind.bits]; omega
theorem Ylw : maxLen = 9223372036854775807 := rfl
theorem Xcg {a b : Int} (h : 0 ≤ a) : Int.tmod a b = a % b := Int.tmod_eq_emod_of_nonneg h
theorem Xbk {a b : Int} (h : 0 ≤ a) : Int.tdiv a b = a / b := Int.tdiv_eq_ediv_of_nonneg h
theorem Xg0 {P : Nat → Prop} (n : Nat) (h0 : P n) (hs : ∀ i, i < n → P (i + 1) → P i) : ∀ i, i ≤ n → P i := by
 intro i hi
 obtain ⟨k, rfl⟩ : ∃ k, n = i + k := ⟨n - i, by omega⟩
 clear hi
 induction k generalizing i with
 | zero => exact h0
 | succ k ih =>
  refine hs i (by omega) ?_
  exact ih (i + 1) (by rw [show i + 1 + k = i + (k + 1) by omega]; exact h0) (fun j hj => hs j (by omega))
theorem lgo {V O : Type} {f : V → Option (Lp V O)} {x y : V} {r : Option O} (h : f x = some (.go y)) (k : loop f y = r) : loop f x = r := by rw [Xfr h]; exact k
theorem Xib {V O : Type} {f : V → Option (Lp V O)} {x : V} {o : O} (h : f x = some (.done o)) : loop f x = some o := Xmf h
theorem Xm4 {V O : Type} {f : V → Option (Lp V O)} (I : V → Prop) (m : V → Nat) (Q : V → O → Prop) (h : ∀ v, I v → (∃ o, f v = some (.done o) ∧ Q v o) ∨ ∃ v', f v = some (.go v') ∧ I v' ∧ m v' < m v ∧ ∀ o, Q v' o → Q v o) : ∀ v, I v → ∃ o, loop f v = some o ∧ Q v o := by
 intro v
 generalize hn : m v = n
 induction n using Nat.strongRecOn generalizing v with
 | _ n ih =>
  intro hv
  rcases h v hv with ⟨o, h1, h2⟩ | ⟨v', h1, h2, h3, h4⟩
  ·
   exact ⟨o, Xmf h1, h2⟩
  ·
   obtain ⟨o, h5, h6⟩ := ih (m v') (by omega) v' rfl h2
   exact ⟨o, by rw [Xfr h1]; exact h5, h4 o h6⟩
theorem Xc2 {α : Type} (l : List α) (i : Nat) (h : i < l.length) (d : α) : l.getD i d = l[i] := by
 simp [List.getD_eq_getElem?_getD, List.getElem?_eq_getElem h]
theorem Xak (a b c : Int) : Xal a b c = some (decide (b ≤ a ∧ a ≤ c)) := by
 unfold Xal
 by_cases h : b ≤ a <;> simp [bnd, sel, h]
theorem Xai (a b c : Int) : Xao a b c = some (decide (b ≤ a ∧ a ≤ c)) := by
 unfold Xao
 by_cases h : b ≤ a <;> simp [bnd, sel, h]
theorem Yih {α : Type} (a : List α) (x y : α) (b : List α) : (a ++ x :: b).set a.length y = a ++ y :: b := by
 induction a with
 | nil => rfl
 | cons z a ih => simp only [List.cons_append, List.length_cons, List.set_cons_succ, ih]
theorem Xtk {α : Type} (a : List α) (x d : α) (b : List α) : (a ++ x :: b).getD a.length d = x := by
 induction a with
 | nil => rfl
 | cons z a ih => simp
theorem Xqn {f : Int → Option (Lp Int (Ou Unit Bool))} (n : Nat) (h : ∀ i : Nat, i < n → f i = some (.go ((i + 1 : Nat) : Int))) (h0 : f n = some (.done (.out ()))) : loop f 0 = some (.out ()) :=
 Xg0 (P := fun i => loop f (i : Int) = some (.out ())) n (Xmf h0) (fun i hi ih => by rw [Xfr (h i hi)]; exact ih) 0 (by omega)
theorem Xyz (y : Int) : 0 ≤ IntKind.wrap .i64 (BitVec.ofInt (IntKind.bits .i64) y &&& BitVec.ofInt (IntKind.bits .i64) 255).toNat ∧ IntKind.wrap .i64 (BitVec.ofInt (IntKind.bits .i64) y &&& BitVec.ofInt (IntKind.bits .i64) 255).toNat ≤ 255 := by
 have h : (BitVec.ofInt (IntKind.bits .i64) y &&& BitVec.ofInt (IntKind.bits .i64) 255).toNat ≤ 255 := by
  rw [BitVec.toNat_and]
  exact Nat.le_trans Nat.and_le_right (by decide)
 generalize (BitVec.ofInt (IntKind.bits .i64) y &&& BitVec.ofInt (IntKind.bits .i64) 255).toNat = n at h ⊢
 rw [← Xpj, wkA]
 omega
def Xk9 (c : Xa7) : Prop := c.b_.length ≤ 1048576 ∧ 0 ≤ c.i_
theorem Xnn (b : List Int) (hb : b.length ≤ 1048576) : ∃ c, Xhw b = some c ∧ Xk9 c := by
 unfold Xhw
 obtain ⟨o, h, _⟩ := Xm4 (f := Xkp b) (fun v => 0 ≤ v.2) (fun v => b.length - v.2.toNat) (fun _ _ => True) (by
  intro ⟨h, i⟩ hi
  unfold Xkp
  simp only [Xgb, Xab] at hi ⊢
  by_cases h1 : i < b.length ∧ i < 4000
  ·
   rw [Xc5 (by simp; exact h1), Xbe ⟨hi, h1.1⟩]
   refine .inr ⟨_, rfl, ?_, ?_, fun _ _ => trivial⟩
   ·
    simp only; rw [wkA]; omega
   ·
    simp only; rw [wkA]; omega
  ·
   rw [Xb6 (by simp; omega)]
   exact .inl ⟨_, rfl, trivial⟩) (Xaa .i64 (94701 + (b.length : Int)), 0) (by simp)
 rw [h]
 exact ⟨_, rfl, hb, by simp⟩
theorem Xc0 (c : Xa7) (hc : Xk9 c) : ∃ x c', Xbv c = some (x, c') ∧ 0 ≤ x ∧ x ≤ 255 ∧ Xk9 c' := by
 unfold Xbv
 rw [Xbe (by decide), Xbe (by decide)]
 obtain ⟨h1, h2⟩ := hc
 by_cases h : c.i_ < c.b_.length
 ·
  rw [Xbp h, Xbe ⟨h2, h⟩, Xab]
  refine ⟨_, _, rfl, (Xyz _).1, (Xyz _).2, h1, ?_⟩
  simp only; rw [wkA]; omega
 ·
  rw [Xan h, Xab]
  exact ⟨_, _, rfl, (Xyz _).1, (Xyz _).2, h1, h2⟩
theorem Xbb (c : Xa7) (n : Int) (hc : Xk9 c) : ∃ x c', Xa4 c n = some (x, c') ∧ 0 ≤ x ∧ (0 < n → x < n) ∧ (n ≤ 0 → x = 0) ∧ Xk9 c' := by
 unfold Xa4
 by_cases h0 : n ≤ 0
 ·
  rw [Xbp h0]; exact ⟨_, _, rfl, by omega, fun h => by omega, fun _ => rfl, hc⟩
 ·
  rw [Xan h0]
  obtain ⟨x, c1, e1, a1, b1, hc1⟩ := Xc0 c hc
  by_cases h1 : n ≤ 256
  ·
   rw [Xbp h1, e1, Xab, rqA]
   refine ⟨_, _, rfl, ?_, fun _ => ?_, fun h => by omega, hc1⟩
   ·
    simp only; rw [Xcg a1]; exact Int.emod_nonneg _ (by omega)
   ·
    simp only; rw [Xcg a1]; exact Int.emod_lt_of_pos _ (by omega)
  ·
   obtain ⟨y, c2, e2, a2, b2, hc2⟩ := Xc0 c1 hc1
   obtain ⟨z, c3, e3, a3, b3, hc3⟩ := Xc0 c2 hc2
   obtain ⟨u, c4, e4, a4, b4, hc4⟩ := Xc0 c3 hc3
   rw [Xan h1, e1, Xab]
   simp only
   rw [e2, Xab]
   simp only
   rw [e3, Xab]
   simp only
   rw [e4, Xab, rqA]
   simp only
   rw [wkA (e := x * 16777216), wkA (e := y * 65536), wkA (e := z * 256), wkA (e := x * 16777216 + y * 65536), wkA (e := x * 16777216 + y * 65536 + z * 256), wkA, Xcg (by omega)]
   exact ⟨_, _, rfl, Int.emod_nonneg _ (by omega), fun _ => Int.emod_lt_of_pos _ (by omega), fun h => by omega, hc4⟩
theorem Xml (c : Xa7) (n : Int) (hc : Xk9 c) : ∃ x c', Xgi c n = some (x, c') ∧ Xk9 c' := by
 unfold Xgi
 obtain ⟨x, c', e, _, _, _, h⟩ := Xbb c n hc
 rw [e, Xab]; exact ⟨_, _, rfl, h⟩
theorem Yh5 (l : List Int) : Xyl l = some (decide ((l.length : Int) > 1048576)) := rfl
theorem Xuy (b : List Int) (hb : b.length ≤ 1048576) : ∃ l, Xge b = some l ∧ l.length = 12 ∧ ∀ x ∈ l, 0 ≤ x ∧ x < 10000 := by
 unfold Xge
 obtain ⟨c, e, hc⟩ := Xnn b hb
 obtain ⟨x, c1, e1, _, _, hc1⟩ := Xc0 c hc
 rw [e, Xab, e1, Xab]
 obtain ⟨o, h, h2⟩ := Xm4 (f := Xft) (fun v => 0 ≤ v.1 ∧ v.1 ≤ 12 ∧ Xk9 ⟨v.2.1, v.2.2.1, v.2.2.2.1⟩ ∧ (v.2.2.2.2.length : Int) = v.1 ∧ ∀ x ∈ v.2.2.2.2, 0 ≤ x ∧ x < 10000) (fun v => 12 - v.1.toNat) (fun _ o => o.length = 12 ∧ ∀ x ∈ o, 0 ≤ x ∧ x < 10000) (by
  intro ⟨i, b, j, h, l⟩ ⟨h1, h2, h3, h4, h5⟩
  unfold Xft
  simp only at h1 h2 h3 h4 h5 ⊢
  by_cases hi : i < 12
  ·
   obtain ⟨x, c', ex, x0, x1, _, hx⟩ := Xbb _ 10000 h3
   rw [Xbp hi, ex, Xab, Xbe (by rw [Ylw]; simp only [List.length_singleton]; omega)]
   refine .inr ⟨_, rfl, ?_, ?_, fun _ h => h⟩
   ·
    rw [wkA]
    refine ⟨by omega, by omega, hx, by simp; omega, ?_⟩
    intro y hy
    rcases List.mem_append.1 hy with hy | hy
    ·
     exact h5 y hy
    ·
     rw [List.mem_singleton.1 hy]; exact ⟨x0, x1 (by omega)⟩
   ·
    rw [wkA]; omega
  ·
   rw [Xan hi]
   exact .inl ⟨_, rfl, by omega, h5⟩) (0, c1.b_, c1.i_, c1.h_, []) ⟨by simp, by simp, hc1, by simp, by simp⟩
 rw [h]
 exact ⟨_, rfl, h2⟩
def Xbn (n a b : Int) : Int := if b < a ∨ n < a then a else if n > b then b else n
theorem Xif (n a b : Int) : Xd4 n a b = some (Xbn n a b) := by
 unfold Xd4 Xbn
 congr 1
 repeat' split
 all_goals omega
theorem Xlt {n a b : Int} (h : a ≤ b) : a ≤ Xbn n a b ∧ Xbn n a b ≤ b := by
 unfold Xbn
 repeat' split
 all_goals omega
theorem Xdr (n a b : Int) : Xeb n a b = some (Xbn n a b) := by
 unfold Xeb Xbn
 rw [Yhc, Xab]
 by_cases h : b < a ∨ n < a
 ·
  rw [if_pos h, Xc5 (by simpa using h)]
 ·
  rw [if_neg h, Xb6 (by simp; omega), Ykj]; split <;> rfl
def Ypj (p : Par) : Bool := decide (0 ≤ p.Qp ∧ p.Qp ≤ 40) && !(p.Large && p.Exact)
def Xb5 (p : Pic) : Bool := decide (1 ≤ p.Wide ∧ p.Wide ≤ 256) && (decide (1 ≤ p.High ∧ p.High ≤ 256) && ((p.Dots.size : Int) == p.Wide * p.High))
theorem Xc1 {w h : Int} (h1 : 1 ≤ w ∧ w ≤ 256) (h2 : 1 ≤ h ∧ h ≤ 256) : 1 ≤ w * h ∧ w * h ≤ 65536 := by
 have a : w * 1 ≤ w * h := Int.mul_le_mul_of_nonneg_left h2.1 (by omega)
 have b : w * h ≤ 256 * h := Int.mul_le_mul_of_nonneg_right h1.2 (by omega)
 omega
theorem Xfd (p : Pic) : Xfp p = some (Xb5 p) := by
 unfold Xfp Xb5
 simp only [Xai, Xab, Xgb]
 by_cases h1 : 1 ≤ p.Wide ∧ p.Wide ≤ 256
 ·
  by_cases h2 : 1 ≤ p.High ∧ p.High ≤ 256
  ·
   have := Xc1 h1 h2
   rw [wkA]
  ·
   rw [decide_eq_false h2, Bool.false_and, Bool.false_and]
 ·
  rw [decide_eq_false h1, Bool.false_and, Bool.false_and]
theorem Xb9 (p : Pic) : Xb3 p = some (Xb5 p) := by
 unfold Xb3 Xb5
 simp only [Xak, Xab, Xgb]
 by_cases h1 : 1 ≤ p.Wide ∧ p.Wide ≤ 256
 ·
  by_cases h2 : 1 ≤ p.High ∧ p.High ≤ 256
  ·
   have := Xc1 h1 h2
   rw [wkA]
  ·
   rw [decide_eq_false h2, Bool.false_and, Bool.false_and]
 ·
  rw [decide_eq_false h1, Bool.false_and, Bool.false_and]
theorem Ydf (a b : List Int) : strOfNums a ++ strOfNums b = strOfNums (a ++ b) := by
 unfold strOfNums
 rw [List.map_append]
 apply ByteArray.ext
 simp
theorem Yps : (⟨#[]⟩ : ByteArray) = strOfNums [] := rfl
def Yfy (l : List Int) : Prop := ∀ x ∈ l, 0 ≤ x ∧ x ≤ 255
theorem Xm5 (l : List Int) (h : Yfy l) : Xaz (strOfNums l) = l := by
 unfold Xaz
 rw [strOfNums_data, List.map_map]
 have : ∀ x ∈ l, ((fun b : UInt8 => (b.toNat : Int)) ∘ fun n : Int => UInt8.ofNat n.toNat) x = x := by
  intro x hx
  have := h x hx
  simp only [Function.comp_apply, UInt8.toNat_ofNat']
  omega
 rw [List.map_congr_left this, List.map_id']
theorem Xy2 (l : List Int) (h : Yfy l) (i : Nat) (hi : i < l.length) : Xp5 (strOfNums l) (i : Int) = l.getD i 0 := by
 unfold Xp5
 rw [dif_pos (by rw [Int.toNat_natCast, strOfNums_size]; exact hi)]
 have hx := h l[i] (List.getElem_mem hi)
 rw [Xc2 l i hi]
 show ((((l.map fun n => UInt8.ofNat n.toNat).toArray)[(i : Int).toNat]'(by simpa using hi)).toNat : Int) = _
 simp only [Int.toNat_natCast, List.getElem_toArray, List.getElem_map, UInt8.toNat_ofNat']
 omega
theorem Yrf (y : Int) : IntKind.wrap .i64 (BitVec.ofInt (IntKind.bits .i64) y &&& BitVec.ofInt (IntKind.bits .i64) 1).toNat = y % 2 := by
 have h : (BitVec.ofInt 64 y &&& BitVec.ofInt 64 1).toNat = (y % 2).toNat := by
  rw [BitVec.toNat_and]
  have e1 : (BitVec.ofInt 64 1).toNat = 1 := by decide
  rw [e1, Nat.and_one_is_mod, BitVec.toNat_ofInt]
  omega
 show IntKind.wrap .i64 ((BitVec.ofInt 64 y &&& BitVec.ofInt 64 1).toNat : Int) = _
 rw [h, ← Xpj, wkA]
 omega
def Yoo : Nat → Int → List Int
 | 0, _ => []
 | w + 1, n => Yoo w (n / 2) ++ [48 + n % 2]
def Xw0 (l : List Int) : Prop := ∀ x ∈ l, x = 48 ∨ x = 49
theorem Xch {a b : List Int} (ha : Xw0 a) (hb : Xw0 b) : Xw0 (a ++ b) := fun x hx => (List.mem_append.1 hx).elim (ha x) (hb x)
theorem Ym4 (n : Nat) : Xw0 (List.replicate n 48) := fun x hx => .inl (List.eq_of_mem_replicate hx)
theorem Xfg {l : List Int} (h : Xw0 l) : Yfy l := fun x hx => by rcases h x hx with e | e <;> omega
theorem Xte : Xw0 [] := fun x hx => by simp at hx
theorem Ykk (w : Nat) : ∀ (k : Nat) (n : Int) (s : List Int), 0 ≤ n → n ≤ 9223372036854775807 → k + s.length ≤ 100000 → loop Xir (n, (k : Int) - 1, List.replicate k 0 ++ s) = some (Yoo k n ++ s) := by
 intro k
 induction k with
 | zero =>
  intro n s h0 h1 hl
  refine Xib ?_
  unfold Xir
  simp only
  rw [snA]
  simp [Yoo]
 | succ k ih =>
  intro n s h0 h1 hl
  have e1 : List.replicate (k + 1) (0 : Int) ++ s = List.replicate k 0 ++ 0 :: s := by rw [List.replicate_succ', List.append_assoc]; rfl
  have e2 := Yih (List.replicate k (0 : Int)) 0 (48 + n % 2) s
  rw [List.length_replicate] at e2
  refine lgo (y := (n / 2, (k : Int) - 1, List.replicate k 0 ++ (48 + n % 2) :: s)) ?_ ?_
  ·
   unfold Xir
   have e3 : (((k + 1 : Nat) : Int) - 1).toNat = k := by omega
   simp only [e1, e3]
   rw [syA, Xbe (by simp; omega), Xbe (by simp), Xbe (by decide), Yrf, wkA (e := 48 + n % 2), w8 (by omega) (by omega), e2, wkA]
   rw [show ((k + 1 : Nat) : Int) - 1 - 1 = (k : Int) - 1 by omega]
   rfl
  ·
   rw [ih (n / 2) ((48 + n % 2) :: s) (by omega) (by omega) (by simp; omega), Yoo, List.append_assoc]; rfl
theorem Yeg (n : Int) (w : Nat) (h0 : 0 ≤ n) (h1 : n ≤ 9223372036854775807) (hw : w ≤ 1000) : Xn6 n (w : Int) = some (strOfNums (Yoo w n)) := by
 unfold Xn6
 rw [rqA, wkA, Int.toNat_natCast]
 have := Ykk w w n [] h0 h1 (by simp; omega)
 rw [List.append_nil, List.append_nil] at this
 rw [this, Xab]
def Xp9 (m : Nat) : Nat := if h : m = 0 then 0 else Xp9 (m / 2) + 1
termination_by m
decreasing_by omega
def Yfn (m : Nat) : List Int := if h : m = 0 then [] else Yfn (m / 2) ++ [48 + ((m % 2 : Nat) : Int)]
termination_by m
decreasing_by omega
theorem Ydu (m : Nat) : (Yfn m).length = Xp9 m := by
 induction m using Nat.strongRecOn with
 | _ m ih =>
  rw [Yfn, Xp9]
  by_cases h : m = 0
  ·
   rw [dif_pos h, dif_pos h]; rfl
  ·
   rw [dif_neg h, dif_neg h, List.length_append, ih (m / 2) (by omega)]; rfl
theorem Ydz {m j : Nat} (h : m < 2 ^ j) : Xp9 m ≤ j := by
 induction j generalizing m with
 | zero => rw [Xp9, dif_pos (by simp at h; omega)]; omega
 | succ j ih =>
  rw [Xp9]
  split
  ·
   omega
  ·
   have := ih (m := m / 2) (by rw [Nat.pow_succ] at h; omega)
   omega
theorem Xyj {m : Nat} (h : 0 < m) : 1 ≤ Xp9 m := by rw [Xp9, dif_neg (by omega)]; omega
theorem Ym3 (m : Nat) : Xw0 (Yfn m) := by
 induction m using Nat.strongRecOn with
 | _ m ih =>
  rw [Yfn]
  by_cases h : m = 0
  ·
   rw [dif_pos h]; exact Xte
  ·
   rw [dif_neg h]; exact Xch (ih (m / 2) (by omega)) (fun x hx => by rw [List.mem_singleton.1 hx]; omega)
theorem Ynb (z m : Nat) : Yoo (Xp9 m + z) m = List.replicate z 48 ++ Yfn m := by
 induction m using Nat.strongRecOn with
 | _ m ih =>
  rw [Yfn, Xp9]
  by_cases h : m = 0
  ·
   rw [dif_pos h, dif_pos h, h, List.append_nil, Nat.zero_add]
   clear ih h
   induction z with
   | zero => rfl
   | succ z iz => rw [Yoo, show ((0 : Nat) : Int) / 2 = ((0 : Nat) : Int) from rfl, iz, List.replicate_succ']; rfl
  ·
   rw [dif_neg h, dif_neg h, show Xp9 (m / 2) + 1 + z = Xp9 (m / 2) + z + 1 by omega, Yoo, show (m : Int) / 2 = ((m / 2 : Nat) : Int) by omega, ih (m / 2) (by omega), List.append_assoc, show (m : Int) % 2 = ((m % 2 : Nat) : Int) by omega]
def ueL (n : Nat) : List Int := List.replicate (Xp9 (n + 1) - 1) 48 ++ Yfn (n + 1)
theorem Xje (n : Nat) : Xw0 (ueL n) := Xch (Ym4 _) (Ym3 _)
theorem Xlk (n : Nat) (h : n ≤ 1000000) : (ueL n).length ≤ 39 ∧ 1 ≤ (ueL n).length := by
 unfold ueL
 rw [List.length_append, List.length_replicate, Ydu]
 have := Ydz (m := n + 1) (j := 20) (by omega)
 have := Xyj (m := n + 1) (by omega)
 omega
theorem Ybs : ∀ (m : Nat) (k : Int), 0 ≤ k → k ≤ 1000 → m ≤ 9223372036854775807 → loop Xcj ((m : Int), k) = some (k + Xp9 m) := by
 have main : ∀ (j m : Nat) (k : Int), m < 2 ^ j → j ≤ 63 → 0 ≤ k → k + j ≤ 2000 → loop Xcj ((m : Int), k) = some (k + Xp9 m) := by
  intro j
  induction j with
  | zero =>
   intro m k hm _ _ _
   have : m = 0 := by simp at hm; omega
   subst this
   refine Xib ?_
   unfold Xcj
   simp only
   rw [snA, Xp9, dif_pos rfl]; simp
  | succ j ih =>
   intro m k hm hj h0 h1
   by_cases h : m = 0
   ·
    subst h
    refine Xib ?_
    unfold Xcj
    simp only
    rw [snA, Xp9, dif_pos rfl]; simp
   ·
    refine lgo (y := (((m / 2 : Nat) : Int), k + 1)) ?_ ?_
    ·
     unfold Xcj
     simp only
     rw [syA, Xbe (by decide), wkA]
     show some (Lp.go ((m : Int) / 2, k + 1)) = _
     congr 3
    ·
     rw [ih (m / 2) (k + 1) (by rw [Nat.pow_succ] at hm; omega) (by omega) (by omega) (by omega), Xp9.eq_def m, dif_neg h]
     congr 1; omega
 intro m k h0 h1 hm
 exact main 63 m k (by omega) (by omega) h0 (by omega)
theorem Xjx (n : Nat) (h : n ≤ 1000000) : Xlh (n : Int) = some (strOfNums (ueL n)) := by
 unfold Xlh Xkd
 rw [wkA (e := (n : Int) + 1)]
 have := Ybs (n + 1) 0 (by omega) (by omega) (by omega)
 rw [show ((n + 1 : Nat) : Int) = (n : Int) + 1 by omega, Int.zero_add] at this
 rw [this, Xab, Xab]
 have h1 := Ydz (m := n + 1) (j := 20) (by omega)
 have h2 := Xyj (m := n + 1) (by omega)
 rw [wkA (e := 2 * (Xp9 (n + 1) : Int)), wkA, show 2 * (Xp9 (n + 1) : Int) - 1 = ((Xp9 (n + 1) + (Xp9 (n + 1) - 1) : Nat) : Int) by omega, Yeg _ _ (by omega) (by omega) (by omega), Xab,
  show (n : Int) + 1 = ((n + 1 : Nat) : Int) by omega, Ynb]
 rfl
theorem Ya0 (n : Nat) (x : Int) (h : n ≤ 1000000000) : Xqr (n : Int) x = some (strOfNums (List.replicate n x)) := by
 unfold Xqr
 rw [rqA, Int.toNat_natCast]
 have key : ∀ (k a : Nat), k + a = n → loop (Xi1 (n : Int) x) ((a : Int), List.replicate a x ++ List.replicate k 0) = some (List.replicate n x) := by
  intro k
  induction k with
  | zero =>
   intro a ha
   refine Xib ?_
   unfold Xi1
   simp only
   rw [snA]
   simp; omega
  | succ k ih =>
   intro a ha
   have e2 := Yih (List.replicate a x) 0 x (List.replicate k 0)
   rw [List.length_replicate] at e2
   refine lgo (y := (((a + 1 : Nat) : Int), List.replicate (a + 1) x ++ List.replicate k 0)) ?_ (ih (a + 1) (by omega))
   unfold Xi1
   simp only [List.replicate_succ (n := k), Int.toNat_natCast]
   rw [syA, Xbe (by simp; omega), Xbe (by simp), e2, wkA, List.replicate_succ' (n := a), List.append_assoc]
   rfl
 have := key n 0 rfl
 rw [List.replicate_zero, List.nil_append] at this
 exact Xgz this
theorem Xpg (n : Nat) (h : n ≤ 1000000) : Xof (n : Int) = some (strOfNums (ueL n)) := by
 have main : ∀ (j m : Nat) (s : List Int), m < 2 ^ j → j ≤ 63 → s.length + j ≤ 1000 → loop Xi2 ((m : Int), strOfNums s) = some (strOfNums (Yfn m ++ s)) := by
  intro j
  induction j with
  | zero =>
   intro m s hm _ _
   have : m = 0 := by simp at hm; omega
   subst this
   refine Xib ?_
   unfold Xi2
   simp only
   rw [snA, Yfn, dif_pos rfl]; rfl
  | succ j ih =>
   intro m s hm hj hl
   by_cases h : m = 0
   ·
    subst h
    refine Xib ?_
    unfold Xi2
    simp only
    rw [snA, Yfn, dif_pos rfl]; rfl
   ·
    have hlt : (m : Int) < 2 ^ (j + 1) := by exact_mod_cast hm
    have hle : (2 : Int) ^ (j + 1) ≤ 2 ^ 63 := by
     have := Nat.pow_le_pow_right (n := 2) (by omega) hj
     exact_mod_cast this
    have hbd : (m : Int) < 9223372036854775808 := Int.lt_of_lt_of_le hlt (by simpa using hle)
    refine lgo (y := (((m / 2 : Nat) : Int), strOfNums ((48 + ((m % 2 : Nat) : Int)) :: s))) ?_ ?_
    ·
     unfold Xi2
     simp only
     rw [syA, Xbe (by decide), Xcg (by omega), Xbk (by omega), wkA (e := 48 + (m : Int) % 2), w8 (by omega) (by omega), Xbe (by simp only [strOfNums_size, List.length_singleton]; omega), Xbe (by decide), wkA, Ydf]
     congr 3
    ·
     rw [ih (m / 2) _ (by rw [Nat.pow_succ] at hm; omega) (by omega) (by simp; omega)]
     conv => rhs; rw [Yfn, dif_neg h]
     rw [List.append_assoc]; rfl
 unfold Xof
 have h1 := Ydz (m := n + 1) (j := 20) (by omega)
 have h2 := Xyj (m := n + 1) (by omega)
 rw [wkA (e := (n : Int) + 1), Yps, show (n : Int) + 1 = ((n + 1 : Nat) : Int) by omega, main 63 (n + 1) [] (by omega) (by omega) (by simp), Xab, List.append_nil, strOfNums_size, Ydu, wkA, show (Xp9 (n + 1) : Int) - 1 = ((Xp9 (n + 1) - 1 : Nat) : Int) by omega, Ya0 _ _ (by omega), Xab,
  Xbe (by simp only [strOfNums_size, List.length_replicate]; omega), Ydf]
 rfl
theorem Ym5 (x : Int) (h : x = 48 ∨ x = 49) : ((x != 48) && (x != 49)) = false := by rcases h with rfl | rfl <;> rfl
theorem Ynu (l : List Int) (hl : Xw0 l) (hn : l.length ≤ 9223372036854775806) (f : Int → Option (Lp Int (Ou Unit Bool)))
  (h : ∀ i : Nat, i < l.length → f (i : Int) = sel (((l.getD i 0) != 48) && ((l.getD i 0) != 49)) (some (.done (.ret false))) (some (.go ((i + 1 : Nat) : Int)))) (h0 : f (l.length : Int) = some (.done (.out ()))) : loop f 0 = some (.out ()) :=
 Xqn l.length (fun i hi => by rw [h i hi, Ym5 _ (by rw [Xc2 l i hi]; exact hl _ (List.getElem_mem hi)), Xaq]) h0
theorem Yd9 (l : List Int) (hl : Xw0 l) (hn : l.length ≤ 400000) : Xnw (strOfNums l) = some true := by
 unfold Xnw
 rw [strOfNums_size, snA, Ynu l hl (by omega) (Xik (strOfNums l)) (fun i hi => by
  unfold Xik
  rw [strOfNums_size, Xy2 l (Xfg hl) i hi, syA, rqA, rqA, Xgb, Xab, wkA]; rfl) (by
  unfold Xik; rw [strOfNums_size, snA])]
 rfl
def Ybh (l : List Int) : Int := l.foldl (fun x b => 2 * x + b - 48) 0
theorem Yp2 (l : List Int) : ∀ x : Int, l.foldl (fun x b => 2 * x + b - 48) x = x * 2 ^ l.length + Ybh l := by
 induction l with
 | nil => intro x; simp [Ybh]
 | cons b l ih =>
  intro x
  unfold Ybh
  rw [List.foldl_cons, List.foldl_cons, ih, ih (2 * 0 + b - 48), List.length_cons, Int.pow_succ]
  have e1 : (2 * x + b - 48) * 2 ^ l.length = 2 * (x * 2 ^ l.length) + (b - 48) * 2 ^ l.length := by
   rw [show 2 * x + b - 48 = 2 * x + (b - 48) by omega, Int.add_mul, Int.mul_assoc]
  have e2 : x * (2 ^ l.length * 2) = 2 * (x * 2 ^ l.length) := by rw [← Int.mul_assoc, Int.mul_comm]
  rw [e1, e2, show (2 : Int) * 0 + b - 48 = b - 48 by omega]
  omega
theorem Ybi (a b : List Int) : Ybh (a ++ b) = Ybh a * 2 ^ b.length + Ybh b := by
 show (a ++ b).foldl _ 0 = _
 rw [List.foldl_append]
 exact Yp2 b (Ybh a)
theorem Yp4 (z : Nat) : Ybh (List.replicate z 48) = 0 := by
 induction z with
 | zero => rfl
 | succ z ih => rw [List.replicate_succ', Ybi, ih]; rfl
theorem Ymr {l : List Int} (h : Xw0 l) : 0 ≤ Ybh l ∧ Ybh l < 2 ^ l.length := by
 induction l with
 | nil => simp [Ybh]
 | cons b l ih =>
  have h1 := ih (fun x hx => h x (by simp [hx]))
  have h2 := h b (by simp)
  rw [show b :: l = [b] ++ l from rfl, Ybi, List.length_append, Int.pow_add, show Ybh [b] = b - 48 by simp [Ybh]]
  have : (2 : Int) ^ [b].length = 2 := rfl
  rw [this]
  rcases h2 with rfl | rfl <;> omega
def Xy6 (n : Int) : Nat := if n > 0 then (2 * n - 1).toNat else (-2 * n).toNat
theorem Xrp (n : Int) (h : -500000 ≤ n ∧ n ≤ 500000) : Xjj n = some ((Xy6 n : Int), true) := by
 unfold Xjj Xy6
 rw [Xak, Xab, Yif, Xbp h, Ykj, wkA (e := 2 * n), wkA, wkA]
 split
 ·
  rw [Int.toNat_of_nonneg (by omega)]
 ·
  rw [Int.toNat_of_nonneg (by omega)]
theorem Yck (n : Int) (h : -500000 ≤ n ∧ n ≤ 500000) : Xs4 n = some ((Xy6 n : Int), true) := by
 unfold Xs4 Xy6
 rw [Xai, Xab, Yif, Xbp h, Ykj, wkA (e := 2 * n), wkA, wkA]
 split
 ·
  rw [Int.toNat_of_nonneg (by omega)]
 ·
  rw [Int.toNat_of_nonneg (by omega)]
theorem Xq0 (n : Int) (h : -500000 ≤ n ∧ n ≤ 500000) : Xy6 n ≤ 1000000 := by unfold Xy6; split <;> omega
def seL (n : Int) : List Int := ueL (Xy6 n)
theorem Xs1 (n : Int) (h : -500000 ≤ n ∧ n ≤ 500000) : (seL n).length ≤ 39 := (Xlk _ (Xq0 n h)).1
theorem Yff (n : Int) (h : -500000 ≤ n ∧ n ≤ 500000) : Xwb n = some (strOfNums (seL n)) := by
 unfold Xwb
 rw [Yck n h, Xab, Xpg _ (Xq0 n h), Xab]; rfl
theorem Xox (n : Int) (h : -500000 ≤ n ∧ n ≤ 500000) : Xjo n = some (strOfNums (seL n), true) := by
 have := Xq0 n h
 unfold Xjo
 rw [Xrp n h, Xab, Yif, Xav]
 unfold Xlw
 rw [Xak, Xab, Yif, syA, Xjx _ this, Xab, Xab]; rfl
def Yfp (x : Int) : Bool := decide (-5000 ≤ x ∧ x ≤ 5000)
theorem Yev {x : Int} : Yfp x = true ↔ -5000 ≤ x ∧ x ≤ 5000 := by simp [Yfp]
def nz : List Int → Nat
 | [] => 0
 | x :: r => if x = 0 then nz r else nz r + 1
theorem Yl2 : ∀ l : List Int, nz l ≤ l.length
 | [] => by simp [nz]
 | x :: r => by rw [nz, List.length_cons]; have := Yl2 r; split <;> omega
def Xlp : Nat → List Int → List Int
 | _, [] => []
 | g, x :: r => if x = 0 then Xlp (g + 1) r else ueL g ++ seL x ++ Xlp 0 r
def Xg2 (l : List Int) : List Int := ueL (nz l) ++ Xlp 0 l
theorem Yar : ∀ (l : List Int) (g : Nat), Xw0 (Xlp g l)
 | [], _ => Xte
 | x :: r, g => by
  rw [Xlp]
  split
  ·
   exact Yar r _
  ·
   exact Xch (Xch (Xje _) (Xje _)) (Yar r _)
theorem Yas : ∀ (l : List Int) (g : Nat), l.all Yfp = true → g + l.length ≤ 1000 → (Xlp g l).length ≤ 78 * l.length
 | [], _, _, _ => by simp [Xlp]
 | x :: r, g, h, hg => by
  rw [List.all_cons, Bool.and_eq_true, Yev] at h
  rw [List.length_cons] at hg ⊢
  rw [Xlp]
  split
  ·
   have := Yas r (g + 1) h.2 (by omega); omega
  ·
   have := Yas r 0 h.2 (by omega)
   have a := Xlk g (by omega)
   have b := Xs1 x (by omega)
   simp only [List.length_append]; omega
theorem Xqm (l : List Int) : Xw0 (Xg2 l) := Xch (Xje _) (Yar _ _)
theorem Xiw (l : List Int) (h : l.all Yfp = true) (hl : l.length ≤ 64) : (Xg2 l).length ≤ 39 + 78 * l.length := by
 have := Yas l 0 h (by omega)
 have := Yl2 l
 have := Xlk (nz l) (by omega)
 unfold Xg2; rw [List.length_append]; omega
theorem Xwn (l : List Int) (h : l.all Yfp = true) (hl : l.length ≤ 64) : Xn2 l = some (Xg2 l) := by
 have hm : maxLen = 9223372036854775807 := rfl
 unfold Xn2
 have k1 : ∀ (r a : List Int) (n : Nat), l = a ++ r → n ≤ a.length → loop (Xh3 l) ((n : Int), (a.length : Int)) = some ((n + nz r : Nat) : Int) := by
  intro r
  induction r with
  | nil =>
   intro a n ha _
   rw [List.append_nil] at ha
   refine Xib ?_
   unfold Xh3
   simp only
   rw [Xan (by rw [ha]; omega)]; rfl
  | cons x r ih =>
   intro a n ha hn
   have hlen : a.length < l.length := by rw [ha]; simp
   have hx : l.getD a.length 0 = x := by rw [ha]; exact Xtk a x _ r
   by_cases e : x = 0
   ·
    have hnext := ih (a ++ [x]) n (by rw [ha]; simp) (by simp; omega)
    rw [List.length_append, List.length_singleton] at hnext
    rw [nz, if_pos e, ← hnext]
    refine Xfr ?_
    unfold Xh3
    simp only [Int.toNat_natCast, hx]
    rw [syA, rqA, Xb6 (by simpa using e), Xab, wkA]
    rfl
   ·
    have hnext := ih (a ++ [x]) (n + 1) (by rw [ha]; simp) (by simp; omega)
    rw [List.length_append, List.length_singleton] at hnext
    rw [nz, if_neg e, show n + (nz r + 1) = n + 1 + nz r by omega, ← hnext]
    refine Xfr ?_
    unfold Xh3
    simp only [Int.toNat_natCast, hx]
    rw [syA, rqA, Xc5 (by simpa using e), Xab, wkA, wkA]
    rfl
 refine (Xgz (k1 l [] 0 rfl (by omega))).trans ?_
 have hz := Yl2 l
 have u := Xlk (nz l) (by omega)
 simp only [Nat.zero_add]
 rw [Xjx _ (by omega), Xab, Xm5 _ (Xfg (Xje _)), Xbe (by simp only [List.length_nil]; omega), List.nil_append]
 have key : ∀ (r a : List Int) (g : Nat) (s : List Int), l = a ++ r → g ≤ a.length → s.length ≤ 39 + 78 * a.length → loop (Xh4 l) ((g : Int), (a.length : Int), s) = some (s ++ Xlp g r) := by
  intro r
  induction r with
  | nil =>
   intro a g s ha _ _
   rw [List.append_nil] at ha
   refine Xib ?_
   unfold Xh4
   simp only
   rw [Xan (by rw [ha]; omega), Xlp, List.append_nil]
  | cons x r ih =>
   intro a g s ha hg hs
   have hlen : a.length < l.length := by rw [ha]; simp
   have hx : l.getD a.length 0 = x := by rw [ha]; exact Xtk a x _ r
   have hxi : -5000 ≤ x ∧ x ≤ 5000 := Yev.1 (List.all_eq_true.1 h x (by rw [ha]; simp))
   by_cases e : x = 0
   ·
    have hnext := ih (a ++ [x]) (g + 1) s (by rw [ha]; simp) (by simp; omega) (by simp; omega)
    rw [List.length_append, List.length_singleton] at hnext
    rw [Xlp, if_pos e, ← hnext]
    refine Xfr ?_
    unfold Xh4
    simp only [Int.toNat_natCast, hx]
    rw [syA, rqA, Xc5 (by simpa using e), Xab, wkA, wkA]
    rfl
   ·
    have u1 := Xlk g (by omega)
    have u2 := Xs1 x (by omega)
    have hnext := ih (a ++ [x]) 0 (s ++ ueL g ++ seL x) (by rw [ha]; simp) (by omega) (by simp only [List.length_append, List.length_singleton]; omega)
    rw [List.length_append, List.length_singleton] at hnext
    rw [Xlp, if_neg e, ← List.append_assoc, ← List.append_assoc, ← hnext]
    refine Xfr ?_
    unfold Xh4
    simp only [Int.toNat_natCast, hx]
    rw [syA, rqA, Xb6 (by simpa using e), Xrp x (by omega), Xab, Xjx g (by omega), Xab, Xm5 _ (Xfg (Xje _)), rqA, Xjx _ (Xq0 x (by omega)), Xab, Xm5 _ (Xfg (Xje _)), Xbe (by rw [List.length_append]; have : (seL x).length = (ueL (Xy6 x)).length := rfl; omega), Xab, wkA]
    rfl
 exact Xgz (key l [] 0 (ueL (nz l)) rfl (by omega) (by simp; omega))
def Xwu (l : List Int) : Bool := decide (l.length = 64) && l.all Yfp
theorem Xyg (p : Int → Bool) (l : List Int) (f : Int → Option (Lp Int (Ou Unit Bool))) (h : ∀ i : Nat, i < l.length → f (i : Int) = sel (!(p (l.getD i 0))) (some (.done (.ret false))) (some (.go ((i + 1 : Nat) : Int)))) (h0 : f (l.length : Int) = some (.done (.out ()))) :
  loop f 0 = some (if l.all p = true then .out () else .ret false) := by
 have key : ∀ (r a : List Int), l = a ++ r → loop f (a.length : Int) = some (if r.all p = true then .out () else .ret false) := by
  intro r
  induction r with
  | nil => intro a ha; rw [List.append_nil] at ha; rw [← ha, Xmf h0]; rfl
  | cons x r ih =>
   intro a ha
   have hlen : a.length < l.length := by rw [ha]; simp
   have hx : l.getD a.length 0 = x := by rw [ha]; exact Xtk a x _ r
   have hs := h a.length hlen
   rw [hx] at hs
   cases e : p x with
   | true =>
    rw [e] at hs
    have := ih (a ++ [x]) (by rw [ha]; simp)
    rw [List.length_append, List.length_singleton] at this
    rw [Xfr hs, this, List.all_cons, e, Bool.true_and]
   | false => rw [e] at hs; rw [Xmf hs, List.all_cons, e, Bool.false_and]; rfl
 exact key l [] rfl
theorem Ycr (l : List Int) : Xb2 l 64 5000 = some (Xwu l) := by
 unfold Xb2 Xwu
 by_cases h : l.length = 64
 ·
  rw [Xb6 (by simp only [bne_eq_false_iff_eq]; omega), Xyg Yfp l (Xei l 64 5000) (by
   intro i hi
   unfold Xei
   rw [syA, rqA, wkA (e := 0 - 5000), Xai, Xab, wkA, Int.toNat_natCast]
   rfl) (by unfold Xei; rw [snA]), Xab, decide_eq_true h, Bool.true_and]
  cases l.all Yfp <;> rfl
 ·
  rw [Xc5 (by simp only [bne_iff_ne, ne_eq]; omega), decide_eq_false h, Bool.false_and]
theorem Xin (l : List Int) (n lo hi : Int) (hl : l.length ≤ 9223372036854775806) : Xbf l n lo hi = some (l.all (fun x => decide (lo ≤ x ∧ x ≤ hi)) && ((l.length : Int) == n)) := by
 unfold Xbf
 rw [Xyg (fun x => decide (lo ≤ x ∧ x ≤ hi)) l (Xio l lo hi) (by
   intro i hi
   unfold Xio
   rw [syA, rqA, Xak, Xab, wkA, Int.toNat_natCast]
   rfl) (by unfold Xio; rw [snA]), Xab]
 cases l.all (fun x => decide (lo ≤ x ∧ x ≤ hi)) <;> rfl
theorem Xnz (l : List Int) (hl : l.length ≤ 9223372036854775806) : Xef l = some (Xwu l) := by
 unfold Xef Xwu
 rw [Xin l _ _ _ hl, Xab]
 show some (l.all Yfp && ((l.length : Int) == 64)) = _
 have : ((l.length : Int) == 64) = decide (l.length = 64) := by rw [Bool.eq_iff_iff]; simp only [beq_iff_eq, decide_eq_true_eq]; omega
 rw [this, Bool.and_comm]
theorem Xlz {l : List Int} (h : Xwu l = true) : l.length = 64 ∧ l.all Yfp = true := by
 unfold Xwu at h; rw [Bool.and_eq_true, decide_eq_true_eq] at h; exact h
def Yfo (l : List Int) (c : Xdm) : List Int := if (c.Large || c.Exact) = true then Xg2 l else Xg2 (l.take 16) ++ Xg2 ((l.drop 16).take 16) ++ Xg2 ((l.drop 32).take 16) ++ Xg2 (l.drop 48)
theorem Xid {l : List Int} (h : l.all Yfp = true) (n : Nat) : (l.take n).all Yfp = true := List.all_eq_true.2 fun x hx => List.all_eq_true.1 h x (List.mem_of_mem_take hx)
theorem Xic {l : List Int} (h : l.all Yfp = true) (n : Nat) : (l.drop n).all Yfp = true := List.all_eq_true.2 fun x hx => List.all_eq_true.1 h x (List.mem_of_mem_drop hx)
theorem Yja (l : List Int) (c : Xdm) : Xw0 (Yfo l c) := by
 unfold Yfo
 split
 ·
  exact Xqm l
 ·
  exact Xch (Xch (Xch (Xqm _) (Xqm _)) (Xqm _)) (Xqm _)
theorem Xym {l : List Int} {c : Xdm} (h : Xwu l = true) : (Yfo l c).length ≤ 5148 := by
 obtain ⟨h1, h2⟩ := Xlz h
 unfold Yfo
 split
 ·
  have := Xiw l h2 (by omega); omega
 ·
  have a := Xiw (l.take 16) (Xid h2 _) (by rw [List.length_take]; omega)
  have b := Xiw ((l.drop 16).take 16) (Xid (Xic h2 _) _) (by rw [List.length_take, List.length_drop]; omega)
  have c := Xiw ((l.drop 32).take 16) (Xid (Xic h2 _) _) (by rw [List.length_take, List.length_drop]; omega)
  have d := Xiw (l.drop 48) (Xic h2 _) (by rw [List.length_drop]; omega)
  rw [List.length_take] at a
  rw [List.length_take, List.length_drop] at b c
  rw [List.length_drop] at d
  simp only [List.length_append]; omega
theorem Xn1 (l : List Int) (c : Xdm) (h : Xwu l = true) : Xfm l c = some (Yfo l c) := by
 have hm : maxLen = 9223372036854775807 := rfl
 obtain ⟨h1, h2⟩ := Xlz h
 unfold Xfm Yfo
 rw [Yhc, Xab]
 by_cases e : (c.Large || c.Exact) = true
 ·
  rw [Xc5 e, if_pos e, Xwn l h2 (by omega), Xab]
 ·
  rw [Xb6 (by simpa using e), if_neg e]
  have step : ∀ (n : Nat) (s : List Int), n < 4 → s.length ≤ 4000 → Xck l ((n : Int), s) = some (.go (((n + 1 : Nat) : Int), s ++ Xg2 ((l.drop (16 * n)).take 16))) := by
   intro n s hn hs
   have g := Xiw ((l.drop (16 * n)).take 16) (Xid (Xic h2 _) _) (by rw [List.length_take, List.length_drop]; omega)
   rw [List.length_take, List.length_drop] at g
   unfold Xck
   simp only
   rw [syA, wkA (e := 16 * (n : Int)), wkA (e := 16 * (n : Int) + 16), rqA, show (16 * (n : Int)).toNat = 16 * n by omega, show (16 * (n : Int) + 16).toNat - 16 * n = 16 by omega, Xwn _ (Xid (Xic h2 _) _) (by rw [List.length_take, List.length_drop]; omega), Xab, rqA, wkA]
   rfl
  have g0 := Xiw ((l.drop (16 * 0)).take 16) (Xid (Xic h2 _) _) (by rw [List.length_take, List.length_drop]; omega)
  have g1 := Xiw ((l.drop (16 * 1)).take 16) (Xid (Xic h2 _) _) (by rw [List.length_take, List.length_drop]; omega)
  have g2 := Xiw ((l.drop (16 * 2)).take 16) (Xid (Xic h2 _) _) (by rw [List.length_take, List.length_drop]; omega)
  rw [List.length_take, List.length_drop] at g0 g1 g2
  have l4 : ∀ s, Xck l (((4 : Nat) : Int), s) = some (.done s) := by intro s; unfold Xck; simp only; rw [snA]
  have e : loop (Xck l) (((0 : Nat) : Int), []) = some ([] ++ Xg2 ((l.drop (16 * 0)).take 16) ++ Xg2 ((l.drop (16 * 1)).take 16) ++ Xg2 ((l.drop (16 * 2)).take 16) ++ Xg2 ((l.drop (16 * 3)).take 16)) := by
   rw [Xfr (step 0 [] (by omega) (by simp)), Xfr (step 1 _ (by omega) (by simp only [List.length_append, List.length_nil]; omega)), Xfr (step 2 _ (by omega) (by simp only [List.length_append, List.length_nil]; omega)), Xfr (step 3 _ (by omega) (by simp only [List.length_append, List.length_nil]; omega)), Xmf (l4 _)]
  refine (Xgz e).trans ?_
  rw [List.nil_append, show 16 * 0 = 0 from rfl, List.drop_zero, show (l.drop (16 * 3)).take 16 = l.drop 48 from List.take_of_length_le (by rw [List.length_drop]; omega)]
def Xe1 (c : Xdm) : Bool := decide (0 ≤ c.Qp ∧ c.Qp ≤ 40) && !(c.Large && c.Exact)
theorem Xby (c : Xdm) : Xj5 c = some (Xe1 c) := by
 unfold Xj5 Xe1
 rw [Xai, Xab, Yig, Xgb, Xab]
 cases c.Large <;> cases c.Exact <;> rfl
theorem Xdf (c : Xdm) : Xc3 c = some (Xe1 c) := by
 unfold Xc3 Xe1
 rw [Xak, Xab, Yig, Xgb, Xab]
 cases c.Large <;> cases c.Exact <;> rfl
def Xqv (s : Xam) : Bool :=
 if s.Kind = 0 then decide (s.Mode = 0 ∧ s.Dx = 0 ∧ s.Dy = 0 ∧ s.Levels.length = 0)
 else if s.Kind = 1 then decide (s.Mode = 0) && (decide (-16 ≤ s.Dx ∧ s.Dx ≤ 16) && (decide (-16 ≤ s.Dy ∧ s.Dy ≤ 16) && Xwu s.Levels))
 else if s.Kind = 2 then decide (0 ≤ s.Mode ∧ s.Mode ≤ 3) && (decide (s.Dx = 0) && (decide (s.Dy = 0) && Xwu s.Levels))
 else false
theorem Yhr (a b : Int) : (a == b) = decide (a = b) := by rw [Bool.eq_iff_iff]; simp
theorem Xpy (s : Xam) : Xpf s = some (Xqv s) := by
 unfold Xpf Xqv
 simp only [Xai, Ycr, Xab, Xgb, Yhr]
 simp only [Ykj]
 by_cases h0 : s.Kind = 0
 ·
  rw [if_pos h0, if_pos h0]; congr 1; rw [Bool.eq_iff_iff]; simp
 ·
  rw [if_neg h0, if_neg h0]
  by_cases h1 : s.Kind = 1
  ·
   rw [if_pos h1, if_pos h1]
  ·
   rw [if_neg h1, if_neg h1]
   by_cases h2 : s.Kind = 2
   ·
    rw [decide_eq_true h2, Bool.true_and, if_pos h2]
   ·
    rw [decide_eq_false h2, Bool.false_and, if_neg h2]
theorem Xlc (s : Xam) (hl : s.Levels.length ≤ 9223372036854775806) : Xe9 s = some (Xqv s) := by
 unfold Xe9 Xqv
 simp only [Xak, Xnz _ hl, Xab, Xgb, Yhr]
 simp only [Ykj]
 by_cases h0 : s.Kind = 0
 ·
  rw [if_pos h0, if_pos h0]; congr 1; rw [Bool.eq_iff_iff]; simp
 ·
  rw [if_neg h0, if_neg h0]
  by_cases h1 : s.Kind = 1
  ·
   rw [if_pos h1, if_pos h1]
  ·
   rw [if_neg h1, if_neg h1]
   by_cases h2 : s.Kind = 2
   ·
    rw [decide_eq_true h2, Bool.true_and, if_pos h2]
   ·
    rw [decide_eq_false h2, Bool.false_and, if_neg h2]
def Xnp (s : Xam) (c : Xdm) : Bool := !c.Key || s.Kind == 2
def sqL (s : Xam) (c : Xdm) : List Int :=
 (if c.Key = true then [] else ueL s.Kind.toNat) ++
 (if s.Kind = 1 then seL s.Dx ++ seL s.Dy ++ Yfo s.Levels c else if s.Kind = 2 then ueL s.Mode.toNat ++ Yfo s.Levels c else [])
theorem Xoi {s : Xam} (h : Xqv s = true) : 0 ≤ s.Kind ∧ s.Kind ≤ 2 := by
 unfold Xqv at h
 repeat' split at h
 all_goals first | omega | simp at h
theorem Xph {s : Xam} (h : Xqv s = true) (h1 : s.Kind = 1) : (-16 ≤ s.Dx ∧ s.Dx ≤ 16) ∧ (-16 ≤ s.Dy ∧ s.Dy ≤ 16) ∧ Xwu s.Levels = true := by
 unfold Xqv at h
 rw [if_neg (by omega), if_pos h1] at h
 simp only [Bool.and_eq_true, decide_eq_true_eq] at h
 exact ⟨h.2.1, h.2.2.1, h.2.2.2⟩
theorem Xrd {s : Xam} (h : Xqv s = true) (h1 : s.Kind = 2) : (0 ≤ s.Mode ∧ s.Mode ≤ 3) ∧ Xwu s.Levels = true := by
 unfold Xqv at h
 rw [if_neg (by omega), if_neg (by omega), if_pos h1] at h
 simp only [Bool.and_eq_true, decide_eq_true_eq] at h
 exact ⟨h.1, h.2.2.2⟩
theorem Ymh (s : Xam) (c : Xdm) : Xw0 (sqL s c) := by
 unfold sqL
 refine Xch ?_ ?_
 ·
  split
  ·
   exact Xte
  ·
   exact Xje _
 ·
  split
  ·
   exact Xch (Xch (Xje _) (Xje _)) (Yja _ _)
  ·
   split
   ·
    exact Xch (Xje _) (Yja _ _)
   ·
    exact Xte
theorem Ymi {s : Xam} {c : Xdm} (h : Xqv s = true) : (sqL s c).length ≤ 5265 := by
 have hk := Xoi h
 have u := Xlk s.Kind.toNat (by omega)
 have e1 : (if c.Key = true then [] else ueL s.Kind.toNat).length ≤ 39 := by split; simp; exact u.1
 unfold sqL
 rw [List.length_append]
 by_cases h1 : s.Kind = 1
 ·
  obtain ⟨a, b, d⟩ := Xph h h1
  have x := Xs1 s.Dx (by omega)
  have y := Xs1 s.Dy (by omega)
  have z := Xym (c := c) d
  rw [if_pos h1]; simp only [List.length_append]; omega
 ·
  by_cases h2 : s.Kind = 2
  ·
   obtain ⟨a, d⟩ := Xrd h h2
   have x := Xlk s.Mode.toNat (by omega)
   have z := Xym (c := c) d
   rw [if_neg h1, if_pos h2]; simp only [List.length_append]; omega
  ·
   rw [if_neg h1, if_neg h2]; simp only [List.length_nil]; omega
theorem Xvq (s : Xam) (c : Xdm) (hl : s.Levels.length ≤ 9223372036854775806) : Xha s c = some (if (Xqv s && (Xe1 c && Xnp s c)) = true then (strOfNums (sqL s c), true) else (⟨#[]⟩, false)) := by
 have hm : maxLen = 9223372036854775807 := rfl
 unfold Xha Xdq
 rw [Xlc s hl, Xab, Xdf, Xab, Yig, Xab, Xab]
 by_cases hok : (Xqv s && (Xe1 c && Xnp s c)) = true
 ·
  rw [if_pos hok]
  simp only [Bool.and_eq_true] at hok
  obtain ⟨h, hc, hlet⟩ := hok
  have hk := Xoi h
  have u := Xlk s.Kind.toNat (by omega)
  unfold Xnp at hlet
  rw [h, hc, Xav, Xav, hlet, Xab, Bool.not_true, Xaq]
  have e1 : (sel (!c.Key) (bnd (Xlh s.Kind) fun q6 => req ((([] : List Int).length + (Xaz q6).length) * 1 ≤ 140737488355328 ∧ ([] : List Int).length + (Xaz q6).length ≤ maxLen) <| some (([] : List Int) ++ (Xaz q6))) (some ([] : List Int))) = some (if c.Key = true then [] else ueL s.Kind.toNat) := by
   rw [show s.Kind = ((s.Kind.toNat : Nat) : Int) by omega, Xjx _ (by omega), Xab, Xm5 _ (Xfg (Xje _)), Xbe (by simp only [List.length_nil]; omega), Int.toNat_natCast]
   cases c.Key <;> rfl
  rw [e1, Xab]
  have e2 : (if c.Key = true then [] else ueL s.Kind.toNat).length ≤ 39 := by split; simp; exact u.1
  unfold sqL
  generalize (if c.Key = true then [] else ueL s.Kind.toNat) = k at e2 ⊢
  by_cases h1 : s.Kind = 1
  ·
   obtain ⟨a, b, d⟩ := Xph h h1
   have x := Xs1 s.Dx (by omega)
   have y := Xs1 s.Dy (by omega)
   have z := Xym (c := c) d
   rw [if_pos h1, Xc5 (by simpa using h1), Xox _ (by omega), Xab, Xox _ (by omega), Xab]
   simp only
   rw [Xm5 (seL s.Dx) (Xfg (Xje _)), Xm5 (seL s.Dy) (Xfg (Xje _)), rqA, Xbe (by rw [List.length_append]; omega), Xn1 _ c d, Xab, Xbe (by simp only [List.length_append]; omega), Xab]
   simp only [List.append_assoc]
  ·
   rw [if_neg h1, Xb6 (by simpa using h1)]
   by_cases h2 : s.Kind = 2
   ·
    obtain ⟨a, d⟩ := Xrd h h2
    have x := Xlk s.Mode.toNat (by omega)
    have z := Xym (c := c) d
    rw [if_pos h2, Xc5 (by simpa using h2), show s.Mode = ((s.Mode.toNat : Nat) : Int) by omega, Xjx _ (by omega), Xab, Xm5 _ (Xfg (Xje _)), rqA, Xn1 _ c d, Xab, Xbe (by simp only [List.length_append]; omega), Xab, Int.toNat_natCast]
    simp only [List.append_assoc]
   ·
    rw [if_neg h2, Xb6 (by simpa using h2), Xab, List.append_nil]
 ·
  rw [if_neg hok]
  unfold Xnp at hok
  cases h1 : Xqv s <;> cases h2 : Xe1 c <;> cases h3 : (!c.Key || s.Kind == 2) <;> simp_all [bnd, sel]
def Xmq : List Xam → Xdm → List Int
 | [], _ => []
 | s :: r, c => sqL s c ++ Xmq r c
def Ybb (l : List Xam) (c : Xdm) : Bool := l.all fun s => Xqv s && (Xe1 c && Xnp s c)
theorem Ydi : ∀ (l : List Xam) (c : Xdm), Xw0 (Xmq l c)
 | [], _ => Xte
 | s :: r, c => Xch (Ymh s c) (Ydi r c)
theorem Ydj : ∀ {l : List Xam} {c : Xdm}, Ybb l c = true → (Xmq l c).length ≤ 5265 * l.length
 | [], _, _ => by simp [Xmq]
 | s :: r, c, h => by
  unfold Ybb at h
  rw [List.all_cons, Bool.and_eq_true, Bool.and_eq_true] at h
  have h1 := Ymi (c := c) h.1.1
  have h2 := Ydj (l := r) (c := c) h.2
  rw [Xmq, List.length_append, List.length_cons]; omega
def Yio (l : List Xam) (c : Xdm) : ByteArray × Bool := if (decide (1 ≤ l.length ∧ l.length ≤ 64) && Ybb l c) = true then (strOfNums (Xmq l c), true) else (⟨#[]⟩, false)
theorem Xzx (l : List Xam) (c : Xdm) (hs : ∀ s ∈ l, s.Levels.length ≤ 9223372036854775806) : Xh1 l c = some (Yio l c) := by
 have hm : maxLen = 9223372036854775807 := rfl
 unfold Xh1 Yio
 rw [Xak, Xab, Yif]
 by_cases hl : 1 ≤ l.length ∧ l.length ≤ 64
 ·
  rw [syA, decide_eq_true hl, Bool.true_and]
  have key : ∀ (r a : List Xam) (t : List Int), l = a ++ r → t.length ≤ 5265 * a.length → loop (Xeq l c) ((a.length : Int), t) = some (if Ybb r c = true then .out (t ++ Xmq r c) else .ret (⟨#[]⟩, false)) := by
   intro r
   induction r with
   | nil =>
    intro a t ha _
    rw [List.append_nil] at ha
    exact Xib (by unfold Xeq; simp only; rw [Xan (by rw [ha]; omega), Xmq, List.append_nil]; rfl)
   | cons s r ih =>
    intro a t ha ht
    have hlen : a.length < l.length := by rw [ha]; simp
    have hx : l.getD a.length Xji = s := by rw [ha]; exact Xtk a s _ r
    have hone : Ybb (s :: r) c = ((Xqv s && (Xe1 c && Xnp s c)) && Ybb r c) := by unfold Ybb; rw [List.all_cons]
    have hrow := Xvq s c (hs s (by rw [ha]; simp))
    rw [hone]
    cases e : (Xqv s && (Xe1 c && Xnp s c)) with
    | true =>
     rw [e, if_pos rfl] at hrow
     have hok : Xqv s = true := by rw [Bool.and_eq_true] at e; exact e.1
     have g := Ymi (c := c) hok
     have hn := ih (a ++ [s]) (t ++ sqL s c) (by rw [ha]; simp) (by simp only [List.length_append, List.length_singleton]; omega)
     rw [List.length_append, List.length_singleton] at hn
     rw [Bool.true_and, Xmq, ← List.append_assoc, ← hn]
     refine Xfr ?_
     unfold Xeq
     simp only [Int.toNat_natCast, hx]
     rw [syA, rqA, show (⟨s.Kind, s.Mode, s.Dx, s.Dy, s.Levels⟩ : Xam) = s from rfl, hrow, Xab, Yif, Xav, Xm5 _ (Xfg (Ymh _ _)), rqA, wkA]
     rfl
    | false =>
     rw [e, if_neg (by decide)] at hrow
     rw [Bool.false_and, if_neg (by decide)]
     refine Xib ?_
     unfold Xeq
     simp only [Int.toNat_natCast, hx]
     rw [syA, rqA, show (⟨s.Kind, s.Mode, s.Dx, s.Dy, s.Levels⟩ : Xam) = s from rfl, hrow, Xab, Yif, Xaq]
  refine (Xgz (key l [] [] rfl (by simp))).trans ?_
  cases Ybb l c <;> rfl
 ·
  rw [snA, decide_eq_false hl, Bool.false_and]; rfl
theorem Ydw (b : ByteArray) (i : Int) : 0 ≤ Xp5 b i ∧ Xp5 b i ≤ 255 := by
 unfold Xp5
 split
 ·
  rename_i h
  have := (b[i.toNat]'h).toNat_lt
  omega
 ·
  omega
theorem Xat {p : Pic} (h : Xb5 p = true) : (1 ≤ p.Wide ∧ p.Wide ≤ 256) ∧ (1 ≤ p.High ∧ p.High ≤ 256) ∧ (p.Dots.size : Int) = p.Wide * p.High := by
 unfold Xb5 at h
 simp only [Bool.and_eq_true, decide_eq_true_eq, beq_iff_eq] at h
 exact ⟨h.1, h.2.1, h.2.2⟩
theorem Xq6 {p : Pic} (h1 : 1 ≤ p.Wide ∧ p.Wide ≤ 256) (h2 : 1 ≤ p.High ∧ p.High ≤ 256) (h3 : (p.Dots.size : Int) = p.Wide * p.High) : Xb5 p = true := by
 unfold Xb5
 simp only [Bool.and_eq_true, decide_eq_true_eq, beq_iff_eq]
 exact ⟨h1, h2, h3⟩
def Xlo (p : Pic) (x y : Int) : Int := Xp5 p.Dots (Xbn y 0 (p.High - 1) * p.Wide + Xbn x 0 (p.Wide - 1))
theorem Xop (p : Pic) (x y : Int) : 0 ≤ Xlo p x y ∧ Xlo p x y ≤ 255 := Ydw _ _
theorem Yf2 {p : Pic} (ok : Xb5 p = true) (x y : Int) : 0 ≤ Xbn y 0 (p.High - 1) * p.Wide + Xbn x 0 (p.Wide - 1) ∧ Xbn y 0 (p.High - 1) * p.Wide + Xbn x 0 (p.Wide - 1) < p.Dots.size ∧ 0 ≤ Xbn y 0 (p.High - 1) * p.Wide ∧ Xbn y 0 (p.High - 1) * p.Wide ≤ 65536 := by
 obtain ⟨h1, h2, h3⟩ := Xat ok
 have b1 := Xlt (n := y) (a := 0) (b := p.High - 1) (by omega)
 have b2 := Xlt (n := x) (a := 0) (b := p.Wide - 1) (by omega)
 have m1 := Int.mul_nonneg b1.1 (show 0 ≤ p.Wide by omega)
 have m2 := Int.mul_le_mul_of_nonneg_right b1.2 (show 0 ≤ p.Wide by omega)
 have m3 : (p.High - 1) * p.Wide = p.Wide * p.High - p.Wide := by rw [Int.sub_mul, Int.one_mul, Int.mul_comm]
 have m4 := (Xc1 h1 h2).2
 omega
theorem Xz0 {p : Pic} (ok : Xb5 p = true) (x y : Int) : Xd8 p x y = some (Xlo p x y) := by
 obtain ⟨h1, h2, h3⟩ := Xat ok
 unfold Xd8 Xlo
 rw [Xif, Xab, Xif, Xab, wkA (e := p.High - 1), wkA (e := p.Wide - 1)]
 obtain ⟨p1, p2, p3, p4⟩ := Yf2 ok x y
 have b2 := Xlt (n := x) (a := 0) (b := p.Wide - 1) (by omega)
 have br := Ydw p.Dots (Xbn y 0 (p.High - 1) * p.Wide + Xbn x 0 (p.Wide - 1))
 rw [wkA (e := Xbn y 0 (p.High - 1) * p.Wide), wkA (e := Xbn y 0 (p.High - 1) * p.Wide + Xbn x 0 (p.Wide - 1)), Xbe ⟨p1, p2⟩, wkA]
theorem Xgs {p : Pic} (ok : Xb5 p = true) (x y : Int) : Xd0 p x y = some (Xlo p x y) := by
 obtain ⟨h1, h2, h3⟩ := Xat ok
 unfold Xd0 Xlo
 rw [Xfd, Xab, ok, Bool.not_true, Xaq, Xdr, Xab, Xdr, Xab, wkA (e := p.High - 1), wkA (e := p.Wide - 1)]
 obtain ⟨p1, p2, p3, p4⟩ := Yf2 ok x y
 have b2 := Xlt (n := x) (a := 0) (b := p.Wide - 1) (by omega)
 have br := Ydw p.Dots (Xbn y 0 (p.High - 1) * p.Wide + Xbn x 0 (p.Wide - 1))
 rw [wkA (e := Xbn y 0 (p.High - 1) * p.Wide), wkA (e := Xbn y 0 (p.High - 1) * p.Wide + Xbn x 0 (p.Wide - 1)), Xbe ⟨p1, p2⟩, wkA]
def Yj1 (p : Pic) (x y : Int) (i : Nat) : Int := Xlo p (x + ((i % 8 : Nat) : Int)) (y + ((i / 8 : Nat) : Int))
def Xmw (p : Pic) (x y : Int) (n : Nat) : List Int := (List.range n).map (Yj1 p x y)
theorem Yfw (p : Pic) (x y : Int) (n : Nat) : Xmw p x y (n + 1) = Xmw p x y n ++ [Yj1 p x y n] := by simp [Xmw, List.range_succ]
theorem Xl1 (p : Pic) (x y : Int) (n : Nat) : (Xmw p x y n).length = n := by simp [Xmw]
def Yhv (x : Int) : Bool := decide (0 ≤ x ∧ x ≤ 255)
def Xbi (l : List Int) : Bool := decide (l.length = 64) && l.all Yhv
theorem Xa8 {l : List Int} (h : Xbi l = true) : l.length = 64 ∧ ∀ i : Nat, i < 64 → 0 ≤ l.getD i 0 ∧ l.getD i 0 ≤ 255 := by
 simp only [Xbi, Bool.and_eq_true, decide_eq_true_eq] at h
 refine ⟨h.1, fun i hi => ?_⟩
 have := List.all_eq_true.1 h.2 (l.getD i 0) (by rw [Xc2 l i (by omega)]; exact List.getElem_mem _)
 simpa [Yhv] using this
theorem Xd3 (p : Pic) (x y : Int) : Xbi (Xmw p x y 64) = true := by
 simp only [Xbi, Xl1, decide_true, Bool.true_and, List.all_eq_true]
 intro z hz
 obtain ⟨i, _, rfl⟩ := List.mem_map.1 hz
 simp only [Yhv, decide_eq_true_eq]
 exact Xop _ _ _
theorem Xgd {p : Pic} (ok : Xb5 p = true) (x y : Int) (hx : -1000 ≤ x ∧ x ≤ 1000) (hy : -1000 ≤ y ∧ y ≤ 1000) : Xh7 p x y = some (Xmw p x y 64) := by
 have hm : maxLen = 9223372036854775807 := rfl
 unfold Xh7
 rw [Xfd, Xab, ok, Xav, Xai, Xab, syA, Xai, Xab, Xab, decide_eq_true (by omega), Bool.not_true, Xaq]
 have key : ∀ i : Nat, i ≤ 64 → loop (Xix p x y) ((i : Int), Xmw p x y i) = some (Xmw p x y 64) := by
  refine Xg0 _ ?_ ?_
  ·
   exact Xib (by unfold Xix; rw [Xan (by simp)])
  ·
   intro i hi ih
   refine lgo (y := (((i + 1 : Nat) : Int), Xmw p x y (i + 1))) ?_ ih
   unfold Xix
   simp only
   rw [syA, rqA, rqA, Xcg (by omega), Xbk (by omega), wkA (e := (i : Int) / 8), wkA (e := x + (i : Int) % 8), wkA (e := y + (i : Int) / 8), Xgs ok, Xab, Xbe (by rw [Xl1]; simp only [List.length_singleton]; omega), wkA (e := (i : Int) + 1)]
   have e2 : Xlo p (x + (i : Int) % 8) (y + (i : Int) / 8) = Yj1 p x y i := by unfold Yj1; congr 1
   rw [e2, ← Yfw]
   rfl
 have := key 0 (by omega)
 exact (Xgz this).trans rfl
theorem Xfa {p : Pic} (ok : Xb5 p = true) (x y : Int) (hx : -1000 ≤ x ∧ x ≤ 1000) (hy : -1000 ≤ y ∧ y ≤ 1000) : Xbq p x y = some (Xmw p x y 64) := by
 have hm : maxLen = 9223372036854775807 := rfl
 unfold Xbq
 rw [rqA]
 have key : ∀ r : Nat, r ≤ 8 → loop (Xd6 p x y) ((r : Int), Xmw p x y (8 * r)) = some (Xmw p x y 64) := by
  refine Xg0 _ ?_ ?_
  ·
   exact Xib (by unfold Xd6; rw [Xan (by simp)])
  ·
   intro r hr ih
   refine lgo (y := (((r + 1 : Nat) : Int), Xmw p x y (8 * (r + 1)))) ?_ ih
   unfold Xd6
   simp only
   have inner : ∀ c : Nat, c ≤ 8 → loop (Xd7 p x y ((r : Int), Xmw p x y (8 * r))) ((c : Int), Xmw p x y (8 * r + c)) = some (Xmw p x y (8 * (r + 1))) := by
    refine Xg0 _ ?_ ?_
    ·
     exact Xib (by unfold Xd7; rw [Xan (by simp)]; rfl)
    ·
     intro c hc ih2
     refine lgo (y := (((c + 1 : Nat) : Int), Xmw p x y (8 * r + (c + 1)))) ?_ ih2
     unfold Xd7
     simp only
     rw [syA, wkA (e := x + (c : Int)), wkA (e := y + (r : Int)), Xz0 ok, Xab, Xbe (by rw [Xl1]; simp only [List.length_singleton]; omega), wkA (e := (c : Int) + 1)]
     have e2 : Xlo p (x + (c : Int)) (y + (r : Int)) = Yj1 p x y (8 * r + c) := by
      unfold Yj1
      rw [show (8 * r + c) % 8 = c by omega, show (8 * r + c) / 8 = r by omega]
     rw [e2, ← Yfw]
     rfl
   have i0 := inner 0 (by omega)
   rw [syA]
   refine (Xgz i0).trans ?_
   rw [wkA (e := (r : Int) + 1)]
   rfl
 have := key 0 (by omega)
 exact (Xgz this).trans rfl
def Xmr (x : Int) : Int := if x < 0 then -x else x
def Xl3 (a b : List Int) : Nat → Int
 | 0 => 0
 | n + 1 => Xl3 a b n + Xmr (a.getD n 0 - b.getD n 0)
theorem Xhx {a b : List Int} (ha : Xbi a = true) (hb : Xbi b = true) : ∀ n : Nat, n ≤ 64 → 0 ≤ Xl3 a b n ∧ Xl3 a b n ≤ 255 * n
 | 0, _ => by simp [Xl3]
 | n + 1, h => by
  have ih := Xhx ha hb n (by omega)
  have p := (Xa8 ha).2 n (by omega)
  have q := (Xa8 hb).2 n (by omega)
  simp only [Xl3, Xmr]
  split <;> omega
theorem Xoz {a b : List Int} (ha : Xbi a = true) (hb : Xbi b = true) : Xm2 a b = some (Xl3 a b 64) := by
 unfold Xm2
 have la := (Xa8 ha).1
 have lb := (Xa8 hb).1
 have key : ∀ i : Nat, i ≤ 64 → loop (Xl7 a b) (Xl3 a b i, (i : Int)) = some (Xl3 a b 64) := by
  refine Xg0 _ ?_ ?_
  ·
   exact Xib (by unfold Xl7; rw [Xan (by simp only; omega)])
  ·
   intro i hi ih
   refine lgo (y := (Xl3 a b (i + 1), ((i + 1 : Nat) : Int))) ?_ ih
   have p := (Xa8 ha).2 i hi
   have q := (Xa8 hb).2 i hi
   have g := Xhx ha hb i (by omega)
   unfold Xl7 Xkw
   simp only [Int.toNat_natCast]
   rw [syA, rqA, rqA, wkA (e := a.getD i 0 - b.getD i 0), wkA (e := 0 - (a.getD i 0 - b.getD i 0)), Xab]
   have e : (if 0 - (a.getD i 0 - b.getD i 0) > a.getD i 0 - b.getD i 0 then 0 - (a.getD i 0 - b.getD i 0) else a.getD i 0 - b.getD i 0) = Xmr (a.getD i 0 - b.getD i 0) := by
    unfold Xmr; split <;> split <;> omega
   have ab : 0 ≤ Xmr (a.getD i 0 - b.getD i 0) ∧ Xmr (a.getD i 0 - b.getD i 0) ≤ 255 := by unfold Xmr; split <;> omega
   rw [e, wkA (e := Xl3 a b i + Xmr (a.getD i 0 - b.getD i 0)), wkA (e := (i : Int) + 1)]
   rfl
 exact (Xgz (key 0 (by omega))).trans rfl
theorem Xf2 (l : List Int) (hl : l.length ≤ 9223372036854775806) : Xbf l 64 0 255 = some (Xbi l) := by
 rw [Xin l _ _ _ hl]
 have : ((l.length : Int) == 64) = decide (l.length = 64) := by rw [Bool.eq_iff_iff]; simp only [beq_iff_eq, decide_eq_true_eq]; omega
 rw [this, Bool.and_comm]
 rfl
def Yku (d : Int) : Int := ((seL d).length : Int)
theorem Xkc (d : Int) (h : -500000 ≤ d ∧ d ≤ 500000) : Xjp d = some (Yku d) := by
 unfold Xjp Yku
 rw [Xox d h, Xab, strOfNums_size]
theorem Xrb (d : Int) (h : -500000 ≤ d ∧ d ≤ 500000) : 1 ≤ Yku d ∧ Yku d ≤ 39 := by
 unfold Yku seL
 have := Xlk (Xy6 d) (Xq0 d h)
 omega
theorem Ya4 (c : Xa7) (n : Int) (hc : Xk9 c) (h0 : 0 ≤ n) (h1 : n ≤ 100000) : ∃ s c', Xk2 c n = some (s, c') ∧ (s.size : Int) = n ∧ Xk9 c' := by
 have hm : maxLen = 9223372036854775807 := rfl
 unfold Xk2
 obtain ⟨z, c0, ez, z0, z1, hz⟩ := Xc0 c hc
 rw [ez, Xab]
 simp only
 obtain ⟨o, h, h2, h3⟩ := Xm4 (f := Xi6 n) (fun v => (0 ≤ v.1 ∧ v.1 ≤ 255) ∧ 0 ≤ v.2.1 ∧ v.2.1 ≤ n ∧ Xk9 ⟨v.2.2.1, v.2.2.2.1, v.2.2.2.2.1⟩ ∧ (v.2.2.2.2.2.length : Int) = v.2.1) (fun v => (n - v.2.1).toNat) (fun _ o => (o.1.length : Int) = n ∧ Xk9 ⟨o.2.1, o.2.2.1, o.2.2.2⟩) (by
  intro ⟨w, i, b, j, h, l⟩ ⟨hw, h1, h2, h3, h4⟩
  unfold Xi6
  simp only at hw h1 h2 h3 h4 ⊢
  by_cases hi : i < n
  ·
   rw [Xbp hi]
   obtain ⟨x, c', ex, x0, x1, _, hx⟩ := Xbb _ 6 h3
   rw [ex, Xab]
   simp only
   have step : ∃ w' c2, (sel (x == 0) (bnd (Xbv c') fun q16 => some (q16.1, q16.2.b_, q16.2.i_, q16.2.h_)) (sel (x == 1) (bnd (Xa4 c' 9) fun q17 => some ((IntKind.wrap .i64 (BitVec.ofInt (IntKind.bits .i64) (Xaa .i64 ((Xaa .i64 (w + q17.1)) + 252)) &&& BitVec.ofInt (IntKind.bits .i64) 255).toNat), q17.2.b_, q17.2.i_, q17.2.h_)) (some (w, c'.b_, c'.i_, c'.h_)))) = some (w', c2.b_, c2.i_, c2.h_) ∧ (0 ≤ w' ∧ w' ≤ 255) ∧ Xk9 c2 := by
    cases e0 : (x == 0) with
    | true =>
     obtain ⟨y, c2, ey, y0, y1, hy⟩ := Xc0 c' hx
     rw [Xav, ey, Xab]
     exact ⟨y, c2, rfl, ⟨y0, y1⟩, hy⟩
    | false =>
     rw [Xaq]
     cases e1 : (x == 1) with
     | true =>
      obtain ⟨y, c2, ey, y0, y1, _, hy⟩ := Xbb c' 9 hx
      rw [Xav, ey, Xab]
      exact ⟨_, c2, rfl, Xyz _, hy⟩
     | false => rw [Xaq]; exact ⟨w, c', rfl, hw, hx⟩
   obtain ⟨w', c2, es, hw', hc2⟩ := step
   rw [es, Xab, Xbe (by rw [hm]; simp only [List.length_singleton]; omega)]
   refine .inr ⟨_, rfl, ?_, ?_, fun _ h => h⟩
   ·
    simp only
    rw [wkA (e := i + 1)]
    exact ⟨hw', by omega, by omega, hc2, by simp; omega⟩
   ·
    simp only; rw [wkA (e := i + 1)]; omega
  ·
   rw [Xan hi]
   exact .inl ⟨_, rfl, by simp only; omega, h3⟩) (z, 0, c0.b_, c0.i_, c0.h_, []) ⟨⟨z0, z1⟩, by simp, h0, hz, by simp⟩
 rw [h, Xab]
 exact ⟨_, _, rfl, by rw [strOfNums_size]; exact h2, h3⟩
theorem Xyb (c : Xa7) (w h : Int) (hc : Xk9 c) (hw : 1 ≤ w ∧ w ≤ 256) (hh : 1 ≤ h ∧ h ≤ 256) : ∃ p c', Xi7 c w h = some (p, c') ∧ p.Wide = w ∧ p.High = h ∧ Xb5 p = true ∧ Xk9 c' := by
 have a := Xc1 hw hh
 unfold Xi7
 rw [wkA (e := w * h)]
 obtain ⟨s, c', e, hs, hc'⟩ := Ya4 c (w * h) hc (by omega) (by omega)
 rw [e, Xab]
 exact ⟨_, _, rfl, rfl, rfl, Xq6 hw hh hs, hc'⟩
theorem Xu2 (c : Xa7) (hc : Xk9 c) : ∃ p c', Xgk c = some (p, c') ∧ (p.Wide = 8 ∨ p.Wide = 16) ∧ (p.High = 8 ∨ p.High = 16) ∧ Xb5 p = true ∧ Xk9 c' := by
 unfold Xgk
 obtain ⟨x, c1, e1, x0, x1, _, h1⟩ := Xbb c 2 hc
 obtain ⟨y, c2, e2, y0, y1, _, h2⟩ := Xbb c1 2 h1
 have x1' := x1 (by omega)
 have y1' := y1 (by omega)
 rw [e1, Xab]
 simp only
 rw [e2, Xab]
 simp only
 rw [wkA (e := 8 * x), wkA (e := 8 + 8 * x), wkA (e := 8 * y), wkA (e := 8 + 8 * y)]
 obtain ⟨p, c3, e3, pw, ph, ok, h3⟩ := Xyb c2 (8 + 8 * x) (8 + 8 * y) h2 (by omega) (by omega)
 rw [e3, Xab]
 exact ⟨_, _, rfl, by simp only; omega, by simp only; omega, ok, h3⟩
theorem Yba (c : Xa7) (p : Pic) (hc : Xk9 c) (ok : Xb5 p = true) : ∃ q c', Xk5 c p = some (q, c') ∧ q.Wide = p.Wide ∧ q.High = p.High ∧ Xb5 q = true ∧ Xk9 c' := by
 have hm : maxLen = 9223372036854775807 := rfl
 obtain ⟨k1, k2, k3⟩ := Xat ok
 have ar := Xc1 k1 k2
 unfold Xk5
 obtain ⟨x, c1, e1, x0, x1, _, h1⟩ := Xbb c 7 hc
 obtain ⟨y, c2, e2, y0, y1, _, h2⟩ := Xbb c1 5 h1
 obtain ⟨z, c3, e3, h3⟩ := Xml c2 3 h2
 have x1' := x1 (by omega)
 have y1' := y1 (by omega)
 rw [e1, Xab]
 simp only
 rw [e2, Xab]
 simp only
 rw [e3, Xab]
 simp only
 rw [wkA (e := x - 3), wkA (e := y - 2)]
 have hv : ∃ a b : Int, (-10 ≤ a ∧ a ≤ 10) ∧ (-10 ≤ b ∧ b ≤ 10) ∧ sel z (some ((0 : Int), (0 : Int), c3.b_, c3.i_, c3.h_)) (some (x - 3, y - 2, c3.b_, c3.i_, c3.h_)) = some (a, b, c3.b_, c3.i_, c3.h_) := by
  cases z with
  | true => exact ⟨0, 0, by omega, by omega, rfl⟩
  | false => exact ⟨x - 3, y - 2, by omega, by omega, rfl⟩
 obtain ⟨a, b, ha, hb, hv⟩ := hv
 rw [hv, Xab]
 obtain ⟨o, h, ho⟩ := Xm4 (f := Xja p (a, b, c3.b_, c3.i_, c3.h_)) (fun v => 0 ≤ v.1 ∧ v.1 ≤ (p.Dots.size : Int) ∧ (v.2.length : Int) = v.1) (fun v => ((p.Dots.size : Int) - v.1).toNat) (fun _ o => (o.length : Int) = (p.Dots.size : Int)) (by
  intro ⟨i, l⟩ ⟨g1, g2, g3⟩
  unfold Xja
  simp only at g1 g2 g3 ⊢
  by_cases hi : i < (p.Dots.size : Int)
  ·
   rw [Xbp hi, rqA, rqA, Xgs ok, Xab, Xbe (by rw [hm]; simp only [List.length_singleton]; omega), wkA (e := i + 1)]
   exact .inr ⟨_, rfl, ⟨by simp only; omega, by simp only; omega, by simp; omega⟩, by simp only; omega, fun _ h => h⟩
  ·
   rw [Xan hi]
   exact .inl ⟨_, rfl, by omega⟩) (0, []) ⟨by simp, by simp, by simp⟩
 rw [h, Xab]
 obtain ⟨o2, h', g1, g2⟩ := Xm4 (f := Xjb) (fun v => 0 ≤ v.1 ∧ v.1 ≤ 6 ∧ Xk9 ⟨v.2.1, v.2.2.1, v.2.2.2.1⟩ ∧ (v.2.2.2.2.length : Int) = p.Dots.size) (fun v => (6 - v.1).toNat) (fun _ o => (o.1.length : Int) = p.Dots.size ∧ Xk9 ⟨o.2.1, o.2.2.1, o.2.2.2⟩) (by
  intro ⟨i, b, j, h, l⟩ ⟨g1, g2, g3, g4⟩
  unfold Xjb
  simp only at g1 g2 g3 g4 ⊢
  obtain ⟨x, c', ex, x0, x1, _, hx⟩ := Xbb _ 6 g3
  have x1' := x1 (by omega)
  rw [ex, Xab]
  simp only
  by_cases hi : i < x
  ·
   obtain ⟨y, c2, ey, y0, y1, _, hy⟩ := Xbb c' l.length hx
   have y1' := y1 (by omega)
   obtain ⟨z, c3, ez, z0, z1, hz⟩ := Xc0 c2 hy
   rw [Xbp hi, ey, Xab]
   simp only
   rw [ez, Xab]
   simp only
   rw [rqA, rqA, wkA (e := i + 1)]
   exact .inr ⟨_, rfl, ⟨by simp only; omega, by simp only; omega, hz, by simp only [List.length_set]; omega⟩, by simp only; omega, fun _ h => h⟩
  ·
   rw [Xan hi]
   exact .inl ⟨_, rfl, g4, hx⟩) (0, c3.b_, c3.i_, c3.h_, o) ⟨by simp, by simp, h3, by simp only; omega⟩
 rw [h', Xab]
 refine ⟨_, _, rfl, rfl, rfl, Xq6 k1 k2 ?_, g2⟩
 simp only
 rw [strOfNums_size]; omega
theorem Xx3 (b : List Int) (hb : b.length ≤ 1048576) : ∃ p q, Xiz b = some (p, q) ∧ (p.Wide = 8 ∨ p.Wide = 16) ∧ (p.High = 8 ∨ p.High = 16) ∧ Xb5 p = true ∧ q.Wide = p.Wide ∧ q.High = p.High ∧ Xb5 q = true := by
 unfold Xiz
 obtain ⟨c, e, hc⟩ := Xnn b hb
 obtain ⟨p, c1, e1, pw, ph, ok, h1⟩ := Xu2 c hc
 obtain ⟨q, c2, e2, qw, qh, ok2, _⟩ := Yba c1 p h1 ok
 rw [e, Xab, e1, Xab]
 simp only
 rw [e2, Xab]
 exact ⟨_, _, rfl, pw, ph, ok, qw, qh, ok2⟩
def Xcy (p : Pic) (x y : Int) : Bool := decide (0 ≤ x ∧ x ≤ p.Wide - 8 ∧ 0 ≤ y ∧ y ≤ p.High - 8)
theorem Xwl {p : Pic} (ok : Xb5 p = true) (x y : Int) : Xb7 p ⟨x, y, 8, 8⟩ = some (Xcy p x y) := by
 obtain ⟨k1, k2, k3⟩ := Xat ok
 unfold Xb7 Xcy
 simp only
 rw [Xak, Xab, Xak, Xab, wkA (e := p.Wide - 8), wkA (e := p.High - 8), Xak, Xab, Xak, Xab]
 simp only [Xgb, Xab]
 congr 1
 rw [Bool.eq_iff_iff]
 simp only [Bool.and_eq_true, decide_eq_true_eq]
 omega
theorem Xlf {p : Pic} (ok : Xb5 p = true) (x y : Int) (hx : x.tmod 8 = 0) (hy : y.tmod 8 = 0) (h : Xcy p x y = true) : Xbr p x y = some true := by
 obtain ⟨k1, k2, k3⟩ := Xat ok
 unfold Xcy at h
 rw [decide_eq_true_eq] at h
 unfold Xbr
 rw [rqA, hx, rqA, hy, wkA (e := p.Wide - 8), wkA (e := p.High - 8), Xak, Xab, Xak, Xab, decide_eq_true (by omega), decide_eq_true (by omega)]
 rfl
def Xkj (p : Pic) (w : List Int) (x y dx dy : Int) : Int := Xl3 w (Xmw p (x + dx) (y + dy) 64) 64 + Yku dx + Yku dy
def BmI (p : Pic) (w : List Int) (x y r : Int) (past : Bool) (b : Int × Int × Int) : Prop :=
 (b = (0, 0, -1) ∧ past = false) ∨
 ((-r ≤ b.1 ∧ b.1 ≤ r) ∧ (-r ≤ b.2.1 ∧ b.2.1 ≤ r) ∧ Xcy p (x + b.1) (y + b.2.1) = true ∧ b.2.2 = Xkj p w x y b.1 b.2.1 ∧ (past = true → b.2.2 ≤ Xkj p w x y 0 0))
theorem Xr1 {p : Pic} {w : List Int} (hw : Xbi w = true) (x y dx dy : Int) (hx : -100 ≤ dx ∧ dx ≤ 100) (hy : -100 ≤ dy ∧ dy ≤ 100) : 2 ≤ Xkj p w x y dx dy ∧ Xkj p w x y dx dy ≤ 20000 := by
 have g := Xhx hw (Xd3 p (x + dx) (y + dy)) 64 (by omega)
 have a := Xrb dx (by omega)
 have b := Xrb dy (by omega)
 unfold Xkj; omega
theorem Yo5 {p : Pic} {w : List Int} {x y r : Int} (ok : Xb5 p = true) (hw : Xbi w = true) (hr : 0 ≤ r ∧ r ≤ 4) (h0 : Xcy p x y = true) (s : Int × Int × Int × Int) (hs : -r ≤ s.2.2.2 ∧ s.2.2.2 ≤ r) (v : Int × Int × Int × Int) (hv : -r ≤ v.2.2.2 ∧ v.2.2.2 ≤ r)
  (past : Bool) (hi : BmI p w x y r past (v.1, v.2.1, v.2.2.1)) (hp : past = true ↔ (s.2.2.2 > 0 ∨ (s.2.2.2 = 0 ∧ v.2.2.2 > 0))) :
  ∃ b, Xci p w x y r s v = some (.go (b.1, b.2.1, b.2.2, v.2.2.2 + 1)) ∧ BmI p w x y r (decide (s.2.2.2 > 0 ∨ (s.2.2.2 = 0 ∧ v.2.2.2 + 1 > 0))) b := by
 obtain ⟨k1, k2, k3⟩ := Xat ok
 have h0' := h0
 unfold Xcy at h0'
 rw [decide_eq_true_eq] at h0'
 unfold Xci
 rw [Xbp hv.2, wkA (e := x + v.2.2.2), wkA (e := y + s.2.2.2), wkA (e := v.2.2.2 + 1), Xwl ok, Xab]
 cases hh : Xcy p (x + v.2.2.2) (y + s.2.2.2) with
 | false =>
  refine ⟨(v.1, v.2.1, v.2.2.1), rfl, ?_⟩
  have ne : ¬ (s.2.2.2 = 0 ∧ v.2.2.2 = 0) := by
   intro ⟨e1, e2⟩
   rw [e1, e2, Int.add_zero, Int.add_zero, h0] at hh
   cases hh
  rcases hi with ⟨h1, h2⟩ | ⟨h1, h2, h3, h4, h5⟩
  ·
   refine .inl ⟨h1, ?_⟩
   rw [decide_eq_false_iff_not]
   intro h
   have := hp.2 (by omega)
   rw [h2] at this; cases this
  ·
   refine .inr ⟨h1, h2, h3, h4, fun h => h5 (hp.2 ?_)⟩
   rw [decide_eq_true_eq] at h
   omega
 | true =>
  have hh' := hh
  unfold Xcy at hh'
  rw [decide_eq_true_eq] at hh'
  have hb := Xd3 p (x + v.2.2.2) (y + s.2.2.2)
  have g := Xhx hw hb 64 (by omega)
  have z1 := Xrb v.2.2.2 (by omega)
  have z2 := Xrb s.2.2.2 (by omega)
  rw [Bool.not_true, Xaq, Xfa ok _ _ (by omega) (by omega), Xab, Xoz hw hb, Xab, Xkc _ (by omega), Xab, Xkc _ (by omega), Xab, wkA (e := Xl3 w (Xmw p (x + v.2.2.2) (y + s.2.2.2) 64) 64 + Yku v.2.2.2), wkA, Yhc, Xab]
  have mc : Xl3 w (Xmw p (x + v.2.2.2) (y + s.2.2.2) 64) 64 + Yku v.2.2.2 + Yku s.2.2.2 = Xkj p w x y v.2.2.2 s.2.2.2 := rfl
  rw [mc]
  have m1 := Xr1 (p := p) (w := w) hw x y v.2.2.2 s.2.2.2 (by omega) (by omega)
  cases hc : (decide (v.2.2.1 < 0) || decide (Xkj p w x y v.2.2.2 s.2.2.2 < v.2.2.1)) with
  | true =>
   refine ⟨(v.2.2.2, s.2.2.2, Xkj p w x y v.2.2.2 s.2.2.2), rfl, .inr ⟨hv, hs, hh, rfl, fun h => ?_⟩⟩
   rw [decide_eq_true_eq] at h
   by_cases e0 : s.2.2.2 = 0 ∧ v.2.2.2 = 0
   ·
    rw [e0.1, e0.2]; exact Int.le_refl _
   ·
    have hpast := hp.2 (by omega)
    rcases hi with ⟨h1, h2⟩ | ⟨h1, h2, h3, h4, h5⟩
    ·
     rw [h2] at hpast; cases hpast
    ·
     have h5' := h5 hpast
     simp only at h4 h5' ⊢
     have n1 := Xr1 (p := p) (w := w) hw x y v.1 v.2.1 (by simp only at h1; omega) (by simp only at h2; omega)
     simp only [Bool.or_eq_true, decide_eq_true_eq] at hc
     omega
  | false =>
   refine ⟨(v.1, v.2.1, v.2.2.1), rfl, ?_⟩
   simp only [Bool.or_eq_false_iff, decide_eq_false_iff_not] at hc
   rcases hi with ⟨h1, h2⟩ | ⟨h1, h2, h3, h4, h5⟩
   ·
    simp only [Prod.mk.injEq] at h1
    omega
   ·
    refine .inr ⟨h1, h2, h3, h4, fun h => ?_⟩
    rw [decide_eq_true_eq] at h
    by_cases e0 : s.2.2.2 = 0 ∧ v.2.2.2 = 0
    ·
     have := hc.2
     rw [e0.1, e0.2] at this
     simp only; omega
    ·
     exact h5 (hp.2 (by omega))
theorem Xw2 {p : Pic} {w : List Int} {x y r : Int} (ok : Xb5 p = true) (hw : Xbi w = true) (hr : 0 ≤ r ∧ r ≤ 4) (hx : x.tmod 8 = 0) (hy : y.tmod 8 = 0) (h0 : Xcy p x y = true) :
  ∃ b, Xdb p w x y r = some b ∧ (-r ≤ b.1 ∧ b.1 ≤ r) ∧ (-r ≤ b.2.1 ∧ b.2.1 ≤ r) ∧ Xcy p (x + b.1) (y + b.2.1) = true ∧ b.2.2 = Xkj p w x y b.1 b.2.1 ∧ b.2.2 ≤ Xkj p w x y 0 0 := by
 have hwl := (Xa8 hw).1
 unfold Xdb
 rw [Xb9, Xab, ok, Xav, Xf2 w (by omega), Xab, hw, Xav, Xak, Xab, decide_eq_true (by omega), Xav, Xlf ok x y hx hy h0, Xab, Bool.not_true, Xab, Xaq, wkA (e := 0 - r)]
 obtain ⟨o, h, ho⟩ := Xm4 (f := Xen p w x y r) (fun s => -r ≤ s.2.2.2 ∧ s.2.2.2 ≤ r + 1 ∧ BmI p w x y r (decide (s.2.2.2 > 0)) (s.1, s.2.1, s.2.2.1)) (fun s => (r + 1 - s.2.2.2).toNat) (fun _ b => BmI p w x y r true b) (by
  intro s ⟨g1, g2, g3⟩
  unfold Xen
  by_cases hi : s.2.2.2 ≤ r
  ·
   rw [Xbp hi, wkA (e := s.2.2.2 + 1), wkA (e := 0 - r)]
   obtain ⟨o, h, ho⟩ := Xm4 (f := Xci p w x y r s) (fun v => -r ≤ v.2.2.2 ∧ v.2.2.2 ≤ r + 1 ∧ BmI p w x y r (decide (s.2.2.2 > 0 ∨ (s.2.2.2 = 0 ∧ v.2.2.2 > 0))) (v.1, v.2.1, v.2.2.1)) (fun v => (r + 1 - v.2.2.2).toNat) (fun _ b => BmI p w x y r (decide (s.2.2.2 + 1 > 0)) b) (by
    intro v ⟨f1, f2, f3⟩
    by_cases hv : v.2.2.2 ≤ r
    ·
     obtain ⟨b, e, hb⟩ := Yo5 ok hw hr h0 s ⟨g1, hi⟩ v ⟨f1, hv⟩ _ f3 (by rw [decide_eq_true_eq])
     exact .inr ⟨_, e, ⟨by simp only; omega, by simp only; omega, hb⟩, by simp only; omega, fun _ h => h⟩
    ·
     refine .inl ⟨(v.1, v.2.1, v.2.2.1), ?_, ?_⟩
     ·
      unfold Xci; rw [Xan hv]
     ·
      have : decide (s.2.2.2 > 0 ∨ (s.2.2.2 = 0 ∧ v.2.2.2 > 0)) = decide (s.2.2.2 + 1 > 0) := by
       rw [decide_eq_decide]; omega
      rw [this] at f3
      exact f3) (s.1, s.2.1, s.2.2.1, 0 - r) ⟨by simp only; omega, by simp only; omega, by
    have : decide (s.2.2.2 > 0 ∨ (s.2.2.2 = 0 ∧ 0 - r > 0)) = decide (s.2.2.2 > 0) := by rw [decide_eq_decide]; omega
    simp only
    rw [this]; exact g3⟩
   rw [h, Xab]
   exact .inr ⟨_, rfl, ⟨by simp only; omega, by simp only; omega, ho⟩, by simp only; omega, fun _ h => h⟩
  ·
   rw [Xan hi]
   refine .inl ⟨_, rfl, ?_⟩
   rw [decide_eq_true (by omega)] at g3
   exact g3) (0, 0, -1, 0 - r) ⟨by simp only; omega, by simp only; omega, .inl ⟨rfl, by simp only [decide_eq_false_iff_not]; omega⟩⟩
 rw [h, Xab]
 rcases ho with ⟨_, h2⟩ | ⟨h1, h2, h3, h4, h5⟩
 ·
  cases h2
 ·
  exact ⟨_, rfl, h1, h2, h3, h4, h5 rfl⟩
theorem Xwe (s : ByteArray) : strOfNums (Xaz s) = s := by
 apply ByteArray.ext
 apply Array.ext'
 simp only [strOfNums, Xaz, List.map_map]
 conv => rhs; rw [← List.map_id s.data.toList]
 refine List.map_congr_left fun c _ => ?_
 simp
def inB (B : Int) (l : List Int) : Prop := ∀ x ∈ l, -B ≤ x ∧ x ≤ B
theorem Xkg {B C : Int} {l : List Int} (h : inB B l) (hc : B ≤ C) : inB C l := fun x hx => by have := h x hx; omega
theorem Xjy {B : Int} {a b : List Int} (ha : inB B a) (hb : inB B b) : inB B (a ++ b) := fun x hx => (List.mem_append.1 hx).elim (ha x) (hb x)
theorem Xsv (B : Int) : inB B [] := fun x hx => by simp at hx
theorem Yem {B x : Int} (h : -B ≤ x ∧ x ≤ B) : inB B [x] := fun y hy => by rw [List.mem_singleton.1 hy]; exact h
theorem Yh2 {B : Int} {l : List Int} (h : inB B l) (i : Nat) {y : Int} (hy : -B ≤ y ∧ y ≤ B) : inB B (l.set i y) := fun x hx => by
 rcases List.mem_or_eq_of_mem_set hx with hx | hx
 ·
  exact h x hx
 ·
  rw [hx]; exact hy
theorem Yh1 (n : Nat) {B : Int} (h : 0 ≤ B) : inB B (List.replicate n 0) := fun x hx => by rw [List.eq_of_mem_replicate hx]; omega
theorem Xf8 {B : Int} {l : List Int} (h : inB B l) {i : Nat} (hi : i < l.length) : -B ≤ l.getD i 0 ∧ l.getD i 0 ≤ B := h _ (by rw [Xc2 l i hi]; exact List.getElem_mem _)
theorem Yi4 {B : Int} {l : List Int} (h : inB B l) (n : Nat) : inB B (l.take n) := fun x hx => h x (List.mem_of_mem_take hx)
theorem Yi2 {B : Int} {l : List Int} (h : inB B l) (n : Nat) : inB B (l.drop n) := fun x hx => h x (List.mem_of_mem_drop hx)
theorem Xdd {S : Type} {f : Int × S → Option (Lp (Int × S) S)} (n : Nat) (I : Nat → S → Prop) (hs : ∀ (i : Nat) (l : S), i < n → I i l → ∃ l', f ((i : Int), l) = some (.go (((i + 1 : Nat) : Int), l')) ∧ I (i + 1) l') (he : ∀ l, f ((n : Int), l) = some (.done l)) (l0 : S) (h0 : I 0 l0) : ∃ o, loop f (0, l0) = some o ∧ I n o := by
 have key : ∀ i : Nat, i ≤ n → ∀ l, I i l → ∃ o, loop f ((i : Int), l) = some o ∧ I n o := by
  refine Xg0 _ ?_ ?_
  ·
   intro l h; exact ⟨l, Xib (he l), h⟩
  ·
   intro i hi ih l h
   obtain ⟨l', e, h'⟩ := hs i l hi h
   obtain ⟨o, e2, h2⟩ := ih l' h'
   exact ⟨o, lgo e e2, h2⟩
 exact key 0 (by omega) l0 h0
theorem Xmv {S : Type} {f : S × Int → Option (Lp (S × Int) S)} (n : Nat) (I : Nat → S → Prop) (hs : ∀ (i : Nat) (l : S), i < n → I i l → ∃ l', f (l, (i : Int)) = some (.go (l', ((i + 1 : Nat) : Int))) ∧ I (i + 1) l') (he : ∀ l, f (l, (n : Int)) = some (.done l)) (l0 : S) (h0 : I 0 l0) : ∃ o, loop f (l0, 0) = some o ∧ I n o := by
 have key : ∀ i : Nat, i ≤ n → ∀ l, I i l → ∃ o, loop f (l, (i : Int)) = some o ∧ I n o := by
  refine Xg0 _ ?_ ?_
  ·
   intro l h; exact ⟨l, Xib (he l), h⟩
  ·
   intro i hi ih l h
   obtain ⟨l', e, h'⟩ := hs i l hi h
   obtain ⟨o, e2, h2⟩ := ih l' h'
   exact ⟨o, lgo e e2, h2⟩
 exact key 0 (by omega) l0 h0
theorem Xdn (l : List Int) (i j : Nat) (y : Int) (hi : i < l.length) : (l.set i y).getD j 0 = if i = j then y else l.getD j 0 := by
 rw [List.getD_eq_getElem?_getD, List.getElem?_set, List.getD_eq_getElem?_getD]
 by_cases h : i = j
 ·
  subst h; rw [if_pos rfl, if_pos rfl, if_pos hi]; rfl
 ·
  rw [if_neg h, if_neg h]
theorem Xki {f : Int × List Int → Option (Lp (Int × List Int) (List Int))} (n : Nat) (P Q : Int → Prop) (hs : ∀ (i : Nat) (l : List Int), i < n → l.length = n → P (l.getD i 0) → ∃ y, f ((i : Int), l) = some (.go (((i + 1 : Nat) : Int), l.set i y)) ∧ Q y) (he : ∀ l, f ((n : Int), l) = some (.done l)) (l0 : List Int) (h0 : l0.length = n) (hb : ∀ x ∈ l0, P x) : ∃ o, loop f (0, l0) = some o ∧ o.length = n ∧ ∀ x ∈ o, Q x := by
 obtain ⟨o, e, h1, h2, _⟩ := Xdd (f := f) n (fun i l => l.length = n ∧ (∀ j, j < i → Q (l.getD j 0)) ∧ ∀ j, i ≤ j → j < n → P (l.getD j 0)) (by
  intro i l hi ⟨g1, g2, g3⟩
  obtain ⟨y, e, hy⟩ := hs i l hi g1 (g3 i (Nat.le_refl _) hi)
  refine ⟨_, e, by rw [List.length_set]; exact g1, fun j hj => ?_, fun j hj hj2 => ?_⟩
  ·
   rw [Xdn l i j y (by omega)]
   by_cases h : i = j
   ·
    rw [if_pos h]; exact hy
   ·
    rw [if_neg h]; exact g2 j (by omega)
  ·
   rw [Xdn l i j y (by omega), if_neg (by omega)]; exact g3 j (by omega) hj2) he l0 ⟨h0, fun j hj => by omega, fun j _ hj => hb _ (by rw [Xc2 l0 j (by omega)]; exact List.getElem_mem _)⟩
 refine ⟨o, e, h1, fun x hx => ?_⟩
 obtain ⟨j, hj, rfl⟩ := List.getElem_of_mem hx
 have := h2 j (by omega)
 rwa [Xc2 o j hj] at this
theorem Xbc (l : List Int) (n B : Int) (hn : (l.length : Int) = n) (hn2 : n ≤ 1000000) (hB : 0 ≤ B ∧ B ≤ 100000000) (h : inB B l) : Xb2 l n B = some true := by
 unfold Xb2
 rw [Xb6 (by simp only [bne_eq_false_iff_eq]; exact hn), Xqn l.length (f := Xei l n B) (by
  intro i hi
  have := Xf8 h hi
  unfold Xei
  rw [syA, rqA, wkA (e := 0 - B), Xai, Xab, Int.toNat_natCast, decide_eq_true (by omega), Bool.not_true, Xaq, wkA]
  rfl) (by unfold Xei; rw [snA]), Xab]
def Xut (n i : Int) (v17 : Int × Int) : Option (Lp (Int × Int) (Ou Unit Int)) :=
 sel (decide (v17.2 ≤ (Xaa .i64 ((Xaa .i64 (2 * n)) - 2)))) (
 bnd (it (Xqq n i v17) 20 (v17.1, 0)) fun o47 => match o47 with
 | .out v43 => (
 some (.go (v43, Xaa .i64 (v17.2 + 1))))
 | .ret r => some (.done (.ret r))) (
 some (.done (.out ())))
theorem Yg9 {n i : Int} {v : Int × Int} {x : Lp (Int × Int) (Ou Unit Int)} (h : Xut n i v = some x) : Xmi n i v = some x := by
 unfold Xut at h
 unfold Xmi
 rcases Xhn h with ⟨hb, h⟩ | ⟨hb, h⟩
 ·
  rw [hb, Xav]
  obtain ⟨a, h1, h2⟩ := Xbj h
  rw [Xg1.2 ⟨20, h1⟩, Xab]
  exact h2
 ·
  rw [hb, Xaq]; exact h
theorem Yni {V O : Type} {f g : V → Option (Lp V O)} (hf : ∀ v y, f v = some y → g v = some y) {o : O} : ∀ (k : Nat) (v : V), it f k v = some o → it g k v = some o
 | 0, v, h => by cases h
 | k + 1, v, h => by
  rw [it] at h ⊢
  cases e : f v with
  | none => rw [e] at h; cases h
  | some s =>
   rw [e] at h
   rw [hf v s e]
   cases s with
   | go y => exact Yni hf k y h
   | done o' => exact h
def Xb4 (n i : Int) : Int := match it (Xut n i) 20 (0, 0) with | some (.ret q) => q | _ => -1
theorem Ynx : ∀ i : Fin 16, (0 ≤ Xb4 4 (i.val : Int) ∧ Xb4 4 (i.val : Int) < 16) := by decide +kernel
theorem Yny : ∀ i : Fin 64, (0 ≤ Xb4 8 (i.val : Int) ∧ Xb4 8 (i.val : Int) < 64) := by decide +kernel
theorem Xea (n : Int) (hn : n = 4 ∨ n = 8) (i : Nat) (hi : (i : Int) < n * n) : 0 ≤ Xb4 n i ∧ Xb4 n i < n * n := by
 rcases hn with rfl | rfl
 ·
  exact Ynx ⟨i, by omega⟩
 ·
  exact Yny ⟨i, by omega⟩
theorem Xdh (n : Int) (hn : n = 4 ∨ n = 8) (i : Nat) (hi : (i : Int) < n * n) : Xpd n i = some (Xb4 n i) := by
 have hp := Xea n hn i hi
 unfold Xpd
 have hw : Xaa .i64 (n * n) = n * n := by rcases hn with rfl | rfl <;> exact wkA
 have hc : (sel (n != 4) (sel (n != 8) (some true) (sel (decide ((i : Int) < 0)) (some true) (some (decide ((i : Int) ≥ (Xaa .i64 (n * n))))))) (sel (decide ((i : Int) < 0)) (some true) (some (decide ((i : Int) ≥ (Xaa .i64 (n * n))))))) = some false := by
  rw [hw, Xan (show ¬ (i : Int) < 0 by omega), decide_eq_false (show ¬ (i : Int) ≥ n * n by omega)]
  rcases hn with rfl | rfl <;> rfl
 rw [hc, Xab, Xaq]
 unfold Xb4 at hp ⊢
 cases e : it (Xut n i) 20 (0, 0) with
 | none => rw [e] at hp; simp only at hp; omega
 | some s =>
  rw [e] at hp
  have h := Yni (fun v y => Yg9 (n := n) (i := i)) 20 _ e
  rw [Xg1.2 ⟨20, h⟩, Xab]
  cases s with
  | out u => simp only at hp; omega
  | ret q => rfl
theorem Xmj (n : Int) (hn : n = 4 ∨ n = 8) (l : List Int) (B : Int) (hl : (l.length : Int) = n * n) (hb : inB B l) : ∃ o, Xec n l = some (o, true) ∧ o.length = l.length ∧ inB B o := by
 have hm : maxLen = 9223372036854775807 := rfl
 have hw : Xaa .i64 (n * n) = n * n := by rcases hn with rfl | rfl <;> exact wkA
 have hl2 : l.length ≤ 64 := by rcases hn with rfl | rfl <;> omega
 unfold Xec
 have hc : (sel (n != 4) (sel (n != 8) (some true) (some ((l.length : Int) != (Xaa .i64 (n * n))))) (some ((l.length : Int) != (Xaa .i64 (n * n))))) = some false := by
  rw [hw, hl, bne_self_eq_false]
  rcases hn with rfl | rfl <;> rfl
 rw [hc, Xab, Xaq]
 obtain ⟨o, e, h1, h2⟩ := Xdd (f := Xbz n l) l.length (fun i s => s.length = i ∧ inB B s) (by
  intro i s hi ⟨g1, g2⟩
  have hp := Xea n hn i (by omega)
  have ha := Xf8 hb (i := (Xb4 n i).toNat) (by omega)
  unfold Xbz
  simp only
  rw [hw, syA, Xdh n hn i (by omega), Xab, rqA, Xbe (by simp only [List.length_singleton]; omega), wkA]
  exact ⟨_, rfl, by simp; omega, Xjy g2 (Yem ha)⟩) (by intro s; unfold Xbz; simp only; rw [hw, snA]) [] ⟨rfl, Xsv B⟩
 exact ⟨o, (Xgz e).trans rfl, h1, h2⟩
theorem Xey (n : Int) (hn : n = 4 ∨ n = 8) (l : List Int) (B : Int) (hB : 0 ≤ B) (hl : (l.length : Int) = n * n) (hb : inB B l) : ∃ o, Xcu n l = some (o, true) ∧ o.length = l.length ∧ inB B o := by
 have hm : maxLen = 9223372036854775807 := rfl
 have hw : Xaa .i64 (n * n) = n * n := by rcases hn with rfl | rfl <;> exact wkA
 have hl2 : l.length ≤ 64 := by rcases hn with rfl | rfl <;> omega
 unfold Xcu
 have hc : (sel (n != 4) (sel (n != 8) (some true) (some ((l.length : Int) != (Xaa .i64 (n * n))))) (some ((l.length : Int) != (Xaa .i64 (n * n))))) = some false := by
  rw [hw, hl, bne_self_eq_false]
  rcases hn with rfl | rfl <;> rfl
 rw [hc, Xab, Xaq, rqA, Int.toNat_natCast]
 obtain ⟨o, e, h1, h2⟩ := Xdd (f := Xbl n l) l.length (fun i s => s.length = l.length ∧ inB B s) (by
  intro i s hi ⟨g1, g2⟩
  have hp := Xea n hn i (by omega)
  have ha := Xf8 hb hi
  unfold Xbl
  simp only
  rw [hw, syA, Xdh n hn i (by omega), Xab, rqA, rqA, rqA, wkA, Int.toNat_natCast]
  exact ⟨_, rfl, by rw [List.length_set]; exact g1, Yh2 g2 _ ha⟩) (by intro s; unfold Xbl; simp only; rw [hw, snA]) (List.replicate l.length 0) ⟨List.length_replicate, Yh1 _ hB⟩
 exact ⟨o, (Xgz e).trans rfl, h1, h2⟩
def Xa3 (u v : Int) : Int := match it Xkm 10 (1, (IntKind.wrap .i64 (BitVec.ofInt (IntKind.bits .i64) u &&& BitVec.ofInt (IntKind.bits .i64) v).toNat)) with | some q => q | none => 7
theorem Yau : ∀ u v : Fin 8, (-1 ≤ Xa3 (u.val : Int) (v.val : Int) ∧ Xa3 (u.val : Int) (v.val : Int) ≤ 1) := by decide +kernel
theorem Xsa (u v : Nat) (hu : u < 8) (hv : v < 8) : ∃ s, Xj7 u v = some s ∧ -1 ≤ s ∧ s ≤ 1 := by
 have h := Yau ⟨u, hu⟩ ⟨v, hv⟩
 simp only at h
 unfold Xj7
 rw [Xai, Xab, decide_eq_true (by omega), Xav, Xai, Xab, decide_eq_true (by omega), Bool.not_true, Xab, Xaq]
 unfold Xa3 at h
 cases e : it Xkm 10 (1, (IntKind.wrap .i64 (BitVec.ofInt (IntKind.bits .i64) (u : Int) &&& BitVec.ofInt (IntKind.bits .i64) (v : Int)).toNat)) with
 | none => rw [e] at h; simp only at h; omega
 | some q =>
  rw [e] at h
  rw [Xg1.2 ⟨10, e⟩, Xab]
  exact ⟨q, rfl, h⟩
def Xpi (qp : Int) : Int := if qp.tmod 6 = 0 then 10 else if qp.tmod 6 = 1 then 11 else if qp.tmod 6 = 2 then 13 else if qp.tmod 6 = 3 then 14 else if qp.tmod 6 = 4 then 16 else 18
def Xmp (qp : Int) : Int := match it (Xko qp) 10 (Xpi qp, 0) with | some q => q | none => 0
theorem Yml : ∀ q : Fin 41, (10 ≤ Xmp (q.val : Int) ∧ Xmp (q.val : Int) ≤ 1152) := by decide +kernel
theorem Xhf (qp : Int) (h0 : 0 ≤ qp ∧ qp ≤ 40) : ∃ s, Xc6 qp = some s ∧ 10 ≤ s ∧ s ≤ 1152 := by
 have h := Yml ⟨qp.toNat, by omega⟩
 simp only at h
 rw [show ((qp.toNat : Nat) : Int) = qp by omega] at h
 unfold Xc6
 rw [Xai, Xab, decide_eq_true (by omega), Bool.not_true, Xaq, rqA]
 have hb : (sel ((qp.tmod 6) == 0) (some (10 : Int)) (sel ((qp.tmod 6) == 1) (some 11) (sel ((qp.tmod 6) == 2) (some 13) (sel ((qp.tmod 6) == 3) (some 14) (sel ((qp.tmod 6) == 4) (some 16) (some 18)))))) = some (Xpi qp) := by
  unfold Xpi
  simp only [Ye8, beq_iff_eq]
  repeat' split
  all_goals rfl
 rw [hb, Xab]
 unfold Xmp at h
 cases e : it (Xko qp) 10 (Xpi qp, 0) with
 | none => rw [e] at h; simp only at h; omega
 | some q =>
  rw [e] at h
  rw [Xg1.2 ⟨10, e⟩, Xab]
  exact ⟨q, rfl, h⟩
theorem Xnl (p : Int) (h : 0 ≤ p ∧ p ≤ 15) : ∃ k, Xmh p = some k ∧ 0 ≤ k ∧ k ≤ 2 := by
 unfold Xmh
 rw [Xai, Xab, decide_eq_true h, Bool.not_true, Xaq, rqA, rqA, rqA, rqA, Xgb, Xab]
 cases ((Xaa .i64 (p.tdiv 4)).tmod 2 == 0 && (p.tmod 4).tmod 2 == 0) with
 | true => exact ⟨0, rfl, by omega, by omega⟩
 | false =>
  rw [Xaq, Xgb, Xab]
  cases ((Xaa .i64 (p.tdiv 4)).tmod 2 == 1 && (p.tmod 4).tmod 2 == 1) with
  | true => exact ⟨1, rfl, by omega, by omega⟩
  | false => exact ⟨2, rfl, by omega, by omega⟩
theorem Xay (k a b c : Int) : ∃ x, Xa2 k a b c = some x ∧ (x = a ∨ x = b ∨ x = c) := by
 unfold Xa2
 cases (k == 0) with
 | true => exact ⟨a, rfl, Or.inl rfl⟩
 | false =>
  cases (k == 1) with
  | true => exact ⟨b, rfl, Or.inr (Or.inl rfl)⟩
  | false => exact ⟨c, rfl, Or.inr (Or.inr rfl)⟩
theorem Yki (qp : Int) (h0 : 0 ≤ qp ∧ qp ≤ 40) (x : Int) (hx : 0 ≤ x ∧ x ≤ 29) : ∃ o, loop (Xex qp) (x, 0) = some o ∧ 0 ≤ o ∧ o ≤ 1856 := by
 obtain ⟨o, e, h1, h2⟩ := Xmv (f := Xex qp) (qp / 6).toNat (fun i s => 0 ≤ s ∧ s ≤ 29 * 2 ^ i) (by
  intro i s hi ⟨g1, g2⟩
  have h6 : (2 : Int) ^ i ≤ 64 := by
   have : i ≤ 6 := by omega
   obtain rfl | rfl | rfl | rfl | rfl | rfl | rfl : i = 0 ∨ i = 1 ∨ i = 2 ∨ i = 3 ∨ i = 4 ∨ i = 5 ∨ i = 6 := by omega
   all_goals decide
  have h7 : (2 : Int) ^ (i + 1) = 2 * 2 ^ i := by rw [Int.pow_succ, Int.mul_comm]
  unfold Xex
  simp only
  rw [rqA, Xbk (by omega), wkA (e := qp / 6), syA, wkA (e := 2 * s), wkA (e := (i : Int) + 1)]
  exact ⟨_, rfl, by omega, by rw [h7]; omega⟩) (by intro s; unfold Xex; simp only; rw [rqA, Xbk (by omega), wkA (e := qp / 6), snA]) x ⟨hx.1, by simp; omega⟩
 have h6 : (2 : Int) ^ (qp / 6).toNat ≤ 64 := by
  generalize hi : (qp / 6).toNat = i
  obtain rfl | rfl | rfl | rfl | rfl | rfl | rfl : i = 0 ∨ i = 1 ∨ i = 2 ∨ i = 3 ∨ i = 4 ∨ i = 5 ∨ i = 6 := by omega
  all_goals decide
 exact ⟨o, e, h1, by omega⟩
theorem Yay (qp p : Int) (h0 : 0 ≤ qp ∧ qp ≤ 40) (hp : 0 ≤ p ∧ p ≤ 15) : ∃ s, Xk0 qp p = some s ∧ 0 ≤ s ∧ s ≤ 1856 := by
 unfold Xk0
 obtain ⟨k, e, k0, k1⟩ := Xnl p hp
 rw [e, Xab, Xai, Xab, decide_eq_true h0, Xav, decide_eq_false (by omega), Xab, Xaq, rqA]
 obtain ⟨a1, e1, b1⟩ := Xay k 10 16 13
 obtain ⟨a2, e2, b2⟩ := Xay k 11 18 14
 obtain ⟨a3, e3, b3⟩ := Xay k 13 20 16
 obtain ⟨a4, e4, b4⟩ := Xay k 14 23 18
 obtain ⟨a5, e5, b5⟩ := Xay k 16 25 20
 obtain ⟨a6, e6, b6⟩ := Xay k 18 29 23
 rw [e1, e2, e3, e4, e5, e6]
 simp only [Xab, Yjn]
 obtain ⟨o, eo, o1, o2⟩ := Yki qp h0 (sel (qp.tmod 6 == 0) a1 (sel (qp.tmod 6 == 1) a2 (sel (qp.tmod 6 == 2) a3 (sel (qp.tmod 6 == 3) a4 (sel (qp.tmod 6 == 4) a5 (sel (qp.tmod 6 == 5) a6 0)))))) (by
  simp only [Ye8]
  repeat' split
  all_goals omega)
 exact ⟨o, (Xgz eo).trans rfl, o1, o2⟩
theorem Yaz (qp p : Int) (h0 : 0 ≤ qp ∧ qp ≤ 40) (hp : 0 ≤ p ∧ p ≤ 15) : ∃ s, Xk1 qp p = some s ∧ 0 ≤ s ∧ s ≤ 13107 := by
 unfold Xk1
 obtain ⟨k, e, k0, k1⟩ := Xnl p hp
 rw [e, Xab, Xai, Xab, decide_eq_true h0, Xav, decide_eq_false (by omega), Xab, Xaq, rqA]
 obtain ⟨a1, e1, b1⟩ := Xay k 13107 5243 8066
 obtain ⟨a2, e2, b2⟩ := Xay k 11916 4660 7490
 obtain ⟨a3, e3, b3⟩ := Xay k 10082 4194 6554
 obtain ⟨a4, e4, b4⟩ := Xay k 9362 3647 5825
 obtain ⟨a5, e5, b5⟩ := Xay k 8192 3355 5243
 obtain ⟨a6, e6, b6⟩ := Xay k 7282 2893 4559
 rw [e1, e2, e3, e4, e5, e6]
 simp only [Xab, Yjn]
 refine ⟨_, rfl, ?_⟩
 simp only [Ye8]
 repeat' split
 all_goals omega
theorem Xup {a s B : Int} (ha : -B ≤ a ∧ a ≤ B) (hs : -1 ≤ s ∧ s ≤ 1) : (-B ≤ a * s ∧ a * s ≤ B) ∧ (-B ≤ s * a ∧ s * a ≤ B) := by
 obtain rfl | rfl | rfl : s = -1 ∨ s = 0 ∨ s = 1 := by omega
 all_goals omega
theorem Yct (p : List Int) (B : Int) (hB : 0 ≤ B ∧ B ≤ 1000000000000) (hl : p.length = 64) (hb : inB B p) (i v : Nat) (hi : i < 8) (hv : v < 8) : ∃ o, Xmm p i v = some o ∧ -(8 * B) ≤ o ∧ o ≤ 8 * B := by
 unfold Xmm
 obtain ⟨o, e, h1, h2⟩ := Xmv (f := Xej p i v) 8 (fun k s => -(B * k) ≤ s ∧ s ≤ B * k) (by
  intro k s hk ⟨g1, g2⟩
  obtain ⟨q, eq, q0, q1⟩ := Xsa v k hv hk
  have ha := Xf8 hb (i := 8 * i + k) (by omega)
  have hm := (Xup ha ⟨q0, q1⟩).1
  have hk8 : B * k ≤ B * 8 := Int.mul_le_mul_of_nonneg_left (by omega) hB.1
  have hk0 : B * ((k + 1 : Nat) : Int) = B * k + B := by rw [Int.natCast_add, Int.mul_add]; simp
  unfold Xej
  simp only
  rw [syA, wkA (e := 8 * (i : Int)), wkA (e := 8 * (i : Int) + (k : Int)), rqA, eq, Xab, show (8 * (i : Int) + (k : Int)).toNat = 8 * i + k by omega, wkA (e := p.getD (8 * i + k) 0 * q), wkA (e := s + p.getD (8 * i + k) 0 * q), wkA (e := (k : Int) + 1)]
  exact ⟨_, rfl, by rw [hk0]; omega, by rw [hk0]; omega⟩) (by intro s; unfold Xej; rw [Xan (by simp)]) 0 (by simp)
 exact ⟨o, (Xgz e).trans rfl, by omega, by omega⟩
theorem Xi5 (p : List Int) (B : Int) (hB : 0 ≤ B ∧ B ≤ 10000000000) (hl : p.length = 64) (hb : inB B p) : ∃ o, Xh9 p = some o ∧ o.length = 64 ∧ inB (64 * B) o := by
 have hm : maxLen = 9223372036854775807 := rfl
 unfold Xh9
 obtain ⟨h, eh, hh1, hh2⟩ := Xdd (f := Xc8 p) 8 (fun i s => s.length = 8 * i ∧ inB (8 * B) s) (by
  intro i s hi ⟨g1, g2⟩
  obtain ⟨t, et, t1, t2⟩ := Xdd (f := Xc9 p ((i : Int), s)) 8 (fun v s => s.length = 8 * i + v ∧ inB (8 * B) s) (by
   intro v s hv ⟨g1, g2⟩
   obtain ⟨r, er, r1, r2⟩ := Yct p B ⟨hB.1, by omega⟩ hl hb i v hi hv
   unfold Xc9
   simp only
   rw [syA, er, Xab, Xbe (by simp only [List.length_singleton]; omega), wkA (e := (v : Int) + 1)]
   exact ⟨_, rfl, by simp; omega, Xjy g2 (Yem ⟨by omega, r2⟩)⟩) (by intro s; unfold Xc9; rw [Xan (by simp)]) s ⟨by omega, g2⟩
  unfold Xc8
  simp only
  rw [syA, et, Xab, wkA (e := (i : Int) + 1)]
  exact ⟨_, rfl, by omega, t2⟩) (by intro s; unfold Xc8; rw [Xan (by simp)]) [] ⟨rfl, Xsv _⟩
 rw [eh, Xab]
 obtain ⟨o, eo, o1, o2⟩ := Xdd (f := Xcp h) 8 (fun i s => s.length = 8 * i ∧ inB (64 * B) s) (by
  intro i s hi ⟨g1, g2⟩
  obtain ⟨t, et, t1, t2⟩ := Xdd (f := Xcq h ((i : Int), s)) 8 (fun v s => s.length = 8 * i + v ∧ inB (64 * B) s) (by
   intro v r hv ⟨g1, g2⟩
   obtain ⟨a, ea, a1, a2⟩ := Xmv (f := Xcr h ((i : Int), s) ((v : Int), r)) 8 (fun k s => -(8 * B * k) ≤ s ∧ s ≤ 8 * B * k) (by
    intro k c hk ⟨g1, g2⟩
    obtain ⟨q, eq, q0, q1⟩ := Xsa i k hi hk
    have ha := Xf8 hh2 (i := 8 * k + v) (by omega)
    have hm := (Xup ha ⟨q0, q1⟩).2
    have hk8 : 8 * B * k ≤ 8 * B * 8 := Int.mul_le_mul_of_nonneg_left (by omega) (by omega)
    have hk0 : 8 * B * ((k + 1 : Nat) : Int) = 8 * B * k + 8 * B := by rw [Int.natCast_add, Int.mul_add]; simp
    unfold Xcr
    simp only
    rw [syA, eq, Xab, wkA (e := 8 * (k : Int)), wkA (e := 8 * (k : Int) + (v : Int)), rqA, rqA, show (8 * (k : Int) + (v : Int)).toNat = 8 * k + v by omega, wkA (e := q * h.getD (8 * k + v) 0), wkA (e := c + q * h.getD (8 * k + v) 0), wkA (e := (k : Int) + 1)]
    exact ⟨_, rfl, by rw [hk0]; omega, by rw [hk0]; omega⟩) (by intro s; unfold Xcr; rw [Xan (by simp)]) 0 (by simp)
   unfold Xcq
   simp only
   rw [syA, ea, Xab, Xbe (by simp only [List.length_singleton]; omega), wkA (e := (v : Int) + 1)]
   exact ⟨_, rfl, by simp; omega, Xjy g2 (Yem ⟨by omega, by omega⟩)⟩) (by intro s; unfold Xcq; rw [Xan (by simp)]) s ⟨by omega, g2⟩
  unfold Xcp
  simp only
  rw [syA, et, Xab, wkA (e := (i : Int) + 1)]
  exact ⟨_, rfl, by omega, t2⟩) (by intro s; unfold Xcp; rw [Xan (by simp)]) [] ⟨rfl, Xsv _⟩
 exact ⟨o, (Xgz eo).trans rfl, by omega, o2⟩
theorem Xgj (a b : Int) (ha : -1000000000000 ≤ a ∧ a ≤ 1000000000000) (hb : b = 2 ∨ b = 64) : ∃ d, Xdi a b = some d ∧ b * d ≤ a ∧ a < b * d + b := by
 unfold Xdi
 have h1 : b * (a.tdiv b) + a.tmod b = a := Int.mul_tdiv_add_tmod a b
 have h2 : -b < a.tmod b ∧ a.tmod b < b := by
  have hb0 : 0 < b := by omega
  refine ⟨?_, Int.tmod_lt_of_pos a hb0⟩
  have := Int.lt_tmod_of_pos a hb0
  omega
 rw [rqA, rqA]
 generalize a.tmod b = m at h1 h2
 generalize a.tdiv b = t at h1 h2
 have ht : -1000000000001 ≤ t ∧ t ≤ 1000000000001 := by rcases hb with rfl | rfl <;> omega
 by_cases h : m < 0
 ·
  rw [Xbp h, Xab, wkA (e := t), wkA (e := t - 1)]
  refine ⟨_, rfl, ?_⟩
  rcases hb with rfl | rfl <;> omega
 ·
  rw [Xan h, Xab, wkA (e := t)]
  refine ⟨_, rfl, ?_⟩
  rcases hb with rfl | rfl <;> omega
theorem Xuz (p : List Int) (hl : p.length = 64) (hb : inB 255 p) : ∃ o, Xj6 p = some o ∧ o.length = 64 := by
 unfold Xj6
 obtain ⟨o, e, h1, h2⟩ := Xi5 p 255 (by omega) hl hb
 rw [Xbc p 64 1000 (by omega) (by omega) (by omega) (Xkg hb (by omega)), Xab, Bool.not_true, Xaq, e, Xab]
 exact ⟨o, rfl, h1⟩
theorem Xv7 (p : List Int) (hl : p.length = 64) (hb : inB 5760000 p) : ∃ o, Xeg p = some o ∧ o.length = 64 ∧ inB 10000000 o := by
 unfold Xeg
 obtain ⟨o, e, h1, h2⟩ := Xi5 p 5760000 (by omega) hl hb
 rw [Xbc p 64 10000000 (by omega) (by omega) (by omega) (Xkg hb (by omega)), Xab, Bool.not_true, Xaq, e, Xab]
 obtain ⟨r, er, r1, r2⟩ := Xki (f := Xcn) 64 (fun x => -368640000 ≤ x ∧ x ≤ 368640000) (fun x => -10000000 ≤ x ∧ x ≤ 10000000) (by
  intro i l hi hll hx
  obtain ⟨d, ed, d1, d2⟩ := Xgj (l.getD i 0 + 32) 64 (by omega) (Or.inr rfl)
  unfold Xcn
  simp only [Int.toNat_natCast]
  rw [syA, rqA, rqA, wkA (e := l.getD i 0 + 32), ed, Xab, rqA, rqA, wkA (e := (i : Int) + 1)]
  exact ⟨d, rfl, by omega, by omega⟩) (by intro s; unfold Xcn; rw [Xan (by simp)]) o h1 (fun x hx => by have := h2 x hx; omega)
 exact ⟨r, (Xgz er).trans rfl, r1, r2⟩
theorem Xi4 (p : List Int) (B : Int) (hB : 0 ≤ B) (hl : p.length = 16) (hb : inB B p) : ∃ o, Xe5 p = some o ∧ o.length = 16 ∧ inB B o := by
 unfold Xe5
 rw [rqA]
 obtain ⟨o, e, h1, h2⟩ := Xdd (f := Xdu p) 16 (fun i s => s.length = 16 ∧ inB B s) (by
  intro i s hi ⟨g1, g2⟩
  have ha := Xf8 hb (i := i) (by omega)
  unfold Xdu
  simp only
  rw [syA, rqA, rqA, rqA, Xcg (by omega), Xbk (by omega), wkA (e := (i : Int) / 4), wkA (e := (i : Int) % 4 * 4), wkA (e := (i : Int) % 4 * 4 + (i : Int) / 4), rqA, rqA, wkA (e := (i : Int) + 1), Int.toNat_natCast]
  exact ⟨_, rfl, by rw [List.length_set]; exact g1, Yh2 g2 _ ha⟩) (by intro s; unfold Xdu; rw [Xan (by simp)]) (List.replicate (16 : Int).toNat 0) ⟨by simp, Yh1 _ hB⟩
 exact ⟨o, (Xgz e).trans rfl, h1, h2⟩
theorem Yi3 {B a b c d : Int} (h1 : -B ≤ a ∧ a ≤ B) (h2 : -B ≤ b ∧ b ≤ B) (h3 : -B ≤ c ∧ c ≤ B) (h4 : -B ≤ d ∧ d ≤ B) : inB B [a, b, c, d] := fun x hx => by
 simp only [List.mem_cons, List.not_mem_nil, or_false] at hx
 rcases hx with rfl | rfl | rfl | rfl
 ·
  exact h1
 ·
  exact h2
 ·
  exact h3
 ·
  exact h4
theorem Xqt (p : List Int) (B : Int) (hB : 0 ≤ B ∧ B ≤ 1000000000) (hl : p.length = 16) (hb : inB B p) : ∃ o, Xh8 p = some o ∧ o.length = 16 ∧ inB (6 * B) o := by
 have hm : maxLen = 9223372036854775807 := rfl
 unfold Xh8
 obtain ⟨o, e, h1, h2⟩ := Xdd (f := Xdv p) 4 (fun i s => s.length = 4 * i ∧ inB (6 * B) s) (by
  intro i s hi ⟨g1, g2⟩
  have a0 := Xf8 hb (i := 4 * i) (by omega)
  have a1 := Xf8 hb (i := 4 * i + 1) (by omega)
  have a2 := Xf8 hb (i := 4 * i + 2) (by omega)
  have a3 := Xf8 hb (i := 4 * i + 3) (by omega)
  unfold Xdv
  simp only
  rw [syA, wkA (e := 4 * (i : Int)), wkA (e := 4 * (i : Int) + 1), wkA (e := 4 * (i : Int) + 2), wkA (e := 4 * (i : Int) + 3), rqA, rqA, rqA, rqA, show (4 * (i : Int)).toNat = 4 * i by omega, show (4 * (i : Int) + 1).toNat = 4 * i + 1 by omega, show (4 * (i : Int) + 2).toNat = 4 * i + 2 by omega, show (4 * (i : Int) + 3).toNat = 4 * i + 3 by omega]
  generalize p.getD (4 * i) 0 = a at *
  generalize p.getD (4 * i + 1) 0 = b at *
  generalize p.getD (4 * i + 2) 0 = c at *
  generalize p.getD (4 * i + 3) 0 = d at *
  rw [wkA (e := (i : Int) + 1)]
  have w1 : Xaa .i64 (Xaa .i64 (Xaa .i64 (a + b) + c) + d) = a + b + c + d := by
   rw [wkA (e := a + b), wkA (e := a + b + c), wkA]
  have w2 : Xaa .i64 (Xaa .i64 (Xaa .i64 (Xaa .i64 (2 * a) + b) - c) - Xaa .i64 (2 * d)) = 2 * a + b - c - 2 * d := by
   rw [wkA (e := 2 * a), wkA (e := 2 * d), wkA (e := 2 * a + b), wkA (e := 2 * a + b - c), wkA]
  have w3 : Xaa .i64 (Xaa .i64 (Xaa .i64 (a - b) - c) + d) = a - b - c + d := by
   rw [wkA (e := a - b), wkA (e := a - b - c), wkA]
  have w4 : Xaa .i64 (Xaa .i64 (Xaa .i64 (a - Xaa .i64 (2 * b)) + Xaa .i64 (2 * c)) - d) = a - 2 * b + 2 * c - d := by
   rw [wkA (e := 2 * b), wkA (e := 2 * c), wkA (e := a - 2 * b), wkA (e := a - 2 * b + 2 * c), wkA]
  rw [w1, w2, w3, w4, Xbe (by simp only [List.length_cons, List.length_nil]; omega)]
  exact ⟨_, rfl, by simp; omega, Xjy g2 (Yi3 (by omega) (by omega) (by omega) (by omega))⟩) (by intro s; unfold Xdv; rw [Xan (by simp)]) [] ⟨rfl, Xsv _⟩
 exact ⟨o, (Xgz e).trans rfl, h1, h2⟩
theorem Xp0 (p : List Int) (B : Int) (hB : 0 ≤ B ∧ B ≤ 1000000000) (hl : p.length = 16) (hb : inB B p) : ∃ o, Xgt p = some o ∧ o.length = 16 ∧ inB (4 * B + 2) o := by
 have hm : maxLen = 9223372036854775807 := rfl
 unfold Xgt
 obtain ⟨o, e, h1, h2⟩ := Xdd (f := Xc7 p) 4 (fun i s => s.length = 4 * i ∧ inB (4 * B + 2) s) (by
  intro i s hi ⟨g1, g2⟩
  have a0 := Xf8 hb (i := 4 * i) (by omega)
  have a1 := Xf8 hb (i := 4 * i + 1) (by omega)
  have a2 := Xf8 hb (i := 4 * i + 2) (by omega)
  have a3 := Xf8 hb (i := 4 * i + 3) (by omega)
  obtain ⟨f, ef, f1, f2⟩ := Xgj (p.getD (4 * i + 1) 0) 2 (by omega) (Or.inl rfl)
  obtain ⟨g, eg, g1', g2'⟩ := Xgj (p.getD (4 * i + 3) 0) 2 (by omega) (Or.inl rfl)
  unfold Xc7
  simp only
  rw [syA, wkA (e := 4 * (i : Int)), wkA (e := 4 * (i : Int) + 1), wkA (e := 4 * (i : Int) + 2), wkA (e := 4 * (i : Int) + 3), rqA, rqA, rqA, rqA, show (4 * (i : Int)).toNat = 4 * i by omega, show (4 * (i : Int) + 1).toNat = 4 * i + 1 by omega, show (4 * (i : Int) + 2).toNat = 4 * i + 2 by omega, show (4 * (i : Int) + 3).toNat = 4 * i + 3 by omega, ef, Xab, eg, Xab]
  generalize p.getD (4 * i) 0 = a at *
  generalize p.getD (4 * i + 1) 0 = b at *
  generalize p.getD (4 * i + 2) 0 = c at *
  generalize p.getD (4 * i + 3) 0 = d at *
  rw [wkA (e := (i : Int) + 1), wkA (e := a + c), wkA (e := a - c), wkA (e := b + g), wkA (e := f - d), wkA (e := a + c + (b + g)), wkA (e := a - c + (f - d)), wkA (e := a - c - (f - d)), wkA (e := a + c - (b + g)), Xbe (by simp only [List.length_cons, List.length_nil]; omega)]
  exact ⟨_, rfl, by simp; omega, Xjy g2 (Yi3 (by omega) (by omega) (by omega) (by omega))⟩) (by intro s; unfold Xc7; rw [Xan (by simp)]) [] ⟨rfl, Xsv _⟩
 exact ⟨o, (Xgz e).trans rfl, h1, h2⟩
theorem Xwx (p : List Int) (hl : p.length = 16) (hb : inB 255 p) : ∃ o, Xqp p = some o ∧ o.length = 16 ∧ inB 9180 o := by
 unfold Xqp
 obtain ⟨a, ea, a1, a2⟩ := Xqt p 255 (by omega) hl hb
 obtain ⟨b, eb, b1, b2⟩ := Xi4 a (6 * 255) (by omega) a1 a2
 obtain ⟨c, ec, c1, c2⟩ := Xqt b (6 * 255) (by omega) b1 b2
 obtain ⟨d, ed, d1, d2⟩ := Xi4 c (6 * (6 * 255)) (by omega) c1 c2
 rw [Xbc p 16 1000 (by omega) (by omega) (by omega) (Xkg hb (by omega)), Xab, Bool.not_true, Xaq, ea, Xab, eb, Xab, ec, Xab, ed, Xab]
 exact ⟨d, rfl, d1, d2⟩
theorem Xpw (p : List Int) (hl : p.length = 16) (hb : inB 10000000 p) : ∃ o, Xi0 p = some o ∧ o.length = 16 ∧ inB 10000000 o := by
 unfold Xi0
 obtain ⟨a, ea, a1, a2⟩ := Xp0 p 10000000 (by omega) hl hb
 obtain ⟨b, eb, b1, b2⟩ := Xi4 a _ (by omega) a1 a2
 obtain ⟨c, ec, c1, c2⟩ := Xp0 b _ (by omega) b1 b2
 obtain ⟨d, ed, d1, d2⟩ := Xi4 c _ (by omega) c1 c2
 rw [Xbc p 16 10000000 (by omega) (by omega) (by omega) hb, Xab, Bool.not_true, Xaq, ea, Xab, eb, Xab, ec, Xab, ed, Xab]
 obtain ⟨r, er, r1, r2⟩ := Xki (f := Xhp) 16 (fun x => -160000010 ≤ x ∧ x ≤ 160000010) (fun x => -10000000 ≤ x ∧ x ≤ 10000000) (by
  intro i l hi hll hx
  obtain ⟨d, ed, d1, d2⟩ := Xgj (l.getD i 0 + 32) 64 (by omega) (Or.inr rfl)
  unfold Xhp
  simp only [Int.toNat_natCast]
  rw [syA, rqA, rqA, wkA (e := l.getD i 0 + 32), ed, Xab, rqA, rqA, wkA (e := (i : Int) + 1)]
  exact ⟨d, rfl, by omega, by omega⟩) (by intro s; unfold Xhp; rw [Xan (by simp)]) d d1 (fun x hx => by have := d2 x hx; omega)
 exact ⟨r, (Xgz er).trans rfl, r1, r2⟩
theorem Xhq (x : Int) (h : -1000000000000 ≤ x ∧ x ≤ 1000000000000) : Xfe x = some (Xmr x) := by
 unfold Xfe Xmr
 by_cases hx : x < 0
 ·
  rw [Xbp hx, if_pos hx, wkA]; congr 1; omega
 ·
  rw [Xan hx, if_neg hx]
theorem Xog (w x B : Int) (h : 0 ≤ x ∧ x ≤ B) (hB : B ≤ 1000000000) : ∃ o, Xfq w x = some o ∧ -B ≤ o ∧ o ≤ B := by
 unfold Xfq
 by_cases hx : w < 0
 ·
  rw [Xbp hx, wkA]; exact ⟨_, rfl, by omega, by omega⟩
 ·
  rw [Xan hx]; exact ⟨_, rfl, by omega, by omega⟩
def Ynz (qp : Int) : Int := Xaa .i64 (1 * 2 ^ min (Xaa .u64 (Xaa .i64 (15 + (Xaa .i64 (qp.tdiv 6))))).toNat (IntKind.bits .i64))
theorem Yn0 : ∀ q : Fin 41, (0 ≤ Xaa .u64 (Xaa .i64 (15 + (Xaa .i64 ((q.val : Int).tdiv 6)))) ∧ 32768 ≤ Ynz (q.val : Int) ∧ Ynz (q.val : Int) ≤ 2097152) := by decide +kernel
theorem Xm9 (w qp p : Int) (hw : -9180 ≤ w ∧ w ≤ 9180) (h0 : 0 ≤ qp ∧ qp ≤ 40) (hp : 0 ≤ p ∧ p ≤ 15) : ∃ o, Xgh w qp p = some o ∧ -5000 ≤ o ∧ o ≤ 5000 := by
 have hs := Yn0 ⟨qp.toNat, by omega⟩
 simp only at hs
 rw [show ((qp.toNat : Nat) : Int) = qp by omega] at hs
 obtain ⟨s1, s2, s3⟩ := hs
 obtain ⟨s, es, q0, q1⟩ := Yaz qp p h0 hp
 unfold Xgh
 have en : Xaa .i64 (1 * 2 ^ min (Xaa .u64 (Xaa .i64 (15 + (Xaa .i64 (qp.tdiv 6))))).toNat (IntKind.bits .i64)) = Ynz qp := rfl
 rw [Xai, Xab, decide_eq_true (by omega), Xav, Xai, Xab, decide_eq_true h0, Xav, Xai, Xab, decide_eq_true hp, Bool.not_true, Xab, Xaq, rqA, Xbe s1, Xhq w (by omega), Xab, es, Xab, rqA, en]
 generalize Ynz qp = n at *
 have ha : 0 ≤ Xmr w ∧ Xmr w ≤ 9180 := by unfold Xmr; split <;> omega
 generalize Xmr w = a at *
 have hm : 0 ≤ a * s ∧ a * s ≤ 9180 * 13107 := ⟨Int.mul_nonneg ha.1 q0, Int.mul_le_mul ha.2 q1 q0 (by omega)⟩
 rw [rqA, wkA (e := a * s), Xbk (a := n) (by omega), wkA (e := n / 3), wkA (e := a * s + n / 3), Xbk (by omega)]
 have d0 : 0 ≤ (a * s + n / 3) / n := Int.ediv_nonneg (by omega) (by omega)
 have d1 : (a * s + n / 3) / n < 5000 := Int.ediv_lt_of_lt_mul (by omega) (by omega)
 rw [wkA]
 obtain ⟨o, eo, o1, o2⟩ := Xog w _ 5000 ⟨d0, by omega⟩ (by omega)
 rw [eo, Xab]
 exact ⟨o, rfl, o1, o2⟩
theorem Xm8 (w qp : Int) (h0 : 0 ≤ qp ∧ qp ≤ 40) : ∃ o, Xdt w qp = some o ∧ -5000 ≤ o ∧ o ≤ 5000 := by
 unfold Xdt
 rw [Xai, Xab]
 by_cases hw : -20000 ≤ w ∧ w ≤ 20000
 ·
  obtain ⟨s, es, q0, q1⟩ := Xhf qp h0
  rw [decide_eq_true hw, Xav, Xai, Xab, decide_eq_true h0, Bool.not_true, Xab, Xaq, es, Xab, Xhq w (by omega), Xab]
  have ha : 0 ≤ Xmr w ∧ Xmr w ≤ 20000 := by unfold Xmr; split <;> omega
  generalize Xmr w = a at *
  rw [rqA, rqA, Xbk (a := s) (by omega), wkA (e := s / 2), wkA (e := a + s / 2), Xbk (by omega)]
  have d0 : 0 ≤ (a + s / 2) / s := Int.ediv_nonneg (by omega) (by omega)
  have d1 : (a + s / 2) / s < 5000 := Int.ediv_lt_of_lt_mul (by omega) (by omega)
  rw [wkA]
  obtain ⟨o, eo, o1, o2⟩ := Xog w _ 5000 ⟨d0, by omega⟩ (by omega)
  rw [eo, Xab]
  exact ⟨o, rfl, o1, o2⟩
 ·
  rw [decide_eq_false hw, Xaq, Xab, Xav]
  exact ⟨0, rfl, by omega, by omega⟩
theorem Xoe (l qp p : Int) (hl : -5000 ≤ l ∧ l ≤ 5000) (h0 : 0 ≤ qp ∧ qp ≤ 40) (hp : 0 ≤ p ∧ p ≤ 15) : ∃ o, Xhe l qp p = some o ∧ -10000000 ≤ o ∧ o ≤ 10000000 := by
 unfold Xhe
 obtain ⟨s, es, q0, q1⟩ := Yay qp p h0 hp
 rw [Xai, Xab, decide_eq_true hl, Bool.not_true, Xaq, es, Xab]
 have m1 : l * s ≤ 5000 * s := Int.mul_le_mul_of_nonneg_right hl.2 q0
 have m2 : -5000 * s ≤ l * s := Int.mul_le_mul_of_nonneg_right hl.1 q0
 rw [wkA]
 exact ⟨_, rfl, by omega, by omega⟩
theorem Xod (l qp : Int) (hl : -5000 ≤ l ∧ l ≤ 5000) (h0 : 0 ≤ qp ∧ qp ≤ 40) : ∃ o, Xeh l qp = some o ∧ -5760000 ≤ o ∧ o ≤ 5760000 := by
 unfold Xeh
 obtain ⟨s, es, q0, q1⟩ := Xhf qp h0
 rw [Xai, Xab, decide_eq_true hl, Bool.not_true, Xaq, es, Xab]
 have m1 : l * s ≤ 5000 * s := Int.mul_le_mul_of_nonneg_right hl.2 (by omega)
 have m2 : -5000 * s ≤ l * s := Int.mul_le_mul_of_nonneg_right hl.1 (by omega)
 rw [wkA]
 exact ⟨_, rfl, by omega, by omega⟩
theorem Yh8 {l : List Int} (h1 : l.length = 64) (h2 : inB 5000 l) : Xwu l = true := by
 unfold Xwu
 rw [Bool.and_eq_true, decide_eq_true_eq, List.all_eq_true]
 exact ⟨h1, fun x hx => by unfold Yfp; rw [decide_eq_true_eq]; exact h2 x hx⟩
theorem Xsx {l : List Int} (h : Xwu l = true) : l.length = 64 ∧ inB 5000 l := by
 obtain ⟨h1, h2⟩ := Xlz h
 refine ⟨h1, fun x hx => ?_⟩
 have := List.all_eq_true.1 h2 x hx
 unfold Yfp at this
 rwa [decide_eq_true_eq] at this
theorem Xkr {c : Xdm} (h : Xe1 c = true) : 0 ≤ c.Qp ∧ c.Qp ≤ 40 := by
 unfold Xe1 at h
 rw [Bool.and_eq_true, decide_eq_true_eq] at h
 exact h.1
theorem Xnb (p : List Int) (k : Nat) (hk : k < 4) (B : Int) (hl : p.length = 64) (hb : inB B p) : ∃ o, Xgl p k = some o ∧ o.length = 16 ∧ inB B o := by
 have hm : maxLen = 9223372036854775807 := rfl
 unfold Xgl
 obtain ⟨o, e, h1, h2⟩ := Xdd (f := Xbw p k) 16 (fun i s => s.length = i ∧ inB B s) (by
  intro i s hi ⟨g1, g2⟩
  have ha := Xf8 hb (i := (8 * ((k : Int) / 2 * 4 + (i : Int) / 4) + (k : Int) % 2 * 4 + (i : Int) % 4).toNat) (by omega)
  unfold Xbw
  simp only
  rw [syA, rqA, rqA, rqA, rqA, Xbk (a := (k : Int)) (by omega), Xbk (a := (i : Int)) (by omega), Xcg (a := (k : Int)) (by omega), Xcg (a := (i : Int)) (by omega), wkA (e := (k : Int) / 2), wkA (e := (k : Int) / 2 * 4), wkA (e := (i : Int) / 4), wkA (e := (k : Int) / 2 * 4 + (i : Int) / 4), wkA (e := 8 * ((k : Int) / 2 * 4 + (i : Int) / 4)), wkA (e := (k : Int) % 2 * 4), wkA (e := 8 * ((k : Int) / 2 * 4 + (i : Int) / 4) + (k : Int) % 2 * 4), wkA (e := 8 * ((k : Int) / 2 * 4 + (i : Int) / 4) + (k : Int) % 2 * 4 + (i : Int) % 4), rqA, Xbe (by simp only [List.length_singleton]; omega), wkA (e := (i : Int) + 1)]
  exact ⟨_, rfl, by simp; omega, Xjy g2 (Yem ha)⟩) (by intro s; unfold Xbw; rw [Xan (by simp)]) [] ⟨rfl, Xsv _⟩
 exact ⟨o, (Xgz e).trans rfl, h1, h2⟩
theorem Xpx (p : List Int) (c : Xdm) (hc : Xe1 c = true) (hl : p.length = 64) (hb : inB 255 p) : ∃ o, Xbt p c = some (o, true) ∧ Xwu o = true := by
 have hm : maxLen = 9223372036854775807 := rfl
 have hq := Xkr hc
 unfold Xbt
 rw [Xby, Xab, hc, Xav, Xbc p 64 255 (by omega) (by omega) (by omega) hb, Xab, Bool.not_true, Xab, Xaq]
 cases hE : c.Exact with
 | true =>
  obtain ⟨o, e, h1, h2⟩ := Xmj 8 (Or.inr rfl) p 255 (by omega) hb
  rw [Xav, e, Xab]
  exact ⟨o, rfl, Yh8 (by omega) (Xkg h2 (by omega))⟩
 | false =>
  rw [Xaq]
  cases hL : c.Large with
  | true =>
   obtain ⟨w, ew, w1⟩ := Xuz p hl hb
   obtain ⟨l, el, l1, l2⟩ := Xki (f := Xa9 c) 64 (fun _ => True) (fun x => -5000 ≤ x ∧ x ≤ 5000) (by
    intro i l hi hll _
    obtain ⟨d, ed, d1, d2⟩ := Xm8 (l.getD i 0) c.Qp hq
    unfold Xa9
    simp only [Int.toNat_natCast]
    rw [syA, rqA, rqA, ed, Xab, rqA, rqA, wkA (e := (i : Int) + 1)]
    exact ⟨d, rfl, d1, d2⟩) (by intro s; unfold Xa9; rw [Xan (by simp)]) w w1 (fun _ _ => trivial)
   obtain ⟨o, e, h1, h2⟩ := Xmj 8 (Or.inr rfl) l 5000 (by omega) l2
   rw [Xav, ew, Xab, el, Xab, e, Xab]
   exact ⟨o, rfl, Yh8 (by omega) h2⟩
  | false =>
   obtain ⟨o, eo, o1, o2⟩ := Xdd (f := Xdl p c) 4 (fun k s => s.length = 16 * k ∧ inB 5000 s) (by
    intro k s hk ⟨g1, g2⟩
    obtain ⟨a, ea, a1, a2⟩ := Xnb p k hk 255 hl hb
    obtain ⟨b, eb, b1, b2⟩ := Xwx a a1 a2
    obtain ⟨l, el, l1, l2⟩ := Xki (f := Xbu c) 16 (fun x => -9180 ≤ x ∧ x ≤ 9180) (fun x => -5000 ≤ x ∧ x ≤ 5000) (by
     intro i l hi hll hx
     obtain ⟨d, ed, d1, d2⟩ := Xm9 (l.getD i 0) c.Qp i hx hq (by omega)
     unfold Xbu
     simp only [Int.toNat_natCast]
     rw [syA, rqA, rqA, ed, Xab, rqA, rqA, wkA (e := (i : Int) + 1)]
     exact ⟨d, rfl, d1, d2⟩) (by intro s; unfold Xbu; rw [Xan (by simp)]) b b1 b2
    obtain ⟨r, er, r1, r2⟩ := Xmj 4 (Or.inl rfl) l 5000 (by omega) l2
    unfold Xdl
    simp only
    rw [syA, ea, Xab, eb, Xab, el, Xab, er, Xab]
    simp only
    rw [rqA, wkA (e := (k : Int) + 1)]
    exact ⟨_, rfl, by rw [List.length_append]; omega, Xjy g2 r2⟩) (by intro s; unfold Xdl; rw [Xan (by simp)]) [] ⟨rfl, Xsv _⟩
   rw [Xaq, eo, Xab]
   exact ⟨o, rfl, Yh8 (by omega) o2⟩
theorem Xfu (p : List Int) (c : Xdm) (hc : Xe1 c = true) (hp : Xwu p = true) : ∃ o, Xbd p c = some (o, true) ∧ o.length = 64 ∧ inB 10000000 o := by
 have hm : maxLen = 9223372036854775807 := rfl
 have hq := Xkr hc
 obtain ⟨hl, hb⟩ := Xsx hp
 unfold Xbd
 rw [Xby, Xab, hc, Xav, Xbc p 64 5000 (by omega) (by omega) (by omega) hb, Xab, Bool.not_true, Xab, Xaq]
 cases hE : c.Exact with
 | true =>
  obtain ⟨o, e, h1, h2⟩ := Xey 8 (Or.inr rfl) p 5000 (by omega) (by omega) hb
  rw [Xav, e, Xab]
  exact ⟨o, rfl, by omega, Xkg h2 (by omega)⟩
 | false =>
  rw [Xaq]
  cases hL : c.Large with
  | true =>
   obtain ⟨w, ew, w1, w2⟩ := Xey 8 (Or.inr rfl) p 5000 (by omega) (by omega) hb
   obtain ⟨l, el, l1, l2⟩ := Xki (f := Xa0 c) 64 (fun x => -5000 ≤ x ∧ x ≤ 5000) (fun x => -5760000 ≤ x ∧ x ≤ 5760000) (by
    intro i l hi hll hx
    obtain ⟨d, ed, d1, d2⟩ := Xod (l.getD i 0) c.Qp hx hq
    unfold Xa0
    simp only [Int.toNat_natCast]
    rw [syA, rqA, rqA, ed, Xab, rqA, rqA, wkA (e := (i : Int) + 1)]
    exact ⟨d, rfl, d1, d2⟩) (by intro s; unfold Xa0; rw [Xan (by simp)]) w (by omega) w2
   obtain ⟨o, e, h1, h2⟩ := Xv7 l l1 l2
   rw [Xav, ew, Xab, el, Xab, e, Xab]
   exact ⟨o, rfl, h1, h2⟩
  | false =>
   obtain ⟨o, eo, o1, o2⟩ := Xdd (f := Xco p c) 4 (fun k s => s.length = 64 ∧ inB 10000000 s) (by
    intro k s hk ⟨g1, g2⟩
    have hcut : ((p.drop (16 * k)).take 16).length = 16 := by rw [List.length_take, List.length_drop]; omega
    obtain ⟨a, ea, a1, a2⟩ := Xey 4 (Or.inl rfl) ((p.drop (16 * k)).take 16) 5000 (by omega) (by omega) (Yi4 (Yi2 hb _) _)
    obtain ⟨l, el, l1, l2⟩ := Xki (f := Xa6 c) 16 (fun x => -5000 ≤ x ∧ x ≤ 5000) (fun x => -10000000 ≤ x ∧ x ≤ 10000000) (by
     intro i l hi hll hx
     obtain ⟨d, ed, d1, d2⟩ := Xoe (l.getD i 0) c.Qp i hx hq (by omega)
     unfold Xa6
     simp only [Int.toNat_natCast]
     rw [syA, rqA, rqA, ed, Xab, rqA, rqA, wkA (e := (i : Int) + 1)]
     exact ⟨d, rfl, d1, d2⟩) (by intro s; unfold Xa6; rw [Xan (by simp)]) a (by omega) a2
    obtain ⟨b, eb, b1, b2⟩ := Xpw l l1 l2
    obtain ⟨r, er, r1, r2⟩ := Xdd (f := Xbh ((k : Int), s) b) 16 (fun i s => s.length = 64 ∧ inB 10000000 s) (by
     intro i s hi ⟨g1, g2⟩
     have ha := Xf8 b2 (i := i) (by omega)
     unfold Xbh
     simp only
     rw [syA, rqA, rqA, rqA, rqA, rqA, rqA, Xbk (a := (k : Int)) (by omega), Xbk (a := (i : Int)) (by omega), Xcg (a := (k : Int)) (by omega), Xcg (a := (i : Int)) (by omega), wkA (e := (k : Int) / 2), wkA (e := (k : Int) / 2 * 4), wkA (e := (i : Int) / 4), wkA (e := (k : Int) / 2 * 4 + (i : Int) / 4), wkA (e := 8 * ((k : Int) / 2 * 4 + (i : Int) / 4)), wkA (e := (k : Int) % 2 * 4), wkA (e := 8 * ((k : Int) / 2 * 4 + (i : Int) / 4) + (k : Int) % 2 * 4), wkA (e := 8 * ((k : Int) / 2 * 4 + (i : Int) / 4) + (k : Int) % 2 * 4 + (i : Int) % 4), rqA, rqA, wkA (e := (i : Int) + 1), Int.toNat_natCast]
     exact ⟨_, rfl, by rw [List.length_set]; exact g1, Yh2 g2 _ ha⟩) (by intro s; unfold Xbh; rw [Xan (by simp)]) s ⟨g1, g2⟩
    unfold Xco
    simp only
    rw [syA, wkA (e := 16 * (k : Int)), wkA (e := 16 * (k : Int) + 16), rqA, show (16 * (k : Int)).toNat = 16 * k by omega, show (16 * (k : Int) + 16).toNat - 16 * k = 16 by omega, ea, Xab, el, Xab, eb, Xab, er, Xab, wkA (e := (k : Int) + 1)]
    exact ⟨_, rfl, r1, r2⟩) (by intro s; unfold Xco; rw [Xan (by simp)]) (List.replicate (64 : Int).toNat 0) ⟨by simp, Yh1 _ (by omega)⟩
   rw [Xaq, rqA, eo, Xab]
   exact ⟨o, rfl, o1, o2⟩
theorem Xd1 (l : List Int) (h : Xbi l = true) : Xe6 l = some true := by
 obtain ⟨h1, h2⟩ := Xa8 h
 unfold Xe6
 rw [Xb6 (by simp only [bne_eq_false_iff_eq]; omega), Xqn l.length (f := Xdw l) (by
  intro i hi
  have := h2 i (by omega)
  unfold Xdw
  rw [syA, rqA, Xai, Xab, Int.toNat_natCast, decide_eq_true this, Bool.not_true, Xaq, wkA]
  rfl) (by unfold Xdw; rw [snA]), Xab]
theorem Yf3 {l : List Int} (h1 : l.length = 64) (h2 : ∀ x ∈ l, 0 ≤ x ∧ x ≤ 255) : Xbi l = true := by
 unfold Xbi
 rw [Bool.and_eq_true, decide_eq_true_eq, List.all_eq_true]
 exact ⟨h1, fun x hx => by unfold Yhv; rw [decide_eq_true_eq]; exact h2 x hx⟩
theorem Xr6 (g b : List Int) (hg : Xbi g = true) (hl : b.length = 64) (hb : inB 10000000 b) : ∃ o, Xgg g b = some o ∧ Xbi o = true := by
 have hm : maxLen = 9223372036854775807 := rfl
 obtain ⟨g1, g2⟩ := Xa8 hg
 unfold Xgg
 rw [Xd1 g hg, Xab, Xav, Xbc b 64 10000000 (by omega) (by omega) (by omega) hb, Xab, Bool.not_true, Xab, Xaq]
 obtain ⟨o, e, h1, h2⟩ := Xdd (f := Xct g b) 64 (fun i s => s.length = i ∧ ∀ x ∈ s, 0 ≤ x ∧ x ≤ 255) (by
  intro i s hi ⟨k1, k2⟩
  have ha := Xf8 hb (i := i) (by omega)
  have hd := g2 i hi
  have br := Xlt (n := g.getD i 0 + b.getD i 0) (a := 0) (b := 255) (by omega)
  unfold Xct
  simp only [Int.toNat_natCast]
  rw [syA, rqA, rqA, wkA (e := g.getD i 0 + b.getD i 0), Xdr, Xab, Xbe (by simp only [List.length_singleton]; omega), wkA (e := (i : Int) + 1)]
  refine ⟨_, rfl, by simp; omega, fun x hx => ?_⟩
  rcases List.mem_append.1 hx with hx | hx
  ·
   exact k2 x hx
  ·
   rw [List.mem_singleton.1 hx]; exact br) (by intro s; unfold Xct; rw [Xan (by simp)]) [] ⟨rfl, fun x hx => by simp at hx⟩
 exact ⟨o, (Xgz e).trans rfl, Yf3 h1 h2⟩
def Xpl (e : Xg4) : Prop := (e.Above.length = 0 ∨ e.Above.length = 8) ∧ (e.Left.length = 0 ∨ e.Left.length = 8) ∧ (∀ x ∈ e.Above, 0 ≤ x ∧ x ≤ 255) ∧ (∀ x ∈ e.Left, 0 ≤ x ∧ x ≤ 255) ∧ -1 ≤ e.Corner ∧ e.Corner ≤ 255
theorem Xp1 {p : Pic} (ok : Xb5 p = true) (x y : Int) : Xkq p x y 8 8 = some (Xcy p x y) := by
 obtain ⟨k1, k2, k3⟩ := Xat ok
 unfold Xkq Xcy
 rw [Xfd, Xab, ok, Xav, Xai, Xab, Xai, Xab, wkA (e := p.Wide - 8), wkA (e := p.High - 8), Xai, Xab, Xai, Xab]
 simp only [Xgb, Xab]
 congr 1
 rw [Bool.eq_iff_iff]
 simp only [Bool.and_eq_true, decide_eq_true_eq]
 omega
theorem Xd2 {p : Pic} (ok : Xb5 p = true) {x y : Int} (hx : x.tmod 8 = 0) (hy : y.tmod 8 = 0) (h : Xcy p x y = true) : Xia p x y = some true := by
 unfold Xia
 rw [rqA, hx, rqA, hy, Xp1 ok, Xab, h]
 rfl
theorem Xmg {p : Pic} (ok : Xb5 p = true) {x y : Int} (hx : x.tmod 8 = 0) (hy : y.tmod 8 = 0) (h : Xcy p x y = true) : ∃ e, Xe4 p x y = some (e, true) ∧ Xpl e := by
 have hm : maxLen = 9223372036854775807 := rfl
 obtain ⟨k1, k2, k3⟩ := Xat ok
 have h' := h
 unfold Xcy at h'
 rw [decide_eq_true_eq] at h'
 unfold Xe4
 rw [Xd2 ok hx hy h, Xab, Bool.not_true, Xaq]
 obtain ⟨o, e, o1, o2, o3, o4, o5, o6⟩ := Xdd (f := Xew p x y) 8 (fun i s => (y > 0 → s.1.length = i) ∧ (¬ y > 0 → s.1.length = 0) ∧ (x > 0 → s.2.length = i) ∧ (¬ x > 0 → s.2.length = 0) ∧ (∀ z ∈ s.1, 0 ≤ z ∧ z ≤ 255) ∧ (∀ z ∈ s.2, 0 ≤ z ∧ z ≤ 255)) (by
  intro i s hi ⟨g1, g2, g3, g4, g5, g6⟩
  obtain ⟨a, b⟩ := s
  simp only at g1 g2 g3 g4 g5 g6
  have d1 := Xop p (x + i) (y - 1)
  have d2 := Xop p (x - 1) (y + i)
  have st1 : ∃ a', (sel (decide (y > 0)) (bnd (Xd0 p (Xaa .i64 (x + (i : Int))) (Xaa .i64 (y - 1))) fun q16 => req ((a.length + ([q16]).length) * 8 ≤ 140737488355328 ∧ a.length + ([q16]).length ≤ maxLen) <| some (a ++ ([q16]))) (some a)) = some a' ∧ (y > 0 → a'.length = i + 1) ∧ (¬ y > 0 → a'.length = 0) ∧ (∀ z ∈ a', 0 ≤ z ∧ z ≤ 255) := by
   by_cases c : y > 0
   ·
    rw [Xbp c, wkA (e := x + (i : Int)), wkA (e := y - 1), Xgs ok, Xab, Xbe (by simp only [List.length_singleton]; have := g1 c; omega)]
    refine ⟨_, rfl, fun _ => by simp; exact g1 c, fun hn => absurd c hn, fun z hz => ?_⟩
    rcases List.mem_append.1 hz with hz | hz
    ·
     exact g5 z hz
    ·
     rw [List.mem_singleton.1 hz]; exact d1
   ·
    rw [Xan c]
    exact ⟨_, rfl, fun hn => absurd hn c, fun _ => g2 c, g5⟩
  obtain ⟨a', ea, a1, a2, a3⟩ := st1
  have st2 : ∃ b', (sel (decide (x > 0)) (bnd (Xd0 p (Xaa .i64 (x - 1)) (Xaa .i64 (y + (i : Int)))) fun q17 => req ((b.length + ([q17]).length) * 8 ≤ 140737488355328 ∧ b.length + ([q17]).length ≤ maxLen) <| some (a', (b ++ ([q17])))) (some (a', b))) = some (a', b') ∧ (x > 0 → b'.length = i + 1) ∧ (¬ x > 0 → b'.length = 0) ∧ (∀ z ∈ b', 0 ≤ z ∧ z ≤ 255) := by
   by_cases c : x > 0
   ·
    rw [Xbp c, wkA (e := y + (i : Int)), wkA (e := x - 1), Xgs ok, Xab, Xbe (by simp only [List.length_singleton]; have := g3 c; omega)]
    refine ⟨_, rfl, fun _ => by simp; exact g3 c, fun hn => absurd c hn, fun z hz => ?_⟩
    rcases List.mem_append.1 hz with hz | hz
    ·
     exact g6 z hz
    ·
     rw [List.mem_singleton.1 hz]; exact d2
   ·
    rw [Xan c]
    exact ⟨_, rfl, fun hn => absurd hn c, fun _ => g4 c, g6⟩
  obtain ⟨b', eb, b1, b2, b3⟩ := st2
  unfold Xew
  simp only
  rw [syA, ea, Xab, eb, Xab, wkA (e := (i : Int) + 1)]
  exact ⟨(a', b'), rfl, a1, a2, b1, b2, a3, b3⟩) (by intro s; unfold Xew; rw [Xan (by simp)]) ([], []) ⟨fun _ => rfl, fun _ => rfl, fun _ => rfl, fun _ => rfl, fun z hz => by simp at hz, fun z hz => by simp at hz⟩
 rw [e, Xab, Xgb, Xab]
 have d3 := Xop p (x - 1) (y - 1)
 have ha : o.1.length = 0 ∨ o.1.length = 8 := by
  by_cases c : y > 0
  ·
   exact Or.inr (o1 c)
  ·
   exact Or.inl (o2 c)
 have hb : o.2.length = 0 ∨ o.2.length = 8 := by
  by_cases c : x > 0
  ·
   exact Or.inr (o3 c)
  ·
   exact Or.inl (o4 c)
 cases hc : (decide (x > 0) && decide (y > 0)) with
 | true =>
  rw [Xav, wkA (e := x - 1), wkA (e := y - 1), Xgs ok, Xab, Xab]
  exact ⟨_, rfl, ha, hb, o5, o6, by simp only; omega, by simp only; omega⟩
 | false =>
  rw [Xaq, Xab]
  exact ⟨_, rfl, ha, hb, o5, o6, by simp only; omega, by simp only; omega⟩
theorem Xp2 (l : List Int) (hl : l.length = 0 ∨ l.length = 8) (h : ∀ x ∈ l, 0 ≤ x ∧ x ≤ 255) : Xna l = some true := by
 unfold Xna
 have hc : (sel ((l.length : Int) != 0) (some ((l.length : Int) != 8)) (some false)) = some false := by
  rcases hl with e | e
  ·
   rw [e]; rfl
  ·
   rw [e]; rfl
 rw [hc, Xab, Xaq, Xqn l.length (f := Xi8 l) (by
  intro i hi
  have := h (l.getD i 0) (by rw [Xc2 l i hi]; exact List.getElem_mem _)
  unfold Xi8
  rw [syA, rqA, Xai, Xab, Int.toNat_natCast, decide_eq_true this, Bool.not_true, Xaq, wkA]
  rfl) (by unfold Xi8; rw [snA]), Xab]
theorem Xho {e : Xg4} (h : Xpl e) : Xm7 e = some true := by
 obtain ⟨h1, h2, h3, h4, h5, h6⟩ := h
 unfold Xm7
 rw [Xp2 _ h1 h3, Xab, Xav, Xp2 _ h2 h4, Xab, Xav, Xai, Xab, decide_eq_true ⟨h5, h6⟩, Xab]
theorem Xoh (l : List Int) (k : Nat) (hk : k < 8) (hl : l.length = 0 ∨ l.length = 8) (h : ∀ x ∈ l, 0 ≤ x ∧ x ≤ 255) : ∃ x, Xek l k = some x ∧ 0 ≤ x ∧ x ≤ 255 := by
 unfold Xek
 rcases hl with e | e
 ·
  rw [Xc5 (by rw [e]; rfl)]; exact ⟨_, rfl, by omega, by omega⟩
 ·
  rw [Xb6 (by rw [e]; rfl), rqA, Int.toNat_natCast]
  exact ⟨_, rfl, h _ (by rw [Xc2 l k (by omega)]; exact List.getElem_mem _)⟩
theorem Xsb {e : Xg4} (h : Xpl e) : ∃ x, Xmn e = some x ∧ 0 ≤ x ∧ x ≤ 255 := by
 obtain ⟨h1, h2, h3, h4, _, _⟩ := h
 unfold Xmn
 rw [wkA (e := (e.Above.length : Int) + (e.Left.length : Int))]
 by_cases hz : (e.Above.length : Int) + (e.Left.length : Int) = 0
 ·
  rw [Xc5 (by simpa using hz)]; exact ⟨_, rfl, by omega, by omega⟩
 ·
  rw [Xb6 (by simpa using hz), rqA, Xbk (by omega), wkA (e := ((e.Above.length : Int) + (e.Left.length : Int)) / 2)]
  obtain ⟨a, ea, a1, a2⟩ := Xmv (f := Xhg e) e.Above.length (fun i s => 0 ≤ s ∧ s ≤ ((e.Above.length : Int) + (e.Left.length : Int)) / 2 + 255 * i) (by
   intro i s hi ⟨g1, g2⟩
   have := h3 (e.Above.getD i 0) (by rw [Xc2 _ i hi]; exact List.getElem_mem _)
   unfold Xhg
   simp only [Int.toNat_natCast]
   rw [syA, rqA, wkA (e := s + e.Above.getD i 0), wkA (e := (i : Int) + 1)]
   exact ⟨_, rfl, by omega, by omega⟩) (by intro s; unfold Xhg; rw [Xan (by simp)]) (((e.Above.length : Int) + (e.Left.length : Int)) / 2) ⟨by omega, by omega⟩
  obtain ⟨b, eb, b1, b2⟩ := Xmv (f := Xhh e) e.Left.length (fun i s => 0 ≤ s ∧ s ≤ ((e.Above.length : Int) + (e.Left.length : Int)) / 2 + 255 * e.Above.length + 255 * i) (by
   intro i s hi ⟨g1, g2⟩
   have := h4 (e.Left.getD i 0) (by rw [Xc2 _ i hi]; exact List.getElem_mem _)
   unfold Xhh
   simp only [Int.toNat_natCast]
   rw [syA, rqA, wkA (e := s + e.Left.getD i 0), wkA (e := (i : Int) + 1)]
   exact ⟨_, rfl, by omega, by omega⟩) (by intro s; unfold Xhh; rw [Xan (by simp)]) a ⟨by omega, by omega⟩
  rw [ea, Xab, eb, Xab, Xbe hz, Xbk b1]
  have hn : (e.Above.length : Int) + (e.Left.length : Int) = 8 ∨ (e.Above.length : Int) + (e.Left.length : Int) = 16 := by omega
  have hr : 0 ≤ b / ((e.Above.length : Int) + (e.Left.length : Int)) ∧ b / ((e.Above.length : Int) + (e.Left.length : Int)) ≤ 255 := by
   rcases hn with hn | hn <;> rw [hn] <;> omega
  rw [wkA]
  exact ⟨_, rfl, hr⟩
theorem Xgf (m : Int) (hm0 : 0 ≤ m ∧ m ≤ 3) {e : Xg4} (h : Xpl e) : ∃ g, Xdg m e = some g ∧ Xbi g = true := by
 have hm : maxLen = 9223372036854775807 := rfl
 have h' := h
 obtain ⟨h1, h2, h3, h4, h5, h6⟩ := h'
 obtain ⟨mid, em, m1, m2⟩ := Xsb h
 unfold Xdg
 rw [Xho h, Xab, Xav, Xai, Xab, decide_eq_true hm0, Bool.not_true, Xab, Xaq]
 have hc : ∃ v, sel (decide (e.Corner < 0)) (some (128 : Int)) (some e.Corner) = some v ∧ 0 ≤ v ∧ v ≤ 255 := by
  by_cases c : e.Corner < 0
  ·
   rw [Xbp c]; exact ⟨_, rfl, by omega, by omega⟩
  ·
   rw [Xan c]; exact ⟨_, rfl, by omega, by omega⟩
 obtain ⟨v, ev, v1, v2⟩ := hc
 rw [ev, Xab]
 obtain ⟨o, eo, o1, o2⟩ := Xdd (f := Xds m e v) 64 (fun i s => s.length = i ∧ ∀ x ∈ s, 0 ≤ x ∧ x ≤ 255) (by
  intro i s hi ⟨g1, g2⟩
  obtain ⟨a, ea, a1, a2⟩ := Xoh e.Above (i % 8) (by omega) h1 h3
  obtain ⟨b, eb, b1, b2⟩ := Xoh e.Left (i / 8) (by omega) h2 h4
  have br := Xlt (n := b + a - v) (a := 0) (b := 255) (by omega)
  have put : ∀ z : Int, 0 ≤ z ∧ z ≤ 255 → (s ++ [z]).length = i + 1 ∧ ∀ x ∈ s ++ [z], 0 ≤ x ∧ x ≤ 255 := by
   intro z hz
   refine ⟨by simp; omega, fun x hx => ?_⟩
   rcases List.mem_append.1 hx with hx | hx
   ·
    exact g2 x hx
   ·
    rw [List.mem_singleton.1 hx]; exact hz
  unfold Xds
  simp only
  rw [syA, rqA, Xcg (by omega), show (i : Int) % 8 = ((i % 8 : Nat) : Int) by omega, ea, Xab, rqA, Xbk (by omega), wkA (e := (i : Int) / 8), show (i : Int) / 8 = ((i / 8 : Nat) : Int) by omega, eb, Xab, wkA (e := (i : Int) + 1), em]
  cases (m == 0) with
  | true =>
   rw [Xav, Xab, Xbe (by simp only [List.length_singleton]; omega), Xab]
   exact ⟨_, rfl, put _ ⟨m1, m2⟩⟩
  | false =>
   rw [Xaq]
   cases (m == 1) with
   | true =>
    rw [Xav, Xbe (by simp only [List.length_singleton]; omega), Xab]
    exact ⟨_, rfl, put _ ⟨a1, a2⟩⟩
   | false =>
    rw [Xaq]
    cases (m == 2) with
    | true =>
     rw [Xav, Xbe (by simp only [List.length_singleton]; omega), Xab]
     exact ⟨_, rfl, put _ ⟨b1, b2⟩⟩
    | false =>
     rw [Xaq, wkA (e := b + a), wkA (e := b + a - v), Xdr, Xab, Xbe (by simp only [List.length_singleton]; omega), Xab]
     exact ⟨_, rfl, put _ br⟩) (by intro s; unfold Xds; rw [Xan (by simp)]) [] ⟨rfl, fun x hx => by simp at hx⟩
 exact ⟨o, (Xgz eo).trans rfl, Yf3 o1 o2⟩
theorem Yi1 {l : List Int} (h : Xbi l = true) : l.length = 64 ∧ inB 1000 l := by
 simp only [Xbi, Bool.and_eq_true, decide_eq_true_eq] at h
 refine ⟨h.1, fun x hx => ?_⟩
 have := List.all_eq_true.1 h.2 x hx
 simp only [Yhv, decide_eq_true_eq] at this
 omega
theorem Xpc {a b : List Int} (ha : Xbi a = true) (hb : Xbi b = true) : Xrc a b = some (Xl3 a b 64) := by
 have la := Yi1 ha
 have lb := Yi1 hb
 unfold Xrc
 rw [Xbc a 64 1000 (by omega) (by omega) (by omega) la.2, Xab, Xav, Xbc b 64 1000 (by omega) (by omega) (by omega) lb.2, Xab, Bool.not_true, Xab, Xaq]
 have key : ∀ i : Nat, i ≤ 64 → loop (Xls a b) (Xl3 a b i, (i : Int)) = some (Xl3 a b 64) := by
  refine Xg0 _ ?_ ?_
  ·
   exact Xib (by unfold Xls; rw [Xan (by simp)])
  ·
   intro i hi ih
   refine lgo (y := (Xl3 a b (i + 1), ((i + 1 : Nat) : Int))) ?_ ih
   have p := (Xa8 ha).2 i hi
   have q := (Xa8 hb).2 i hi
   have g := Xhx ha hb i (by omega)
   have ab : 0 ≤ Xmr (a.getD i 0 - b.getD i 0) ∧ Xmr (a.getD i 0 - b.getD i 0) ≤ 255 := by unfold Xmr; split <;> omega
   unfold Xls
   simp only [Int.toNat_natCast]
   rw [syA, rqA, rqA, wkA (e := a.getD i 0 - b.getD i 0), Xhq _ (by omega), Xab, wkA (e := Xl3 a b i + Xmr (a.getD i 0 - b.getD i 0)), wkA (e := (i : Int) + 1)]
   rfl
 exact (Xgz (key 0 (by omega))).trans rfl
theorem Yco (m : Int) (h : 0 ≤ m ∧ m ≤ 3) : ∃ s, Xj8 m = some s ∧ 0 ≤ s ∧ s ≤ 39 := by
 have := Xlk m.toNat (by omega)
 unfold Xj8 Xv8
 rw [Xai, Xab, decide_eq_true (by omega), Bool.not_true, Xaq, show m = ((m.toNat : Nat) : Int) by omega, Xpg _ (by omega), Xab, Xab]
 refine ⟨_, rfl, ?_⟩
 rw [strOfNums_size]; omega
theorem Xv2 {w : List Int} (hw : Xbi w = true) {e : Xg4} (h : Xpl e) : ∃ m c, Xhd w e = some (m, c) ∧ 0 ≤ m ∧ m ≤ 3 := by
 unfold Xhd
 rw [Xho h, Xab, Xav, Xd1 w hw, Xab, Bool.not_true, Xab, Xaq]
 obtain ⟨o, eo, o1, o2⟩ := Xm4 (f := Xdk w e) (fun v => (0 ≤ v.1 ∧ v.1 ≤ 3) ∧ 0 ≤ v.2.2 ∧ v.2.2 ≤ 4) (fun v => (4 - v.2.2).toNat) (fun _ o => 0 ≤ o.1 ∧ o.1 ≤ 3) (by
  intro ⟨m, c, i⟩ ⟨g1, g2, g3⟩
  simp only at g1 g2 g3
  unfold Xdk
  simp only
  by_cases hi : i < 4
  ·
   obtain ⟨g, eg, hg⟩ := Xgf i ⟨g2, by omega⟩ h
   obtain ⟨s, es, s1, s2⟩ := Yco i ⟨g2, by omega⟩
   rw [Xbp hi, eg, Xab, Xpc hw hg, Xab, es, Xab, Yhc, Xab, wkA (e := i + 1)]
   cases (decide (c < 0) || decide (Xaa IntKind.i64 (Xl3 w g 64 + s) < c)) with
   | true => exact .inr ⟨_, rfl, ⟨by simp only; omega, by simp only; omega, by simp only; omega⟩, by simp only; omega, fun _ h => h⟩
   | false => exact .inr ⟨_, rfl, ⟨by simp only; omega, by simp only; omega, by simp only; omega⟩, by simp only; omega, fun _ h => h⟩
  ·
   rw [Xan hi]
   exact .inl ⟨_, rfl, g1⟩) (0, -1, 0) ⟨by simp, by simp, by simp⟩
 exact ⟨o.1, o.2, (Xgz eo).trans rfl, o1, o2⟩
theorem Xr8 (d : Int) (h : -500000 ≤ d ∧ d ≤ 500000) : Xpe d = some (Yku d) := by
 unfold Xpe Ydd Yku
 rw [Xai, Xab, decide_eq_true h, Bool.not_true, Xaq, Yff d h, Xab, Xab, strOfNums_size]
theorem Ykq {m : Int} {l : List Int} (hm : 0 ≤ m ∧ m ≤ 3) (hl : Xwu l = true) : Xqv ⟨2, m, 0, 0, l⟩ = true := by
 unfold Xqv
 simp only
 rw [if_neg (by omega), if_neg (by omega), if_pos trivial, hl, decide_eq_true hm]
 rfl
theorem Ymk {dx dy : Int} {l : List Int} (hx : -16 ≤ dx ∧ dx ≤ 16) (hy : -16 ≤ dy ∧ dy ≤ 16) (hl : Xwu l = true) : Xqv ⟨1, 0, dx, dy, l⟩ = true := by
 unfold Xqv
 simp only
 rw [if_neg (by omega), if_pos trivial, hl, decide_eq_true hx, decide_eq_true hy]
 rfl
def Ynl (p q : Pic) : Bool := Xb5 p && (Xb5 q && ((p.Wide == q.Wide) && (p.High == q.High)))
theorem Ya8 (p q : Pic) : Xnc p q = some (Ynl p q) := by
 unfold Xnc Ynl
 rw [Xfd, Xab, Xfd, Xab]
 simp only [Xgb, Xab]
theorem Ynm {p q : Pic} (h1 : Xb5 p = true) (h2 : Xb5 q = true) (h3 : q.Wide = p.Wide) (h4 : q.High = p.High) : Ynl p q = true := by
 unfold Ynl
 simp only [Bool.and_eq_true, beq_iff_eq]
 exact ⟨h1, h2, h3.symm, h4.symm⟩
theorem Xsc {p : Pic} {x y : Int} {d : List Int} (ok : Xb5 p = true) (h0 : Xcy p x y = true) (hd : Xbi d = true) : ∃ p', Xff p x y d = some p' ∧ Xb5 p' = true ∧ p'.Wide = p.Wide ∧ p'.High = p.High := by
 have hm : maxLen = 9223372036854775807 := rfl
 obtain ⟨k1, k2, k3⟩ := Xat ok
 have ar := Xc1 k1 k2
 unfold Xcy at h0
 rw [decide_eq_true_eq] at h0
 have hdl := (Xa8 hd).1
 have hn := Xbm p.Dots
 unfold Xff
 rw [rqA]
 obtain ⟨o, e, o1⟩ := Xdd (f := Xcv p x y d) 64 (fun _ s => s.length = p.Dots.size) (by
  intro i s hi g1
  have b1 : 0 ≤ (y + (i : Int) / 8) * p.Wide := Int.mul_nonneg (by omega) (by omega)
  have b2 : (y + (i : Int) / 8) * p.Wide ≤ (p.High - 1) * p.Wide := Int.mul_le_mul_of_nonneg_right (by omega) (by omega)
  have b3 : (p.High - 1) * p.Wide = p.Wide * p.High - p.Wide := by rw [Int.sub_mul, Int.one_mul, Int.mul_comm]
  unfold Xcv
  simp only
  rw [syA, rqA, rqA, rqA, Xbk (by omega), Xcg (by omega), wkA (e := (i : Int) / 8), wkA (e := y + (i : Int) / 8), wkA (e := (y + (i : Int) / 8) * p.Wide), wkA (e := (y + (i : Int) / 8) * p.Wide + x), wkA (e := (y + (i : Int) / 8) * p.Wide + x + (i : Int) % 8), rqA, rqA, wkA (e := (i : Int) + 1)]
  exact ⟨_, rfl, by rw [List.length_set]; exact g1⟩) (by intro s; unfold Xcv; rw [Xan (by simp)]) (Xaz p.Dots) hn
 refine ⟨_, (Xgz e).trans rfl, Xq6 k1 k2 ?_, rfl, rfl⟩
 simp only
 rw [strOfNums_size]; omega
def Xuw (n : Int) : Bool := decide (n.tmod 8 = 0) && decide (8 ≤ n ∧ n ≤ 64)
theorem Xs6 (c : Xa7) (hc : Xk9 c) : ∃ p c', Xfl c = some (p, c') ∧ Ypj p = true ∧ Xk9 c' := by
 unfold Xfl
 obtain ⟨x, c1, e1, x0, x1, _, h1⟩ := Xbb c 41 hc
 obtain ⟨b, c2, e2, h2⟩ := Xml c1 4 h1
 obtain ⟨y, c3, e3, y0, y1, _, h3⟩ := Xbb c2 3 h2
 have x1' := x1 (by omega)
 rw [e1, Xab]
 simp only
 rw [e2, Xab]
 simp only
 rw [e3, Xab]
 simp only
 have po : ∀ (l e f : Bool), (l && e) = false → Ypj ⟨x, l, e, f⟩ = true := by
  intro l e f h
  unfold Ypj
  rw [Bool.and_eq_true, decide_eq_true_eq]
  exact ⟨by simp only; omega, by simp only [h]; rfl⟩
 cases (y == 0) with
 | true => exact ⟨_, _, rfl, po _ _ _ rfl, h3⟩
 | false =>
  cases (y == 1) with
  | true => exact ⟨_, _, rfl, po _ _ _ rfl, h3⟩
  | false => exact ⟨_, _, rfl, po _ _ _ rfl, h3⟩
theorem Yen {V O : Type} {f g : V → Option (Lp V O)} (I : V → Prop) (h : ∀ v, I v → f v = g v) (hI : ∀ v v', I v → g v = some (.go v') → I v') : ∀ (k : Nat) (v : V), I v → it f k v = it g k v
 | 0, _, _ => rfl
 | k + 1, v, hv => by
  rw [it, it, h v hv]
  cases e : g v with
  | none => rfl
  | some s =>
   cases s with
   | go y => exact Yen I h hI k y (hI v y hv e)
   | done o => rfl
theorem Xjz {V O : Type} {f g : V → Option (Lp V O)} (I : V → Prop) (h : ∀ v, I v → f v = g v) (hI : ∀ v v', I v → g v = some (.go v') → I v') {v : V} (hv : I v) : loop f v = loop g v := by
 apply Option.ext
 intro o
 rw [Xg1, Xg1]
 exact ⟨fun ⟨k, hk⟩ => ⟨k, by rw [← Yen I h hI k v hv]; exact hk⟩, fun ⟨k, hk⟩ => ⟨k, by rw [Yen I h hI k v hv]; exact hk⟩⟩
theorem Yh7 {V O : Type} {f : V → Option (Lp V O)} {v : V} {o : O} (k : Nat) (h : it f k v = some o) : loop f v = some o := Xg1.2 ⟨k, h⟩
theorem Xni {a b : List Int} {n : Nat} (ha : a.length = n) (hb : b.length = n) (h : ∀ i : Nat, i < n → a.getD i 0 = b.getD i 0) : a = b := by
 apply List.ext_getElem (by omega)
 intro i h1 h2
 have := h i (by omega)
 rwa [Xc2 a i h1, Xc2 b i h2] at this
theorem Xb8 {n : Nat} (g : Nat → Int) {i : Nat} (h : i < n) : ((List.range n).map g).getD i 0 = g i := by
 rw [Xc2 _ i (by simpa using h)]; simp
theorem Yds {α : Type} {f : Int × List α → Option (Lp (Int × List α) (List α))} (n : Nat) (g : Nat → α) (a : List α) (hs : ∀ i : Nat, i < n → f ((i : Int), a ++ (List.range i).map g) = some (.go (((i + 1 : Nat) : Int), a ++ (List.range i).map g ++ [g i]))) (he : f ((n : Int), a ++ (List.range n).map g) = some (.done (a ++ (List.range n).map g))) : loop f (0, a) = some (a ++ (List.range n).map g) := by
 have key : ∀ i : Nat, i ≤ n → loop f ((i : Int), a ++ (List.range i).map g) = some (a ++ (List.range n).map g) := by
  refine Xg0 _ (Xib he) ?_
  intro i hi ih
  refine lgo (hs i hi) ?_
  rw [List.append_assoc, show (List.range i).map g ++ [g i] = (List.range (i + 1)).map g by simp [List.range_succ]]
  exact ih
 have := key 0 (by omega)
 simpa using this
theorem Xjd {S : Type} {f : Int × S → Option (Lp (Int × S) S)} (n : Nat) (I : Nat → S → Prop) (hs : ∀ (i : Nat) (l : S), i < n → I i l → ∃ l', f ((i : Int), l) = some (.go (((i + 1 : Nat) : Int), l')) ∧ I (i + 1) l') (he : ∀ l, I n l → f ((n : Int), l) = some (.done l)) (l0 : S) (h0 : I 0 l0) : ∃ o, loop f (0, l0) = some o ∧ I n o := by
 have key : ∀ i : Nat, i ≤ n → ∀ l, I i l → ∃ o, loop f ((i : Int), l) = some o ∧ I n o := by
  refine Xg0 _ ?_ ?_
  ·
   intro l h; exact ⟨l, Xib (he l h), h⟩
  ·
   intro i hi ih l h
   obtain ⟨l', e, h'⟩ := hs i l hi h
   obtain ⟨o, e2, h2⟩ := ih l' h'
   exact ⟨o, lgo e e2, h2⟩
 exact key 0 (by omega) l0 h0
theorem Xq7 {f : Int × List Int → Option (Lp (Int × List Int) (List Int))} (n : Nat) (g : Nat → Int) (l : List Int) (hl : l.length = n) (hs : ∀ (i : Nat) (s : List Int), i < n → s.length = n → s.getD i 0 = l.getD i 0 → f ((i : Int), s) = some (.go (((i + 1 : Nat) : Int), s.set i (g i)))) (he : ∀ s : List Int, s.length = n → f ((n : Int), s) = some (.done s)) : loop f (0, l) = some ((List.range n).map g) := by
 obtain ⟨o, e, h1, h2, _⟩ := Xjd (f := f) n (fun i s => s.length = n ∧ (∀ j, j < i → s.getD j 0 = g j) ∧ ∀ j, i ≤ j → s.getD j 0 = l.getD j 0) (by
  intro i s hi ⟨g1, g2, g3⟩
  refine ⟨_, hs i s hi g1 (g3 i (Nat.le_refl _)), by rw [List.length_set]; exact g1, fun j hj => ?_, fun j hj => ?_⟩
  ·
   rw [Xdn s i j _ (by omega)]
   by_cases h : i = j
   ·
    rw [if_pos h, h]
   ·
    rw [if_neg h]; exact g2 j (by omega)
  ·
   rw [Xdn s i j _ (by omega), if_neg (by omega)]; exact g3 j (by omega)) (fun s hs => he s hs.1) l ⟨hl, fun j hj => by omega, fun _ _ => rfl⟩
 rw [e]
 congr 1
 exact Xni h1 (by simp) fun i hi => by rw [h2 i hi, Xb8 g hi]
theorem Yhx : Xlx = Xdi := rfl
theorem Ycn (qp : Int) (h0 : 0 ≤ qp ∧ qp ≤ 40) : Xc6 qp = some (Xmp qp) := by
 have h := Yml ⟨qp.toNat, by omega⟩
 simp only at h
 rw [show ((qp.toNat : Nat) : Int) = qp by omega] at h
 unfold Xc6
 rw [Xai, Xab, decide_eq_true (by omega), Bool.not_true, Xaq, rqA]
 have hb : (sel ((qp.tmod 6) == 0) (some (10 : Int)) (sel ((qp.tmod 6) == 1) (some 11) (sel ((qp.tmod 6) == 2) (some 13) (sel ((qp.tmod 6) == 3) (some 14) (sel ((qp.tmod 6) == 4) (some 16) (some 18)))))) = some (Xpi qp) := by
  unfold Xpi
  simp only [Ye8, beq_iff_eq]
  repeat' split
  all_goals rfl
 rw [hb, Xab]
 unfold Xmp at h ⊢
 cases e : it (Xko qp) 10 (Xpi qp, 0) with
 | none => rw [e] at h; simp only at h; omega
 | some q => rw [Xg1.2 ⟨10, e⟩, Xab]
theorem Yej : ∀ q : Fin 41, Xf1 (q.val : Int) = some (Xmp (q.val : Int)) := by decide +kernel
end Go.Proofs.Ytlebkepfhdjnmac.A.Pure
