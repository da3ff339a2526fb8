/- The pure statement of the law FnFills, part 1: over numbers, texts and lists alone, what the law computes is true. Conditions: the sizes of what a machine holds. -/
import Derived.Test.YtjfkbpgdghijfaaDFnFills
namespace Go.Proofs.Ytjfkbpgdghijfaa.A.Pure
open Go Go.Proofs Go.Proofs.YtjfkbpgdghijfaaAL Go.RowKit
set_option linter.unusedVariables false
set_option linter.unusedSimpArgs false
set_option maxHeartbeats 1000000
noncomputable section
def spec_PicOk (p0 : Pic) : Option Bool :=
bnd (
bnd (spec_l01In p0.Wide 1 256) fun q2 =>
sel q2 (
bnd (spec_l01In p0.High 1 256) fun q3 =>
sel q3 (
some ((p0.Dots.size : Int) == (wrapK .i64 (p0.Wide * p0.High)))) (
some false)) (
some false)) fun v1 =>
some v1
def spec_Brought (p0 : Int) (p1 : Int) (p2 : Int) : Option Int :=
bnd (
sel (decide (p2 < p1)) (
some true) (
some (decide (p0 < p1)))) fun v1 =>
sel v1 (
some p1) (
sel (decide (p0 > p2)) (
some p2) (
some p0))
def spec_DotAt (p0 : Pic) (p1 : Int) (p2 : Int) : Option Int :=
bnd (spec_PicOk p0) fun q1 =>
sel (!q1) (
some (-1)) (
bnd (spec_Brought p2 0 (wrapK .i64 (p0.High - 1))) fun q2 =>
bnd (spec_Brought p1 0 (wrapK .i64 (p0.Wide - 1))) fun q3 =>
req (0 ≤ (wrapK .i64 ((wrapK .i64 (q2 * p0.Wide)) + q3)) ∧ (wrapK .i64 ((wrapK .i64 (q2 * p0.Wide)) + q3)) < p0.Dots.size) <|
some (wrapK .i64 ((btOf p0.Dots (wrapK .i64 ((wrapK .i64 (q2 * p0.Wide)) + q3))))))
def spec_BlockOf_l2 (p0 : Pic) (p1 : Int) (p2 : Int) (v7 : (Int × (List Int))) : Option (Lp (Int × (List Int)) (List Int)) :=
sel (decide (v7.1 < 64)) (
req ((8 : Int) ≠ 0) <|
req ((8 : Int) ≠ 0) <|
bnd (spec_DotAt p0 (wrapK .i64 (p1 + (v7.1.tmod 8))) (wrapK .i64 (p2 + (wrapK .i64 (v7.1.tdiv 8))))) fun q11 =>
req ((v7.2.length + ([q11]).length) * 8 ≤ 140737488355328 ∧ v7.2.length + ([q11]).length ≤ maxLen) <|
some (.go (wrapK .i64 (v7.1 + 1), (v7.2 ++ ([q11]))))) (
some (.done v7.2))
def spec_BlockOf (p0 : Pic) (p1 : Int) (p2 : Int) : Option (List Int) :=
bnd (
bnd (spec_PicOk p0) fun q2 =>
sel q2 (
bnd (spec_l01In p1 (-1000) 1000) fun q3 =>
sel q3 (
bnd (spec_l01In p2 (-1000) 1000) fun q4 =>
some (!q4)) (
some true)) (
some true)) fun v1 =>
sel v1 (
some ([] : List Int)) (
bnd (loop (spec_BlockOf_l2 p0 p1 p2) (0, ([] : List Int))) fun v10 =>
some v10)
def spec_CondOk (p0 : Cond) : Option Bool :=
bnd (
bnd (spec_l01In p0.Qp 0 40) fun q2 =>
sel q2 (
sel p0.Large (
some (!p0.Exact)) (
some true)) (
some false)) fun v1 =>
some v1
def spec_l09All_l2 (p0 : (List Int)) (p1 : Int) (p2 : Int) (v3 : Int) : Option (Lp Int (Ou Unit Bool)) :=
sel (decide (v3 < p1)) (
req (0 ≤ v3 ∧ v3 < p0.length) <|
bnd (spec_l01In (p0.getD v3.toNat 0) (wrapK .i64 (0 - p2)) p2) fun q7 =>
sel (!q7) (
some (.done (.ret false))) (
some (.go (wrapK .i64 (v3 + 1))))) (
some (.done (.out ())))
def spec_l09All (p0 : (List Int)) (p1 : Int) (p2 : Int) : Option Bool :=
sel ((p0.length : Int) != p1) (
some false) (
bnd (loop (spec_l09All_l2 p0 p1 p2) 0) fun o8 => match o8 with
| .out v6 => (
some true)
| .ret r => some r)
def spec_SquareOk (p0 : Square) : Option Bool :=
sel (p0.Kind == 0) (
bnd (
sel (p0.Mode == 0) (
sel (p0.Dx == 0) (
sel (p0.Dy == 0) (
some ((p0.Levels.length : Int) == 0)) (
some false)) (
some false)) (
some false)) fun v1 =>
some v1) (
sel (p0.Kind == 1) (
bnd (
sel (p0.Mode == 0) (
bnd (spec_l01In p0.Dx (-16) 16) fun q3 =>
sel q3 (
bnd (spec_l01In p0.Dy (-16) 16) fun q4 =>
sel q4 (
bnd (spec_l09All p0.Levels 64 5000) fun q5 =>
some q5) (
some false)) (
some false)) (
some false)) fun v2 =>
some v2) (
sel (p0.Kind == 2) (
bnd (
bnd (spec_l01In p0.Mode 0 3) fun q7 =>
sel q7 (
sel (p0.Dx == 0) (
sel (p0.Dy == 0) (
bnd (spec_l09All p0.Levels 64 5000) fun q8 =>
some q8) (
some false)) (
some false)) (
some false)) fun v6 =>
some v6) (
some false)))
def spec_l12Within (p0 : Pic) (p1 : Int) (p2 : Int) (p3 : Int) (p4 : Int) : Option Bool :=
bnd (
bnd (spec_PicOk p0) fun q2 =>
sel q2 (
bnd (spec_l01In p3 1 p0.Wide) fun q3 =>
sel q3 (
bnd (spec_l01In p4 1 p0.High) fun q4 =>
sel q4 (
bnd (spec_l01In p1 0 (wrapK .i64 (p0.Wide - p3))) fun q5 =>
sel q5 (
bnd (spec_l01In p2 0 (wrapK .i64 (p0.High - p4))) fun q6 =>
some q6) (
some false)) (
some false)) (
some false)) (
some false)) fun v1 =>
some v1
def spec_CutOf_l2 (p0 : Pic) (p1 : Rect) (v3 : (Int × (List Int))) : Option (Lp (Int × (List Int)) (List Int)) :=
sel (decide (v3.1 < (wrapK .i64 (p1.Top + p1.High)))) (
req (0 ≤ (wrapK .i64 ((wrapK .i64 (v3.1 * p0.Wide)) + p1.Left)) ∧ (wrapK .i64 ((wrapK .i64 (v3.1 * p0.Wide)) + p1.Left)) ≤ (wrapK .i64 ((wrapK .i64 ((wrapK .i64 (v3.1 * p0.Wide)) + p1.Left)) + p1.Wide)) ∧ (wrapK .i64 ((wrapK .i64 ((wrapK .i64 (v3.1 * p0.Wide)) + p1.Left)) + p1.Wide)) ≤ (p0.Dots.size : Int)) <|
req ((v3.2.length + (numsOf (p0.Dots.extract (wrapK .i64 ((wrapK .i64 (v3.1 * p0.Wide)) + p1.Left)).toNat (wrapK .i64 ((wrapK .i64 ((wrapK .i64 (v3.1 * p0.Wide)) + p1.Left)) + p1.Wide)).toNat)).length) * 1 ≤ 140737488355328 ∧ v3.2.length + (numsOf (p0.Dots.extract (wrapK .i64 ((wrapK .i64 (v3.1 * p0.Wide)) + p1.Left)).toNat (wrapK .i64 ((wrapK .i64 ((wrapK .i64 (v3.1 * p0.Wide)) + p1.Left)) + p1.Wide)).toNat)).length ≤ maxLen) <|
some (.go (wrapK .i64 (v3.1 + 1), (v3.2 ++ (numsOf (p0.Dots.extract (wrapK .i64 ((wrapK .i64 (v3.1 * p0.Wide)) + p1.Left)).toNat (wrapK .i64 ((wrapK .i64 ((wrapK .i64 (v3.1 * p0.Wide)) + p1.Left)) + p1.Wide)).toNat)))))) (
some (.done v3.2))
def spec_l13Fits (p0 : Pic) (p1 : Int) (p2 : Int) : Option Bool :=
bnd (
req ((8 : Int) ≠ 0) <|
sel ((p1.tmod 8) == 0) (
req ((8 : Int) ≠ 0) <|
sel ((p2.tmod 8) == 0) (
bnd (spec_l12Within p0 p1 p2 8 8) fun q2 =>
some q2) (
some false)) (
some false)) fun v1 =>
some v1
def spec_EdgesOf_l2 (p0 : Pic) (p1 : Int) (p2 : Int) (v7 : (Int × (List Int) × (List Int))) : Option (Lp (Int × (List Int) × (List Int)) ((List Int) × (List Int))) :=
sel (decide (v7.1 < 8)) (
bnd (
bnd (
sel (decide (p2 > 0)) (
bnd (spec_DotAt p0 (wrapK .i64 (p1 + v7.1)) (wrapK .i64 (p2 - 1))) fun q16 =>
req ((v7.2.1.length + ([q16]).length) * 8 ≤ 140737488355328 ∧ v7.2.1.length + ([q16]).length ≤ maxLen) <|
some (v7.2.1 ++ ([q16]))) (
some v7.2.1)) fun v15 =>
sel (decide (p1 > 0)) (
bnd (spec_DotAt p0 (wrapK .i64 (p1 - 1)) (wrapK .i64 (p2 + v7.1))) fun q17 =>
req ((v7.2.2.length + ([q17]).length) * 8 ≤ 140737488355328 ∧ v7.2.2.length + ([q17]).length ≤ maxLen) <|
some (v15, (v7.2.2 ++ ([q17])))) (
some (v15, v7.2.2))) fun v14 =>
some (.go (wrapK .i64 (v7.1 + 1), v14.1, v14.2))) (
some (.done (v7.2.1, v7.2.2)))
def spec_EdgesOf (p0 : Pic) (p1 : Int) (p2 : Int) : Option (Edges × Bool) :=
bnd (spec_l13Fits p0 p1 p2) fun q1 =>
sel (!q1) (
some ((⟨[], [], 0⟩ : Edges), false)) (
bnd (loop (spec_EdgesOf_l2 p0 p1 p2) (0, [], [])) fun v13 =>
bnd (
bnd (
sel (decide (p1 > 0)) (
some (decide (p2 > 0))) (
some false)) fun v20 =>
sel v20 (
bnd (spec_DotAt p0 (wrapK .i64 (p1 - 1)) (wrapK .i64 (p2 - 1))) fun q21 =>
some q21) (
some (-1))) fun v19 =>
some ((⟨v13.1, v13.2, v19⟩ : Edges), true))
def spec_ScanAt_l14 (p0 : Int) (p1 : Int) (v17 : (Int × Int)) (v38 : (Int × Int)) : Option (Lp (Int × Int) (Ou Int Int)) :=
sel (decide (v38.2 < p0)) (
joinK (fun (v44 : Int) =>
some (.go (v44, wrapK .i64 (v38.2 + 1)))) fun j36 =>
bnd (
req ((2 : Int) ≠ 0) <|
sel ((v17.2.tmod 2) == 0) (
some (wrapK .i64 ((wrapK .i64 (p0 - 1)) - v38.2))) (
some v38.2)) fun v45 =>
bnd (spec_l01In (wrapK .i64 (v17.2 - v45)) 0 (wrapK .i64 (p0 - 1))) fun q46 =>
sel (!q46) (
j36 v38.1) (
sel (v38.1 == p1) (
some (.done (.ret (wrapK .i64 ((wrapK .i64 ((wrapK .i64 (p0 * v45)) + v17.2)) - v45))))) (
j36 (wrapK .i64 (v38.1 + 1))))) (
some (.done (.out v38.1)))
def spec_ScanAt_l12 (p0 : Int) (p1 : Int) (v17 : (Int × Int)) : Option (Lp (Int × Int) (Ou Unit Int)) :=
sel (decide (v17.2 ≤ (wrapK .i64 ((wrapK .i64 (2 * p0)) - 2)))) (
bnd (loop (spec_ScanAt_l14 p0 p1 v17) (v17.1, 0)) fun o47 => match o47 with
| .out v43 => (
some (.go (v43, wrapK .i64 (v17.2 + 1))))
| .ret r => some (.done (.ret r))) (
some (.done (.out ())))
def spec_ScanAt (p0 : Int) (p1 : Int) : Option Int :=
bnd (
sel (p0 != 4) (
sel (p0 != 8) (
some true) (
sel (decide (p1 < 0)) (
some true) (
some (decide (p1 ≥ (wrapK .i64 (p0 * p0))))))) (
sel (decide (p1 < 0)) (
some true) (
some (decide (p1 ≥ (wrapK .i64 (p0 * p0))))))) fun v1 =>
sel v1 (
some (-1)) (
bnd (loop (spec_ScanAt_l12 p0 p1) (0, 0)) fun o48 => match o48 with
| .out v33 => (
some (-1))
| .ret r => some r)
def spec_Unscanned_l2 (p0 : Int) (p1 : (List Int)) (v4 : (Int × (List Int))) : Option (Lp (Int × (List Int)) (List Int)) :=
sel (decide (v4.1 < (wrapK .i64 (p0 * p0)))) (
bnd (spec_ScanAt p0 v4.1) fun q8 =>
req (0 ≤ v4.1 ∧ v4.1 < p1.length) <|
req (0 ≤ q8 ∧ q8 < v4.2.length) <|
req (q8.toNat < v4.2.length) <|
some (.go (wrapK .i64 (v4.1 + 1), (v4.2.set q8.toNat (p1.getD v4.1.toNat 0))))) (
some (.done v4.2))
def spec_Unscanned (p0 : Int) (p1 : (List Int)) : Option ((List Int) × Bool) :=
bnd (
sel (p0 != 4) (
sel (p0 != 8) (
some true) (
some ((p1.length : Int) != (wrapK .i64 (p0 * p0))))) (
some ((p1.length : Int) != (wrapK .i64 (p0 * p0))))) fun v1 =>
sel v1 (
some (([] : List Int), false)) (
req (0 ≤ (p1.length : Int) ∧ (p1.length : Int) ≤ (p1.length : Int) ∧ (p1.length : Int) * 8 ≤ 281474976710656) <|
bnd (loop (spec_Unscanned_l2 p0 p1) (0, (List.replicate (p1.length : Int).toNat (0 : Int)))) fun v7 =>
some (v7, true))
def spec_StepOf_l2 (p0 : Int) (v4 : (Int × Int)) : Option (Lp (Int × Int) Int) :=
req ((6 : Int) ≠ 0) <|
sel (decide (v4.2 < (wrapK .i64 (p0.tdiv 6)))) (
some (.go (wrapK .i64 (2 * v4.1), wrapK .i64 (v4.2 + 1)))) (
some (.done v4.1))
def spec_StepOf (p0 : Int) : Option Int :=
bnd (spec_l01In p0 0 40) fun q1 =>
sel (!q1) (
some 0) (
bnd (
req ((6 : Int) ≠ 0) <|
sel ((p0.tmod 6) == 0) (
some 10) (
sel ((p0.tmod 6) == 1) (
some 11) (
sel ((p0.tmod 6) == 2) (
some 13) (
sel ((p0.tmod 6) == 3) (
some 14) (
sel ((p0.tmod 6) == 4) (
some 16) (
some 18)))))) fun v2 =>
bnd (loop (spec_StepOf_l2 p0) (v2, 0)) fun v6 =>
some v6)
def spec_LargeBack (p0 : Int) (p1 : Int) : Option Int :=
bnd (spec_l01In p0 (-5000) 5000) fun q1 =>
sel (!q1) (
some 0) (
bnd (spec_StepOf p1) fun q2 =>
some (wrapK .i64 (p0 * q2)))
def spec_SignOf_l2 (v6 : (Int × Int)) : Option (Lp (Int × Int) Int) :=
sel (decide (v6.2 > 0)) (
bnd (
req ((2 : Int) ≠ 0) <|
sel ((v6.2.tmod 2) == 1) (
some (wrapK .i64 (0 - v6.1))) (
some v6.1)) fun v10 =>
req ((2 : Int) ≠ 0) <|
some (.go (v10, wrapK .i64 (v6.2.tdiv 2)))) (
some (.done v6.1))
def spec_SignOf (p0 : Int) (p1 : Int) : Option Int :=
bnd (
bnd (spec_l01In p0 0 7) fun q2 =>
sel q2 (
bnd (spec_l01In p1 0 7) fun q3 =>
some (!q3)) (
some true)) fun v1 =>
sel v1 (
some 0) (
bnd (loop (spec_SignOf_l2) (1, (IntKind.wrap .i64 (BitVec.ofInt (IntKind.bits .i64) p0 &&& BitVec.ofInt (IntKind.bits .i64) p1).toNat))) fun v9 =>
some v9)
def spec_l10Row_l2 (p0 : (List Int)) (p1 : Int) (p2 : Int) (v3 : (Int × Int)) : Option (Lp (Int × Int) Int) :=
sel (decide (v3.2 < 8)) (
req (0 ≤ (wrapK .i64 ((wrapK .i64 (8 * p1)) + v3.2)) ∧ (wrapK .i64 ((wrapK .i64 (8 * p1)) + v3.2)) < p0.length) <|
bnd (spec_SignOf p2 v3.2) fun q7 =>
some (.go (wrapK .i64 (v3.1 + (wrapK .i64 ((p0.getD (wrapK .i64 ((wrapK .i64 (8 * p1)) + v3.2)).toNat 0) * q7))), wrapK .i64 (v3.2 + 1)))) (
some (.done v3.1))
def spec_l10Row (p0 : (List Int)) (p1 : Int) (p2 : Int) : Option Int :=
bnd (loop (spec_l10Row_l2 p0 p1 p2) (0, 0)) fun v6 =>
some v6
def spec_l10Sums_l14 (p0 : (List Int)) (v10 : (Int × (List Int))) (v23 : (Int × (List Int))) : Option (Lp (Int × (List Int)) (List Int)) :=
sel (decide (v23.1 < 8)) (
bnd (spec_l10Row p0 v10.1 v23.1) fun q27 =>
req ((v23.2.length + ([q27]).length) * 8 ≤ 140737488355328 ∧ v23.2.length + ([q27]).length ≤ maxLen) <|
some (.go (wrapK .i64 (v23.1 + 1), (v23.2 ++ ([q27]))))) (
some (.done v23.2))
def spec_l10Sums_l12 (p0 : (List Int)) (v10 : (Int × (List Int))) : Option (Lp (Int × (List Int)) (List Int)) :=
sel (decide (v10.1 < 8)) (
bnd (loop (spec_l10Sums_l14 p0 v10) (0, v10.2)) fun v26 =>
some (.go (wrapK .i64 (v10.1 + 1), v26))) (
some (.done v10.2))
def spec_l10Sums_l172 (v20 : (List Int)) (v60 : (Int × (List Int))) (v101 : (Int × (List Int))) (v114 : (Int × Int)) : Option (Lp (Int × Int) Int) :=
sel (decide (v114.2 < 8)) (
bnd (spec_SignOf v60.1 v114.2) fun q118 =>
req (0 ≤ (wrapK .i64 ((wrapK .i64 (8 * v114.2)) + v101.1)) ∧ (wrapK .i64 ((wrapK .i64 (8 * v114.2)) + v101.1)) < v20.length) <|
req ((wrapK .i64 ((wrapK .i64 (8 * v114.2)) + v101.1)).toNat < v20.length) <|
some (.go (wrapK .i64 (v114.1 + (wrapK .i64 (q118 * (v20.getD ((wrapK .i64 ((wrapK .i64 (8 * v114.2)) + v101.1)).toNat) 0)))), wrapK .i64 (v114.2 + 1)))) (
some (.done v114.1))
def spec_l10Sums_l168 (v20 : (List Int)) (v60 : (Int × (List Int))) (v101 : (Int × (List Int))) : Option (Lp (Int × (List Int)) (List Int)) :=
sel (decide (v101.1 < 8)) (
bnd (loop (spec_l10Sums_l172 v20 v60 v101) (0, 0)) fun v117 =>
req ((v101.2.length + ([v117]).length) * 8 ≤ 140737488355328 ∧ v101.2.length + ([v117]).length ≤ maxLen) <|
some (.go (wrapK .i64 (v101.1 + 1), (v101.2 ++ ([v117]))))) (
some (.done v101.2))
def spec_l10Sums_l146 (v20 : (List Int)) (v60 : (Int × (List Int))) : Option (Lp (Int × (List Int)) (List Int)) :=
sel (decide (v60.1 < 8)) (
bnd (loop (spec_l10Sums_l168 v20 v60) (0, v60.2)) fun v111 =>
some (.go (wrapK .i64 (v60.1 + 1), v111))) (
some (.done v60.2))
def spec_l10Sums (p0 : (List Int)) : Option (List Int) :=
bnd (loop (spec_l10Sums_l12 p0) (0, ([] : List Int))) fun v20 =>
bnd (loop (spec_l10Sums_l146 v20) (0, ([] : List Int))) fun v91 =>
some v91
def spec_l09Down (p0 : Int) (p1 : Int) : Option Int :=
req (p1 ≠ 0) <|
bnd (
req (p1 ≠ 0) <|
sel (decide ((p0.tmod p1) < 0)) (
some (wrapK .i64 ((wrapK .i64 (p0.tdiv p1)) - 1))) (
some (wrapK .i64 (p0.tdiv p1)))) fun v1 =>
some v1
def spec_EightBack_l2 (v5 : (Int × (List Int))) : Option (Lp (Int × (List Int)) (List Int)) :=
sel (decide (v5.1 < 64)) (
req (0 ≤ v5.1 ∧ v5.1 < v5.2.length) <|
req (v5.1.toNat < v5.2.length) <|
bnd (spec_l09Down (wrapK .i64 ((v5.2.getD v5.1.toNat 0) + 32)) 64) fun q9 =>
req (0 ≤ v5.1 ∧ v5.1 < v5.2.length) <|
req (v5.1.toNat < v5.2.length) <|
some (.go (wrapK .i64 (v5.1 + 1), (v5.2.set v5.1.toNat q9)))) (
some (.done v5.2))
def spec_EightBack (p0 : (List Int)) : Option (List Int) :=
bnd (spec_l09All p0 64 10000000) fun q1 =>
sel (!q1) (
some ([] : List Int)) (
bnd (spec_l10Sums p0) fun q2 =>
bnd (loop (spec_EightBack_l2) (0, q2)) fun v8 =>
some v8)
def spec_KindOf (p0 : Int) : Option Int :=
bnd (spec_l01In p0 0 15) fun q1 =>
sel (!q1) (
some (-1)) (
req ((4 : Int) ≠ 0) <|
req ((2 : Int) ≠ 0) <|
req ((4 : Int) ≠ 0) <|
req ((2 : Int) ≠ 0) <|
bnd (
sel (((wrapK .i64 (p0.tdiv 4)).tmod 2) == 0) (
some (((p0.tmod 4).tmod 2) == 0)) (
some false)) fun v2 =>
sel v2 (
some 0) (
bnd (
sel (((wrapK .i64 (p0.tdiv 4)).tmod 2) == 1) (
some (((p0.tmod 4).tmod 2) == 1)) (
some false)) fun v3 =>
sel v3 (
some 1) (
some 2)))
def spec_l08Pick (p0 : Int) (p1 : Int) (p2 : Int) (p3 : Int) : Option Int :=
sel (p0 == 0) (
some p1) (
sel (p0 == 1) (
some p2) (
some p3))
def spec_ScaleOf_l2 (p0 : Int) (v12 : (Int × Int)) : Option (Lp (Int × Int) Int) :=
req ((6 : Int) ≠ 0) <|
sel (decide (v12.2 < (wrapK .i64 (p0.tdiv 6)))) (
some (.go (wrapK .i64 (2 * v12.1), wrapK .i64 (v12.2 + 1)))) (
some (.done v12.1))
def spec_ScaleOf (p0 : Int) (p1 : Int) : Option Int :=
bnd (spec_KindOf p1) fun q1 =>
bnd (
bnd (spec_l01In p0 0 40) fun q3 =>
sel q3 (
some (decide (q1 < 0))) (
some true)) fun v2 =>
sel v2 (
some 0) (
bnd (
req ((6 : Int) ≠ 0) <|
sel ((p0.tmod 6) == 0) (
bnd (spec_l08Pick q1 10 16 13) fun q5 =>
some q5) (
sel ((p0.tmod 6) == 1) (
bnd (spec_l08Pick q1 11 18 14) fun q6 =>
some q6) (
sel ((p0.tmod 6) == 2) (
bnd (spec_l08Pick q1 13 20 16) fun q7 =>
some q7) (
sel ((p0.tmod 6) == 3) (
bnd (spec_l08Pick q1 14 23 18) fun q8 =>
some q8) (
sel ((p0.tmod 6) == 4) (
bnd (spec_l08Pick q1 16 25 20) fun q9 =>
some q9) (
sel ((p0.tmod 6) == 5) (
bnd (spec_l08Pick q1 18 29 23) fun q10 =>
some q10) (
some 0))))))) fun v4 =>
bnd (loop (spec_ScaleOf_l2 p0) (v4, 0)) fun v14 =>
some v14)
def spec_SmallBack (p0 : Int) (p1 : Int) (p2 : Int) : Option Int :=
bnd (spec_l01In p0 (-5000) 5000) fun q1 =>
sel (!q1) (
some 0) (
bnd (spec_ScaleOf p1 p2) fun q2 =>
some (wrapK .i64 (p0 * q2)))
def spec_l09Backs_l2 (p0 : (List Int)) (v4 : (Int × (List Int))) : Option (Lp (Int × (List Int)) (List Int)) :=
sel (decide (v4.1 < 4)) (
req (0 ≤ (wrapK .i64 (4 * v4.1)) ∧ (wrapK .i64 (4 * v4.1)) < p0.length) <|
req (0 ≤ (wrapK .i64 ((wrapK .i64 (4 * v4.1)) + 1)) ∧ (wrapK .i64 ((wrapK .i64 (4 * v4.1)) + 1)) < p0.length) <|
req (0 ≤ (wrapK .i64 ((wrapK .i64 (4 * v4.1)) + 2)) ∧ (wrapK .i64 ((wrapK .i64 (4 * v4.1)) + 2)) < p0.length) <|
req (0 ≤ (wrapK .i64 ((wrapK .i64 (4 * v4.1)) + 3)) ∧ (wrapK .i64 ((wrapK .i64 (4 * v4.1)) + 3)) < p0.length) <|
bnd (spec_l09Down (p0.getD (wrapK .i64 ((wrapK .i64 (4 * v4.1)) + 1)).toNat 0) 2) fun q9 =>
bnd (spec_l09Down (p0.getD (wrapK .i64 ((wrapK .i64 (4 * v4.1)) + 3)).toNat 0) 2) fun q10 =>
req ((v4.2.length + ([wrapK .i64 ((wrapK .i64 ((p0.getD (wrapK .i64 (4 * v4.1)).toNat 0) + (p0.getD (wrapK .i64 ((wrapK .i64 (4 * v4.1)) + 2)).toNat 0))) + (wrapK .i64 ((p0.getD (wrapK .i64 ((wrapK .i64 (4 * v4.1)) + 1)).toNat 0) + q10))), wrapK .i64 ((wrapK .i64 ((p0.getD (wrapK .i64 (4 * v4.1)).toNat 0) - (p0.getD (wrapK .i64 ((wrapK .i64 (4 * v4.1)) + 2)).toNat 0))) + (wrapK .i64 (q9 - (p0.getD (wrapK .i64 ((wrapK .i64 (4 * v4.1)) + 3)).toNat 0)))), wrapK .i64 ((wrapK .i64 ((p0.getD (wrapK .i64 (4 * v4.1)).toNat 0) - (p0.getD (wrapK .i64 ((wrapK .i64 (4 * v4.1)) + 2)).toNat 0))) - (wrapK .i64 (q9 - (p0.getD (wrapK .i64 ((wrapK .i64 (4 * v4.1)) + 3)).toNat 0)))), wrapK .i64 ((wrapK .i64 ((p0.getD (wrapK .i64 (4 * v4.1)).toNat 0) + (p0.getD (wrapK .i64 ((wrapK .i64 (4 * v4.1)) + 2)).toNat 0))) - (wrapK .i64 ((p0.getD (wrapK .i64 ((wrapK .i64 (4 * v4.1)) + 1)).toNat 0) + q10)))]).length) * 8 ≤ 140737488355328 ∧ v4.2.length + ([wrapK .i64 ((wrapK .i64 ((p0.getD (wrapK .i64 (4 * v4.1)).toNat 0) + (p0.getD (wrapK .i64 ((wrapK .i64 (4 * v4.1)) + 2)).toNat 0))) + (wrapK .i64 ((p0.getD (wrapK .i64 ((wrapK .i64 (4 * v4.1)) + 1)).toNat 0) + q10))), wrapK .i64 ((wrapK .i64 ((p0.getD (wrapK .i64 (4 * v4.1)).toNat 0) - (p0.getD (wrapK .i64 ((wrapK .i64 (4 * v4.1)) + 2)).toNat 0))) + (wrapK .i64 (q9 - (p0.getD (wrapK .i64 ((wrapK .i64 (4 * v4.1)) + 3)).toNat 0)))), wrapK .i64 ((wrapK .i64 ((p0.getD (wrapK .i64 (4 * v4.1)).toNat 0) - (p0.getD (wrapK .i64 ((wrapK .i64 (4 * v4.1)) + 2)).toNat 0))) - (wrapK .i64 (q9 - (p0.getD (wrapK .i64 ((wrapK .i64 (4 * v4.1)) + 3)).toNat 0)))), wrapK .i64 ((wrapK .i64 ((p0.getD (wrapK .i64 (4 * v4.1)).toNat 0) + (p0.getD (wrapK .i64 ((wrapK .i64 (4 * v4.1)) + 2)).toNat 0))) - (wrapK .i64 ((p0.getD (wrapK .i64 ((wrapK .i64 (4 * v4.1)) + 1)).toNat 0) + q10)))]).length ≤ maxLen) <|
some (.go (wrapK .i64 (v4.1 + 1), (v4.2 ++ ([wrapK .i64 ((wrapK .i64 ((p0.getD (wrapK .i64 (4 * v4.1)).toNat 0) + (p0.getD (wrapK .i64 ((wrapK .i64 (4 * v4.1)) + 2)).toNat 0))) + (wrapK .i64 ((p0.getD (wrapK .i64 ((wrapK .i64 (4 * v4.1)) + 1)).toNat 0) + q10))), wrapK .i64 ((wrapK .i64 ((p0.getD (wrapK .i64 (4 * v4.1)).toNat 0) - (p0.getD (wrapK .i64 ((wrapK .i64 (4 * v4.1)) + 2)).toNat 0))) + (wrapK .i64 (q9 - (p0.getD (wrapK .i64 ((wrapK .i64 (4 * v4.1)) + 3)).toNat 0)))), wrapK .i64 ((wrapK .i64 ((p0.getD (wrapK .i64 (4 * v4.1)).toNat 0) - (p0.getD (wrapK .i64 ((wrapK .i64 (4 * v4.1)) + 2)).toNat 0))) - (wrapK .i64 (q9 - (p0.getD (wrapK .i64 ((wrapK .i64 (4 * v4.1)) + 3)).toNat 0)))), wrapK .i64 ((wrapK .i64 ((p0.getD (wrapK .i64 (4 * v4.1)).toNat 0) + (p0.getD (wrapK .i64 ((wrapK .i64 (4 * v4.1)) + 2)).toNat 0))) - (wrapK .i64 ((p0.getD (wrapK .i64 ((wrapK .i64 (4 * v4.1)) + 1)).toNat 0) + q10)))]))))) (
some (.done v4.2))
def spec_l09Backs (p0 : (List Int)) : Option (List Int) :=
bnd (loop (spec_l09Backs_l2 p0) (0, ([] : List Int))) fun v8 =>
some v8
def spec_l09Flip_l2 (p0 : (List Int)) (v2 : (Int × (List Int))) : Option (Lp (Int × (List Int)) (List Int)) :=
sel (decide (v2.1 < 16)) (
req ((4 : Int) ≠ 0) <|
req ((4 : Int) ≠ 0) <|
req (0 ≤ v2.1 ∧ v2.1 < p0.length) <|
req (0 ≤ (wrapK .i64 ((wrapK .i64 ((v2.1.tmod 4) * 4)) + (wrapK .i64 (v2.1.tdiv 4)))) ∧ (wrapK .i64 ((wrapK .i64 ((v2.1.tmod 4) * 4)) + (wrapK .i64 (v2.1.tdiv 4)))) < v2.2.length) <|
req ((wrapK .i64 ((wrapK .i64 ((v2.1.tmod 4) * 4)) + (wrapK .i64 (v2.1.tdiv 4)))).toNat < v2.2.length) <|
some (.go (wrapK .i64 (v2.1 + 1), (v2.2.set ((wrapK .i64 ((wrapK .i64 ((v2.1.tmod 4) * 4)) + (wrapK .i64 (v2.1.tdiv 4)))).toNat) (p0.getD v2.1.toNat 0))))) (
some (.done v2.2))
def spec_l09Flip (p0 : (List Int)) : Option (List Int) :=
req (0 ≤ (16 : Int) ∧ (16 : Int) ≤ (16 : Int) ∧ (16 : Int) * 8 ≤ 281474976710656) <|
bnd (loop (spec_l09Flip_l2 p0) (0, (List.replicate (16 : Int).toNat (0 : Int)))) fun v4 =>
some v4
def spec_FourBack_l2 (v8 : (Int × (List Int))) : Option (Lp (Int × (List Int)) (List Int)) :=
sel (decide (v8.1 < 16)) (
req (0 ≤ v8.1 ∧ v8.1 < v8.2.length) <|
req (v8.1.toNat < v8.2.length) <|
bnd (spec_l09Down (wrapK .i64 ((v8.2.getD v8.1.toNat 0) + 32)) 64) fun q12 =>
req (0 ≤ v8.1 ∧ v8.1 < v8.2.length) <|
req (v8.1.toNat < v8.2.length) <|
some (.go (wrapK .i64 (v8.1 + 1), (v8.2.set v8.1.toNat q12)))) (
some (.done v8.2))
def spec_FourBack (p0 : (List Int)) : Option (List Int) :=
bnd (spec_l09All p0 16 10000000) fun q1 =>
sel (!q1) (
some ([] : List Int)) (
bnd (spec_l09Backs p0) fun q2 =>
bnd (spec_l09Flip q2) fun q3 =>
bnd (spec_l09Backs q3) fun q4 =>
bnd (spec_l09Flip q4) fun q5 =>
bnd (loop (spec_FourBack_l2) (0, q5)) fun v11 =>
some v11)
def spec_LevelsBack_l4 (p1 : Cond) (v8 : (Int × (List Int))) : Option (Lp (Int × (List Int)) (List Int)) :=
sel (decide (v8.1 < 64)) (
req (0 ≤ v8.1 ∧ v8.1 < v8.2.length) <|
req (v8.1.toNat < v8.2.length) <|
bnd (spec_LargeBack (v8.2.getD v8.1.toNat 0) p1.Qp) fun q12 =>
req (0 ≤ v8.1 ∧ v8.1 < v8.2.length) <|
req (v8.1.toNat < v8.2.length) <|
some (.go (wrapK .i64 (v8.1 + 1), (v8.2.set v8.1.toNat q12)))) (
some (.done v8.2))
def spec_LevelsBack_l41 (p1 : Cond) (v52 : (Int × (List Int))) : Option (Lp (Int × (List Int)) (List Int)) :=
sel (decide (v52.1 < 16)) (
req (0 ≤ v52.1 ∧ v52.1 < v52.2.length) <|
req (v52.1.toNat < v52.2.length) <|
bnd (spec_SmallBack (v52.2.getD v52.1.toNat 0) p1.Qp v52.1) fun q56 =>
req (0 ≤ v52.1 ∧ v52.1 < v52.2.length) <|
req (v52.1.toNat < v52.2.length) <|
some (.go (wrapK .i64 (v52.1 + 1), (v52.2.set v52.1.toNat q56)))) (
some (.done v52.2))
def spec_LevelsBack_l42 (v31 : (Int × (List Int))) (q58 : (List Int)) (v60 : (Int × (List Int))) : Option (Lp (Int × (List Int)) (List Int)) :=
sel (decide (v60.1 < 16)) (
req ((2 : Int) ≠ 0) <|
req ((4 : Int) ≠ 0) <|
req ((2 : Int) ≠ 0) <|
req ((4 : Int) ≠ 0) <|
req (0 ≤ v60.1 ∧ v60.1 < q58.length) <|
req (v60.1.toNat < q58.length) <|
req (0 ≤ (wrapK .i64 ((wrapK .i64 ((wrapK .i64 (8 * (wrapK .i64 ((wrapK .i64 ((wrapK .i64 (v31.1.tdiv 2)) * 4)) + (wrapK .i64 (v60.1.tdiv 4)))))) + (wrapK .i64 ((v31.1.tmod 2) * 4)))) + (v60.1.tmod 4))) ∧ (wrapK .i64 ((wrapK .i64 ((wrapK .i64 (8 * (wrapK .i64 ((wrapK .i64 ((wrapK .i64 (v31.1.tdiv 2)) * 4)) + (wrapK .i64 (v60.1.tdiv 4)))))) + (wrapK .i64 ((v31.1.tmod 2) * 4)))) + (v60.1.tmod 4))) < v60.2.length) <|
req ((wrapK .i64 ((wrapK .i64 ((wrapK .i64 (8 * (wrapK .i64 ((wrapK .i64 ((wrapK .i64 (v31.1.tdiv 2)) * 4)) + (wrapK .i64 (v60.1.tdiv 4)))))) + (wrapK .i64 ((v31.1.tmod 2) * 4)))) + (v60.1.tmod 4))).toNat < v60.2.length) <|
some (.go (wrapK .i64 (v60.1 + 1), (v60.2.set ((wrapK .i64 ((wrapK .i64 ((wrapK .i64 (8 * (wrapK .i64 ((wrapK .i64 ((wrapK .i64 (v31.1.tdiv 2)) * 4)) + (wrapK .i64 (v60.1.tdiv 4)))))) + (wrapK .i64 ((v31.1.tmod 2) * 4)))) + (v60.1.tmod 4))).toNat) (q58.getD v60.1.toNat 0))))) (
some (.done v60.2))
def spec_LevelsBack_l36 (p0 : (List Int)) (p1 : Cond) (v31 : (Int × (List Int))) : Option (Lp (Int × (List Int)) (List Int)) :=
sel (decide (v31.1 < 4)) (
req (0 ≤ (wrapK .i64 (16 * v31.1)) ∧ (wrapK .i64 (16 * v31.1)) ≤ (wrapK .i64 ((wrapK .i64 (16 * v31.1)) + 16)) ∧ (wrapK .i64 ((wrapK .i64 (16 * v31.1)) + 16)) ≤ (p0.length : Int)) <|
bnd (spec_Unscanned 4 ((p0.drop (wrapK .i64 (16 * v31.1)).toNat).take ((wrapK .i64 ((wrapK .i64 (16 * v31.1)) + 16)).toNat - (wrapK .i64 (16 * v31.1)).toNat))) fun q49 =>
bnd (loop (spec_LevelsBack_l41 p1) (0, q49.1)) fun v55 =>
bnd (spec_FourBack v55) fun q58 =>
bnd (loop (spec_LevelsBack_l42 v31 q58) (0, v31.2)) fun v62 =>
some (.go (wrapK .i64 (v31.1 + 1), v62))) (
some (.done v31.2))
def spec_LevelsBack (p0 : (List Int)) (p1 : Cond) : Option ((List Int) × Bool) :=
bnd (
bnd (spec_CondOk p1) fun q2 =>
sel q2 (
bnd (spec_l09All p0 64 5000) fun q3 =>
some (!q3)) (
some true)) fun v1 =>
sel v1 (
some (([] : List Int), false)) (
sel p1.Exact (
bnd (spec_Unscanned 8 p0) fun q4 =>
some (q4.1, q4.2)) (
sel p1.Large (
bnd (spec_Unscanned 8 p0) fun q5 =>
bnd (loop (spec_LevelsBack_l4 p1) (0, q5.1)) fun v11 =>
bnd (spec_EightBack v11) fun q14 =>
some (q14, true)) (
req (0 ≤ (64 : Int) ∧ (64 : Int) ≤ (64 : Int) ∧ (64 : Int) * 8 ≤ 281474976710656) <|
bnd (loop (spec_LevelsBack_l36 p0 p1) (0, (List.replicate (64 : Int).toNat (0 : Int)))) fun v48 =>
some (v48, true))))
def spec_l13Side_l2 (p0 : (List Int)) (v4 : Int) : Option (Lp Int (Ou Unit Bool)) :=
sel (decide (v4 < (p0.length : Int))) (
req (0 ≤ v4 ∧ v4 < p0.length) <|
bnd (spec_l01In (p0.getD v4.toNat 0) 0 255) fun q8 =>
sel (!q8) (
some (.done (.ret false))) (
some (.go (wrapK .i64 (v4 + 1))))) (
some (.done (.out ())))
def spec_l13Side (p0 : (List Int)) : Option Bool :=
bnd (
sel ((p0.length : Int) != 0) (
some ((p0.length : Int) != 8)) (
some false)) fun v1 =>
sel v1 (
some false) (
bnd (loop (spec_l13Side_l2 p0) 0) fun o9 => match o9 with
| .out v7 => (
some true)
| .ret r => some r)
def spec_EdgesOk (p0 : Edges) : Option Bool :=
bnd (
bnd (spec_l13Side p0.Above) fun q2 =>
sel q2 (
bnd (spec_l13Side p0.Left) fun q3 =>
sel q3 (
bnd (spec_l01In p0.Corner (-1) 255) fun q4 =>
some q4) (
some false)) (
some false)) fun v1 =>
some v1
def spec_l13Filled (p0 : (List Int)) (p1 : Int) : Option Int :=
sel ((p0.length : Int) == 0) (
some 128) (
req (0 ≤ p1 ∧ p1 < p0.length) <|
some (p0.getD p1.toNat 0))
def spec_l13Mid_l2 (p0 : Edges) (v2 : (Int × Int)) : Option (Lp (Int × Int) Int) :=
sel (decide (v2.2 < (p0.Above.length : Int))) (
req (0 ≤ v2.2 ∧ v2.2 < p0.Above.length) <|
some (.go (wrapK .i64 (v2.1 + (p0.Above.getD v2.2.toNat 0)), wrapK .i64 (v2.2 + 1)))) (
some (.done v2.1))
def spec_l13Mid_l4 (p0 : Edges) (v7 : (Int × Int)) : Option (Lp (Int × Int) Int) :=
sel (decide (v7.2 < (p0.Left.length : Int))) (
req (0 ≤ v7.2 ∧ v7.2 < p0.Left.length) <|
some (.go (wrapK .i64 (v7.1 + (p0.Left.getD v7.2.toNat 0)), wrapK .i64 (v7.2 + 1)))) (
some (.done v7.1))
def spec_l13Mid (p0 : Edges) : Option Int :=
sel ((wrapK .i64 ((p0.Above.length : Int) + (p0.Left.length : Int))) == 0) (
some 128) (
req ((2 : Int) ≠ 0) <|
bnd (loop (spec_l13Mid_l2 p0) (wrapK .i64 ((wrapK .i64 ((p0.Above.length : Int) + (p0.Left.length : Int))).tdiv 2), 0)) fun v4 =>
bnd (loop (spec_l13Mid_l4 p0) (v4, 0)) fun v9 =>
req ((wrapK .i64 ((p0.Above.length : Int) + (p0.Left.length : Int))) ≠ 0) <|
some (wrapK .i64 (v9.tdiv (wrapK .i64 ((p0.Above.length : Int) + (p0.Left.length : Int))))))
def spec_GuessOf_l2 (p0 : Int) (p1 : Edges) (v4 : Int) (v11 : (Int × (List Int))) : Option (Lp (Int × (List Int)) (List Int)) :=
sel (decide (v11.1 < 64)) (
bnd (
req ((8 : Int) ≠ 0) <|
bnd (spec_l13Filled p1.Above (v11.1.tmod 8)) fun q20 =>
req ((8 : Int) ≠ 0) <|
bnd (spec_l13Filled p1.Left (wrapK .i64 (v11.1.tdiv 8))) fun q21 =>
sel (p0 == 0) (
bnd (spec_l13Mid p1) fun q22 =>
req ((v11.2.length + ([q22]).length) * 8 ≤ 140737488355328 ∧ v11.2.length + ([q22]).length ≤ maxLen) <|
some (v11.2 ++ ([q22]))) (
sel (p0 == 1) (
req ((v11.2.length + ([q20]).length) * 8 ≤ 140737488355328 ∧ v11.2.length + ([q20]).length ≤ maxLen) <|
some (v11.2 ++ ([q20]))) (
sel (p0 == 2) (
req ((v11.2.length + ([q21]).length) * 8 ≤ 140737488355328 ∧ v11.2.length + ([q21]).length ≤ maxLen) <|
some (v11.2 ++ ([q21]))) (
bnd (spec_Brought (wrapK .i64 ((wrapK .i64 (q21 + q20)) - v4)) 0 255) fun q23 =>
req ((v11.2.length + ([q23]).length) * 8 ≤ 140737488355328 ∧ v11.2.length + ([q23]).length ≤ maxLen) <|
some (v11.2 ++ ([q23])))))) fun v19 =>
some (.go (wrapK .i64 (v11.1 + 1), v19))) (
some (.done v11.2))
def spec_GuessOf (p0 : Int) (p1 : Edges) : Option (List Int) :=
bnd (
bnd (spec_EdgesOk p1) fun q2 =>
sel q2 (
bnd (spec_l01In p0 0 3) fun q3 =>
some (!q3)) (
some true)) fun v1 =>
sel v1 (
some ([] : List Int)) (
bnd (
sel (decide (p1.Corner < 0)) (
some 128) (
some p1.Corner)) fun v4 =>
bnd (loop (spec_GuessOf_l2 p0 p1 v4) (0, ([] : List Int))) fun v18 =>
some v18)
def spec_l13Dots_l2 (p0 : (List Int)) (v3 : Int) : Option (Lp Int (Ou Unit Bool)) :=
sel (decide (v3 < 64)) (
req (0 ≤ v3 ∧ v3 < p0.length) <|
bnd (spec_l01In (p0.getD v3.toNat 0) 0 255) fun q7 =>
sel (!q7) (
some (.done (.ret false))) (
some (.go (wrapK .i64 (v3 + 1))))) (
some (.done (.out ())))
def spec_l13Dots (p0 : (List Int)) : Option Bool :=
sel ((p0.length : Int) != 64) (
some false) (
bnd (loop (spec_l13Dots_l2 p0) 0) fun o8 => match o8 with
| .out v6 => (
some true)
| .ret r => some r)
def spec_Joined_l2 (p0 : (List Int)) (p1 : (List Int)) (v6 : (Int × (List Int))) : Option (Lp (Int × (List Int)) (List Int)) :=
sel (decide (v6.1 < 64)) (
req (0 ≤ v6.1 ∧ v6.1 < p0.length) <|
req (0 ≤ v6.1 ∧ v6.1 < p1.length) <|
bnd (spec_Brought (wrapK .i64 ((p0.getD v6.1.toNat 0) + (p1.getD v6.1.toNat 0))) 0 255) fun q10 =>
req ((v6.2.length + ([q10]).length) * 8 ≤ 140737488355328 ∧ v6.2.length + ([q10]).length ≤ maxLen) <|
some (.go (wrapK .i64 (v6.1 + 1), (v6.2 ++ ([q10]))))) (
some (.done v6.2))
def spec_Joined (p0 : (List Int)) (p1 : (List Int)) : Option (List Int) :=
bnd (
bnd (spec_l13Dots p0) fun q2 =>
sel q2 (
bnd (spec_l09All p1 64 10000000) fun q3 =>
some (!q3)) (
some true)) fun v1 =>
sel v1 (
some ([] : List Int)) (
bnd (loop (spec_Joined_l2 p0 p1) (0, ([] : List Int))) fun v9 =>
some v9)
def spec_SquareDots (p0 : Pic) (p1 : Pic) (p2 : Int) (p3 : Int) (p4 : Cond) (p5 : Int) (p6 : Int) (p7 : Square) : Option ((List Int) × Bool) :=
bnd (
bnd (spec_l13Fits p0 p5 p6) fun q2 =>
sel q2 (
bnd (spec_l01In p2 0 256) fun q3 =>
sel q3 (
bnd (spec_l01In p3 0 256) fun q4 =>
sel q4 (
bnd (spec_SquareOk p7) fun q5 =>
sel q5 (
bnd (spec_CondOk p4) fun q6 =>
some (!q6)) (
some true)) (
some true)) (
some true)) (
some true)) fun v1 =>
sel v1 (
some (([] : List Int), false)) (
sel (p7.Kind == 2) (
bnd (spec_EdgesOf p0 p5 p6) fun q7 =>
bnd (spec_LevelsBack p7.Levels p4) fun q8 =>
bnd (spec_GuessOf p7.Mode q7.1) fun q9 =>
bnd (spec_Joined q9 q8.1) fun q10 =>
some (q10, true)) (
bnd (
sel p4.Key (
some true) (
bnd (spec_PicOk p1) fun q12 =>
some (!q12))) fun v11 =>
sel v11 (
some (([] : List Int), false)) (
bnd (spec_BlockOf p1 (wrapK .i64 ((wrapK .i64 (p2 + p5)) + p7.Dx)) (wrapK .i64 ((wrapK .i64 (p3 + p6)) + p7.Dy))) fun q13 =>
sel (p7.Kind == 0) (
some (q13, true)) (
bnd (spec_LevelsBack p7.Levels p4) fun q14 =>
bnd (spec_Joined q13 q14.1) fun q15 =>
some (q15, true)))))
def spec_l16Put_l2 (p0 : Pic) (p1 : Int) (p2 : Int) (p3 : (List Int)) (v2 : (Int × (List Int))) : Option (Lp (Int × (List Int)) (List Int)) :=
sel (decide (v2.1 < 64)) (
req ((8 : Int) ≠ 0) <|
req ((8 : Int) ≠ 0) <|
req (0 ≤ v2.1 ∧ v2.1 < p3.length) <|
req (0 ≤ (wrapK .i64 ((wrapK .i64 ((wrapK .i64 ((wrapK .i64 (p2 + (wrapK .i64 (v2.1.tdiv 8)))) * p0.Wide)) + p1)) + (v2.1.tmod 8))) ∧ (wrapK .i64 ((wrapK .i64 ((wrapK .i64 ((wrapK .i64 (p2 + (wrapK .i64 (v2.1.tdiv 8)))) * p0.Wide)) + p1)) + (v2.1.tmod 8))) < v2.2.length) <|
req ((wrapK .i64 ((wrapK .i64 ((wrapK .i64 ((wrapK .i64 (p2 + (wrapK .i64 (v2.1.tdiv 8)))) * p0.Wide)) + p1)) + (v2.1.tmod 8))).toNat < v2.2.length) <|
some (.go (wrapK .i64 (v2.1 + 1), (v2.2.set ((wrapK .i64 ((wrapK .i64 ((wrapK .i64 ((wrapK .i64 (p2 + (wrapK .i64 (v2.1.tdiv 8)))) * p0.Wide)) + p1)) + (v2.1.tmod 8))).toNat) (wrapK .u8 ((p3.getD v2.1.toNat 0))))))) (
some (.done v2.2))
def spec_l16Put (p0 : Pic) (p1 : Int) (p2 : Int) (p3 : (List Int)) : Option Pic :=
req (p0.Dots.size ≤ maxLen) <|
bnd (loop (spec_l16Put_l2 p0 p1 p2 p3) (0, (numsOf p0.Dots))) fun v4 =>
some (⟨p0.Wide, p0.High, (strOfNums v4)⟩ : Pic)
end
theorem bnd_s {α β : Type} (a : α) (f : α → Option β) : bnd (some a) f = f a := rfl
theorem bnd_e {α β : Type} {x : Option α} {a : α} {f : α → Option β} (h : x = some a) : bnd x f = f a := by subst h; rfl
theorem sel_t {β : Type} (x y : β) : sel true x y = x := rfl
theorem sel_f {β : Type} (x y : β) : sel false x y = y := rfl
theorem sel_n {β : Type} (b : Bool) (x y : β) : sel (!b) x y = sel b y x := by cases b <;> rfl
theorem sel_and (b x : Bool) : sel b (some x) (some false) = some (b && x) := by cases b <;> rfl
theorem sel_or (b x : Bool) : sel b (some true) (some x) = some (b || x) := by cases b <;> rfl
theorem sel_nor (b x : Bool) : sel b (some x) (some true) = some (!b || x) := by cases b <;> rfl
theorem sel_ss {β : Type} (b : Bool) (x y : β) : sel b (some x) (some y) = some (sel b x y) := by cases b <;> rfl
theorem sel_ite {β : Type} (b : Bool) (x y : β) : sel b x y = if b = true then x else y := by cases b <;> rfl
theorem sel_d {β : Type} (p : Prop) [Decidable p] (x y : β) : sel (decide p) x y = if p then x else y := by
 by_cases h : p <;> simp [h, sel]
theorem sel_pos {β : Type} {b : Bool} {x y : β} (h : b = true) : sel b x y = x := by subst h; rfl
theorem sel_neg {β : Type} {b : Bool} {x y : β} (h : b = false) : sel b x y = y := by subst h; rfl
theorem sel_yes {β : Type} {p : Prop} [Decidable p] {x y : β} (h : p) : sel (decide p) x y = x := by simp [h, sel]
theorem sel_no {β : Type} {p : Prop} [Decidable p] {x y : β} (h : ¬ p) : sel (decide p) x y = y := by simp [h, sel]
theorem req_p {β : Type} {c : Prop} [Decidable c] {k : Option β} (h : c) : req c k = k := if_pos h
theorem wk {e : Int} (h1 : -9223372036854775808 ≤ e) (h2 : e ≤ 9223372036854775807) : wrapK .i64 e = e := by
 show wrap64 e = e
 unfold wrap64; omega
theorem w8 {e : Int} (h1 : 0 ≤ e) (h2 : e ≤ 255) : wrapK .u8 e = e := by
 show IntKind.wrap .u8 e = e
 simp [IntKind.wrap, IntKind.signed, IntKind.bits]; omega
theorem tmod_pos {a b : Int} (h : 0 ≤ a) : Int.tmod a b = a % b := Int.tmod_eq_emod_of_nonneg h
theorem tdiv_pos {a b : Int} (h : 0 ≤ a) : Int.tdiv a b = a / b := Int.tdiv_eq_ediv_of_nonneg h
theorem down_to {P : Nat → Prop} (n : Nat) (h0 : P n) (hs : ∀ i, i < n → P (i + 1) → P i) : ∀ i, i ≤ n → P i := by
 intro i hi
 obtain ⟨k, rfl⟩ : ∃ k, n = i + k := ⟨n - i, by omega⟩
 clear hi
 induction k generalizing i with
 | zero => exact h0
 | succ k ih =>
  refine hs i (by omega) ?_
  exact ih (i + 1) (by rw [show i + 1 + k = i + (k + 1) by omega]; exact h0) (fun j hj => hs j (by omega))
theorem lgo {V O : Type} {f : V → Option (Lp V O)} {x y : V} {r : Option O} (h : f x = some (.go y)) (k : loop f y = r) : loop f x = r := by rw [loop_go h]; exact k
theorem ldone {V O : Type} {f : V → Option (Lp V O)} {x : V} {o : O} (h : f x = some (.done o)) : loop f x = some o := loop_done h
theorem loop_inv {V O : Type} {f : V → Option (Lp V O)} (I : V → Prop) (m : V → Nat) (Q : V → O → Prop) (h : ∀ v, I v → (∃ o, f v = some (.done o) ∧ Q v o) ∨ ∃ v', f v = some (.go v') ∧ I v' ∧ m v' < m v ∧ ∀ o, Q v' o → Q v o) : ∀ v, I v → ∃ o, loop f v = some o ∧ Q v o := by
 intro v
 generalize hn : m v = n
 induction n using Nat.strongRecOn generalizing v with
 | _ n ih =>
  intro hv
  rcases h v hv with ⟨o, h1, h2⟩ | ⟨v', h1, h2, h3, h4⟩
  ·
   exact ⟨o, loop_done h1, h2⟩
  ·
   obtain ⟨o, h5, h6⟩ := ih (m v') (by omega) v' rfl h2
   exact ⟨o, by rw [loop_go h1]; exact h5, h4 o h6⟩
theorem getD_at {α : Type} (l : List α) (i : Nat) (h : i < l.length) (d : α) : l.getD i d = l[i] := by
 simp [List.getD_eq_getElem?_getD, List.getElem?_eq_getElem h]
theorem impl_within_eq (a b c : Int) : impl_within a b c = some (decide (b ≤ a ∧ a ≤ c)) := by
 unfold impl_within
 by_cases h : b ≤ a <;> simp [bnd, sel, h]
theorem spec_l01In_eq (a b c : Int) : spec_l01In a b c = some (decide (b ≤ a ∧ a ≤ c)) := by
 unfold spec_l01In
 by_cases h : b ≤ a <;> simp [bnd, sel, h]
theorem set_mid {α : Type} (a : List α) (x y : α) (b : List α) : (a ++ x :: b).set a.length y = a ++ y :: b := by
 induction a with
 | nil => rfl
 | cons z a ih => simp only [List.cons_append, List.length_cons, List.set_cons_succ, ih]
theorem getD_mid {α : Type} (a : List α) (x d : α) (b : List α) : (a ++ x :: b).getD a.length d = x := by
 induction a with
 | nil => rfl
 | cons z a ih => simp
theorem self_loop {f : Int → Option (Lp Int (Ou Unit Bool))} (n : Nat) (h : ∀ i : Nat, i < n → f i = some (.go ((i + 1 : Nat) : Int))) (h0 : f n = some (.done (.out ()))) : loop f 0 = some (.out ()) :=
 down_to (P := fun i => loop f (i : Int) = some (.out ())) n (loop_done h0) (fun i hi ih => by rw [loop_go (h i hi)]; exact ih) 0 (by omega)
theorem and_255 (y : Int) : 0 ≤ IntKind.wrap .i64 (BitVec.ofInt (IntKind.bits .i64) y &&& BitVec.ofInt (IntKind.bits .i64) 255).toNat ∧ IntKind.wrap .i64 (BitVec.ofInt (IntKind.bits .i64) y &&& BitVec.ofInt (IntKind.bits .i64) 255).toNat ≤ 255 := by
 have h : (BitVec.ofInt (IntKind.bits .i64) y &&& BitVec.ofInt (IntKind.bits .i64) 255).toNat ≤ 255 := by
  rw [BitVec.toNat_and]
  exact Nat.le_trans Nat.and_le_right (by decide)
 generalize (BitVec.ofInt (IntKind.bits .i64) y &&& BitVec.ofInt (IntKind.bits .i64) 255).toNat = n at h ⊢
 rw [← wrapK_eq, wk (by omega) (by omega)]
 omega
def curOk (c : L01Cur) : Prop := c.b_.length ≤ 1048576 ∧ 0 ≤ c.i_
theorem spec_l01New_ev (b : List Int) (hb : b.length ≤ 1048576) : ∃ c, spec_l01New b = some c ∧ curOk c := by
 unfold spec_l01New
 obtain ⟨o, h, _⟩ := loop_inv (f := spec_l01New_l2 b) (fun v => 0 ≤ v.2) (fun v => b.length - v.2.toNat) (fun _ _ => True) (by
  intro ⟨h, i⟩ hi
  unfold spec_l01New_l2
  simp only [sel_and, bnd_s] at hi ⊢
  by_cases h1 : i < b.length ∧ i < 4000
  ·
   rw [sel_pos (by simp; exact h1), req_p ⟨hi, h1.1⟩]
   refine .inr ⟨_, rfl, ?_, ?_, fun _ _ => trivial⟩
   ·
    simp only; rw [wk (by omega) (by omega)]; omega
   ·
    simp only; rw [wk (by omega) (by omega)]; omega
  ·
   rw [sel_neg (by simp; omega)]
   exact .inl ⟨_, rfl, trivial⟩) (wrapK .i64 (94701 + (b.length : Int)), 0) (by simp)
 rw [h]
 exact ⟨_, rfl, hb, by simp⟩
theorem spec_l01Byte_ev (c : L01Cur) (hc : curOk c) : ∃ x c', spec_l01Byte c = some (x, c') ∧ 0 ≤ x ∧ x ≤ 255 ∧ curOk c' := by
 unfold spec_l01Byte
 rw [req_p (by decide), req_p (by decide)]
 obtain ⟨h1, h2⟩ := hc
 by_cases h : c.i_ < c.b_.length
 ·
  rw [sel_yes h, req_p ⟨h2, h⟩, bnd_s]
  refine ⟨_, _, rfl, (and_255 _).1, (and_255 _).2, h1, ?_⟩
  simp only; rw [wk (by omega) (by omega)]; omega
 ·
  rw [sel_no h, bnd_s]
  exact ⟨_, _, rfl, (and_255 _).1, (and_255 _).2, h1, h2⟩
theorem spec_l01Below_ev (c : L01Cur) (n : Int) (hc : curOk c) : ∃ x c', spec_l01Below c n = some (x, c') ∧ 0 ≤ x ∧ (0 < n → x < n) ∧ (n ≤ 0 → x = 0) ∧ curOk c' := by
 unfold spec_l01Below
 by_cases h0 : n ≤ 0
 ·
  rw [sel_yes h0]; exact ⟨_, _, rfl, by omega, fun h => by omega, fun _ => rfl, hc⟩
 ·
  rw [sel_no h0]
  obtain ⟨x, c1, e1, a1, b1, hc1⟩ := spec_l01Byte_ev c hc
  by_cases h1 : n ≤ 256
  ·
   rw [sel_yes h1, e1, bnd_s, req_p (by omega)]
   refine ⟨_, _, rfl, ?_, fun _ => ?_, fun h => by omega, hc1⟩
   ·
    simp only; rw [tmod_pos a1]; exact Int.emod_nonneg _ (by omega)
   ·
    simp only; rw [tmod_pos a1]; exact Int.emod_lt_of_pos _ (by omega)
  ·
   obtain ⟨y, c2, e2, a2, b2, hc2⟩ := spec_l01Byte_ev c1 hc1
   obtain ⟨z, c3, e3, a3, b3, hc3⟩ := spec_l01Byte_ev c2 hc2
   obtain ⟨u, c4, e4, a4, b4, hc4⟩ := spec_l01Byte_ev c3 hc3
   rw [sel_no h1, e1, bnd_s]
   simp only
   rw [e2, bnd_s]
   simp only
   rw [e3, bnd_s]
   simp only
   rw [e4, bnd_s, req_p (by omega)]
   simp only
   rw [wk (e := x * 16777216) (by omega) (by omega), wk (e := y * 65536) (by omega) (by omega), wk (e := z * 256) (by omega) (by omega), wk (e := x * 16777216 + y * 65536) (by omega) (by omega), wk (e := x * 16777216 + y * 65536 + z * 256) (by omega) (by omega), wk (by omega) (by omega), tmod_pos (by omega)]
   exact ⟨_, _, rfl, Int.emod_nonneg _ (by omega), fun _ => Int.emod_lt_of_pos _ (by omega), fun h => by omega, hc4⟩
theorem spec_l01Once_ev (c : L01Cur) (n : Int) (hc : curOk c) : ∃ x c', spec_l01Once c n = some (x, c') ∧ curOk c' := by
 unfold spec_l01Once
 obtain ⟨x, c', e, _, _, _, h⟩ := spec_l01Below_ev c n hc
 rw [e, bnd_s]; exact ⟨_, _, rfl, h⟩
theorem laws_big_eq (l : List Int) : laws_big l = some (decide ((l.length : Int) > 1048576)) := rfl
def brought (n a b : Int) : Int := if b < a ∨ n < a then a else if n > b then b else n
theorem impl_Brought_eq (n a b : Int) : impl_Brought n a b = some (brought n a b) := by
 unfold impl_Brought brought
 congr 1
 repeat' split
 all_goals omega
theorem brought_in {n a b : Int} (h : a ≤ b) : a ≤ brought n a b ∧ brought n a b ≤ b := by
 unfold brought
 repeat' split
 all_goals omega
theorem spec_Brought_eq (n a b : Int) : spec_Brought n a b = some (brought n a b) := by
 unfold spec_Brought brought
 rw [sel_or, bnd_s]
 by_cases h : b < a ∨ n < a
 ·
  rw [if_pos h, sel_pos (by simpa using h)]
 ·
  rw [if_neg h, sel_neg (by simp; omega), sel_d]; split <;> rfl
def okSide (n : Int) : Bool := decide (1 ≤ n ∧ n ≤ 8)
def isum : List Int → Int
 | [] => 0
 | x :: r => x + isum r
def okSides (l : List Int) : Bool := decide (1 ≤ l.length ∧ l.length ≤ 4) && l.all okSide
def sumIf (l : List Int) : Int := if okSides l = true then isum l else 0
theorem isum_bounds : ∀ {l : List Int}, l.all okSide = true → (l.length : Int) ≤ isum l ∧ isum l ≤ 8 * l.length
 | [], _ => by simp [isum]
 | x :: r, h => by
  rw [List.all_cons, Bool.and_eq_true] at h
  have := isum_bounds h.2
  have hx := h.1
  unfold okSide at hx
  simp only [decide_eq_true_eq] at hx
  rw [isum, List.length_cons]
  omega
theorem sumIf_bounds (l : List Int) : 0 ≤ sumIf l ∧ sumIf l ≤ 32 := by
 unfold sumIf
 split
 ·
  rename_i h
  unfold okSides at h
  rw [Bool.and_eq_true, decide_eq_true_eq] at h
  have := isum_bounds h.2
  omega
 ·
  omega
theorem spec_l05Sum_eq (l : List Int) : spec_l05Sum l = some (sumIf l) := by
 unfold spec_l05Sum sumIf okSides
 rw [sel_or, bnd_s]
 by_cases h : 1 ≤ l.length ∧ l.length ≤ 4
 ·
  rw [sel_neg (by simp; omega), decide_eq_true h, Bool.true_and]
  have key : ∀ (r a : List Int) (t : Int), l = a ++ r → 0 ≤ t → t ≤ 8 * a.length → loop (spec_l05Sum_l2 l) (t, (a.length : Int)) = some (if r.all okSide = true then .out (t + isum r) else .ret 0) := by
   intro r
   induction r with
   | nil =>
    intro a t ha h0 h1
    rw [List.append_nil] at ha
    refine ldone ?_
    unfold spec_l05Sum_l2
    simp only
    rw [sel_no (by rw [ha]; omega)]
    simp [isum]
   | cons x r ih =>
    intro a t ha h0 h1
    have hlen : a.length < l.length := by rw [ha]; simp
    have hx : l.getD a.length 0 = x := by rw [ha]; exact getD_mid a x _ r
    have hstep : spec_l05Sum_l2 l (t, (a.length : Int)) = sel (okSide x) (some (.go (wrapK .i64 (t + x), ((a.length + 1 : Nat) : Int)))) (some (.done (.ret 0))) := by
     unfold spec_l05Sum_l2
     simp only [Int.toNat_natCast, hx]
     rw [sel_yes (by omega), req_p (by omega), spec_l01In_eq, bnd_s, sel_n, req_p (by omega), wk (e := (a.length : Int) + 1) (by omega) (by omega)]
     rfl
    cases e : okSide x with
    | true =>
     rw [e] at hstep
     have hx2 := e
     unfold okSide at hx2
     simp only [decide_eq_true_eq] at hx2
     rw [wk (by omega) (by omega), sel_t] at hstep
     have := ih (a ++ [x]) (t + x) (by rw [ha]; simp) (by omega) (by simp; omega)
     rw [List.length_append, List.length_singleton] at this
     rw [loop_go hstep, this, List.all_cons, e, Bool.true_and, isum, Int.add_assoc]
    | false =>
     rw [e, sel_f] at hstep
     rw [loop_done hstep, List.all_cons, e, Bool.false_and]; rfl
  have := key l [] 0 rfl (by omega) (by simp)
  simp only [List.length_nil, Int.zero_add] at this
  rw [show (((0 : Int), (0 : Int))) = (0, ((0 : Nat) : Int)) from rfl, this, bnd_s]
  cases l.all okSide <;> rfl
 ·
  rw [sel_pos (by simp; omega), decide_eq_false h, Bool.false_and]; rfl
def squares (s : Seq) : Int := sumIf s.Cols * sumIf s.Rows
theorem squares_bounds (s : Seq) : 0 ≤ squares s ∧ squares s ≤ 1024 := by
 unfold squares
 have h1 := sumIf_bounds s.Cols
 have h2 := sumIf_bounds s.Rows
 refine ⟨Int.mul_nonneg h1.1 h2.1, ?_⟩
 calc sumIf s.Cols * sumIf s.Rows ≤ 32 * sumIf s.Rows := Int.mul_le_mul_of_nonneg_right h1.2 h2.1
  _ ≤ 1024 := by omega
theorem spec_SquaresOf_eq (s : Seq) : spec_SquaresOf s = some (squares s) := by
 have h := squares_bounds s
 unfold spec_SquaresOf
 rw [spec_l05Sum_eq, bnd_s, spec_l05Sum_eq, bnd_s, wk (by show _ ≤ squares s; omega) (by show squares s ≤ _; omega)]
 rfl
def levelSquares (n : Int) : Int := if n = 1 then 16 else if n = 2 then 64 else if n = 3 then 256 else 0
theorem spec_LevelSquares_eq (n : Int) : spec_LevelSquares n = some (levelSquares n) := by
 unfold spec_LevelSquares levelSquares
 simp only [sel_ite, beq_iff_eq]
 repeat' split
 all_goals rfl
def seqOk (s : Seq) : Bool := decide (1 ≤ squares s ∧ squares s ≤ levelSquares s.Level) && decide (3 ≤ s.Bits ∧ s.Bits ≤ 8)
theorem spec_SeqOk_eq (s : Seq) : spec_SeqOk s = some (seqOk s) := by
 unfold spec_SeqOk seqOk
 simp only [spec_SquaresOf_eq, spec_LevelSquares_eq, spec_l01In_eq, bnd_s, sel_and]
theorem seqOk_sides {s : Seq} (h : seqOk s = true) : okSides s.Cols = true ∧ okSides s.Rows = true ∧ 3 ≤ s.Bits ∧ s.Bits ≤ 8 := by
 unfold seqOk at h
 rw [Bool.and_eq_true, decide_eq_true_eq, decide_eq_true_eq] at h
 obtain ⟨⟨h1, _⟩, h3⟩ := h
 unfold squares sumIf at h1
 refine ⟨?_, ?_, h3⟩
 ·
  refine Classical.byContradiction fun e => ?_
  rw [if_neg e, Int.zero_mul] at h1; omega
 ·
  refine Classical.byContradiction fun e => ?_
  rw [if_neg e, Int.mul_zero] at h1; omega
def tilesOf (s : Seq) : Int := if seqOk s = true then (s.Cols.length : Int) * s.Rows.length else 0
theorem okSides_len {l : List Int} (h : okSides l = true) : 1 ≤ l.length ∧ l.length ≤ 4 := by
 unfold okSides at h; rw [Bool.and_eq_true, decide_eq_true_eq] at h; exact h.1
theorem tiles_small {s : Seq} (h : seqOk s = true) : 1 ≤ (s.Cols.length : Int) * s.Rows.length ∧ (s.Cols.length : Int) * s.Rows.length ≤ 16 := by
 obtain ⟨h1, h2, _⟩ := seqOk_sides h
 have a := okSides_len h1
 have b := okSides_len h2
 have e : ∀ x y : Nat, 1 ≤ x → x ≤ 4 → 1 ≤ y → y ≤ 4 → 1 ≤ x * y ∧ x * y ≤ 16 := by
  intro x y h1 h2 h3 h4
  rcases (show x = 1 ∨ x = 2 ∨ x = 3 ∨ x = 4 by omega) with rfl | rfl | rfl | rfl <;> omega
 have := e _ _ a.1 a.2 b.1 b.2
 rw [← Int.natCast_mul]; omega
theorem spec_TilesOf_eq (s : Seq) : spec_TilesOf s = some (tilesOf s) := by
 unfold spec_TilesOf tilesOf
 rw [spec_SeqOk_eq, bnd_s, sel_n]
 cases h : seqOk s with
 | false => rfl
 | true => have := tiles_small h; rw [sel_t, wk (by omega) (by omega), if_pos rfl]
def parOk (p : Par) : Bool := decide (0 ≤ p.Qp ∧ p.Qp ≤ 40) && !(p.Large && p.Exact)
theorem impl_ParOk_eq (p : Par) : impl_ParOk p = some (parOk p) := by
 unfold impl_ParOk parOk
 rw [impl_within_eq, bnd_s, sel_nor, sel_and, bnd_s]
 cases p.Large <;> cases p.Exact <;> rfl
def picOk (p : Pic) : Bool := decide (1 ≤ p.Wide ∧ p.Wide ≤ 256) && (decide (1 ≤ p.High ∧ p.High ≤ 256) && ((p.Dots.size : Int) == p.Wide * p.High))
theorem area_small {w h : Int} (h1 : 1 ≤ w ∧ w ≤ 256) (h2 : 1 ≤ h ∧ h ≤ 256) : 1 ≤ w * h ∧ w * h ≤ 65536 := by
 have a : w * 1 ≤ w * h := Int.mul_le_mul_of_nonneg_left h2.1 (by omega)
 have b : w * h ≤ 256 * h := Int.mul_le_mul_of_nonneg_right h1.2 (by omega)
 omega
theorem spec_PicOk_eq (p : Pic) : spec_PicOk p = some (picOk p) := by
 unfold spec_PicOk picOk
 simp only [spec_l01In_eq, bnd_s, sel_and]
 by_cases h1 : 1 ≤ p.Wide ∧ p.Wide ≤ 256
 ·
  by_cases h2 : 1 ≤ p.High ∧ p.High ≤ 256
  ·
   have := area_small h1 h2
   rw [wk (by omega) (by omega)]
  ·
   rw [decide_eq_false h2, Bool.false_and, Bool.false_and]
 ·
  rw [decide_eq_false h1, Bool.false_and, Bool.false_and]
theorem impl_PicOk_eq (p : Pic) : impl_PicOk p = some (picOk p) := by
 unfold impl_PicOk picOk
 simp only [impl_within_eq, bnd_s, sel_and]
 by_cases h1 : 1 ≤ p.Wide ∧ p.Wide ≤ 256
 ·
  by_cases h2 : 1 ≤ p.High ∧ p.High ≤ 256
  ·
   have := area_small h1 h2
   rw [wk (by omega) (by omega)]
  ·
   rw [decide_eq_false h2, Bool.false_and, Bool.false_and]
 ·
  rw [decide_eq_false h1, Bool.false_and, Bool.false_and]
def byteL (l : List Int) : Prop := ∀ x ∈ l, 0 ≤ x ∧ x ≤ 255
theorem nums_str (l : List Int) (h : byteL l) : numsOf (strOfNums l) = l := by
 unfold numsOf
 rw [strOfNums_data, List.map_map]
 have : ∀ x ∈ l, ((fun b : UInt8 => (b.toNat : Int)) ∘ fun n : Int => UInt8.ofNat n.toNat) x = x := by
  intro x hx
  have := h x hx
  simp only [Function.comp_apply, UInt8.toNat_ofNat']
  omega
 rw [List.map_congr_left this, List.map_id']
theorem bt_str (l : List Int) (h : byteL l) (i : Nat) (hi : i < l.length) : btOf (strOfNums l) (i : Int) = l.getD i 0 := by
 unfold btOf
 rw [dif_pos (by rw [Int.toNat_natCast, strOfNums_size]; exact hi)]
 have hx := h l[i] (List.getElem_mem hi)
 rw [getD_at l i hi]
 show ((((l.map fun n => UInt8.ofNat n.toNat).toArray)[(i : Int).toNat]'(by simpa using hi)).toNat : Int) = _
 simp only [Int.toNat_natCast, List.getElem_toArray, List.getElem_map, UInt8.toNat_ofNat']
 omega
theorem and_1 (y : Int) : IntKind.wrap .i64 (BitVec.ofInt (IntKind.bits .i64) y &&& BitVec.ofInt (IntKind.bits .i64) 1).toNat = y % 2 := by
 have h : (BitVec.ofInt 64 y &&& BitVec.ofInt 64 1).toNat = (y % 2).toNat := by
  rw [BitVec.toNat_and]
  have e1 : (BitVec.ofInt 64 1).toNat = 1 := by decide
  rw [e1, Nat.and_one_is_mod, BitVec.toNat_ofInt]
  omega
 show IntKind.wrap .i64 ((BitVec.ofInt 64 y &&& BitVec.ofInt 64 1).toNat : Int) = _
 rw [h, ← wrapK_eq, wk (by omega) (by omega)]
 omega
def fixL : Nat → Int → List Int
 | 0, _ => []
 | w + 1, n => fixL w (n / 2) ++ [48 + n % 2]
def bitL (l : List Int) : Prop := ∀ x ∈ l, x = 48 ∨ x = 49
theorem bitL_append {a b : List Int} (ha : bitL a) (hb : bitL b) : bitL (a ++ b) := fun x hx => (List.mem_append.1 hx).elim (ha x) (hb x)
theorem bitL_rep (n : Nat) : bitL (List.replicate n 48) := fun x hx => .inl (List.eq_of_mem_replicate hx)
theorem bitL_byte {l : List Int} (h : bitL l) : byteL l := fun x hx => by rcases h x hx with e | e <;> omega
theorem bitL_nil : bitL [] := fun x hx => by simp at hx
theorem signs_loop (w : Nat) : ∀ (k : Nat) (n : Int) (s : List Int), 0 ≤ n → n ≤ 9223372036854775807 → k + s.length ≤ 100000 → loop impl_signs_l2 (n, (k : Int) - 1, List.replicate k 0 ++ s) = some (fixL k n ++ s) := by
 intro k
 induction k with
 | zero =>
  intro n s h0 h1 hl
  refine ldone ?_
  unfold impl_signs_l2
  simp only
  rw [sel_no (by omega)]
  simp [fixL]
 | succ k ih =>
  intro n s h0 h1 hl
  have e1 : List.replicate (k + 1) (0 : Int) ++ s = List.replicate k 0 ++ 0 :: s := by rw [List.replicate_succ', List.append_assoc]; rfl
  have e2 := set_mid (List.replicate k (0 : Int)) 0 (48 + n % 2) s
  rw [List.length_replicate] at e2
  refine lgo (y := (n / 2, (k : Int) - 1, List.replicate k 0 ++ (48 + n % 2) :: s)) ?_ ?_
  ·
   unfold impl_signs_l2
   have e3 : (((k + 1 : Nat) : Int) - 1).toNat = k := by omega
   simp only [e1, e3]
   rw [sel_yes (by omega), req_p (by simp; omega), req_p (by simp), req_p (by decide), and_1, wk (e := 48 + n % 2) (by omega) (by omega), w8 (by omega) (by omega), e2, wk (by omega) (by omega)]
   rw [show ((k + 1 : Nat) : Int) - 1 - 1 = (k : Int) - 1 by omega]
   rfl
  ·
   rw [ih (n / 2) ((48 + n % 2) :: s) (by omega) (by omega) (by simp; omega), fixL, List.append_assoc]; rfl
theorem impl_signs_eq (n : Int) (w : Nat) (h0 : 0 ≤ n) (h1 : n ≤ 9223372036854775807) (hw : w ≤ 1000) : impl_signs n (w : Int) = some (strOfNums (fixL w n)) := by
 unfold impl_signs
 rw [req_p (by omega), wk (by omega) (by omega), Int.toNat_natCast]
 have := signs_loop w w n [] h0 h1 (by simp; omega)
 rw [List.append_nil, List.append_nil] at this
 rw [this, bnd_s]
def figs (m : Nat) : Nat := if h : m = 0 then 0 else figs (m / 2) + 1
termination_by m
decreasing_by omega
def binL (m : Nat) : List Int := if h : m = 0 then [] else binL (m / 2) ++ [48 + ((m % 2 : Nat) : Int)]
termination_by m
decreasing_by omega
theorem binL_len (m : Nat) : (binL m).length = figs m := by
 induction m using Nat.strongRecOn with
 | _ m ih =>
  rw [binL, figs]
  by_cases h : m = 0
  ·
   rw [dif_pos h, dif_pos h]; rfl
  ·
   rw [dif_neg h, dif_neg h, List.length_append, ih (m / 2) (by omega)]; rfl
theorem figs_le {m j : Nat} (h : m < 2 ^ j) : figs m ≤ j := by
 induction j generalizing m with
 | zero => rw [figs, dif_pos (by simp at h; omega)]; omega
 | succ j ih =>
  rw [figs]
  split
  ·
   omega
  ·
   have := ih (m := m / 2) (by rw [Nat.pow_succ] at h; omega)
   omega
theorem figs_pos {m : Nat} (h : 0 < m) : 1 ≤ figs m := by rw [figs, dif_neg (by omega)]; omega
theorem binL_bit (m : Nat) : bitL (binL m) := by
 induction m using Nat.strongRecOn with
 | _ m ih =>
  rw [binL]
  by_cases h : m = 0
  ·
   rw [dif_pos h]; exact bitL_nil
  ·
   rw [dif_neg h]; exact bitL_append (ih (m / 2) (by omega)) (fun x hx => by rw [List.mem_singleton.1 hx]; omega)
theorem fixL_bin (z m : Nat) : fixL (figs m + z) m = List.replicate z 48 ++ binL m := by
 induction m using Nat.strongRecOn with
 | _ m ih =>
  rw [binL, figs]
  by_cases h : m = 0
  ·
   rw [dif_pos h, dif_pos h, h, List.append_nil, Nat.zero_add]
   clear ih h
   induction z with
   | zero => rfl
   | succ z iz => rw [fixL, show ((0 : Nat) : Int) / 2 = ((0 : Nat) : Int) from rfl, iz, List.replicate_succ']; rfl
  ·
   rw [dif_neg h, dif_neg h, show figs (m / 2) + 1 + z = figs (m / 2) + z + 1 by omega, fixL, show (m : Int) / 2 = ((m / 2 : Nat) : Int) by omega, ih (m / 2) (by omega), List.append_assoc, show (m : Int) % 2 = ((m % 2 : Nat) : Int) by omega]
def ueL (n : Nat) : List Int := List.replicate (figs (n + 1) - 1) 48 ++ binL (n + 1)
theorem ueL_bit (n : Nat) : bitL (ueL n) := bitL_append (bitL_rep _) (binL_bit _)
theorem ueL_len (n : Nat) (h : n ≤ 1000000) : (ueL n).length ≤ 39 ∧ 1 ≤ (ueL n).length := by
 unfold ueL
 rw [List.length_append, List.length_replicate, binL_len]
 have := figs_le (m := n + 1) (j := 20) (by omega)
 have := figs_pos (m := n + 1) (by omega)
 omega
theorem figuresOf_loop : ∀ (m : Nat) (k : Int), 0 ≤ k → k ≤ 1000 → m ≤ 9223372036854775807 → loop impl_figuresOf_l2 ((m : Int), k) = some (k + figs m) := by
 have main : ∀ (j m : Nat) (k : Int), m < 2 ^ j → j ≤ 63 → 0 ≤ k → k + j ≤ 2000 → loop impl_figuresOf_l2 ((m : Int), k) = some (k + figs m) := by
  intro j
  induction j with
  | zero =>
   intro m k hm _ _ _
   have : m = 0 := by simp at hm; omega
   subst this
   refine ldone ?_
   unfold impl_figuresOf_l2
   simp only
   rw [sel_no (by omega), figs, dif_pos rfl]; simp
  | succ j ih =>
   intro m k hm hj h0 h1
   by_cases h : m = 0
   ·
    subst h
    refine ldone ?_
    unfold impl_figuresOf_l2
    simp only
    rw [sel_no (by omega), figs, dif_pos rfl]; simp
   ·
    refine lgo (y := (((m / 2 : Nat) : Int), k + 1)) ?_ ?_
    ·
     unfold impl_figuresOf_l2
     simp only
     rw [sel_yes (by omega), req_p (by decide), wk (by omega) (by omega)]
     show some (Lp.go ((m : Int) / 2, k + 1)) = _
     congr 3
    ·
     rw [ih (m / 2) (k + 1) (by rw [Nat.pow_succ] at hm; omega) (by omega) (by omega) (by omega), figs.eq_def m, dif_neg h]
     congr 1; omega
 intro m k h0 h1 hm
 exact main 63 m k (by omega) (by omega) h0 (by omega)
theorem impl_ue_eq (n : Nat) (h : n ≤ 1000000) : impl_ue (n : Int) = some (strOfNums (ueL n)) := by
 unfold impl_ue impl_figuresOf
 rw [wk (e := (n : Int) + 1) (by omega) (by omega)]
 have := figuresOf_loop (n + 1) 0 (by omega) (by omega) (by omega)
 rw [show ((n + 1 : Nat) : Int) = (n : Int) + 1 by omega, Int.zero_add] at this
 rw [this, bnd_s, bnd_s]
 have h1 := figs_le (m := n + 1) (j := 20) (by omega)
 have h2 := figs_pos (m := n + 1) (by omega)
 rw [wk (e := 2 * (figs (n + 1) : Int)) (by omega) (by omega), wk (by omega) (by omega), show 2 * (figs (n + 1) : Int) - 1 = ((figs (n + 1) + (figs (n + 1) - 1) : Nat) : Int) by omega, impl_signs_eq _ _ (by omega) (by omega) (by omega), bnd_s,
  show (n : Int) + 1 = ((n + 1 : Nat) : Int) by omega, fixL_bin]
 rfl
theorem bit_test (x : Int) (h : x = 48 ∨ x = 49) : ((x != 48) && (x != 49)) = false := by rcases h with rfl | rfl <;> rfl
theorem row_loop (l : List Int) (hl : bitL l) (hn : l.length ≤ 9223372036854775806) (f : Int → Option (Lp Int (Ou Unit Bool)))
  (h : ∀ i : Nat, i < l.length → f (i : Int) = sel (((l.getD i 0) != 48) && ((l.getD i 0) != 49)) (some (.done (.ret false))) (some (.go ((i + 1 : Nat) : Int)))) (h0 : f (l.length : Int) = some (.done (.out ()))) : loop f 0 = some (.out ()) :=
 self_loop l.length (fun i hi => by rw [h i hi, bit_test _ (by rw [getD_at l i hi]; exact hl _ (List.getElem_mem hi)), sel_f]) h0
theorem impl_RowOk_eq (l : List Int) (hl : bitL l) (hn : l.length ≤ 400000) : impl_RowOk (strOfNums l) = some true := by
 unfold impl_RowOk
 rw [strOfNums_size, sel_no (by omega), row_loop l hl (by omega) (impl_RowOk_l2 (strOfNums l)) (fun i hi => by
  unfold impl_RowOk_l2
  rw [strOfNums_size, bt_str l (bitL_byte hl) i hi, sel_yes (by omega), req_p (by omega), req_p (by omega), sel_and, bnd_s, wk (by omega) (by omega)]; rfl) (by
  unfold impl_RowOk_l2; rw [strOfNums_size, sel_no (by omega)])]
 rfl
def val8 (l : List Int) : Int := l.foldl (fun x b => 2 * x + b - 48) 0
theorem val_acc (l : List Int) : ∀ x : Int, l.foldl (fun x b => 2 * x + b - 48) x = x * 2 ^ l.length + val8 l := by
 induction l with
 | nil => intro x; simp [val8]
 | cons b l ih =>
  intro x
  unfold val8
  rw [List.foldl_cons, List.foldl_cons, ih, ih (2 * 0 + b - 48), List.length_cons, Int.pow_succ]
  have e1 : (2 * x + b - 48) * 2 ^ l.length = 2 * (x * 2 ^ l.length) + (b - 48) * 2 ^ l.length := by
   rw [show 2 * x + b - 48 = 2 * x + (b - 48) by omega, Int.add_mul, Int.mul_assoc]
  have e2 : x * (2 ^ l.length * 2) = 2 * (x * 2 ^ l.length) := by rw [← Int.mul_assoc, Int.mul_comm]
  rw [e1, e2, show (2 : Int) * 0 + b - 48 = b - 48 by omega]
  omega
theorem val_app (a b : List Int) : val8 (a ++ b) = val8 a * 2 ^ b.length + val8 b := by
 show (a ++ b).foldl _ 0 = _
 rw [List.foldl_append]
 exact val_acc b (val8 a)
theorem val_rep (z : Nat) : val8 (List.replicate z 48) = 0 := by
 induction z with
 | zero => rfl
 | succ z ih => rw [List.replicate_succ', val_app, ih]; rfl
theorem val_range {l : List Int} (h : bitL l) : 0 ≤ val8 l ∧ val8 l < 2 ^ l.length := by
 induction l with
 | nil => simp [val8]
 | cons b l ih =>
  have h1 := ih (fun x hx => h x (by simp [hx]))
  have h2 := h b (by simp)
  rw [show b :: l = [b] ++ l from rfl, val_app, List.length_append, Int.pow_add, show val8 [b] = b - 48 by simp [val8]]
  have : (2 : Int) ^ [b].length = 2 := rfl
  rw [this]
  rcases h2 with rfl | rfl <;> omega
def foldN (n : Int) : Nat := if n > 0 then (2 * n - 1).toNat else (-2 * n).toNat
theorem impl_FoldSe_eq (n : Int) (h : -500000 ≤ n ∧ n ≤ 500000) : impl_FoldSe n = some ((foldN n : Int), true) := by
 unfold impl_FoldSe foldN
 rw [impl_within_eq, bnd_s, sel_n, sel_yes h, sel_d, wk (e := 2 * n) (by omega) (by omega), wk (by omega) (by omega), wk (by omega) (by omega)]
 split
 ·
  rw [Int.toNat_of_nonneg (by omega)]
 ·
  rw [Int.toNat_of_nonneg (by omega)]
theorem foldN_le (n : Int) (h : -500000 ≤ n ∧ n ≤ 500000) : foldN n ≤ 1000000 := by unfold foldN; split <;> omega
def seL (n : Int) : List Int := ueL (foldN n)
theorem seL_len (n : Int) (h : -500000 ≤ n ∧ n ≤ 500000) : (seL n).length ≤ 39 := (ueL_len _ (foldN_le n h)).1
theorem impl_SeRow_eq (n : Int) (h : -500000 ≤ n ∧ n ≤ 500000) : impl_SeRow n = some (strOfNums (seL n), true) := by
 have := foldN_le n h
 unfold impl_SeRow
 rw [impl_FoldSe_eq n h, bnd_s, sel_n, sel_t]
 unfold impl_UeRow
 rw [impl_within_eq, bnd_s, sel_n, sel_yes (by omega), impl_ue_eq _ this, bnd_s, bnd_s]; rfl
def lvIn (x : Int) : Bool := decide (-5000 ≤ x ∧ x ≤ 5000)
theorem lvIn_iff {x : Int} : lvIn x = true ↔ -5000 ≤ x ∧ x ≤ 5000 := by simp [lvIn]
def nz : List Int → Nat
 | [] => 0
 | x :: r => if x = 0 then nz r else nz r + 1
theorem nz_le : ∀ l : List Int, nz l ≤ l.length
 | [] => by simp [nz]
 | x :: r => by rw [nz, List.length_cons]; have := nz_le r; split <;> omega
def runsB : Nat → List Int → List Int
 | _, [] => []
 | g, x :: r => if x = 0 then runsB (g + 1) r else ueL g ++ seL x ++ runsB 0 r
def runsL (l : List Int) : List Int := ueL (nz l) ++ runsB 0 l
theorem runsB_bit : ∀ (l : List Int) (g : Nat), bitL (runsB g l)
 | [], _ => bitL_nil
 | x :: r, g => by
  rw [runsB]
  split
  ·
   exact runsB_bit r _
  ·
   exact bitL_append (bitL_append (ueL_bit _) (ueL_bit _)) (runsB_bit r _)
theorem runsB_len : ∀ (l : List Int) (g : Nat), l.all lvIn = true → g + l.length ≤ 1000 → (runsB g l).length ≤ 78 * l.length
 | [], _, _, _ => by simp [runsB]
 | x :: r, g, h, hg => by
  rw [List.all_cons, Bool.and_eq_true, lvIn_iff] at h
  rw [List.length_cons] at hg ⊢
  rw [runsB]
  split
  ·
   have := runsB_len r (g + 1) h.2 (by omega); omega
  ·
   have := runsB_len r 0 h.2 (by omega)
   have a := ueL_len g (by omega)
   have b := seL_len x (by omega)
   simp only [List.length_append]; omega
theorem runsL_bit (l : List Int) : bitL (runsL l) := bitL_append (ueL_bit _) (runsB_bit _ _)
theorem runsL_len (l : List Int) (h : l.all lvIn = true) (hl : l.length ≤ 64) : (runsL l).length ≤ 39 + 78 * l.length := by
 have := runsB_len l 0 h (by omega)
 have := nz_le l
 have := ueL_len (nz l) (by omega)
 unfold runsL; rw [List.length_append]; omega
theorem impl_runs_eq (l : List Int) (h : l.all lvIn = true) (hl : l.length ≤ 64) : impl_runs l = some (runsL l) := by
 have hm : maxLen = 9223372036854775807 := rfl
 unfold impl_runs
 have k1 : ∀ (r a : List Int) (n : Nat), l = a ++ r → n ≤ a.length → loop (impl_runs_l2 l) ((n : Int), (a.length : Int)) = some ((n + nz r : Nat) : Int) := by
  intro r
  induction r with
  | nil =>
   intro a n ha _
   rw [List.append_nil] at ha
   refine ldone ?_
   unfold impl_runs_l2
   simp only
   rw [sel_no (by rw [ha]; omega)]; rfl
  | cons x r ih =>
   intro a n ha hn
   have hlen : a.length < l.length := by rw [ha]; simp
   have hx : l.getD a.length 0 = x := by rw [ha]; exact getD_mid a x _ r
   by_cases e : x = 0
   ·
    have hnext := ih (a ++ [x]) n (by rw [ha]; simp) (by simp; omega)
    rw [List.length_append, List.length_singleton] at hnext
    rw [nz, if_pos e, ← hnext]
    refine loop_go ?_
    unfold impl_runs_l2
    simp only [Int.toNat_natCast, hx]
    rw [sel_yes (by omega), req_p (by omega), sel_neg (by simpa using e), bnd_s, wk (by omega) (by omega)]
    rfl
   ·
    have hnext := ih (a ++ [x]) (n + 1) (by rw [ha]; simp) (by simp; omega)
    rw [List.length_append, List.length_singleton] at hnext
    rw [nz, if_neg e, show n + (nz r + 1) = n + 1 + nz r by omega, ← hnext]
    refine loop_go ?_
    unfold impl_runs_l2
    simp only [Int.toNat_natCast, hx]
    rw [sel_yes (by omega), req_p (by omega), sel_pos (by simpa using e), bnd_s, wk (by omega) (by omega), wk (by omega) (by omega)]
    rfl
 refine (bnd_e (k1 l [] 0 rfl (by omega))).trans ?_
 have hz := nz_le l
 have u := ueL_len (nz l) (by omega)
 simp only [Nat.zero_add]
 rw [impl_ue_eq _ (by omega), bnd_s, nums_str _ (bitL_byte (ueL_bit _)), req_p (by simp only [List.length_nil]; omega), List.nil_append]
 have key : ∀ (r a : List Int) (g : Nat) (s : List Int), l = a ++ r → g ≤ a.length → s.length ≤ 39 + 78 * a.length → loop (impl_runs_l4 l) ((g : Int), (a.length : Int), s) = some (s ++ runsB g r) := by
  intro r
  induction r with
  | nil =>
   intro a g s ha _ _
   rw [List.append_nil] at ha
   refine ldone ?_
   unfold impl_runs_l4
   simp only
   rw [sel_no (by rw [ha]; omega), runsB, List.append_nil]
  | cons x r ih =>
   intro a g s ha hg hs
   have hlen : a.length < l.length := by rw [ha]; simp
   have hx : l.getD a.length 0 = x := by rw [ha]; exact getD_mid a x _ r
   have hxi : -5000 ≤ x ∧ x ≤ 5000 := lvIn_iff.1 (List.all_eq_true.1 h x (by rw [ha]; simp))
   by_cases e : x = 0
   ·
    have hnext := ih (a ++ [x]) (g + 1) s (by rw [ha]; simp) (by simp; omega) (by simp; omega)
    rw [List.length_append, List.length_singleton] at hnext
    rw [runsB, if_pos e, ← hnext]
    refine loop_go ?_
    unfold impl_runs_l4
    simp only [Int.toNat_natCast, hx]
    rw [sel_yes (by omega), req_p (by omega), sel_pos (by simpa using e), bnd_s, wk (by omega) (by omega), wk (by omega) (by omega)]
    rfl
   ·
    have u1 := ueL_len g (by omega)
    have u2 := seL_len x (by omega)
    have hnext := ih (a ++ [x]) 0 (s ++ ueL g ++ seL x) (by rw [ha]; simp) (by omega) (by simp only [List.length_append, List.length_singleton]; omega)
    rw [List.length_append, List.length_singleton] at hnext
    rw [runsB, if_neg e, ← List.append_assoc, ← List.append_assoc, ← hnext]
    refine loop_go ?_
    unfold impl_runs_l4
    simp only [Int.toNat_natCast, hx]
    rw [sel_yes (by omega), req_p (by omega), sel_neg (by simpa using e), impl_FoldSe_eq x (by omega), bnd_s, impl_ue_eq g (by omega), bnd_s, nums_str _ (bitL_byte (ueL_bit _)), req_p (by omega), impl_ue_eq _ (foldN_le x (by omega)), bnd_s, nums_str _ (bitL_byte (ueL_bit _)), req_p (by rw [List.length_append]; have : (seL x).length = (ueL (foldN x)).length := rfl; omega), bnd_s, wk (by omega) (by omega)]
    rfl
 exact bnd_e (key l [] 0 (ueL (nz l)) rfl (by omega) (by simp; omega))
def lv64 (l : List Int) : Bool := decide (l.length = 64) && l.all lvIn
theorem all_loop (p : Int → Bool) (l : List Int) (f : Int → Option (Lp Int (Ou Unit Bool))) (h : ∀ i : Nat, i < l.length → f (i : Int) = sel (!(p (l.getD i 0))) (some (.done (.ret false))) (some (.go ((i + 1 : Nat) : Int)))) (h0 : f (l.length : Int) = some (.done (.out ()))) :
  loop f 0 = some (if l.all p = true then .out () else .ret false) := by
 have key : ∀ (r a : List Int), l = a ++ r → loop f (a.length : Int) = some (if r.all p = true then .out () else .ret false) := by
  intro r
  induction r with
  | nil => intro a ha; rw [List.append_nil] at ha; rw [← ha, loop_done h0]; rfl
  | cons x r ih =>
   intro a ha
   have hlen : a.length < l.length := by rw [ha]; simp
   have hx : l.getD a.length 0 = x := by rw [ha]; exact getD_mid a x _ r
   have hs := h a.length hlen
   rw [hx] at hs
   cases e : p x with
   | true =>
    rw [e] at hs
    have := ih (a ++ [x]) (by rw [ha]; simp)
    rw [List.length_append, List.length_singleton] at this
    rw [loop_go hs, this, List.all_cons, e, Bool.true_and]
   | false => rw [e] at hs; rw [loop_done hs, List.all_cons, e, Bool.false_and]; rfl
 exact key l [] rfl
theorem spec_l09All_lv (l : List Int) : spec_l09All l 64 5000 = some (lv64 l) := by
 unfold spec_l09All lv64
 by_cases h : l.length = 64
 ·
  rw [sel_neg (by simp only [bne_eq_false_iff_eq]; omega), all_loop lvIn l (spec_l09All_l2 l 64 5000) (by
   intro i hi
   unfold spec_l09All_l2
   rw [sel_yes (by omega), req_p (by omega), wk (e := 0 - 5000) (by omega) (by omega), spec_l01In_eq, bnd_s, wk (by omega) (by omega), Int.toNat_natCast]
   rfl) (by unfold spec_l09All_l2; rw [sel_no (by omega)]), bnd_s, decide_eq_true h, Bool.true_and]
  cases l.all lvIn <;> rfl
 ·
  rw [sel_pos (by simp only [bne_iff_ne, ne_eq]; omega), decide_eq_false h, Bool.false_and]
theorem impl_areIn_eq (l : List Int) (n lo hi : Int) (hl : l.length ≤ 9223372036854775806) : impl_areIn l n lo hi = some (l.all (fun x => decide (lo ≤ x ∧ x ≤ hi)) && ((l.length : Int) == n)) := by
 unfold impl_areIn
 rw [all_loop (fun x => decide (lo ≤ x ∧ x ≤ hi)) l (impl_areIn_l2 l lo hi) (by
   intro i hi
   unfold impl_areIn_l2
   rw [sel_yes (by omega), req_p (by omega), impl_within_eq, bnd_s, wk (by omega) (by omega), Int.toNat_natCast]
   rfl) (by unfold impl_areIn_l2; rw [sel_no (by omega)]), bnd_s]
 cases l.all (fun x => decide (lo ≤ x ∧ x ≤ hi)) <;> rfl
theorem impl_areLevels_eq (l : List Int) (hl : l.length ≤ 9223372036854775806) : impl_areLevels l = some (lv64 l) := by
 unfold impl_areLevels lv64
 rw [impl_areIn_eq l _ _ _ hl, bnd_s]
 show some (l.all lvIn && ((l.length : Int) == 64)) = _
 have : ((l.length : Int) == 64) = decide (l.length = 64) := by rw [Bool.eq_iff_iff]; simp only [beq_iff_eq, decide_eq_true_eq]; omega
 rw [this, Bool.and_comm]
theorem lv64_parts {l : List Int} (h : lv64 l = true) : l.length = 64 ∧ l.all lvIn = true := by
 unfold lv64 at h; rw [Bool.and_eq_true, decide_eq_true_eq] at h; exact h
def levL (l : List Int) (c : Cond) : List Int := if (c.Large || c.Exact) = true then runsL l else runsL (l.take 16) ++ runsL ((l.drop 16).take 16) ++ runsL ((l.drop 32).take 16) ++ runsL (l.drop 48)
theorem all_take {l : List Int} (h : l.all lvIn = true) (n : Nat) : (l.take n).all lvIn = true := List.all_eq_true.2 fun x hx => List.all_eq_true.1 h x (List.mem_of_mem_take hx)
theorem all_drop {l : List Int} (h : l.all lvIn = true) (n : Nat) : (l.drop n).all lvIn = true := List.all_eq_true.2 fun x hx => List.all_eq_true.1 h x (List.mem_of_mem_drop hx)
theorem levL_bit (l : List Int) (c : Cond) : bitL (levL l c) := by
 unfold levL
 split
 ·
  exact runsL_bit l
 ·
  exact bitL_append (bitL_append (bitL_append (runsL_bit _) (runsL_bit _)) (runsL_bit _)) (runsL_bit _)
theorem levL_len {l : List Int} {c : Cond} (h : lv64 l = true) : (levL l c).length ≤ 5148 := by
 obtain ⟨h1, h2⟩ := lv64_parts h
 unfold levL
 split
 ·
  have := runsL_len l h2 (by omega); omega
 ·
  have a := runsL_len (l.take 16) (all_take h2 _) (by rw [List.length_take]; omega)
  have b := runsL_len ((l.drop 16).take 16) (all_take (all_drop h2 _) _) (by rw [List.length_take, List.length_drop]; omega)
  have c := runsL_len ((l.drop 32).take 16) (all_take (all_drop h2 _) _) (by rw [List.length_take, List.length_drop]; omega)
  have d := runsL_len (l.drop 48) (all_drop h2 _) (by rw [List.length_drop]; omega)
  rw [List.length_take] at a
  rw [List.length_take, List.length_drop] at b c
  rw [List.length_drop] at d
  simp only [List.length_append]; omega
theorem impl_levelsRow_eq (l : List Int) (c : Cond) (h : lv64 l = true) : impl_levelsRow l c = some (levL l c) := by
 have hm : maxLen = 9223372036854775807 := rfl
 obtain ⟨h1, h2⟩ := lv64_parts h
 unfold impl_levelsRow levL
 rw [sel_or, bnd_s]
 by_cases e : (c.Large || c.Exact) = true
 ·
  rw [sel_pos e, if_pos e, impl_runs_eq l h2 (by omega), bnd_s]
 ·
  rw [sel_neg (by simpa using e), if_neg e]
  have step : ∀ (n : Nat) (s : List Int), n < 4 → s.length ≤ 4000 → impl_levelsRow_l2 l ((n : Int), s) = some (.go (((n + 1 : Nat) : Int), s ++ runsL ((l.drop (16 * n)).take 16))) := by
   intro n s hn hs
   have g := runsL_len ((l.drop (16 * n)).take 16) (all_take (all_drop h2 _) _) (by rw [List.length_take, List.length_drop]; omega)
   rw [List.length_take, List.length_drop] at g
   unfold impl_levelsRow_l2
   simp only
   rw [sel_yes (by omega), wk (e := 16 * (n : Int)) (by omega) (by omega), wk (e := 16 * (n : Int) + 16) (by omega) (by omega), req_p (by omega), show (16 * (n : Int)).toNat = 16 * n by omega, show (16 * (n : Int) + 16).toNat - 16 * n = 16 by omega, impl_runs_eq _ (all_take (all_drop h2 _) _) (by rw [List.length_take, List.length_drop]; omega), bnd_s, req_p (by omega), wk (by omega) (by omega)]
   rfl
  have g0 := runsL_len ((l.drop (16 * 0)).take 16) (all_take (all_drop h2 _) _) (by rw [List.length_take, List.length_drop]; omega)
  have g1 := runsL_len ((l.drop (16 * 1)).take 16) (all_take (all_drop h2 _) _) (by rw [List.length_take, List.length_drop]; omega)
  have g2 := runsL_len ((l.drop (16 * 2)).take 16) (all_take (all_drop h2 _) _) (by rw [List.length_take, List.length_drop]; omega)
  rw [List.length_take, List.length_drop] at g0 g1 g2
  have l4 : ∀ s, impl_levelsRow_l2 l (((4 : Nat) : Int), s) = some (.done s) := by intro s; unfold impl_levelsRow_l2; simp only; rw [sel_no (by omega)]
  have e : loop (impl_levelsRow_l2 l) (((0 : Nat) : Int), []) = some ([] ++ runsL ((l.drop (16 * 0)).take 16) ++ runsL ((l.drop (16 * 1)).take 16) ++ runsL ((l.drop (16 * 2)).take 16) ++ runsL ((l.drop (16 * 3)).take 16)) := by
   rw [loop_go (step 0 [] (by omega) (by simp)), loop_go (step 1 _ (by omega) (by simp only [List.length_append, List.length_nil]; omega)), loop_go (step 2 _ (by omega) (by simp only [List.length_append, List.length_nil]; omega)), loop_go (step 3 _ (by omega) (by simp only [List.length_append, List.length_nil]; omega)), loop_done (l4 _)]
  refine (bnd_e e).trans ?_
  rw [List.nil_append, show 16 * 0 = 0 from rfl, List.drop_zero, show (l.drop (16 * 3)).take 16 = l.drop 48 from List.take_of_length_le (by rw [List.length_drop]; omega)]
def condOk (c : Cond) : Bool := decide (0 ≤ c.Qp ∧ c.Qp ≤ 40) && !(c.Large && c.Exact)
theorem spec_CondOk_eq (c : Cond) : spec_CondOk c = some (condOk c) := by
 unfold spec_CondOk condOk
 rw [spec_l01In_eq, bnd_s, sel_nor, sel_and, bnd_s]
 cases c.Large <;> cases c.Exact <;> rfl
theorem impl_CondOk_eq (c : Cond) : impl_CondOk c = some (condOk c) := by
 unfold impl_CondOk condOk
 rw [impl_within_eq, bnd_s, sel_nor, sel_and, bnd_s]
 cases c.Large <;> cases c.Exact <;> rfl
def sqOk (s : Square) : Bool :=
 if s.Kind = 0 then decide (s.Mode = 0 ∧ s.Dx = 0 ∧ s.Dy = 0 ∧ s.Levels.length = 0)
 else if s.Kind = 1 then decide (s.Mode = 0) && (decide (-16 ≤ s.Dx ∧ s.Dx ≤ 16) && (decide (-16 ≤ s.Dy ∧ s.Dy ≤ 16) && lv64 s.Levels))
 else if s.Kind = 2 then decide (0 ≤ s.Mode ∧ s.Mode ≤ 3) && (decide (s.Dx = 0) && (decide (s.Dy = 0) && lv64 s.Levels))
 else false
theorem beq_dec (a b : Int) : (a == b) = decide (a = b) := by rw [Bool.eq_iff_iff]; simp
theorem spec_SquareOk_eq (s : Square) : spec_SquareOk s = some (sqOk s) := by
 unfold spec_SquareOk sqOk
 simp only [spec_l01In_eq, spec_l09All_lv, bnd_s, sel_and, beq_dec]
 simp only [sel_d]
 by_cases h0 : s.Kind = 0
 ·
  rw [if_pos h0, if_pos h0]; congr 1; rw [Bool.eq_iff_iff]; simp
 ·
  rw [if_neg h0, if_neg h0]
  by_cases h1 : s.Kind = 1
  ·
   rw [if_pos h1, if_pos h1]
  ·
   rw [if_neg h1, if_neg h1]
   by_cases h2 : s.Kind = 2
   ·
    rw [decide_eq_true h2, Bool.true_and, if_pos h2]
   ·
    rw [decide_eq_false h2, Bool.false_and, if_neg h2]
theorem impl_SquareOk_eq (s : Square) (hl : s.Levels.length ≤ 9223372036854775806) : impl_SquareOk s = some (sqOk s) := by
 unfold impl_SquareOk sqOk
 simp only [impl_within_eq, impl_areLevels_eq _ hl, bnd_s, sel_and, beq_dec]
 simp only [sel_d]
 by_cases h0 : s.Kind = 0
 ·
  rw [if_pos h0, if_pos h0]; congr 1; rw [Bool.eq_iff_iff]; simp
 ·
  rw [if_neg h0, if_neg h0]
  by_cases h1 : s.Kind = 1
  ·
   rw [if_pos h1, if_pos h1]
  ·
   rw [if_neg h1, if_neg h1]
   by_cases h2 : s.Kind = 2
   ·
    rw [decide_eq_true h2, Bool.true_and, if_pos h2]
   ·
    rw [decide_eq_false h2, Bool.false_and, if_neg h2]
def sqLet (s : Square) (c : Cond) : Bool := !c.Key || s.Kind == 2
def sqL (s : Square) (c : Cond) : List Int :=
 (if c.Key = true then [] else ueL s.Kind.toNat) ++
 (if s.Kind = 1 then seL s.Dx ++ seL s.Dy ++ levL s.Levels c else if s.Kind = 2 then ueL s.Mode.toNat ++ levL s.Levels c else [])
theorem sqOk_kind {s : Square} (h : sqOk s = true) : 0 ≤ s.Kind ∧ s.Kind ≤ 2 := by
 unfold sqOk at h
 repeat' split at h
 all_goals first | omega | simp at h
theorem sqOk_one {s : Square} (h : sqOk s = true) (h1 : s.Kind = 1) : (-16 ≤ s.Dx ∧ s.Dx ≤ 16) ∧ (-16 ≤ s.Dy ∧ s.Dy ≤ 16) ∧ lv64 s.Levels = true := by
 unfold sqOk at h
 rw [if_neg (by omega), if_pos h1] at h
 simp only [Bool.and_eq_true, decide_eq_true_eq] at h
 exact ⟨h.2.1, h.2.2.1, h.2.2.2⟩
theorem sqOk_two {s : Square} (h : sqOk s = true) (h1 : s.Kind = 2) : (0 ≤ s.Mode ∧ s.Mode ≤ 3) ∧ lv64 s.Levels = true := by
 unfold sqOk at h
 rw [if_neg (by omega), if_neg (by omega), if_pos h1] at h
 simp only [Bool.and_eq_true, decide_eq_true_eq] at h
 exact ⟨h.1, h.2.2.2⟩
theorem sqL_bit (s : Square) (c : Cond) : bitL (sqL s c) := by
 unfold sqL
 refine bitL_append ?_ ?_
 ·
  split
  ·
   exact bitL_nil
  ·
   exact ueL_bit _
 ·
  split
  ·
   exact bitL_append (bitL_append (ueL_bit _) (ueL_bit _)) (levL_bit _ _)
  ·
   split
   ·
    exact bitL_append (ueL_bit _) (levL_bit _ _)
   ·
    exact bitL_nil
theorem sqL_len {s : Square} {c : Cond} (h : sqOk s = true) : (sqL s c).length ≤ 5265 := by
 have hk := sqOk_kind h
 have u := ueL_len s.Kind.toNat (by omega)
 have e1 : (if c.Key = true then [] else ueL s.Kind.toNat).length ≤ 39 := by split; simp; exact u.1
 unfold sqL
 rw [List.length_append]
 by_cases h1 : s.Kind = 1
 ·
  obtain ⟨a, b, d⟩ := sqOk_one h h1
  have x := seL_len s.Dx (by omega)
  have y := seL_len s.Dy (by omega)
  have z := levL_len (c := c) d
  rw [if_pos h1]; simp only [List.length_append]; omega
 ·
  by_cases h2 : s.Kind = 2
  ·
   obtain ⟨a, d⟩ := sqOk_two h h2
   have x := ueL_len s.Mode.toNat (by omega)
   have z := levL_len (c := c) d
   rw [if_neg h1, if_pos h2]; simp only [List.length_append]; omega
  ·
   rw [if_neg h1, if_neg h2]; simp only [List.length_nil]; omega
theorem impl_SquareRow_eq (s : Square) (c : Cond) (hl : s.Levels.length ≤ 9223372036854775806) : impl_SquareRow s c = some (if (sqOk s && (condOk c && sqLet s c)) = true then (strOfNums (sqL s c), true) else (⟨#[]⟩, false)) := by
 have hm : maxLen = 9223372036854775807 := rfl
 unfold impl_SquareRow impl_Square_let
 rw [impl_SquareOk_eq s hl, bnd_s, impl_CondOk_eq, bnd_s, sel_nor, bnd_s, bnd_s]
 by_cases hok : (sqOk s && (condOk c && sqLet s c)) = true
 ·
  rw [if_pos hok]
  simp only [Bool.and_eq_true] at hok
  obtain ⟨h, hc, hlet⟩ := hok
  have hk := sqOk_kind h
  have u := ueL_len s.Kind.toNat (by omega)
  unfold sqLet at hlet
  rw [h, hc, sel_t, sel_t, hlet, bnd_s, Bool.not_true, sel_f]
  have e1 : (sel (!c.Key) (bnd (impl_ue s.Kind) fun q6 => req ((([] : List Int).length + (numsOf q6).length) * 1 ≤ 140737488355328 ∧ ([] : List Int).length + (numsOf q6).length ≤ maxLen) <| some (([] : List Int) ++ (numsOf q6))) (some ([] : List Int))) = some (if c.Key = true then [] else ueL s.Kind.toNat) := by
   rw [show s.Kind = ((s.Kind.toNat : Nat) : Int) by omega, impl_ue_eq _ (by omega), bnd_s, nums_str _ (bitL_byte (ueL_bit _)), req_p (by simp only [List.length_nil]; omega), Int.toNat_natCast]
   cases c.Key <;> rfl
  rw [e1, bnd_s]
  have e2 : (if c.Key = true then [] else ueL s.Kind.toNat).length ≤ 39 := by split; simp; exact u.1
  unfold sqL
  generalize (if c.Key = true then [] else ueL s.Kind.toNat) = k at e2 ⊢
  by_cases h1 : s.Kind = 1
  ·
   obtain ⟨a, b, d⟩ := sqOk_one h h1
   have x := seL_len s.Dx (by omega)
   have y := seL_len s.Dy (by omega)
   have z := levL_len (c := c) d
   rw [if_pos h1, sel_pos (by simpa using h1), impl_SeRow_eq _ (by omega), bnd_s, impl_SeRow_eq _ (by omega), bnd_s]
   simp only
   rw [nums_str (seL s.Dx) (bitL_byte (ueL_bit _)), nums_str (seL s.Dy) (bitL_byte (ueL_bit _)), req_p (by omega), req_p (by rw [List.length_append]; omega), impl_levelsRow_eq _ c d, bnd_s, req_p (by simp only [List.length_append]; omega), bnd_s]
   simp only [List.append_assoc]
  ·
   rw [if_neg h1, sel_neg (by simpa using h1)]
   by_cases h2 : s.Kind = 2
   ·
    obtain ⟨a, d⟩ := sqOk_two h h2
    have x := ueL_len s.Mode.toNat (by omega)
    have z := levL_len (c := c) d
    rw [if_pos h2, sel_pos (by simpa using h2), show s.Mode = ((s.Mode.toNat : Nat) : Int) by omega, impl_ue_eq _ (by omega), bnd_s, nums_str _ (bitL_byte (ueL_bit _)), req_p (by omega), impl_levelsRow_eq _ c d, bnd_s, req_p (by simp only [List.length_append]; omega), bnd_s, Int.toNat_natCast]
    simp only [List.append_assoc]
   ·
    rw [if_neg h2, sel_neg (by simpa using h2), bnd_s, List.append_nil]
 ·
  rw [if_neg hok]
  unfold sqLet at hok
  cases h1 : sqOk s <;> cases h2 : condOk c <;> cases h3 : (!c.Key || s.Kind == 2) <;> simp_all [bnd, sel]
def tilesL : List Square → Cond → List Int
 | [], _ => []
 | s :: r, c => sqL s c ++ tilesL r c
def sqAll (l : List Square) (c : Cond) : Bool := l.all fun s => sqOk s && (condOk c && sqLet s c)
theorem tilesL_bit : ∀ (l : List Square) (c : Cond), bitL (tilesL l c)
 | [], _ => bitL_nil
 | s :: r, c => bitL_append (sqL_bit s c) (tilesL_bit r c)
theorem tilesL_len : ∀ {l : List Square} {c : Cond}, sqAll l c = true → (tilesL l c).length ≤ 5265 * l.length
 | [], _, _ => by simp [tilesL]
 | s :: r, c, h => by
  unfold sqAll at h
  rw [List.all_cons, Bool.and_eq_true, Bool.and_eq_true] at h
  have h1 := sqL_len (c := c) h.1.1
  have h2 := tilesL_len (l := r) (c := c) h.2
  rw [tilesL, List.length_append, List.length_cons]; omega
def tileRow (l : List Square) (c : Cond) : ByteArray × Bool := if (decide (1 ≤ l.length ∧ l.length ≤ 64) && sqAll l c) = true then (strOfNums (tilesL l c), true) else (⟨#[]⟩, false)
theorem impl_TileRow_eq (l : List Square) (c : Cond) (hs : ∀ s ∈ l, s.Levels.length ≤ 9223372036854775806) : impl_TileRow l c = some (tileRow l c) := by
 have hm : maxLen = 9223372036854775807 := rfl
 unfold impl_TileRow tileRow
 rw [impl_within_eq, bnd_s, sel_n]
 by_cases hl : 1 ≤ l.length ∧ l.length ≤ 64
 ·
  rw [sel_yes (by omega), decide_eq_true hl, Bool.true_and]
  have key : ∀ (r a : List Square) (t : List Int), l = a ++ r → t.length ≤ 5265 * a.length → loop (impl_TileRow_l2 l c) ((a.length : Int), t) = some (if sqAll r c = true then .out (t ++ tilesL r c) else .ret (⟨#[]⟩, false)) := by
   intro r
   induction r with
   | nil =>
    intro a t ha _
    rw [List.append_nil] at ha
    exact ldone (by unfold impl_TileRow_l2; simp only; rw [sel_no (by rw [ha]; omega), tilesL, List.append_nil]; rfl)
   | cons s r ih =>
    intro a t ha ht
    have hlen : a.length < l.length := by rw [ha]; simp
    have hx : l.getD a.length dSquare = s := by rw [ha]; exact getD_mid a s _ r
    have hone : sqAll (s :: r) c = ((sqOk s && (condOk c && sqLet s c)) && sqAll r c) := by unfold sqAll; rw [List.all_cons]
    have hrow := impl_SquareRow_eq s c (hs s (by rw [ha]; simp))
    rw [hone]
    cases e : (sqOk s && (condOk c && sqLet s c)) with
    | true =>
     rw [e, if_pos rfl] at hrow
     have hok : sqOk s = true := by rw [Bool.and_eq_true] at e; exact e.1
     have g := sqL_len (c := c) hok
     have hn := ih (a ++ [s]) (t ++ sqL s c) (by rw [ha]; simp) (by simp only [List.length_append, List.length_singleton]; omega)
     rw [List.length_append, List.length_singleton] at hn
     rw [Bool.true_and, tilesL, ← List.append_assoc, ← hn]
     refine loop_go ?_
     unfold impl_TileRow_l2
     simp only [Int.toNat_natCast, hx]
     rw [sel_yes (by omega), req_p (by omega), show (⟨s.Kind, s.Mode, s.Dx, s.Dy, s.Levels⟩ : Square) = s from rfl, hrow, bnd_s, sel_n, sel_t, nums_str _ (bitL_byte (sqL_bit _ _)), req_p (by omega), wk (by omega) (by omega)]
     rfl
    | false =>
     rw [e, if_neg (by decide)] at hrow
     rw [Bool.false_and, if_neg (by decide)]
     refine ldone ?_
     unfold impl_TileRow_l2
     simp only [Int.toNat_natCast, hx]
     rw [sel_yes (by omega), req_p (by omega), show (⟨s.Kind, s.Mode, s.Dx, s.Dy, s.Levels⟩ : Square) = s from rfl, hrow, bnd_s, sel_n, sel_f]
  refine (bnd_e (key l [] [] rfl (by simp))).trans ?_
  cases sqAll l c <;> rfl
 ·
  rw [sel_no (by omega), decide_eq_false hl, Bool.false_and]; rfl
theorem bt_range (b : ByteArray) (i : Int) : 0 ≤ btOf b i ∧ btOf b i ≤ 255 := by
 unfold btOf
 split
 ·
  rename_i h
  have := (b[i.toNat]'h).toNat_lt
  omega
 ·
  omega
theorem picOk_parts {p : Pic} (h : picOk p = true) : (1 ≤ p.Wide ∧ p.Wide ≤ 256) ∧ (1 ≤ p.High ∧ p.High ≤ 256) ∧ (p.Dots.size : Int) = p.Wide * p.High := by
 unfold picOk at h
 simp only [Bool.and_eq_true, decide_eq_true_eq, beq_iff_eq] at h
 exact ⟨h.1, h.2.1, h.2.2⟩
theorem picOk_of {p : Pic} (h1 : 1 ≤ p.Wide ∧ p.Wide ≤ 256) (h2 : 1 ≤ p.High ∧ p.High ≤ 256) (h3 : (p.Dots.size : Int) = p.Wide * p.High) : picOk p = true := by
 unfold picOk
 simp only [Bool.and_eq_true, decide_eq_true_eq, beq_iff_eq]
 exact ⟨h1, h2, h3⟩
def dotAt (p : Pic) (x y : Int) : Int := btOf p.Dots (brought y 0 (p.High - 1) * p.Wide + brought x 0 (p.Wide - 1))
theorem dotAt_range (p : Pic) (x y : Int) : 0 ≤ dotAt p x y ∧ dotAt p x y ≤ 255 := bt_range _ _
theorem dot_place {p : Pic} (ok : picOk p = true) (x y : Int) : 0 ≤ brought y 0 (p.High - 1) * p.Wide + brought x 0 (p.Wide - 1) ∧ brought y 0 (p.High - 1) * p.Wide + brought x 0 (p.Wide - 1) < p.Dots.size ∧ 0 ≤ brought y 0 (p.High - 1) * p.Wide ∧ brought y 0 (p.High - 1) * p.Wide ≤ 65536 := by
 obtain ⟨h1, h2, h3⟩ := picOk_parts ok
 have b1 := brought_in (n := y) (a := 0) (b := p.High - 1) (by omega)
 have b2 := brought_in (n := x) (a := 0) (b := p.Wide - 1) (by omega)
 have m1 := Int.mul_nonneg b1.1 (show 0 ≤ p.Wide by omega)
 have m2 := Int.mul_le_mul_of_nonneg_right b1.2 (show 0 ≤ p.Wide by omega)
 have m3 : (p.High - 1) * p.Wide = p.Wide * p.High - p.Wide := by rw [Int.sub_mul, Int.one_mul, Int.mul_comm]
 have m4 := (area_small h1 h2).2
 omega
theorem impl_dot_eq {p : Pic} (ok : picOk p = true) (x y : Int) : impl_Pic_dot p x y = some (dotAt p x y) := by
 obtain ⟨h1, h2, h3⟩ := picOk_parts ok
 unfold impl_Pic_dot dotAt
 rw [impl_Brought_eq, bnd_s, impl_Brought_eq, bnd_s, wk (e := p.High - 1) (by omega) (by omega), wk (e := p.Wide - 1) (by omega) (by omega)]
 obtain ⟨p1, p2, p3, p4⟩ := dot_place ok x y
 have b2 := brought_in (n := x) (a := 0) (b := p.Wide - 1) (by omega)
 have br := bt_range p.Dots (brought y 0 (p.High - 1) * p.Wide + brought x 0 (p.Wide - 1))
 rw [wk (e := brought y 0 (p.High - 1) * p.Wide) (by omega) (by omega), wk (e := brought y 0 (p.High - 1) * p.Wide + brought x 0 (p.Wide - 1)) (by omega) (by omega), req_p ⟨p1, p2⟩, wk (by omega) (by omega)]
theorem spec_DotAt_eq {p : Pic} (ok : picOk p = true) (x y : Int) : spec_DotAt p x y = some (dotAt p x y) := by
 obtain ⟨h1, h2, h3⟩ := picOk_parts ok
 unfold spec_DotAt dotAt
 rw [spec_PicOk_eq, bnd_s, ok, Bool.not_true, sel_f, spec_Brought_eq, bnd_s, spec_Brought_eq, bnd_s, wk (e := p.High - 1) (by omega) (by omega), wk (e := p.Wide - 1) (by omega) (by omega)]
 obtain ⟨p1, p2, p3, p4⟩ := dot_place ok x y
 have b2 := brought_in (n := x) (a := 0) (b := p.Wide - 1) (by omega)
 have br := bt_range p.Dots (brought y 0 (p.High - 1) * p.Wide + brought x 0 (p.Wide - 1))
 rw [wk (e := brought y 0 (p.High - 1) * p.Wide) (by omega) (by omega), wk (e := brought y 0 (p.High - 1) * p.Wide + brought x 0 (p.Wide - 1)) (by omega) (by omega), req_p ⟨p1, p2⟩, wk (by omega) (by omega)]
def blkAt (p : Pic) (x y : Int) (i : Nat) : Int := dotAt p (x + ((i % 8 : Nat) : Int)) (y + ((i / 8 : Nat) : Int))
def blkL (p : Pic) (x y : Int) (n : Nat) : List Int := (List.range n).map (blkAt p x y)
theorem blkL_succ (p : Pic) (x y : Int) (n : Nat) : blkL p x y (n + 1) = blkL p x y n ++ [blkAt p x y n] := by simp [blkL, List.range_succ]
theorem blkL_length (p : Pic) (x y : Int) (n : Nat) : (blkL p x y n).length = n := by simp [blkL]
def dotIn (x : Int) : Bool := decide (0 ≤ x ∧ x ≤ 255)
def dots64 (l : List Int) : Bool := decide (l.length = 64) && l.all dotIn
theorem dots64_at {l : List Int} (h : dots64 l = true) : l.length = 64 ∧ ∀ i : Nat, i < 64 → 0 ≤ l.getD i 0 ∧ l.getD i 0 ≤ 255 := by
 simp only [dots64, Bool.and_eq_true, decide_eq_true_eq] at h
 refine ⟨h.1, fun i hi => ?_⟩
 have := List.all_eq_true.1 h.2 (l.getD i 0) (by rw [getD_at l i (by omega)]; exact List.getElem_mem _)
 simpa [dotIn] using this
theorem blkL_dots (p : Pic) (x y : Int) : dots64 (blkL p x y 64) = true := by
 simp only [dots64, blkL_length, decide_true, Bool.true_and, List.all_eq_true]
 intro z hz
 obtain ⟨i, _, rfl⟩ := List.mem_map.1 hz
 simp only [dotIn, decide_eq_true_eq]
 exact dotAt_range _ _ _
theorem spec_BlockOf_eq {p : Pic} (ok : picOk p = true) (x y : Int) (hx : -1000 ≤ x ∧ x ≤ 1000) (hy : -1000 ≤ y ∧ y ≤ 1000) : spec_BlockOf p x y = some (blkL p x y 64) := by
 have hm : maxLen = 9223372036854775807 := rfl
 unfold spec_BlockOf
 rw [spec_PicOk_eq, bnd_s, ok, sel_t, spec_l01In_eq, bnd_s, sel_yes (by omega), spec_l01In_eq, bnd_s, bnd_s, decide_eq_true (by omega), Bool.not_true, sel_f]
 have key : ∀ i : Nat, i ≤ 64 → loop (spec_BlockOf_l2 p x y) ((i : Int), blkL p x y i) = some (blkL p x y 64) := by
  refine down_to _ ?_ ?_
  ·
   exact ldone (by unfold spec_BlockOf_l2; rw [sel_no (by simp)])
  ·
   intro i hi ih
   refine lgo (y := (((i + 1 : Nat) : Int), blkL p x y (i + 1))) ?_ ih
   unfold spec_BlockOf_l2
   simp only
   rw [sel_yes (by omega), req_p (by omega), req_p (by omega), tmod_pos (by omega), tdiv_pos (by omega), wk (e := (i : Int) / 8) (by omega) (by omega), wk (e := x + (i : Int) % 8) (by omega) (by omega), wk (e := y + (i : Int) / 8) (by omega) (by omega), spec_DotAt_eq ok, bnd_s, req_p (by rw [blkL_length]; simp only [List.length_singleton]; omega), wk (e := (i : Int) + 1) (by omega) (by omega)]
   have e2 : dotAt p (x + (i : Int) % 8) (y + (i : Int) / 8) = blkAt p x y i := by unfold blkAt; congr 1
   rw [e2, ← blkL_succ]
   rfl
 have := key 0 (by omega)
 exact (bnd_e this).trans rfl
theorem impl_block_eq {p : Pic} (ok : picOk p = true) (x y : Int) (hx : -1000 ≤ x ∧ x ≤ 1000) (hy : -1000 ≤ y ∧ y ≤ 1000) : impl_Pic_block p x y = some (blkL p x y 64) := by
 have hm : maxLen = 9223372036854775807 := rfl
 unfold impl_Pic_block
 rw [req_p (by omega)]
 have key : ∀ r : Nat, r ≤ 8 → loop (impl_Pic_block_l12 p x y) ((r : Int), blkL p x y (8 * r)) = some (blkL p x y 64) := by
  refine down_to _ ?_ ?_
  ·
   exact ldone (by unfold impl_Pic_block_l12; rw [sel_no (by simp)])
  ·
   intro r hr ih
   refine lgo (y := (((r + 1 : Nat) : Int), blkL p x y (8 * (r + 1)))) ?_ ih
   unfold impl_Pic_block_l12
   simp only
   have inner : ∀ c : Nat, c ≤ 8 → loop (impl_Pic_block_l14 p x y ((r : Int), blkL p x y (8 * r))) ((c : Int), blkL p x y (8 * r + c)) = some (blkL p x y (8 * (r + 1))) := by
    refine down_to _ ?_ ?_
    ·
     exact ldone (by unfold impl_Pic_block_l14; rw [sel_no (by simp)]; rfl)
    ·
     intro c hc ih2
     refine lgo (y := (((c + 1 : Nat) : Int), blkL p x y (8 * r + (c + 1)))) ?_ ih2
     unfold impl_Pic_block_l14
     simp only
     rw [sel_yes (by omega), wk (e := x + (c : Int)) (by omega) (by omega), wk (e := y + (r : Int)) (by omega) (by omega), impl_dot_eq ok, bnd_s, req_p (by rw [blkL_length]; simp only [List.length_singleton]; omega), wk (e := (c : Int) + 1) (by omega) (by omega)]
     have e2 : dotAt p (x + (c : Int)) (y + (r : Int)) = blkAt p x y (8 * r + c) := by
      unfold blkAt
      rw [show (8 * r + c) % 8 = c by omega, show (8 * r + c) / 8 = r by omega]
     rw [e2, ← blkL_succ]
     rfl
   have i0 := inner 0 (by omega)
   rw [sel_yes (by omega)]
   refine (bnd_e i0).trans ?_
   rw [wk (e := (r : Int) + 1) (by omega) (by omega)]
   rfl
 have := key 0 (by omega)
 exact (bnd_e this).trans rfl
theorem impl_areDots_eq (l : List Int) (hl : l.length ≤ 9223372036854775806) : impl_areIn l 64 0 255 = some (dots64 l) := by
 rw [impl_areIn_eq l _ _ _ hl]
 have : ((l.length : Int) == 64) = decide (l.length = 64) := by rw [Bool.eq_iff_iff]; simp only [beq_iff_eq, decide_eq_true_eq]; omega
 rw [this, Bool.and_comm]
 rfl
def seSz (d : Int) : Int := ((seL d).length : Int)
theorem seSz_zero : seSz 0 = 1 := by
 have : foldN 0 = 0 := by simp [foldN]
 unfold seSz seL ueL
 rw [this, List.length_append, binL_len]
 simp [figs]
theorem spec_l12Dots_ev (c : L01Cur) (n : Int) (hc : curOk c) (h0 : 0 ≤ n) (h1 : n ≤ 100000) : ∃ s c', spec_l12Dots c n = some (s, c') ∧ (s.size : Int) = n ∧ curOk c' := by
 have hm : maxLen = 9223372036854775807 := rfl
 unfold spec_l12Dots
 obtain ⟨z, c0, ez, z0, z1, hz⟩ := spec_l01Byte_ev c hc
 rw [ez, bnd_s]
 simp only
 obtain ⟨o, h, h2, h3⟩ := loop_inv (f := spec_l12Dots_l2 n) (fun v => (0 ≤ v.1 ∧ v.1 ≤ 255) ∧ 0 ≤ v.2.1 ∧ v.2.1 ≤ n ∧ curOk ⟨v.2.2.1, v.2.2.2.1, v.2.2.2.2.1⟩ ∧ (v.2.2.2.2.2.length : Int) = v.2.1) (fun v => (n - v.2.1).toNat) (fun _ o => (o.1.length : Int) = n ∧ curOk ⟨o.2.1, o.2.2.1, o.2.2.2⟩) (by
  intro ⟨w, i, b, j, h, l⟩ ⟨hw, h1, h2, h3, h4⟩
  unfold spec_l12Dots_l2
  simp only at hw h1 h2 h3 h4 ⊢
  by_cases hi : i < n
  ·
   rw [sel_yes hi]
   obtain ⟨x, c', ex, x0, x1, _, hx⟩ := spec_l01Below_ev _ 6 h3
   rw [ex, bnd_s]
   simp only
   have step : ∃ w' c2, (sel (x == 0) (bnd (spec_l01Byte c') fun q16 => some (q16.1, q16.2.b_, q16.2.i_, q16.2.h_)) (sel (x == 1) (bnd (spec_l01Below c' 9) fun q17 => some ((IntKind.wrap .i64 (BitVec.ofInt (IntKind.bits .i64) (wrapK .i64 ((wrapK .i64 (w + q17.1)) + 252)) &&& BitVec.ofInt (IntKind.bits .i64) 255).toNat), q17.2.b_, q17.2.i_, q17.2.h_)) (some (w, c'.b_, c'.i_, c'.h_)))) = some (w', c2.b_, c2.i_, c2.h_) ∧ (0 ≤ w' ∧ w' ≤ 255) ∧ curOk c2 := by
    cases e0 : (x == 0) with
    | true =>
     obtain ⟨y, c2, ey, y0, y1, hy⟩ := spec_l01Byte_ev c' hx
     rw [sel_t, ey, bnd_s]
     exact ⟨y, c2, rfl, ⟨y0, y1⟩, hy⟩
    | false =>
     rw [sel_f]
     cases e1 : (x == 1) with
     | true =>
      obtain ⟨y, c2, ey, y0, y1, _, hy⟩ := spec_l01Below_ev c' 9 hx
      rw [sel_t, ey, bnd_s]
      exact ⟨_, c2, rfl, and_255 _, hy⟩
     | false => rw [sel_f]; exact ⟨w, c', rfl, hw, hx⟩
   obtain ⟨w', c2, es, hw', hc2⟩ := step
   rw [es, bnd_s, req_p (by rw [hm]; simp only [List.length_singleton]; omega)]
   refine .inr ⟨_, rfl, ?_, ?_, fun _ h => h⟩
   ·
    simp only
    rw [wk (e := i + 1) (by omega) (by omega)]
    exact ⟨hw', by omega, by omega, hc2, by simp; omega⟩
   ·
    simp only; rw [wk (e := i + 1) (by omega) (by omega)]; omega
  ·
   rw [sel_no hi]
   exact .inl ⟨_, rfl, by simp only; omega, h3⟩) (z, 0, c0.b_, c0.i_, c0.h_, []) ⟨⟨z0, z1⟩, by simp, h0, hz, by simp⟩
 rw [h, bnd_s]
 exact ⟨_, _, rfl, by rw [strOfNums_size]; exact h2, h3⟩
theorem spec_l12Sized_ev (c : L01Cur) (w h : Int) (hc : curOk c) (hw : 1 ≤ w ∧ w ≤ 256) (hh : 1 ≤ h ∧ h ≤ 256) : ∃ p c', spec_l12Sized c w h = some (p, c') ∧ p.Wide = w ∧ p.High = h ∧ picOk p = true ∧ curOk c' := by
 have a := area_small hw hh
 unfold spec_l12Sized
 rw [wk (e := w * h) (by omega) (by omega)]
 obtain ⟨s, c', e, hs, hc'⟩ := spec_l12Dots_ev c (w * h) hc (by omega) (by omega)
 rw [e, bnd_s]
 exact ⟨_, _, rfl, rfl, rfl, picOk_of hw hh hs, hc'⟩
def heldAt (p : Pic) (x y : Int) : Bool := decide (0 ≤ x ∧ x ≤ p.Wide - 8 ∧ 0 ≤ y ∧ y ≤ p.High - 8)
theorem impl_isSquare_eq {p : Pic} (ok : picOk p = true) (x y : Int) (hx : x.tmod 8 = 0) (hy : y.tmod 8 = 0) (h : heldAt p x y = true) : impl_Pic_isSquare p x y = some true := by
 obtain ⟨k1, k2, k3⟩ := picOk_parts ok
 unfold heldAt at h
 rw [decide_eq_true_eq] at h
 unfold impl_Pic_isSquare
 rw [req_p (by omega), hx, req_p (by omega), hy, wk (e := p.Wide - 8) (by omega) (by omega), wk (e := p.High - 8) (by omega) (by omega), impl_within_eq, bnd_s, impl_within_eq, bnd_s, decide_eq_true (by omega), decide_eq_true (by omega)]
 rfl
def rd (x : List Int) (i : Int) : Int := x.getD i.toNat 0
theorem str_numsOf (s : ByteArray) : strOfNums (numsOf s) = s := by
 apply ByteArray.ext
 apply Array.ext'
 simp only [strOfNums, numsOf, List.map_map]
 conv => rhs; rw [← List.map_id s.data.toList]
 refine List.map_congr_left fun c _ => ?_
 simp
def inB (B : Int) (l : List Int) : Prop := ∀ x ∈ l, -B ≤ x ∧ x ≤ B
theorem inB_mono {B C : Int} {l : List Int} (h : inB B l) (hc : B ≤ C) : inB C l := fun x hx => by have := h x hx; omega
theorem inB_append {B : Int} {a b : List Int} (ha : inB B a) (hb : inB B b) : inB B (a ++ b) := fun x hx => (List.mem_append.1 hx).elim (ha x) (hb x)
theorem inB_nil (B : Int) : inB B [] := fun x hx => by simp at hx
theorem inB_one {B x : Int} (h : -B ≤ x ∧ x ≤ B) : inB B [x] := fun y hy => by rw [List.mem_singleton.1 hy]; exact h
theorem inB_set {B : Int} {l : List Int} (h : inB B l) (i : Nat) {y : Int} (hy : -B ≤ y ∧ y ≤ B) : inB B (l.set i y) := fun x hx => by
 rcases List.mem_or_eq_of_mem_set hx with hx | hx
 ·
  exact h x hx
 ·
  rw [hx]; exact hy
theorem inB_rep (n : Nat) {B : Int} (h : 0 ≤ B) : inB B (List.replicate n 0) := fun x hx => by rw [List.eq_of_mem_replicate hx]; omega
theorem inB_at {B : Int} {l : List Int} (h : inB B l) {i : Nat} (hi : i < l.length) : -B ≤ l.getD i 0 ∧ l.getD i 0 ≤ B := h _ (by rw [getD_at l i hi]; exact List.getElem_mem _)
theorem inB_take {B : Int} {l : List Int} (h : inB B l) (n : Nat) : inB B (l.take n) := fun x hx => h x (List.mem_of_mem_take hx)
theorem inB_drop {B : Int} {l : List Int} (h : inB B l) (n : Nat) : inB B (l.drop n) := fun x hx => h x (List.mem_of_mem_drop hx)
theorem st_loop {S : Type} {f : Int × S → Option (Lp (Int × S) S)} (n : Nat) (I : Nat → S → Prop) (hs : ∀ (i : Nat) (l : S), i < n → I i l → ∃ l', f ((i : Int), l) = some (.go (((i + 1 : Nat) : Int), l')) ∧ I (i + 1) l') (he : ∀ l, f ((n : Int), l) = some (.done l)) (l0 : S) (h0 : I 0 l0) : ∃ o, loop f (0, l0) = some o ∧ I n o := by
 have key : ∀ i : Nat, i ≤ n → ∀ l, I i l → ∃ o, loop f ((i : Int), l) = some o ∧ I n o := by
  refine down_to _ ?_ ?_
  ·
   intro l h; exact ⟨l, ldone (he l), h⟩
  ·
   intro i hi ih l h
   obtain ⟨l', e, h'⟩ := hs i l hi h
   obtain ⟨o, e2, h2⟩ := ih l' h'
   exact ⟨o, lgo e e2, h2⟩
 exact key 0 (by omega) l0 h0
theorem acc_loop {S : Type} {f : S × Int → Option (Lp (S × Int) S)} (n : Nat) (I : Nat → S → Prop) (hs : ∀ (i : Nat) (l : S), i < n → I i l → ∃ l', f (l, (i : Int)) = some (.go (l', ((i + 1 : Nat) : Int))) ∧ I (i + 1) l') (he : ∀ l, f (l, (n : Int)) = some (.done l)) (l0 : S) (h0 : I 0 l0) : ∃ o, loop f (l0, 0) = some o ∧ I n o := by
 have key : ∀ i : Nat, i ≤ n → ∀ l, I i l → ∃ o, loop f (l, (i : Int)) = some o ∧ I n o := by
  refine down_to _ ?_ ?_
  ·
   intro l h; exact ⟨l, ldone (he l), h⟩
  ·
   intro i hi ih l h
   obtain ⟨l', e, h'⟩ := hs i l hi h
   obtain ⟨o, e2, h2⟩ := ih l' h'
   exact ⟨o, lgo e e2, h2⟩
 exact key 0 (by omega) l0 h0
theorem getD_set_at (l : List Int) (i j : Nat) (y : Int) (hi : i < l.length) : (l.set i y).getD j 0 = if i = j then y else l.getD j 0 := by
 rw [List.getD_eq_getElem?_getD, List.getElem?_set, List.getD_eq_getElem?_getD]
 by_cases h : i = j
 ·
  subst h; rw [if_pos rfl, if_pos rfl, if_pos hi]; rfl
 ·
  rw [if_neg h, if_neg h]
theorem map_loop {f : Int × List Int → Option (Lp (Int × List Int) (List Int))} (n : Nat) (P Q : Int → Prop) (hs : ∀ (i : Nat) (l : List Int), i < n → l.length = n → P (l.getD i 0) → ∃ y, f ((i : Int), l) = some (.go (((i + 1 : Nat) : Int), l.set i y)) ∧ Q y) (he : ∀ l, f ((n : Int), l) = some (.done l)) (l0 : List Int) (h0 : l0.length = n) (hb : ∀ x ∈ l0, P x) : ∃ o, loop f (0, l0) = some o ∧ o.length = n ∧ ∀ x ∈ o, Q x := by
 obtain ⟨o, e, h1, h2, _⟩ := st_loop (f := f) n (fun i l => l.length = n ∧ (∀ j, j < i → Q (l.getD j 0)) ∧ ∀ j, i ≤ j → j < n → P (l.getD j 0)) (by
  intro i l hi ⟨g1, g2, g3⟩
  obtain ⟨y, e, hy⟩ := hs i l hi g1 (g3 i (Nat.le_refl _) hi)
  refine ⟨_, e, by rw [List.length_set]; exact g1, fun j hj => ?_, fun j hj hj2 => ?_⟩
  ·
   rw [getD_set_at l i j y (by omega)]
   by_cases h : i = j
   ·
    rw [if_pos h]; exact hy
   ·
    rw [if_neg h]; exact g2 j (by omega)
  ·
   rw [getD_set_at l i j y (by omega), if_neg (by omega)]; exact g3 j (by omega) hj2) he l0 ⟨h0, fun j hj => by omega, fun j _ hj => hb _ (by rw [getD_at l0 j (by omega)]; exact List.getElem_mem _)⟩
 refine ⟨o, e, h1, fun x hx => ?_⟩
 obtain ⟨j, hj, rfl⟩ := List.getElem_of_mem hx
 have := h2 j (by omega)
 rwa [getD_at o j hj] at this
theorem l09All_yes (l : List Int) (n B : Int) (hn : (l.length : Int) = n) (hn2 : n ≤ 1000000) (hB : 0 ≤ B ∧ B ≤ 100000000) (h : inB B l) : spec_l09All l n B = some true := by
 unfold spec_l09All
 rw [sel_neg (by simp only [bne_eq_false_iff_eq]; exact hn), self_loop l.length (f := spec_l09All_l2 l n B) (by
  intro i hi
  have := inB_at h hi
  unfold spec_l09All_l2
  rw [sel_yes (by omega), req_p (by omega), wk (e := 0 - B) (by omega) (by omega), spec_l01In_eq, bnd_s, Int.toNat_natCast, decide_eq_true (by omega), Bool.not_true, sel_f, wk (by omega) (by omega)]
  rfl) (by unfold spec_l09All_l2; rw [sel_no (by omega)]), bnd_s]
def scanInner (n i : Int) (v17 : Int × Int) : Option (Lp (Int × Int) (Ou Unit Int)) :=
 sel (decide (v17.2 ≤ (wrapK .i64 ((wrapK .i64 (2 * n)) - 2)))) (
 bnd (it (spec_ScanAt_l14 n i v17) 20 (v17.1, 0)) fun o47 => match o47 with
 | .out v43 => (
 some (.go (v43, wrapK .i64 (v17.2 + 1))))
 | .ret r => some (.done (.ret r))) (
 some (.done (.out ())))
theorem scanInner_is {n i : Int} {v : Int × Int} {x : Lp (Int × Int) (Ou Unit Int)} (h : scanInner n i v = some x) : spec_ScanAt_l12 n i v = some x := by
 unfold scanInner at h
 unfold spec_ScanAt_l12
 rcases sel_some h with ⟨hb, h⟩ | ⟨hb, h⟩
 ·
  rw [hb, sel_t]
  obtain ⟨a, h1, h2⟩ := bnd_some h
  rw [loop_it.2 ⟨20, h1⟩, bnd_s]
  exact h2
 ·
  rw [hb, sel_f]; exact h
theorem it_of {V O : Type} {f g : V → Option (Lp V O)} (hf : ∀ v y, f v = some y → g v = some y) {o : O} : ∀ (k : Nat) (v : V), it f k v = some o → it g k v = some o
 | 0, v, h => by cases h
 | k + 1, v, h => by
  rw [it] at h ⊢
  cases e : f v with
  | none => rw [e] at h; cases h
  | some s =>
   rw [e] at h
   rw [hf v s e]
   cases s with
   | go y => exact it_of hf k y h
   | done o' => exact h
def scanPlace (n i : Int) : Int := match it (scanInner n i) 20 (0, 0) with | some (.ret q) => q | _ => -1
theorem scan4_ok : ∀ i : Fin 16, (0 ≤ scanPlace 4 (i.val : Int) ∧ scanPlace 4 (i.val : Int) < 16) := by decide +kernel
theorem scan8_ok : ∀ i : Fin 64, (0 ≤ scanPlace 8 (i.val : Int) ∧ scanPlace 8 (i.val : Int) < 64) := by decide +kernel
theorem scanPlace_in (n : Int) (hn : n = 4 ∨ n = 8) (i : Nat) (hi : (i : Int) < n * n) : 0 ≤ scanPlace n i ∧ scanPlace n i < n * n := by
 rcases hn with rfl | rfl
 ·
  exact scan4_ok ⟨i, by omega⟩
 ·
  exact scan8_ok ⟨i, by omega⟩
theorem spec_ScanAt_ev (n : Int) (hn : n = 4 ∨ n = 8) (i : Nat) (hi : (i : Int) < n * n) : spec_ScanAt n i = some (scanPlace n i) := by
 have hp := scanPlace_in n hn i hi
 unfold spec_ScanAt
 have hw : wrapK .i64 (n * n) = n * n := by rcases hn with rfl | rfl <;> exact wk (by omega) (by omega)
 have hc : (sel (n != 4) (sel (n != 8) (some true) (sel (decide ((i : Int) < 0)) (some true) (some (decide ((i : Int) ≥ (wrapK .i64 (n * n))))))) (sel (decide ((i : Int) < 0)) (some true) (some (decide ((i : Int) ≥ (wrapK .i64 (n * n))))))) = some false := by
  rw [hw, sel_no (show ¬ (i : Int) < 0 by omega), decide_eq_false (show ¬ (i : Int) ≥ n * n by omega)]
  rcases hn with rfl | rfl <;> rfl
 rw [hc, bnd_s, sel_f]
 unfold scanPlace at hp ⊢
 cases e : it (scanInner n i) 20 (0, 0) with
 | none => rw [e] at hp; simp only at hp; omega
 | some s =>
  rw [e] at hp
  have h := it_of (fun v y => scanInner_is (n := n) (i := i)) 20 _ e
  rw [loop_it.2 ⟨20, h⟩, bnd_s]
  cases s with
  | out u => simp only at hp; omega
  | ret q => rfl
theorem spec_Unscanned_ev (n : Int) (hn : n = 4 ∨ n = 8) (l : List Int) (B : Int) (hB : 0 ≤ B) (hl : (l.length : Int) = n * n) (hb : inB B l) : ∃ o, spec_Unscanned n l = some (o, true) ∧ o.length = l.length ∧ inB B o := by
 have hm : maxLen = 9223372036854775807 := rfl
 have hw : wrapK .i64 (n * n) = n * n := by rcases hn with rfl | rfl <;> exact wk (by omega) (by omega)
 have hl2 : l.length ≤ 64 := by rcases hn with rfl | rfl <;> omega
 unfold spec_Unscanned
 have hc : (sel (n != 4) (sel (n != 8) (some true) (some ((l.length : Int) != (wrapK .i64 (n * n))))) (some ((l.length : Int) != (wrapK .i64 (n * n))))) = some false := by
  rw [hw, hl, bne_self_eq_false]
  rcases hn with rfl | rfl <;> rfl
 rw [hc, bnd_s, sel_f, req_p (by omega), Int.toNat_natCast]
 obtain ⟨o, e, h1, h2⟩ := st_loop (f := spec_Unscanned_l2 n l) l.length (fun i s => s.length = l.length ∧ inB B s) (by
  intro i s hi ⟨g1, g2⟩
  have hp := scanPlace_in n hn i (by omega)
  have ha := inB_at hb hi
  unfold spec_Unscanned_l2
  simp only
  rw [hw, sel_yes (by omega), spec_ScanAt_ev n hn i (by omega), bnd_s, req_p (by omega), req_p (by omega), req_p (by omega), wk (by omega) (by omega), Int.toNat_natCast]
  exact ⟨_, rfl, by rw [List.length_set]; exact g1, inB_set g2 _ ha⟩) (by intro s; unfold spec_Unscanned_l2; simp only; rw [hw, sel_no (by omega)]) (List.replicate l.length 0) ⟨List.length_replicate, inB_rep _ hB⟩
 exact ⟨o, (bnd_e e).trans rfl, h1, h2⟩
def signPlace (u v : Int) : Int := match it spec_SignOf_l2 10 (1, (IntKind.wrap .i64 (BitVec.ofInt (IntKind.bits .i64) u &&& BitVec.ofInt (IntKind.bits .i64) v).toNat)) with | some q => q | none => 7
theorem sign_ok : ∀ u v : Fin 8, (-1 ≤ signPlace (u.val : Int) (v.val : Int) ∧ signPlace (u.val : Int) (v.val : Int) ≤ 1) := by decide +kernel
theorem spec_SignOf_ev (u v : Nat) (hu : u < 8) (hv : v < 8) : ∃ s, spec_SignOf u v = some s ∧ -1 ≤ s ∧ s ≤ 1 := by
 have h := sign_ok ⟨u, hu⟩ ⟨v, hv⟩
 simp only at h
 unfold spec_SignOf
 rw [spec_l01In_eq, bnd_s, decide_eq_true (by omega), sel_t, spec_l01In_eq, bnd_s, decide_eq_true (by omega), Bool.not_true, bnd_s, sel_f]
 unfold signPlace at h
 cases e : it spec_SignOf_l2 10 (1, (IntKind.wrap .i64 (BitVec.ofInt (IntKind.bits .i64) (u : Int) &&& BitVec.ofInt (IntKind.bits .i64) (v : Int)).toNat)) with
 | none => rw [e] at h; simp only at h; omega
 | some q =>
  rw [e] at h
  rw [loop_it.2 ⟨10, e⟩, bnd_s]
  exact ⟨q, rfl, h⟩
def stepBase (qp : Int) : Int := if qp.tmod 6 = 0 then 10 else if qp.tmod 6 = 1 then 11 else if qp.tmod 6 = 2 then 13 else if qp.tmod 6 = 3 then 14 else if qp.tmod 6 = 4 then 16 else 18
def stepPlace (qp : Int) : Int := match it (spec_StepOf_l2 qp) 10 (stepBase qp, 0) with | some q => q | none => 0
theorem step_ok : ∀ q : Fin 41, (10 ≤ stepPlace (q.val : Int) ∧ stepPlace (q.val : Int) ≤ 1152) := by decide +kernel
theorem spec_StepOf_ev (qp : Int) (h0 : 0 ≤ qp ∧ qp ≤ 40) : ∃ s, spec_StepOf qp = some s ∧ 10 ≤ s ∧ s ≤ 1152 := by
 have h := step_ok ⟨qp.toNat, by omega⟩
 simp only at h
 rw [show ((qp.toNat : Nat) : Int) = qp by omega] at h
 unfold spec_StepOf
 rw [spec_l01In_eq, bnd_s, decide_eq_true (by omega), Bool.not_true, sel_f, req_p (by omega)]
 have hb : (sel ((qp.tmod 6) == 0) (some (10 : Int)) (sel ((qp.tmod 6) == 1) (some 11) (sel ((qp.tmod 6) == 2) (some 13) (sel ((qp.tmod 6) == 3) (some 14) (sel ((qp.tmod 6) == 4) (some 16) (some 18)))))) = some (stepBase qp) := by
  unfold stepBase
  simp only [sel_ite, beq_iff_eq]
  repeat' split
  all_goals rfl
 rw [hb, bnd_s]
 unfold stepPlace at h
 cases e : it (spec_StepOf_l2 qp) 10 (stepBase qp, 0) with
 | none => rw [e] at h; simp only at h; omega
 | some q =>
  rw [e] at h
  rw [loop_it.2 ⟨10, e⟩, bnd_s]
  exact ⟨q, rfl, h⟩
theorem spec_KindOf_ev (p : Int) (h : 0 ≤ p ∧ p ≤ 15) : ∃ k, spec_KindOf p = some k ∧ 0 ≤ k ∧ k ≤ 2 := by
 unfold spec_KindOf
 rw [spec_l01In_eq, bnd_s, decide_eq_true h, Bool.not_true, sel_f, req_p (by omega), req_p (by omega), req_p (by omega), req_p (by omega), sel_and, bnd_s]
 cases ((wrapK .i64 (p.tdiv 4)).tmod 2 == 0 && (p.tmod 4).tmod 2 == 0) with
 | true => exact ⟨0, rfl, by omega, by omega⟩
 | false =>
  rw [sel_f, sel_and, bnd_s]
  cases ((wrapK .i64 (p.tdiv 4)).tmod 2 == 1 && (p.tmod 4).tmod 2 == 1) with
  | true => exact ⟨1, rfl, by omega, by omega⟩
  | false => exact ⟨2, rfl, by omega, by omega⟩
theorem spec_l08Pick_ev (k a b c : Int) : ∃ x, spec_l08Pick k a b c = some x ∧ (x = a ∨ x = b ∨ x = c) := by
 unfold spec_l08Pick
 cases (k == 0) with
 | true => exact ⟨a, rfl, Or.inl rfl⟩
 | false =>
  cases (k == 1) with
  | true => exact ⟨b, rfl, Or.inr (Or.inl rfl)⟩
  | false => exact ⟨c, rfl, Or.inr (Or.inr rfl)⟩
theorem scale_loop (qp : Int) (h0 : 0 ≤ qp ∧ qp ≤ 40) (x : Int) (hx : 0 ≤ x ∧ x ≤ 29) : ∃ o, loop (spec_ScaleOf_l2 qp) (x, 0) = some o ∧ 0 ≤ o ∧ o ≤ 1856 := by
 obtain ⟨o, e, h1, h2⟩ := acc_loop (f := spec_ScaleOf_l2 qp) (qp / 6).toNat (fun i s => 0 ≤ s ∧ s ≤ 29 * 2 ^ i) (by
  intro i s hi ⟨g1, g2⟩
  have h6 : (2 : Int) ^ i ≤ 64 := by
   have : i ≤ 6 := by omega
   obtain rfl | rfl | rfl | rfl | rfl | rfl | rfl : i = 0 ∨ i = 1 ∨ i = 2 ∨ i = 3 ∨ i = 4 ∨ i = 5 ∨ i = 6 := by omega
   all_goals decide
  have h7 : (2 : Int) ^ (i + 1) = 2 * 2 ^ i := by rw [Int.pow_succ, Int.mul_comm]
  unfold spec_ScaleOf_l2
  simp only
  rw [req_p (by omega), tdiv_pos (by omega), wk (e := qp / 6) (by omega) (by omega), sel_yes (by omega), wk (e := 2 * s) (by omega) (by omega), wk (e := (i : Int) + 1) (by omega) (by omega)]
  exact ⟨_, rfl, by omega, by rw [h7]; omega⟩) (by intro s; unfold spec_ScaleOf_l2; simp only; rw [req_p (by omega), tdiv_pos (by omega), wk (e := qp / 6) (by omega) (by omega), sel_no (by omega)]) x ⟨hx.1, by simp; omega⟩
 have h6 : (2 : Int) ^ (qp / 6).toNat ≤ 64 := by
  generalize hi : (qp / 6).toNat = i
  obtain rfl | rfl | rfl | rfl | rfl | rfl | rfl : i = 0 ∨ i = 1 ∨ i = 2 ∨ i = 3 ∨ i = 4 ∨ i = 5 ∨ i = 6 := by omega
  all_goals decide
 exact ⟨o, e, h1, by omega⟩
theorem spec_ScaleOf_ev (qp p : Int) (h0 : 0 ≤ qp ∧ qp ≤ 40) (hp : 0 ≤ p ∧ p ≤ 15) : ∃ s, spec_ScaleOf qp p = some s ∧ 0 ≤ s ∧ s ≤ 1856 := by
 unfold spec_ScaleOf
 obtain ⟨k, e, k0, k1⟩ := spec_KindOf_ev p hp
 rw [e, bnd_s, spec_l01In_eq, bnd_s, decide_eq_true h0, sel_t, decide_eq_false (by omega), bnd_s, sel_f, req_p (by omega)]
 obtain ⟨a1, e1, b1⟩ := spec_l08Pick_ev k 10 16 13
 obtain ⟨a2, e2, b2⟩ := spec_l08Pick_ev k 11 18 14
 obtain ⟨a3, e3, b3⟩ := spec_l08Pick_ev k 13 20 16
 obtain ⟨a4, e4, b4⟩ := spec_l08Pick_ev k 14 23 18
 obtain ⟨a5, e5, b5⟩ := spec_l08Pick_ev k 16 25 20
 obtain ⟨a6, e6, b6⟩ := spec_l08Pick_ev k 18 29 23
 rw [e1, e2, e3, e4, e5, e6]
 simp only [bnd_s, sel_ss]
 obtain ⟨o, eo, o1, o2⟩ := scale_loop qp h0 (sel (qp.tmod 6 == 0) a1 (sel (qp.tmod 6 == 1) a2 (sel (qp.tmod 6 == 2) a3 (sel (qp.tmod 6 == 3) a4 (sel (qp.tmod 6 == 4) a5 (sel (qp.tmod 6 == 5) a6 0)))))) (by
  simp only [sel_ite]
  repeat' split
  all_goals omega)
 exact ⟨o, (bnd_e eo).trans rfl, o1, o2⟩
theorem mul_sign {a s B : Int} (ha : -B ≤ a ∧ a ≤ B) (hs : -1 ≤ s ∧ s ≤ 1) : (-B ≤ a * s ∧ a * s ≤ B) ∧ (-B ≤ s * a ∧ s * a ≤ B) := by
 obtain rfl | rfl | rfl : s = -1 ∨ s = 0 ∨ s = 1 := by omega
 all_goals omega
theorem spec_l10Row_ev (p : List Int) (B : Int) (hB : 0 ≤ B ∧ B ≤ 1000000000000) (hl : p.length = 64) (hb : inB B p) (i v : Nat) (hi : i < 8) (hv : v < 8) : ∃ o, spec_l10Row p i v = some o ∧ -(8 * B) ≤ o ∧ o ≤ 8 * B := by
 unfold spec_l10Row
 obtain ⟨o, e, h1, h2⟩ := acc_loop (f := spec_l10Row_l2 p i v) 8 (fun k s => -(B * k) ≤ s ∧ s ≤ B * k) (by
  intro k s hk ⟨g1, g2⟩
  obtain ⟨q, eq, q0, q1⟩ := spec_SignOf_ev v k hv hk
  have ha := inB_at hb (i := 8 * i + k) (by omega)
  have hm := (mul_sign ha ⟨q0, q1⟩).1
  have hk8 : B * k ≤ B * 8 := Int.mul_le_mul_of_nonneg_left (by omega) hB.1
  have hk0 : B * ((k + 1 : Nat) : Int) = B * k + B := by rw [Int.natCast_add, Int.mul_add]; simp
  unfold spec_l10Row_l2
  simp only
  rw [sel_yes (by omega), wk (e := 8 * (i : Int)) (by omega) (by omega), wk (e := 8 * (i : Int) + (k : Int)) (by omega) (by omega), req_p (by omega), eq, bnd_s, show (8 * (i : Int) + (k : Int)).toNat = 8 * i + k by omega, wk (e := p.getD (8 * i + k) 0 * q) (by omega) (by omega), wk (e := s + p.getD (8 * i + k) 0 * q) (by omega) (by omega), wk (e := (k : Int) + 1) (by omega) (by omega)]
  exact ⟨_, rfl, by rw [hk0]; omega, by rw [hk0]; omega⟩) (by intro s; unfold spec_l10Row_l2; rw [sel_no (by simp)]) 0 (by simp)
 exact ⟨o, (bnd_e e).trans rfl, by omega, by omega⟩
theorem spec_l10Sums_ev (p : List Int) (B : Int) (hB : 0 ≤ B ∧ B ≤ 10000000000) (hl : p.length = 64) (hb : inB B p) : ∃ o, spec_l10Sums p = some o ∧ o.length = 64 ∧ inB (64 * B) o := by
 have hm : maxLen = 9223372036854775807 := rfl
 unfold spec_l10Sums
 obtain ⟨h, eh, hh1, hh2⟩ := st_loop (f := spec_l10Sums_l12 p) 8 (fun i s => s.length = 8 * i ∧ inB (8 * B) s) (by
  intro i s hi ⟨g1, g2⟩
  obtain ⟨t, et, t1, t2⟩ := st_loop (f := spec_l10Sums_l14 p ((i : Int), s)) 8 (fun v s => s.length = 8 * i + v ∧ inB (8 * B) s) (by
   intro v s hv ⟨g1, g2⟩
   obtain ⟨r, er, r1, r2⟩ := spec_l10Row_ev p B ⟨hB.1, by omega⟩ hl hb i v hi hv
   unfold spec_l10Sums_l14
   simp only
   rw [sel_yes (by omega), er, bnd_s, req_p (by simp only [List.length_singleton]; omega), wk (e := (v : Int) + 1) (by omega) (by omega)]
   exact ⟨_, rfl, by simp; omega, inB_append g2 (inB_one ⟨by omega, r2⟩)⟩) (by intro s; unfold spec_l10Sums_l14; rw [sel_no (by simp)]) s ⟨by omega, g2⟩
  unfold spec_l10Sums_l12
  simp only
  rw [sel_yes (by omega), et, bnd_s, wk (e := (i : Int) + 1) (by omega) (by omega)]
  exact ⟨_, rfl, by omega, t2⟩) (by intro s; unfold spec_l10Sums_l12; rw [sel_no (by simp)]) [] ⟨rfl, inB_nil _⟩
 rw [eh, bnd_s]
 obtain ⟨o, eo, o1, o2⟩ := st_loop (f := spec_l10Sums_l146 h) 8 (fun i s => s.length = 8 * i ∧ inB (64 * B) s) (by
  intro i s hi ⟨g1, g2⟩
  obtain ⟨t, et, t1, t2⟩ := st_loop (f := spec_l10Sums_l168 h ((i : Int), s)) 8 (fun v s => s.length = 8 * i + v ∧ inB (64 * B) s) (by
   intro v r hv ⟨g1, g2⟩
   obtain ⟨a, ea, a1, a2⟩ := acc_loop (f := spec_l10Sums_l172 h ((i : Int), s) ((v : Int), r)) 8 (fun k s => -(8 * B * k) ≤ s ∧ s ≤ 8 * B * k) (by
    intro k c hk ⟨g1, g2⟩
    obtain ⟨q, eq, q0, q1⟩ := spec_SignOf_ev i k hi hk
    have ha := inB_at hh2 (i := 8 * k + v) (by omega)
    have hm := (mul_sign ha ⟨q0, q1⟩).2
    have hk8 : 8 * B * k ≤ 8 * B * 8 := Int.mul_le_mul_of_nonneg_left (by omega) (by omega)
    have hk0 : 8 * B * ((k + 1 : Nat) : Int) = 8 * B * k + 8 * B := by rw [Int.natCast_add, Int.mul_add]; simp
    unfold spec_l10Sums_l172
    simp only
    rw [sel_yes (by omega), eq, bnd_s, wk (e := 8 * (k : Int)) (by omega) (by omega), wk (e := 8 * (k : Int) + (v : Int)) (by omega) (by omega), req_p (by omega), req_p (by omega), show (8 * (k : Int) + (v : Int)).toNat = 8 * k + v by omega, wk (e := q * h.getD (8 * k + v) 0) (by omega) (by omega), wk (e := c + q * h.getD (8 * k + v) 0) (by omega) (by omega), wk (e := (k : Int) + 1) (by omega) (by omega)]
    exact ⟨_, rfl, by rw [hk0]; omega, by rw [hk0]; omega⟩) (by intro s; unfold spec_l10Sums_l172; rw [sel_no (by simp)]) 0 (by simp)
   unfold spec_l10Sums_l168
   simp only
   rw [sel_yes (by omega), ea, bnd_s, req_p (by simp only [List.length_singleton]; omega), wk (e := (v : Int) + 1) (by omega) (by omega)]
   exact ⟨_, rfl, by simp; omega, inB_append g2 (inB_one ⟨by omega, by omega⟩)⟩) (by intro s; unfold spec_l10Sums_l168; rw [sel_no (by simp)]) s ⟨by omega, g2⟩
  unfold spec_l10Sums_l146
  simp only
  rw [sel_yes (by omega), et, bnd_s, wk (e := (i : Int) + 1) (by omega) (by omega)]
  exact ⟨_, rfl, by omega, t2⟩) (by intro s; unfold spec_l10Sums_l146; rw [sel_no (by simp)]) [] ⟨rfl, inB_nil _⟩
 exact ⟨o, (bnd_e eo).trans rfl, by omega, o2⟩
theorem spec_l09Down_ev (a b : Int) (ha : -1000000000000 ≤ a ∧ a ≤ 1000000000000) (hb : b = 2 ∨ b = 64) : ∃ d, spec_l09Down a b = some d ∧ b * d ≤ a ∧ a < b * d + b := by
 unfold spec_l09Down
 have h1 : b * (a.tdiv b) + a.tmod b = a := Int.mul_tdiv_add_tmod a b
 have h2 : -b < a.tmod b ∧ a.tmod b < b := by
  have hb0 : 0 < b := by omega
  refine ⟨?_, Int.tmod_lt_of_pos a hb0⟩
  have := Int.lt_tmod_of_pos a hb0
  omega
 rw [req_p (by omega), req_p (by omega)]
 generalize a.tmod b = m at h1 h2
 generalize a.tdiv b = t at h1 h2
 have ht : -1000000000001 ≤ t ∧ t ≤ 1000000000001 := by rcases hb with rfl | rfl <;> omega
 by_cases h : m < 0
 ·
  rw [sel_yes h, bnd_s, wk (e := t) (by omega) (by omega), wk (e := t - 1) (by omega) (by omega)]
  refine ⟨_, rfl, ?_⟩
  rcases hb with rfl | rfl <;> omega
 ·
  rw [sel_no h, bnd_s, wk (e := t) (by omega) (by omega)]
  refine ⟨_, rfl, ?_⟩
  rcases hb with rfl | rfl <;> omega
theorem spec_EightBack_ev (p : List Int) (hl : p.length = 64) (hb : inB 5760000 p) : ∃ o, spec_EightBack p = some o ∧ o.length = 64 ∧ inB 10000000 o := by
 unfold spec_EightBack
 obtain ⟨o, e, h1, h2⟩ := spec_l10Sums_ev p 5760000 (by omega) hl hb
 rw [l09All_yes p 64 10000000 (by omega) (by omega) (by omega) (inB_mono hb (by omega)), bnd_s, Bool.not_true, sel_f, e, bnd_s]
 obtain ⟨r, er, r1, r2⟩ := map_loop (f := spec_EightBack_l2) 64 (fun x => -368640000 ≤ x ∧ x ≤ 368640000) (fun x => -10000000 ≤ x ∧ x ≤ 10000000) (by
  intro i l hi hll hx
  obtain ⟨d, ed, d1, d2⟩ := spec_l09Down_ev (l.getD i 0 + 32) 64 (by omega) (Or.inr rfl)
  unfold spec_EightBack_l2
  simp only [Int.toNat_natCast]
  rw [sel_yes (by omega), req_p (by omega), req_p (by omega), wk (e := l.getD i 0 + 32) (by omega) (by omega), ed, bnd_s, req_p (by omega), req_p (by omega), wk (e := (i : Int) + 1) (by omega) (by omega)]
  exact ⟨d, rfl, by omega, by omega⟩) (by intro s; unfold spec_EightBack_l2; rw [sel_no (by simp)]) o h1 (fun x hx => by have := h2 x hx; omega)
 exact ⟨r, (bnd_e er).trans rfl, r1, r2⟩
theorem spec_l09Flip_ev (p : List Int) (B : Int) (hB : 0 ≤ B) (hl : p.length = 16) (hb : inB B p) : ∃ o, spec_l09Flip p = some o ∧ o.length = 16 ∧ inB B o := by
 unfold spec_l09Flip
 rw [req_p (by omega)]
 obtain ⟨o, e, h1, h2⟩ := st_loop (f := spec_l09Flip_l2 p) 16 (fun i s => s.length = 16 ∧ inB B s) (by
  intro i s hi ⟨g1, g2⟩
  have ha := inB_at hb (i := i) (by omega)
  unfold spec_l09Flip_l2
  simp only
  rw [sel_yes (by omega), req_p (by omega), req_p (by omega), req_p (by omega), tmod_pos (by omega), tdiv_pos (by omega), wk (e := (i : Int) / 4) (by omega) (by omega), wk (e := (i : Int) % 4 * 4) (by omega) (by omega), wk (e := (i : Int) % 4 * 4 + (i : Int) / 4) (by omega) (by omega), req_p (by omega), req_p (by omega), wk (e := (i : Int) + 1) (by omega) (by omega), Int.toNat_natCast]
  exact ⟨_, rfl, by rw [List.length_set]; exact g1, inB_set g2 _ ha⟩) (by intro s; unfold spec_l09Flip_l2; rw [sel_no (by simp)]) (List.replicate (16 : Int).toNat 0) ⟨by simp, inB_rep _ hB⟩
 exact ⟨o, (bnd_e e).trans rfl, h1, h2⟩
theorem inB_four {B a b c d : Int} (h1 : -B ≤ a ∧ a ≤ B) (h2 : -B ≤ b ∧ b ≤ B) (h3 : -B ≤ c ∧ c ≤ B) (h4 : -B ≤ d ∧ d ≤ B) : inB B [a, b, c, d] := fun x hx => by
 simp only [List.mem_cons, List.not_mem_nil, or_false] at hx
 rcases hx with rfl | rfl | rfl | rfl
 ·
  exact h1
 ·
  exact h2
 ·
  exact h3
 ·
  exact h4
theorem spec_l09Backs_ev (p : List Int) (B : Int) (hB : 0 ≤ B ∧ B ≤ 1000000000) (hl : p.length = 16) (hb : inB B p) : ∃ o, spec_l09Backs p = some o ∧ o.length = 16 ∧ inB (4 * B + 2) o := by
 have hm : maxLen = 9223372036854775807 := rfl
 unfold spec_l09Backs
 obtain ⟨o, e, h1, h2⟩ := st_loop (f := spec_l09Backs_l2 p) 4 (fun i s => s.length = 4 * i ∧ inB (4 * B + 2) s) (by
  intro i s hi ⟨g1, g2⟩
  have a0 := inB_at hb (i := 4 * i) (by omega)
  have a1 := inB_at hb (i := 4 * i + 1) (by omega)
  have a2 := inB_at hb (i := 4 * i + 2) (by omega)
  have a3 := inB_at hb (i := 4 * i + 3) (by omega)
  obtain ⟨f, ef, f1, f2⟩ := spec_l09Down_ev (p.getD (4 * i + 1) 0) 2 (by omega) (Or.inl rfl)
  obtain ⟨g, eg, g1', g2'⟩ := spec_l09Down_ev (p.getD (4 * i + 3) 0) 2 (by omega) (Or.inl rfl)
  unfold spec_l09Backs_l2
  simp only
  rw [sel_yes (by omega), wk (e := 4 * (i : Int)) (by omega) (by omega), wk (e := 4 * (i : Int) + 1) (by omega) (by omega), wk (e := 4 * (i : Int) + 2) (by omega) (by omega), wk (e := 4 * (i : Int) + 3) (by omega) (by omega), req_p (by omega), req_p (by omega), req_p (by omega), req_p (by omega), show (4 * (i : Int)).toNat = 4 * i by omega, show (4 * (i : Int) + 1).toNat = 4 * i + 1 by omega, show (4 * (i : Int) + 2).toNat = 4 * i + 2 by omega, show (4 * (i : Int) + 3).toNat = 4 * i + 3 by omega, ef, bnd_s, eg, bnd_s]
  generalize p.getD (4 * i) 0 = a at *
  generalize p.getD (4 * i + 1) 0 = b at *
  generalize p.getD (4 * i + 2) 0 = c at *
  generalize p.getD (4 * i + 3) 0 = d at *
  rw [wk (e := (i : Int) + 1) (by omega) (by omega), wk (e := a + c) (by omega) (by omega), wk (e := a - c) (by omega) (by omega), wk (e := b + g) (by omega) (by omega), wk (e := f - d) (by omega) (by omega), wk (e := a + c + (b + g)) (by omega) (by omega), wk (e := a - c + (f - d)) (by omega) (by omega), wk (e := a - c - (f - d)) (by omega) (by omega), wk (e := a + c - (b + g)) (by omega) (by omega), req_p (by simp only [List.length_cons, List.length_nil]; omega)]
  exact ⟨_, rfl, by simp; omega, inB_append g2 (inB_four (by omega) (by omega) (by omega) (by omega))⟩) (by intro s; unfold spec_l09Backs_l2; rw [sel_no (by simp)]) [] ⟨rfl, inB_nil _⟩
 exact ⟨o, (bnd_e e).trans rfl, h1, h2⟩
theorem spec_FourBack_ev (p : List Int) (hl : p.length = 16) (hb : inB 10000000 p) : ∃ o, spec_FourBack p = some o ∧ o.length = 16 ∧ inB 10000000 o := by
 unfold spec_FourBack
 obtain ⟨a, ea, a1, a2⟩ := spec_l09Backs_ev p 10000000 (by omega) hl hb
 obtain ⟨b, eb, b1, b2⟩ := spec_l09Flip_ev a _ (by omega) a1 a2
 obtain ⟨c, ec, c1, c2⟩ := spec_l09Backs_ev b _ (by omega) b1 b2
 obtain ⟨d, ed, d1, d2⟩ := spec_l09Flip_ev c _ (by omega) c1 c2
 rw [l09All_yes p 16 10000000 (by omega) (by omega) (by omega) hb, bnd_s, Bool.not_true, sel_f, ea, bnd_s, eb, bnd_s, ec, bnd_s, ed, bnd_s]
 obtain ⟨r, er, r1, r2⟩ := map_loop (f := spec_FourBack_l2) 16 (fun x => -160000010 ≤ x ∧ x ≤ 160000010) (fun x => -10000000 ≤ x ∧ x ≤ 10000000) (by
  intro i l hi hll hx
  obtain ⟨d, ed, d1, d2⟩ := spec_l09Down_ev (l.getD i 0 + 32) 64 (by omega) (Or.inr rfl)
  unfold spec_FourBack_l2
  simp only [Int.toNat_natCast]
  rw [sel_yes (by omega), req_p (by omega), req_p (by omega), wk (e := l.getD i 0 + 32) (by omega) (by omega), ed, bnd_s, req_p (by omega), req_p (by omega), wk (e := (i : Int) + 1) (by omega) (by omega)]
  exact ⟨d, rfl, by omega, by omega⟩) (by intro s; unfold spec_FourBack_l2; rw [sel_no (by simp)]) d d1 (fun x hx => by have := d2 x hx; omega)
 exact ⟨r, (bnd_e er).trans rfl, r1, r2⟩
theorem spec_SmallBack_ev (l qp p : Int) (hl : -5000 ≤ l ∧ l ≤ 5000) (h0 : 0 ≤ qp ∧ qp ≤ 40) (hp : 0 ≤ p ∧ p ≤ 15) : ∃ o, spec_SmallBack l qp p = some o ∧ -10000000 ≤ o ∧ o ≤ 10000000 := by
 unfold spec_SmallBack
 obtain ⟨s, es, q0, q1⟩ := spec_ScaleOf_ev qp p h0 hp
 rw [spec_l01In_eq, bnd_s, decide_eq_true hl, Bool.not_true, sel_f, es, bnd_s]
 have m1 : l * s ≤ 5000 * s := Int.mul_le_mul_of_nonneg_right hl.2 q0
 have m2 : -5000 * s ≤ l * s := Int.mul_le_mul_of_nonneg_right hl.1 q0
 rw [wk (by omega) (by omega)]
 exact ⟨_, rfl, by omega, by omega⟩
theorem spec_LargeBack_ev (l qp : Int) (hl : -5000 ≤ l ∧ l ≤ 5000) (h0 : 0 ≤ qp ∧ qp ≤ 40) : ∃ o, spec_LargeBack l qp = some o ∧ -5760000 ≤ o ∧ o ≤ 5760000 := by
 unfold spec_LargeBack
 obtain ⟨s, es, q0, q1⟩ := spec_StepOf_ev qp h0
 rw [spec_l01In_eq, bnd_s, decide_eq_true hl, Bool.not_true, sel_f, es, bnd_s]
 have m1 : l * s ≤ 5000 * s := Int.mul_le_mul_of_nonneg_right hl.2 (by omega)
 have m2 : -5000 * s ≤ l * s := Int.mul_le_mul_of_nonneg_right hl.1 (by omega)
 rw [wk (by omega) (by omega)]
 exact ⟨_, rfl, by omega, by omega⟩
theorem lv64_in {l : List Int} (h : lv64 l = true) : l.length = 64 ∧ inB 5000 l := by
 obtain ⟨h1, h2⟩ := lv64_parts h
 refine ⟨h1, fun x hx => ?_⟩
 have := List.all_eq_true.1 h2 x hx
 unfold lvIn at this
 rwa [decide_eq_true_eq] at this
theorem condOk_qp {c : Cond} (h : condOk c = true) : 0 ≤ c.Qp ∧ c.Qp ≤ 40 := by
 unfold condOk at h
 rw [Bool.and_eq_true, decide_eq_true_eq] at h
 exact h.1
theorem spec_LevelsBack_ev (p : List Int) (c : Cond) (hc : condOk c = true) (hp : lv64 p = true) : ∃ o, spec_LevelsBack p c = some (o, true) ∧ o.length = 64 ∧ inB 10000000 o := by
 have hm : maxLen = 9223372036854775807 := rfl
 have hq := condOk_qp hc
 obtain ⟨hl, hb⟩ := lv64_in hp
 unfold spec_LevelsBack
 rw [spec_CondOk_eq, bnd_s, hc, sel_t, l09All_yes p 64 5000 (by omega) (by omega) (by omega) hb, bnd_s, Bool.not_true, bnd_s, sel_f]
 cases hE : c.Exact with
 | true =>
  obtain ⟨o, e, h1, h2⟩ := spec_Unscanned_ev 8 (Or.inr rfl) p 5000 (by omega) (by omega) hb
  rw [sel_t, e, bnd_s]
  exact ⟨o, rfl, by omega, inB_mono h2 (by omega)⟩
 | false =>
  rw [sel_f]
  cases hL : c.Large with
  | true =>
   obtain ⟨w, ew, w1, w2⟩ := spec_Unscanned_ev 8 (Or.inr rfl) p 5000 (by omega) (by omega) hb
   obtain ⟨l, el, l1, l2⟩ := map_loop (f := spec_LevelsBack_l4 c) 64 (fun x => -5000 ≤ x ∧ x ≤ 5000) (fun x => -5760000 ≤ x ∧ x ≤ 5760000) (by
    intro i l hi hll hx
    obtain ⟨d, ed, d1, d2⟩ := spec_LargeBack_ev (l.getD i 0) c.Qp hx hq
    unfold spec_LevelsBack_l4
    simp only [Int.toNat_natCast]
    rw [sel_yes (by omega), req_p (by omega), req_p (by omega), ed, bnd_s, req_p (by omega), req_p (by omega), wk (e := (i : Int) + 1) (by omega) (by omega)]
    exact ⟨d, rfl, d1, d2⟩) (by intro s; unfold spec_LevelsBack_l4; rw [sel_no (by simp)]) w (by omega) w2
   obtain ⟨o, e, h1, h2⟩ := spec_EightBack_ev l l1 l2
   rw [sel_t, ew, bnd_s, el, bnd_s, e, bnd_s]
   exact ⟨o, rfl, h1, h2⟩
  | false =>
   obtain ⟨o, eo, o1, o2⟩ := st_loop (f := spec_LevelsBack_l36 p c) 4 (fun k s => s.length = 64 ∧ inB 10000000 s) (by
    intro k s hk ⟨g1, g2⟩
    have hcut : ((p.drop (16 * k)).take 16).length = 16 := by rw [List.length_take, List.length_drop]; omega
    obtain ⟨a, ea, a1, a2⟩ := spec_Unscanned_ev 4 (Or.inl rfl) ((p.drop (16 * k)).take 16) 5000 (by omega) (by omega) (inB_take (inB_drop hb _) _)
    obtain ⟨l, el, l1, l2⟩ := map_loop (f := spec_LevelsBack_l41 c) 16 (fun x => -5000 ≤ x ∧ x ≤ 5000) (fun x => -10000000 ≤ x ∧ x ≤ 10000000) (by
     intro i l hi hll hx
     obtain ⟨d, ed, d1, d2⟩ := spec_SmallBack_ev (l.getD i 0) c.Qp i hx hq (by omega)
     unfold spec_LevelsBack_l41
     simp only [Int.toNat_natCast]
     rw [sel_yes (by omega), req_p (by omega), req_p (by omega), ed, bnd_s, req_p (by omega), req_p (by omega), wk (e := (i : Int) + 1) (by omega) (by omega)]
     exact ⟨d, rfl, d1, d2⟩) (by intro s; unfold spec_LevelsBack_l41; rw [sel_no (by simp)]) a (by omega) a2
    obtain ⟨b, eb, b1, b2⟩ := spec_FourBack_ev l l1 l2
    obtain ⟨r, er, r1, r2⟩ := st_loop (f := spec_LevelsBack_l42 ((k : Int), s) b) 16 (fun i s => s.length = 64 ∧ inB 10000000 s) (by
     intro i s hi ⟨g1, g2⟩
     have ha := inB_at b2 (i := i) (by omega)
     unfold spec_LevelsBack_l42
     simp only
     rw [sel_yes (by omega), req_p (by omega), req_p (by omega), req_p (by omega), req_p (by omega), req_p (by omega), req_p (by omega), tdiv_pos (a := (k : Int)) (by omega), tdiv_pos (a := (i : Int)) (by omega), tmod_pos (a := (k : Int)) (by omega), tmod_pos (a := (i : Int)) (by omega), wk (e := (k : Int) / 2) (by omega) (by omega), wk (e := (k : Int) / 2 * 4) (by omega) (by omega), wk (e := (i : Int) / 4) (by omega) (by omega), wk (e := (k : Int) / 2 * 4 + (i : Int) / 4) (by omega) (by omega), wk (e := 8 * ((k : Int) / 2 * 4 + (i : Int) / 4)) (by omega) (by omega), wk (e := (k : Int) % 2 * 4) (by omega) (by omega), wk (e := 8 * ((k : Int) / 2 * 4 + (i : Int) / 4) + (k : Int) % 2 * 4) (by omega) (by omega), wk (e := 8 * ((k : Int) / 2 * 4 + (i : Int) / 4) + (k : Int) % 2 * 4 + (i : Int) % 4) (by omega) (by omega), req_p (by omega), req_p (by omega), wk (e := (i : Int) + 1) (by omega) (by omega), Int.toNat_natCast]
     exact ⟨_, rfl, by rw [List.length_set]; exact g1, inB_set g2 _ ha⟩) (by intro s; unfold spec_LevelsBack_l42; rw [sel_no (by simp)]) s ⟨g1, g2⟩
    unfold spec_LevelsBack_l36
    simp only
    rw [sel_yes (by omega), wk (e := 16 * (k : Int)) (by omega) (by omega), wk (e := 16 * (k : Int) + 16) (by omega) (by omega), req_p (by omega), show (16 * (k : Int)).toNat = 16 * k by omega, show (16 * (k : Int) + 16).toNat - 16 * k = 16 by omega, ea, bnd_s, el, bnd_s, eb, bnd_s, er, bnd_s, wk (e := (k : Int) + 1) (by omega) (by omega)]
    exact ⟨_, rfl, r1, r2⟩) (by intro s; unfold spec_LevelsBack_l36; rw [sel_no (by simp)]) (List.replicate (64 : Int).toNat 0) ⟨by simp, inB_rep _ (by omega)⟩
   rw [sel_f, req_p (by omega), eo, bnd_s]
   exact ⟨o, rfl, o1, o2⟩
theorem spec_l13Dots_yes (l : List Int) (h : dots64 l = true) : spec_l13Dots l = some true := by
 obtain ⟨h1, h2⟩ := dots64_at h
 unfold spec_l13Dots
 rw [sel_neg (by simp only [bne_eq_false_iff_eq]; omega), self_loop l.length (f := spec_l13Dots_l2 l) (by
  intro i hi
  have := h2 i (by omega)
  unfold spec_l13Dots_l2
  rw [sel_yes (by omega), req_p (by omega), spec_l01In_eq, bnd_s, Int.toNat_natCast, decide_eq_true this, Bool.not_true, sel_f, wk (by omega) (by omega)]
  rfl) (by unfold spec_l13Dots_l2; rw [sel_no (by omega)]), bnd_s]
theorem dots64_of {l : List Int} (h1 : l.length = 64) (h2 : ∀ x ∈ l, 0 ≤ x ∧ x ≤ 255) : dots64 l = true := by
 unfold dots64
 rw [Bool.and_eq_true, decide_eq_true_eq, List.all_eq_true]
 exact ⟨h1, fun x hx => by unfold dotIn; rw [decide_eq_true_eq]; exact h2 x hx⟩
theorem spec_Joined_ev (g b : List Int) (hg : dots64 g = true) (hl : b.length = 64) (hb : inB 10000000 b) : ∃ o, spec_Joined g b = some o ∧ dots64 o = true := by
 have hm : maxLen = 9223372036854775807 := rfl
 obtain ⟨g1, g2⟩ := dots64_at hg
 unfold spec_Joined
 rw [spec_l13Dots_yes g hg, bnd_s, sel_t, l09All_yes b 64 10000000 (by omega) (by omega) (by omega) hb, bnd_s, Bool.not_true, bnd_s, sel_f]
 obtain ⟨o, e, h1, h2⟩ := st_loop (f := spec_Joined_l2 g b) 64 (fun i s => s.length = i ∧ ∀ x ∈ s, 0 ≤ x ∧ x ≤ 255) (by
  intro i s hi ⟨k1, k2⟩
  have ha := inB_at hb (i := i) (by omega)
  have hd := g2 i hi
  have br := brought_in (n := g.getD i 0 + b.getD i 0) (a := 0) (b := 255) (by omega)
  unfold spec_Joined_l2
  simp only [Int.toNat_natCast]
  rw [sel_yes (by omega), req_p (by omega), req_p (by omega), wk (e := g.getD i 0 + b.getD i 0) (by omega) (by omega), spec_Brought_eq, bnd_s, req_p (by simp only [List.length_singleton]; omega), wk (e := (i : Int) + 1) (by omega) (by omega)]
  refine ⟨_, rfl, by simp; omega, fun x hx => ?_⟩
  rcases List.mem_append.1 hx with hx | hx
  ·
   exact k2 x hx
  ·
   rw [List.mem_singleton.1 hx]; exact br) (by intro s; unfold spec_Joined_l2; rw [sel_no (by simp)]) [] ⟨rfl, fun x hx => by simp at hx⟩
 exact ⟨o, (bnd_e e).trans rfl, dots64_of h1 h2⟩
def edgesP (e : Edges) : Prop := (e.Above.length = 0 ∨ e.Above.length = 8) ∧ (e.Left.length = 0 ∨ e.Left.length = 8) ∧ (∀ x ∈ e.Above, 0 ≤ x ∧ x ≤ 255) ∧ (∀ x ∈ e.Left, 0 ≤ x ∧ x ≤ 255) ∧ -1 ≤ e.Corner ∧ e.Corner ≤ 255
theorem spec_l12Within_8 {p : Pic} (ok : picOk p = true) (x y : Int) : spec_l12Within p x y 8 8 = some (heldAt p x y) := by
 obtain ⟨k1, k2, k3⟩ := picOk_parts ok
 unfold spec_l12Within heldAt
 rw [spec_PicOk_eq, bnd_s, ok, sel_t, spec_l01In_eq, bnd_s, spec_l01In_eq, bnd_s, wk (e := p.Wide - 8) (by omega) (by omega), wk (e := p.High - 8) (by omega) (by omega), spec_l01In_eq, bnd_s, spec_l01In_eq, bnd_s]
 simp only [sel_and, bnd_s]
 congr 1
 rw [Bool.eq_iff_iff]
 simp only [Bool.and_eq_true, decide_eq_true_eq]
 omega
theorem spec_l13Fits_yes {p : Pic} (ok : picOk p = true) {x y : Int} (hx : x.tmod 8 = 0) (hy : y.tmod 8 = 0) (h : heldAt p x y = true) : spec_l13Fits p x y = some true := by
 unfold spec_l13Fits
 rw [req_p (by omega), hx, req_p (by omega), hy, spec_l12Within_8 ok, bnd_s, h]
 rfl
theorem spec_EdgesOf_ev {p : Pic} (ok : picOk p = true) {x y : Int} (hx : x.tmod 8 = 0) (hy : y.tmod 8 = 0) (h : heldAt p x y = true) : ∃ e, spec_EdgesOf p x y = some (e, true) ∧ edgesP e := by
 have hm : maxLen = 9223372036854775807 := rfl
 obtain ⟨k1, k2, k3⟩ := picOk_parts ok
 have h' := h
 unfold heldAt at h'
 rw [decide_eq_true_eq] at h'
 unfold spec_EdgesOf
 rw [spec_l13Fits_yes ok hx hy h, bnd_s, Bool.not_true, sel_f]
 obtain ⟨o, e, o1, o2, o3, o4, o5, o6⟩ := st_loop (f := spec_EdgesOf_l2 p x y) 8 (fun i s => (y > 0 → s.1.length = i) ∧ (¬ y > 0 → s.1.length = 0) ∧ (x > 0 → s.2.length = i) ∧ (¬ x > 0 → s.2.length = 0) ∧ (∀ z ∈ s.1, 0 ≤ z ∧ z ≤ 255) ∧ (∀ z ∈ s.2, 0 ≤ z ∧ z ≤ 255)) (by
  intro i s hi ⟨g1, g2, g3, g4, g5, g6⟩
  obtain ⟨a, b⟩ := s
  simp only at g1 g2 g3 g4 g5 g6
  have d1 := dotAt_range p (x + i) (y - 1)
  have d2 := dotAt_range p (x - 1) (y + i)
  have st1 : ∃ a', (sel (decide (y > 0)) (bnd (spec_DotAt p (wrapK .i64 (x + (i : Int))) (wrapK .i64 (y - 1))) fun q16 => req ((a.length + ([q16]).length) * 8 ≤ 140737488355328 ∧ a.length + ([q16]).length ≤ maxLen) <| some (a ++ ([q16]))) (some a)) = some a' ∧ (y > 0 → a'.length = i + 1) ∧ (¬ y > 0 → a'.length = 0) ∧ (∀ z ∈ a', 0 ≤ z ∧ z ≤ 255) := by
   by_cases c : y > 0
   ·
    rw [sel_yes c, wk (e := x + (i : Int)) (by omega) (by omega), wk (e := y - 1) (by omega) (by omega), spec_DotAt_eq ok, bnd_s, req_p (by simp only [List.length_singleton]; have := g1 c; omega)]
    refine ⟨_, rfl, fun _ => by simp; exact g1 c, fun hn => absurd c hn, fun z hz => ?_⟩
    rcases List.mem_append.1 hz with hz | hz
    ·
     exact g5 z hz
    ·
     rw [List.mem_singleton.1 hz]; exact d1
   ·
    rw [sel_no c]
    exact ⟨_, rfl, fun hn => absurd hn c, fun _ => g2 c, g5⟩
  obtain ⟨a', ea, a1, a2, a3⟩ := st1
  have st2 : ∃ b', (sel (decide (x > 0)) (bnd (spec_DotAt p (wrapK .i64 (x - 1)) (wrapK .i64 (y + (i : Int)))) fun q17 => req ((b.length + ([q17]).length) * 8 ≤ 140737488355328 ∧ b.length + ([q17]).length ≤ maxLen) <| some (a', (b ++ ([q17])))) (some (a', b))) = some (a', b') ∧ (x > 0 → b'.length = i + 1) ∧ (¬ x > 0 → b'.length = 0) ∧ (∀ z ∈ b', 0 ≤ z ∧ z ≤ 255) := by
   by_cases c : x > 0
   ·
    rw [sel_yes c, wk (e := y + (i : Int)) (by omega) (by omega), wk (e := x - 1) (by omega) (by omega), spec_DotAt_eq ok, bnd_s, req_p (by simp only [List.length_singleton]; have := g3 c; omega)]
    refine ⟨_, rfl, fun _ => by simp; exact g3 c, fun hn => absurd c hn, fun z hz => ?_⟩
    rcases List.mem_append.1 hz with hz | hz
    ·
     exact g6 z hz
    ·
     rw [List.mem_singleton.1 hz]; exact d2
   ·
    rw [sel_no c]
    exact ⟨_, rfl, fun hn => absurd hn c, fun _ => g4 c, g6⟩
  obtain ⟨b', eb, b1, b2, b3⟩ := st2
  unfold spec_EdgesOf_l2
  simp only
  rw [sel_yes (by omega), ea, bnd_s, eb, bnd_s, wk (e := (i : Int) + 1) (by omega) (by omega)]
  exact ⟨(a', b'), rfl, a1, a2, b1, b2, a3, b3⟩) (by intro s; unfold spec_EdgesOf_l2; rw [sel_no (by simp)]) ([], []) ⟨fun _ => rfl, fun _ => rfl, fun _ => rfl, fun _ => rfl, fun z hz => by simp at hz, fun z hz => by simp at hz⟩
 rw [e, bnd_s, sel_and, bnd_s]
 have d3 := dotAt_range p (x - 1) (y - 1)
 have ha : o.1.length = 0 ∨ o.1.length = 8 := by
  by_cases c : y > 0
  ·
   exact Or.inr (o1 c)
  ·
   exact Or.inl (o2 c)
 have hb : o.2.length = 0 ∨ o.2.length = 8 := by
  by_cases c : x > 0
  ·
   exact Or.inr (o3 c)
  ·
   exact Or.inl (o4 c)
 cases hc : (decide (x > 0) && decide (y > 0)) with
 | true =>
  rw [sel_t, wk (e := x - 1) (by omega) (by omega), wk (e := y - 1) (by omega) (by omega), spec_DotAt_eq ok, bnd_s, bnd_s]
  exact ⟨_, rfl, ha, hb, o5, o6, by simp only; omega, by simp only; omega⟩
 | false =>
  rw [sel_f, bnd_s]
  exact ⟨_, rfl, ha, hb, o5, o6, by simp only; omega, by simp only; omega⟩
theorem spec_l13Side_yes (l : List Int) (hl : l.length = 0 ∨ l.length = 8) (h : ∀ x ∈ l, 0 ≤ x ∧ x ≤ 255) : spec_l13Side l = some true := by
 unfold spec_l13Side
 have hc : (sel ((l.length : Int) != 0) (some ((l.length : Int) != 8)) (some false)) = some false := by
  rcases hl with e | e
  ·
   rw [e]; rfl
  ·
   rw [e]; rfl
 rw [hc, bnd_s, sel_f, self_loop l.length (f := spec_l13Side_l2 l) (by
  intro i hi
  have := h (l.getD i 0) (by rw [getD_at l i hi]; exact List.getElem_mem _)
  unfold spec_l13Side_l2
  rw [sel_yes (by omega), req_p (by omega), spec_l01In_eq, bnd_s, Int.toNat_natCast, decide_eq_true this, Bool.not_true, sel_f, wk (by omega) (by omega)]
  rfl) (by unfold spec_l13Side_l2; rw [sel_no (by omega)]), bnd_s]
theorem spec_EdgesOk_yes {e : Edges} (h : edgesP e) : spec_EdgesOk e = some true := by
 obtain ⟨h1, h2, h3, h4, h5, h6⟩ := h
 unfold spec_EdgesOk
 rw [spec_l13Side_yes _ h1 h3, bnd_s, sel_t, spec_l13Side_yes _ h2 h4, bnd_s, sel_t, spec_l01In_eq, bnd_s, decide_eq_true ⟨h5, h6⟩, bnd_s]
theorem spec_l13Filled_ev (l : List Int) (k : Nat) (hk : k < 8) (hl : l.length = 0 ∨ l.length = 8) (h : ∀ x ∈ l, 0 ≤ x ∧ x ≤ 255) : ∃ x, spec_l13Filled l k = some x ∧ 0 ≤ x ∧ x ≤ 255 := by
 unfold spec_l13Filled
 rcases hl with e | e
 ·
  rw [sel_pos (by rw [e]; rfl)]; exact ⟨_, rfl, by omega, by omega⟩
 ·
  rw [sel_neg (by rw [e]; rfl), req_p (by omega), Int.toNat_natCast]
  exact ⟨_, rfl, h _ (by rw [getD_at l k (by omega)]; exact List.getElem_mem _)⟩
theorem spec_l13Mid_ev {e : Edges} (h : edgesP e) : ∃ x, spec_l13Mid e = some x ∧ 0 ≤ x ∧ x ≤ 255 := by
 obtain ⟨h1, h2, h3, h4, _, _⟩ := h
 unfold spec_l13Mid
 rw [wk (e := (e.Above.length : Int) + (e.Left.length : Int)) (by omega) (by omega)]
 by_cases hz : (e.Above.length : Int) + (e.Left.length : Int) = 0
 ·
  rw [sel_pos (by simpa using hz)]; exact ⟨_, rfl, by omega, by omega⟩
 ·
  rw [sel_neg (by simpa using hz), req_p (by omega), tdiv_pos (by omega), wk (e := ((e.Above.length : Int) + (e.Left.length : Int)) / 2) (by omega) (by omega)]
  obtain ⟨a, ea, a1, a2⟩ := acc_loop (f := spec_l13Mid_l2 e) e.Above.length (fun i s => 0 ≤ s ∧ s ≤ ((e.Above.length : Int) + (e.Left.length : Int)) / 2 + 255 * i) (by
   intro i s hi ⟨g1, g2⟩
   have := h3 (e.Above.getD i 0) (by rw [getD_at _ i hi]; exact List.getElem_mem _)
   unfold spec_l13Mid_l2
   simp only [Int.toNat_natCast]
   rw [sel_yes (by omega), req_p (by omega), wk (e := s + e.Above.getD i 0) (by omega) (by omega), wk (e := (i : Int) + 1) (by omega) (by omega)]
   exact ⟨_, rfl, by omega, by omega⟩) (by intro s; unfold spec_l13Mid_l2; rw [sel_no (by simp)]) (((e.Above.length : Int) + (e.Left.length : Int)) / 2) ⟨by omega, by omega⟩
  obtain ⟨b, eb, b1, b2⟩ := acc_loop (f := spec_l13Mid_l4 e) e.Left.length (fun i s => 0 ≤ s ∧ s ≤ ((e.Above.length : Int) + (e.Left.length : Int)) / 2 + 255 * e.Above.length + 255 * i) (by
   intro i s hi ⟨g1, g2⟩
   have := h4 (e.Left.getD i 0) (by rw [getD_at _ i hi]; exact List.getElem_mem _)
   unfold spec_l13Mid_l4
   simp only [Int.toNat_natCast]
   rw [sel_yes (by omega), req_p (by omega), wk (e := s + e.Left.getD i 0) (by omega) (by omega), wk (e := (i : Int) + 1) (by omega) (by omega)]
   exact ⟨_, rfl, by omega, by omega⟩) (by intro s; unfold spec_l13Mid_l4; rw [sel_no (by simp)]) a ⟨by omega, by omega⟩
  rw [ea, bnd_s, eb, bnd_s, req_p hz, tdiv_pos b1]
  have hn : (e.Above.length : Int) + (e.Left.length : Int) = 8 ∨ (e.Above.length : Int) + (e.Left.length : Int) = 16 := by omega
  have hr : 0 ≤ b / ((e.Above.length : Int) + (e.Left.length : Int)) ∧ b / ((e.Above.length : Int) + (e.Left.length : Int)) ≤ 255 := by
   rcases hn with hn | hn <;> rw [hn] <;> omega
  rw [wk (by omega) (by omega)]
  exact ⟨_, rfl, hr⟩
theorem spec_GuessOf_ev (m : Int) (hm0 : 0 ≤ m ∧ m ≤ 3) {e : Edges} (h : edgesP e) : ∃ g, spec_GuessOf m e = some g ∧ dots64 g = true := by
 have hm : maxLen = 9223372036854775807 := rfl
 have h' := h
 obtain ⟨h1, h2, h3, h4, h5, h6⟩ := h'
 obtain ⟨mid, em, m1, m2⟩ := spec_l13Mid_ev h
 unfold spec_GuessOf
 rw [spec_EdgesOk_yes h, bnd_s, sel_t, spec_l01In_eq, bnd_s, decide_eq_true hm0, Bool.not_true, bnd_s, sel_f]
 have hc : ∃ v, sel (decide (e.Corner < 0)) (some (128 : Int)) (some e.Corner) = some v ∧ 0 ≤ v ∧ v ≤ 255 := by
  by_cases c : e.Corner < 0
  ·
   rw [sel_yes c]; exact ⟨_, rfl, by omega, by omega⟩
  ·
   rw [sel_no c]; exact ⟨_, rfl, by omega, by omega⟩
 obtain ⟨v, ev, v1, v2⟩ := hc
 rw [ev, bnd_s]
 obtain ⟨o, eo, o1, o2⟩ := st_loop (f := spec_GuessOf_l2 m e v) 64 (fun i s => s.length = i ∧ ∀ x ∈ s, 0 ≤ x ∧ x ≤ 255) (by
  intro i s hi ⟨g1, g2⟩
  obtain ⟨a, ea, a1, a2⟩ := spec_l13Filled_ev e.Above (i % 8) (by omega) h1 h3
  obtain ⟨b, eb, b1, b2⟩ := spec_l13Filled_ev e.Left (i / 8) (by omega) h2 h4
  have br := brought_in (n := b + a - v) (a := 0) (b := 255) (by omega)
  have put : ∀ z : Int, 0 ≤ z ∧ z ≤ 255 → (s ++ [z]).length = i + 1 ∧ ∀ x ∈ s ++ [z], 0 ≤ x ∧ x ≤ 255 := by
   intro z hz
   refine ⟨by simp; omega, fun x hx => ?_⟩
   rcases List.mem_append.1 hx with hx | hx
   ·
    exact g2 x hx
   ·
    rw [List.mem_singleton.1 hx]; exact hz
  unfold spec_GuessOf_l2
  simp only
  rw [sel_yes (by omega), req_p (by omega), tmod_pos (by omega), show (i : Int) % 8 = ((i % 8 : Nat) : Int) by omega, ea, bnd_s, req_p (by omega), tdiv_pos (by omega), wk (e := (i : Int) / 8) (by omega) (by omega), show (i : Int) / 8 = ((i / 8 : Nat) : Int) by omega, eb, bnd_s, wk (e := (i : Int) + 1) (by omega) (by omega), em]
  cases (m == 0) with
  | true =>
   rw [sel_t, bnd_s, req_p (by simp only [List.length_singleton]; omega), bnd_s]
   exact ⟨_, rfl, put _ ⟨m1, m2⟩⟩
  | false =>
   rw [sel_f]
   cases (m == 1) with
   | true =>
    rw [sel_t, req_p (by simp only [List.length_singleton]; omega), bnd_s]
    exact ⟨_, rfl, put _ ⟨a1, a2⟩⟩
   | false =>
    rw [sel_f]
    cases (m == 2) with
    | true =>
     rw [sel_t, req_p (by simp only [List.length_singleton]; omega), bnd_s]
     exact ⟨_, rfl, put _ ⟨b1, b2⟩⟩
    | false =>
     rw [sel_f, wk (e := b + a) (by omega) (by omega), wk (e := b + a - v) (by omega) (by omega), spec_Brought_eq, bnd_s, req_p (by simp only [List.length_singleton]; omega), bnd_s]
     exact ⟨_, rfl, put _ br⟩) (by intro s; unfold spec_GuessOf_l2; rw [sel_no (by simp)]) [] ⟨rfl, fun x hx => by simp at hx⟩
 exact ⟨o, (bnd_e eo).trans rfl, dots64_of o1 o2⟩
def sideB (n : Int) : Bool := decide (n.tmod 8 = 0) && decide (8 ≤ n ∧ n ≤ 64)
theorem spec_l05ParRight_ev (c : L01Cur) (hc : curOk c) : ∃ p c', spec_l05ParRight c = some (p, c') ∧ parOk p = true ∧ curOk c' := by
 unfold spec_l05ParRight
 obtain ⟨x, c1, e1, x0, x1, _, h1⟩ := spec_l01Below_ev c 41 hc
 obtain ⟨b, c2, e2, h2⟩ := spec_l01Once_ev c1 4 h1
 obtain ⟨y, c3, e3, y0, y1, _, h3⟩ := spec_l01Below_ev c2 3 h2
 have x1' := x1 (by omega)
 rw [e1, bnd_s]
 simp only
 rw [e2, bnd_s]
 simp only
 rw [e3, bnd_s]
 simp only
 have po : ∀ (l e f : Bool), (l && e) = false → parOk ⟨x, l, e, f⟩ = true := by
  intro l e f h
  unfold parOk
  rw [Bool.and_eq_true, decide_eq_true_eq]
  exact ⟨by simp only; omega, by simp only [h]; rfl⟩
 cases (y == 0) with
 | true => exact ⟨_, _, rfl, po _ _ _ rfl, h3⟩
 | false =>
  cases (y == 1) with
  | true => exact ⟨_, _, rfl, po _ _ _ rfl, h3⟩
  | false => exact ⟨_, _, rfl, po _ _ _ rfl, h3⟩
theorem it_congr {V O : Type} {f g : V → Option (Lp V O)} (I : V → Prop) (h : ∀ v, I v → f v = g v) (hI : ∀ v v', I v → g v = some (.go v') → I v') : ∀ (k : Nat) (v : V), I v → it f k v = it g k v
 | 0, _, _ => rfl
 | k + 1, v, hv => by
  rw [it, it, h v hv]
  cases e : g v with
  | none => rfl
  | some s =>
   cases s with
   | go y => exact it_congr I h hI k y (hI v y hv e)
   | done o => rfl
theorem loop_congr {V O : Type} {f g : V → Option (Lp V O)} (I : V → Prop) (h : ∀ v, I v → f v = g v) (hI : ∀ v v', I v → g v = some (.go v') → I v') {v : V} (hv : I v) : loop f v = loop g v := by
 apply Option.ext
 intro o
 rw [loop_it, loop_it]
 exact ⟨fun ⟨k, hk⟩ => ⟨k, by rw [← it_congr I h hI k v hv]; exact hk⟩, fun ⟨k, hk⟩ => ⟨k, by rw [it_congr I h hI k v hv]; exact hk⟩⟩
theorem loop_of {V O : Type} {f : V → Option (Lp V O)} {v : V} {o : O} (k : Nat) (h : it f k v = some o) : loop f v = some o := loop_it.2 ⟨k, h⟩
theorem list_eq {a b : List Int} {n : Nat} (ha : a.length = n) (hb : b.length = n) (h : ∀ i : Nat, i < n → a.getD i 0 = b.getD i 0) : a = b := by
 apply List.ext_getElem (by omega)
 intro i h1 h2
 have := h i (by omega)
 rwa [getD_at a i h1, getD_at b i h2] at this
theorem getD_map {n : Nat} (g : Nat → Int) {i : Nat} (h : i < n) : ((List.range n).map g).getD i 0 = g i := by
 rw [getD_at _ i (by simpa using h)]; simp
theorem app_loop {α : Type} {f : Int × List α → Option (Lp (Int × List α) (List α))} (n : Nat) (g : Nat → α) (a : List α) (hs : ∀ i : Nat, i < n → f ((i : Int), a ++ (List.range i).map g) = some (.go (((i + 1 : Nat) : Int), a ++ (List.range i).map g ++ [g i]))) (he : f ((n : Int), a ++ (List.range n).map g) = some (.done (a ++ (List.range n).map g))) : loop f (0, a) = some (a ++ (List.range n).map g) := by
 have key : ∀ i : Nat, i ≤ n → loop f ((i : Int), a ++ (List.range i).map g) = some (a ++ (List.range n).map g) := by
  refine down_to _ (ldone he) ?_
  intro i hi ih
  refine lgo (hs i hi) ?_
  rw [List.append_assoc, show (List.range i).map g ++ [g i] = (List.range (i + 1)).map g by simp [List.range_succ]]
  exact ih
 have := key 0 (by omega)
 simpa using this
theorem st_loop2 {S : Type} {f : Int × S → Option (Lp (Int × S) S)} (n : Nat) (I : Nat → S → Prop) (hs : ∀ (i : Nat) (l : S), i < n → I i l → ∃ l', f ((i : Int), l) = some (.go (((i + 1 : Nat) : Int), l')) ∧ I (i + 1) l') (he : ∀ l, I n l → f ((n : Int), l) = some (.done l)) (l0 : S) (h0 : I 0 l0) : ∃ o, loop f (0, l0) = some o ∧ I n o := by
 have key : ∀ i : Nat, i ≤ n → ∀ l, I i l → ∃ o, loop f ((i : Int), l) = some o ∧ I n o := by
  refine down_to _ ?_ ?_
  ·
   intro l h; exact ⟨l, ldone (he l h), h⟩
  ·
   intro i hi ih l h
   obtain ⟨l', e, h'⟩ := hs i l hi h
   obtain ⟨o, e2, h2⟩ := ih l' h'
   exact ⟨o, lgo e e2, h2⟩
 exact key 0 (by omega) l0 h0
theorem place_loop {f : Int × List Int → Option (Lp (Int × List Int) (List Int))} (n : Nat) (g : Nat → Int) (l : List Int) (hl : l.length = n) (hs : ∀ (i : Nat) (s : List Int), i < n → s.length = n → s.getD i 0 = l.getD i 0 → f ((i : Int), s) = some (.go (((i + 1 : Nat) : Int), s.set i (g i)))) (he : ∀ s : List Int, s.length = n → f ((n : Int), s) = some (.done s)) : loop f (0, l) = some ((List.range n).map g) := by
 obtain ⟨o, e, h1, h2, _⟩ := st_loop2 (f := f) n (fun i s => s.length = n ∧ (∀ j, j < i → s.getD j 0 = g j) ∧ ∀ j, i ≤ j → s.getD j 0 = l.getD j 0) (by
  intro i s hi ⟨g1, g2, g3⟩
  refine ⟨_, hs i s hi g1 (g3 i (Nat.le_refl _)), by rw [List.length_set]; exact g1, fun j hj => ?_, fun j hj => ?_⟩
  ·
   rw [getD_set_at s i j _ (by omega)]
   by_cases h : i = j
   ·
    rw [if_pos h, h]
   ·
    rw [if_neg h]; exact g2 j (by omega)
  ·
   rw [getD_set_at s i j _ (by omega), if_neg (by omega)]; exact g3 j (by omega)) (fun s hs => he s hs.1) l ⟨hl, fun j hj => by omega, fun _ _ => rfl⟩
 rw [e]
 congr 1
 exact list_eq h1 (by simp) fun i hi => by rw [h2 i hi, getD_map g hi]
theorem floor_alike : impl_floor = spec_l09Down := rfl
theorem spec_StepOf_eq (qp : Int) (h0 : 0 ≤ qp ∧ qp ≤ 40) : spec_StepOf qp = some (stepPlace qp) := by
 have h := step_ok ⟨qp.toNat, by omega⟩
 simp only at h
 rw [show ((qp.toNat : Nat) : Int) = qp by omega] at h
 unfold spec_StepOf
 rw [spec_l01In_eq, bnd_s, decide_eq_true (by omega), Bool.not_true, sel_f, req_p (by omega)]
 have hb : (sel ((qp.tmod 6) == 0) (some (10 : Int)) (sel ((qp.tmod 6) == 1) (some 11) (sel ((qp.tmod 6) == 2) (some 13) (sel ((qp.tmod 6) == 3) (some 14) (sel ((qp.tmod 6) == 4) (some 16) (some 18)))))) = some (stepBase qp) := by
  unfold stepBase
  simp only [sel_ite, beq_iff_eq]
  repeat' split
  all_goals rfl
 rw [hb, bnd_s]
 unfold stepPlace at h ⊢
 cases e : it (spec_StepOf_l2 qp) 10 (stepBase qp, 0) with
 | none => rw [e] at h; simp only at h; omega
 | some q => rw [loop_it.2 ⟨10, e⟩, bnd_s]
theorem impl_step_all : ∀ q : Fin 41, impl_StepOf (q.val : Int) = some (stepPlace (q.val : Int)) := by decide +kernel
theorem impl_StepOf_eq (qp : Int) (h0 : 0 ≤ qp ∧ qp ≤ 40) : impl_StepOf qp = some (stepPlace qp) := by
 have := impl_step_all ⟨qp.toNat, by omega⟩
 simp only at this
 rwa [show ((qp.toNat : Nat) : Int) = qp by omega] at this
theorem StepOf_alike (qp : Int) (h0 : 0 ≤ qp ∧ qp ≤ 40) : impl_StepOf qp = spec_StepOf qp := by rw [impl_StepOf_eq qp h0, spec_StepOf_eq qp h0]
theorem spec_SignOf_eq (u v : Nat) (hu : u < 8) (hv : v < 8) : spec_SignOf u v = some (signPlace u v) := by
 have h := sign_ok ⟨u, hu⟩ ⟨v, hv⟩
 simp only at h
 unfold spec_SignOf
 rw [spec_l01In_eq, bnd_s, decide_eq_true (by omega), sel_t, spec_l01In_eq, bnd_s, decide_eq_true (by omega), Bool.not_true, bnd_s, sel_f]
 unfold signPlace at h ⊢
 cases e : it spec_SignOf_l2 10 (1, (IntKind.wrap .i64 (BitVec.ofInt (IntKind.bits .i64) (u : Int) &&& BitVec.ofInt (IntKind.bits .i64) (v : Int)).toNat)) with
 | none => rw [e] at h; simp only at h; omega
 | some q => rw [loop_it.2 ⟨10, e⟩, bnd_s]
theorem impl_sign_all : ∀ u v : Fin 8, impl_SignOf (u.val : Int) (v.val : Int) = some (signPlace (u.val : Int) (v.val : Int)) := by decide +kernel
theorem SignOf_alike (u v : Nat) (hu : u < 8) (hv : v < 8) : impl_SignOf u v = some (signPlace u v) := impl_sign_all ⟨u, hu⟩ ⟨v, hv⟩
def scaleIt (qp p : Int) : Option Int :=
 bnd (spec_KindOf p) fun q1 => bnd (spec_l08Pick q1 10 16 13) fun a1 => bnd (spec_l08Pick q1 11 18 14) fun a2 => bnd (spec_l08Pick q1 13 20 16) fun a3 => bnd (spec_l08Pick q1 14 23 18) fun a4 => bnd (spec_l08Pick q1 16 25 20) fun a5 => bnd (spec_l08Pick q1 18 29 23) fun a6 =>
 it (spec_ScaleOf_l2 qp) 10 ((sel (qp.tmod 6 == 0) a1 (sel (qp.tmod 6 == 1) a2 (sel (qp.tmod 6 == 2) a3 (sel (qp.tmod 6 == 3) a4 (sel (qp.tmod 6 == 4) a5 (sel (qp.tmod 6 == 5) a6 0)))))), 0)
theorem scale_all : ∀ q : Fin 41, ∀ p : Fin 16, (scaleIt (q.val : Int) (p.val : Int)).isSome = true ∧ impl_ScaleOf (q.val : Int) (p.val : Int) = scaleIt (q.val : Int) (p.val : Int) := by decide +kernel
theorem ScaleOf_alike (qp p : Int) (h0 : 0 ≤ qp ∧ qp ≤ 40) (hp : 0 ≤ p ∧ p ≤ 15) : impl_ScaleOf qp p = spec_ScaleOf qp p := by
 have := scale_all ⟨qp.toNat, by omega⟩ ⟨p.toNat, by omega⟩
 simp only at this
 rw [show ((qp.toNat : Nat) : Int) = qp by omega, show ((p.toNat : Nat) : Int) = p by omega] at this
 obtain ⟨h1, h2⟩ := this
 rw [h2]
 cases e : scaleIt qp p with
 | none => rw [e] at h1; cases h1
 | some o =>
  unfold scaleIt at e
  unfold spec_ScaleOf
  obtain ⟨k, ek, k0, k1⟩ := spec_KindOf_ev p hp
  rw [ek, bnd_s] at e ⊢
  rw [spec_l01In_eq, bnd_s, decide_eq_true h0, sel_t, decide_eq_false (by omega), bnd_s, sel_f, req_p (by omega)]
  obtain ⟨a1, e1, b1⟩ := spec_l08Pick_ev k 10 16 13
  obtain ⟨a2, e2, b2⟩ := spec_l08Pick_ev k 11 18 14
  obtain ⟨a3, e3, b3⟩ := spec_l08Pick_ev k 13 20 16
  obtain ⟨a4, e4, b4⟩ := spec_l08Pick_ev k 14 23 18
  obtain ⟨a5, e5, b5⟩ := spec_l08Pick_ev k 16 25 20
  obtain ⟨a6, e6, b6⟩ := spec_l08Pick_ev k 18 29 23
  rw [e1, e2, e3, e4, e5, e6] at e ⊢
  simp only [bnd_s, sel_ss] at e ⊢
  rw [loop_of 10 e, bnd_s]
def scanOrdIn (n : Int) (v16 : Int × List Int) : Option (Lp (Int × List Int) (List Int)) :=
 sel (decide (v16.1 ≤ (wrapK .i64 ((wrapK .i64 (2 * n)) - 2)))) (
 bnd (it (impl_scanOrder_l14 n v16) 20 (0, v16.2)) fun v42 =>
 some (.go (wrapK .i64 (v16.1 + 1), v42))) (
 some (.done v16.2))
theorem scanOrdIn_is {n : Int} {v : Int × List Int} {x : Lp (Int × List Int) (List Int)} (h : scanOrdIn n v = some x) : impl_scanOrder_l12 n v = some x := by
 unfold scanOrdIn at h
 unfold impl_scanOrder_l12
 rcases sel_some h with ⟨hb, h⟩ | ⟨hb, h⟩
 ·
  rw [hb, sel_t]
  obtain ⟨a, h1, h2⟩ := bnd_some h
  rw [loop_it.2 ⟨20, h1⟩, bnd_s]
  exact h2
 ·
  rw [hb, sel_f]; exact h
def scanL (n : Int) : List Int := (it (scanOrdIn n) 20 (0, [])).getD []
theorem scanL_4 : (it (scanOrdIn 4) 20 (0, [])).isSome = true ∧ (scanL 4).length = 16 := by decide +kernel
theorem scanL_8 : (it (scanOrdIn 8) 20 (0, [])).isSome = true ∧ (scanL 8).length = 64 := by decide +kernel
theorem scanL_at4 : ∀ i : Fin 16, (scanL 4).getD i.val 0 = scanPlace 4 (i.val : Int) := by decide +kernel
theorem scanL_at8 : ∀ i : Fin 64, (scanL 8).getD i.val 0 = scanPlace 8 (i.val : Int) := by decide +kernel
theorem impl_scanOrder_eq (n : Int) (hn : n = 4 ∨ n = 8) : impl_scanOrder n = some (scanL n) ∧ ((scanL n).length : Int) = n * n ∧ ∀ i : Nat, (i : Int) < n * n → (scanL n).getD i 0 = scanPlace n i := by
 have h : (it (scanOrdIn n) 20 (0, [])).isSome = true ∧ ((scanL n).length : Int) = n * n := by
  rcases hn with rfl | rfl
  ·
   have := scanL_4; exact ⟨this.1, by omega⟩
  ·
   have := scanL_8; exact ⟨this.1, by omega⟩
 refine ⟨?_, h.2, fun i hi => ?_⟩
 ·
  obtain ⟨o, ho⟩ := Option.isSome_iff_exists.1 h.1
  have hl := loop_of 20 (it_of (fun v y => scanOrdIn_is (n := n)) 20 _ ho)
  unfold impl_scanOrder
  rw [hl, bnd_s]
  unfold scanL; rw [ho]; rfl
 ·
  rcases hn with rfl | rfl
  ·
   exact scanL_at4 ⟨i, by omega⟩
  ·
   exact scanL_at8 ⟨i, by omega⟩
theorem Unscanned_alike (n : Int) (hn : n = 4 ∨ n = 8) (l : List Int) (hl : (l.length : Int) = n * n) : impl_Unscanned n l = spec_Unscanned n l := by
 obtain ⟨e, h1, h2⟩ := impl_scanOrder_eq n hn
 have hw : wrapK .i64 (n * n) = n * n := by rcases hn with rfl | rfl <;> exact wk (by omega) (by omega)
 have hn2 : n * n ≤ 64 := by rcases hn with rfl | rfl <;> omega
 unfold impl_Unscanned spec_Unscanned
 rw [e]
 have : loop (impl_Unscanned_l2 l (scanL n)) (0, List.replicate (l.length : Int).toNat 0) = loop (spec_Unscanned_l2 n l) (0, List.replicate (l.length : Int).toNat 0) := by
  refine loop_congr (fun v => (∃ i : Nat, v.1 = (i : Int) ∧ i ≤ l.length) ∧ v.2.length = l.length) ?_ ?_ ⟨⟨0, rfl, by omega⟩, by simp⟩
  ·
   intro ⟨i, s⟩ ⟨⟨k, ek, hk⟩, hs⟩
   simp only at hs ek
   subst ek
   unfold impl_Unscanned_l2 spec_Unscanned_l2
   simp only [Int.toNat_natCast]
   rw [hw]
   by_cases hi : (k : Int) < n * n
   ·
    have hp := scanPlace_in n hn k hi
    have h3 := h2 k hi
    simp only [h3]
    rw [sel_yes (by omega), sel_yes hi, spec_ScanAt_ev n hn k hi, bnd_s, req_p (by omega), req_p (by omega)]
   ·
    rw [sel_no (by omega), sel_no hi]
  ·
   intro ⟨i, s⟩ v' ⟨⟨k, ek, hk⟩, hs⟩ he
   simp only at hs ek
   subst ek
   unfold spec_Unscanned_l2 at he
   simp only [Int.toNat_natCast] at he
   rw [hw] at he
   by_cases hi : (k : Int) < n * n
   ·
    have hp := scanPlace_in n hn k hi
    rw [sel_yes hi, spec_ScanAt_ev n hn k hi, bnd_s, req_p (by omega), req_p (by omega), req_p (by omega), wk (by omega) (by omega)] at he
    cases he
    exact ⟨⟨k + 1, rfl, by omega⟩, by rw [List.length_set]; exact hs⟩
   ·
    rw [sel_no hi] at he; cases he
 simp only [bnd_s, this]
def acc8 (t : Nat → Int) : Nat → Int
 | 0 => 0
 | k + 1 => wrapK .i64 (acc8 t k + t k)
def rowT (p : List Int) (i v k : Nat) : Int := wrapK .i64 (signPlace v k * p.getD (8 * i + k) 0)
def colT (p : List Int) (u v k : Nat) : Int := wrapK .i64 (signPlace u k * p.getD (8 * k + v) 0)
def half8 (p : List Int) : List Int := (List.range 64).map fun j => acc8 (rowT p (j / 8) (j % 8)) 8
def sums8 (p : List Int) : List Int := (List.range 64).map fun j => acc8 (colT (half8 p) (j / 8) (j % 8)) 8
theorem half8_len (p : List Int) : (half8 p).length = 64 := by simp [half8]
theorem sums8_len (p : List Int) : (sums8 p).length = 64 := by simp [sums8]
theorem sum_loops {f1 : Int × List Int → Option (Lp (Int × List Int) (List Int))} {f2 : Int × List Int → Int × List Int → Option (Lp (Int × List Int) (List Int))} {f3 : Int × List Int → Int × List Int → Int × List Int → Option (Lp (Int × List Int) (List Int))} (t : Nat → Nat → Nat → Int)
  (h1 : ∀ v, f1 v = sel (decide (v.1 < 8)) (bnd (loop (f2 v) (0, v.2)) fun w => some (.go (wrapK .i64 (v.1 + 1), w))) (some (.done v.2)))
  (h2 : ∀ v w, f2 v w = sel (decide (w.1 < 8)) (bnd (loop (f3 v w) (0, w.2)) fun x => some (.go (wrapK .i64 (w.1 + 1), x))) (some (.done w.2)))
  (h3 : ∀ (i v k : Nat) (a b s : List Int), i < 8 → v < 8 → k < 8 → s.length = 64 → f3 ((i : Int), a) ((v : Int), b) ((k : Int), s) = some (.go (((k + 1 : Nat) : Int), s.set (8 * i + v) (wrapK .i64 (s.getD (8 * i + v) 0 + t i v k)))))
  (h4 : ∀ (i v : Nat) (a b s : List Int), f3 ((i : Int), a) ((v : Int), b) (8, s) = some (.done s)) : loop f1 (0, List.replicate 64 0) = some ((List.range 64).map fun j => acc8 (t (j / 8) (j % 8)) 8) := by
 obtain ⟨o, e, o1, o2, _⟩ := st_loop2 (f := f1) 8 (fun i s => s.length = 64 ∧ (∀ j, j < 8 * i → s.getD j 0 = acc8 (t (j / 8) (j % 8)) 8) ∧ ∀ j, 8 * i ≤ j → s.getD j 0 = 0) (by
  intro i s hi ⟨g1, g2, g3⟩
  obtain ⟨r, er, r1, r2, r3⟩ := st_loop2 (f := f2 ((i : Int), s)) 8 (fun v s => s.length = 64 ∧ (∀ j, j < 8 * i + v → s.getD j 0 = acc8 (t (j / 8) (j % 8)) 8) ∧ ∀ j, 8 * i + v ≤ j → s.getD j 0 = 0) (by
   intro v s' hv ⟨k1, k2, k3⟩
   obtain ⟨q, eq, q1, q2, q3⟩ := st_loop2 (f := f3 ((i : Int), s) ((v : Int), s')) 8 (fun k s => s.length = 64 ∧ (∀ j, j ≠ 8 * i + v → s.getD j 0 = s'.getD j 0) ∧ s.getD (8 * i + v) 0 = acc8 (t i v) k) (by
    intro k s'' hk ⟨m1, m2, m3⟩
    refine ⟨_, h3 i v k s s' s'' hi hv hk m1, by rw [List.length_set]; exact m1, fun j hj => ?_, ?_⟩
    ·
     rw [getD_set_at _ _ _ _ (by omega), if_neg (fun h => hj h.symm)]; exact m2 j hj
    ·
     rw [getD_set_at _ _ _ _ (by omega), if_pos rfl, m3]; rfl) (fun z _ => h4 i v s s' z) s' ⟨k1, fun _ _ => rfl, by rw [k3 _ (Nat.le_refl _)]; rfl⟩
   refine ⟨q, by rw [h2, sel_yes (by simp only; omega), eq, bnd_s, wk (by simp only; omega) (by simp only; omega)]; rfl, q1, fun j hj => ?_, fun j hj => ?_⟩
   ·
    by_cases h : j = 8 * i + v
    ·
     rw [h, q3, show (8 * i + v) / 8 = i by omega, show (8 * i + v) % 8 = v by omega]
    ·
     rw [q2 j h]; exact k2 j (by omega)
   ·
    rw [q2 j (by omega)]; exact k3 j (by omega)) (fun z _ => by rw [h2, sel_no (by simp)]) s ⟨g1, g2, g3⟩
  refine ⟨r, by rw [h1, sel_yes (by simp only; omega), er, bnd_s, wk (by simp only; omega) (by simp only; omega)]; rfl, r1, fun j hj => r2 j (by omega), fun j hj => r3 j (by omega)⟩) (fun z _ => by rw [h1, sel_no (by simp)]) (List.replicate 64 0) ⟨by simp, fun j hj => by omega, fun j _ => by
   by_cases h : j < 64
   ·
    rw [getD_at _ _ (by rw [List.length_replicate]; exact h)]; exact List.getElem_replicate ..
   ·
    rw [List.getD_eq_getElem?_getD, List.getElem?_eq_none (by rw [List.length_replicate]; omega)]; rfl⟩
 rw [e]
 congr 1
 exact list_eq o1 (by simp) fun j hj => by rw [o2 j (by omega), getD_map (fun j => acc8 (t (j / 8) (j % 8)) 8) hj]
end Go.Proofs.Ytjfkbpgdghijfaa.A.Pure
