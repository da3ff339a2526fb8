/- What the functions that the law FnExactSquareFor reaches compute, over numbers, texts and lists. Written by a program of this session. Conditions: none. -/
import Derived.Test.YtlebkepfhdjnmadGreatAL2
namespace Go.Proofs.YtlebkepfhdjnmadGreat.A
open Go Go.Proofs Go.Proofs.YtlebkepfhdjnmadGreatAL Go.RowKit
set_option linter.unusedVariables false
set_option linter.unusedSimpArgs false
structure Pic where
 Wide : Int
 High : Int
 Dots : ByteArray
structure Yob where
 Left : Int
 Top : Int
 Wide : Int
 High : Int
structure Cond where
 Key : Bool
 Qp : Int
 Large : Bool
 Exact : Bool
structure Xba where
 Kind : Int
 Mode : Int
 Dx : Int
 Dy : Int
 Levels : (List Int)
structure Xft where
 Above : (List Int)
 Left : (List Int)
 Corner : Int
def Xww : (List Int) := []
def Ymo (x : Pic) : Prop := (Lit.int .i64 x.Wide).wf = true ∧ (Lit.int .i64 x.High).wf = true ∧ x.Dots.size ≤ maxLen
def Yl2 (x : Cond) : Prop := True ∧ (Lit.int .i64 x.Qp).wf = true ∧ True ∧ True
noncomputable section
def Xkh (p0 : Pic) (p1 : Int) : Option Int :=
 sel (decide ((Xaa .i64 (p1 - (p0.Dots.size : Int))) < 0)) (
 some (-1)) (
 some (Xaa .i64 (p1 - (p0.Dots.size : Int))))
def Xf0 (p0 : Pic) : Option Pic :=
 some p0
def Xar (p0 : Int) (p1 : Int) (p2 : Int) : Option Bool :=
 bnd (
 sel (decide (p0 ≥ p1)) (
 some (decide (p0 ≤ p2))) (
 some false)) fun v1 =>
 some v1
def Xfh (p0 : Cond) : Option Bool :=
 bnd (
 bnd (Xar p0.Qp 0 40) fun q2 =>
 sel q2 (
 sel p0.Large (
 some (!p0.Exact)) (
 some true)) (
 some false)) fun v1 =>
 some v1
def Xcr (p0 : (List Int)) (p1 : Int) (p2 : Int) (v3 : Int) : Option (Lp Int (Ou Unit Bool)) :=
 sel (decide (v3 < p1)) (
 req (0 ≤ v3 ∧ v3 < p0.length) <|
 bnd (Xar (p0.getD v3.toNat 0) (Xaa .i64 (0 - p2)) p2) fun q7 =>
 sel (!q7) (
 some (.done (.ret false))) (
 some (.go (Xaa .i64 (v3 + 1))))) (
 some (.done (.out ())))
def Xbd (p0 : (List Int)) (p1 : Int) (p2 : Int) : Option Bool :=
 sel ((p0.length : Int) != p1) (
 some false) (
 bnd (loop (Xcr p0 p1 p2) 0) fun o8 => match o8 with
| .out v6 => (
 some true)
| .ret r => some r)
def Xh7 (p0 : Xba) : Option Bool :=
 sel (p0.Kind == 0) (
 bnd (
 sel (p0.Mode == 0) (
 sel (p0.Dx == 0) (
 sel (p0.Dy == 0) (
 some ((p0.Levels.length : Int) == 0)) (
 some false)) (
 some false)) (
 some false)) fun v1 =>
 some v1) (
 sel (p0.Kind == 1) (
 bnd (
 sel (p0.Mode == 0) (
 bnd (Xar p0.Dx (-16) 16) fun q3 =>
 sel q3 (
 bnd (Xar p0.Dy (-16) 16) fun q4 =>
 sel q4 (
 bnd (Xbd p0.Levels 64 5000) fun q5 =>
 some q5) (
 some false)) (
 some false)) (
 some false)) fun v2 =>
 some v2) (
 sel (p0.Kind == 2) (
 bnd (
 bnd (Xar p0.Mode 0 3) fun q7 =>
 sel q7 (
 sel (p0.Dx == 0) (
 sel (p0.Dy == 0) (
 bnd (Xbd p0.Levels 64 5000) fun q8 =>
 some q8) (
 some false)) (
 some false)) (
 some false)) fun v6 =>
 some v6) (
 some false)))
def Xev (p0 : Pic) : Option Bool :=
 bnd (
 bnd (Xar p0.Wide 1 256) fun q2 =>
 sel q2 (
 bnd (Xar p0.High 1 256) fun q3 =>
 sel q3 (
 some ((p0.Dots.size : Int) == (Xaa .i64 (p0.Wide * p0.High)))) (
 some false)) (
 some false)) fun v1 =>
 some v1
def Xdp (p0 : Pic) (p1 : Int) (p2 : Int) (p3 : Int) (p4 : Int) : Option Bool :=
 bnd (
 bnd (Xev p0) fun q2 =>
 sel q2 (
 bnd (Xar p3 1 p0.Wide) fun q3 =>
 sel q3 (
 bnd (Xar p4 1 p0.High) fun q4 =>
 sel q4 (
 bnd (Xar p1 0 (Xaa .i64 (p0.Wide - p3))) fun q5 =>
 sel q5 (
 bnd (Xar p2 0 (Xaa .i64 (p0.High - p4))) fun q6 =>
 some q6) (
 some false)) (
 some false)) (
 some false)) (
 some false)) fun v1 =>
 some v1
def Xfo (p0 : Int) (p1 : Int) (v2 : (Int × (List Int))) : Option (Lp (Int × (List Int)) (List Int)) :=
 sel (decide (v2.1 < p0)) (
 req (0 ≤ v2.1 ∧ v2.1 < v2.2.length) <|
 req (v2.1.toNat < v2.2.length) <|
 some (.go (Xaa .i64 (v2.1 + 1), (v2.2.set v2.1.toNat p1)))) (
 some (.done v2.2))
def Xjr (p0 : Int) (p1 : Int) : Option ByteArray :=
 req (0 ≤ p0 ∧ p0 ≤ p0 ∧ p0 * 1 ≤ 281474976710656) <|
 bnd (loop (Xfo p0 p1) (0, (List.replicate p0.toNat (0 : Int)))) fun v4 =>
 some (strOfNums v4)
def Xci (p0 : Pic) (p1 : Int) (p2 : Int) : Option Bool :=
 bnd (
 req ((8 : Int) ≠ 0) <|
 sel ((p1.tmod 8) == 0) (
 req ((8 : Int) ≠ 0) <|
 sel ((p2.tmod 8) == 0) (
 bnd (Xdp p0 p1 p2 8 8) fun q2 =>
 some q2) (
 some false)) (
 some false)) fun v1 =>
 some v1
def Xdb (p0 : Int) (p1 : Int) (p2 : Int) : Option Int :=
 bnd (
 sel (decide (p2 < p1)) (
 some true) (
 some (decide (p0 < p1)))) fun v1 =>
 sel v1 (
 some p1) (
 sel (decide (p0 > p2)) (
 some p2) (
 some p0))
def Xd2 (p0 : Pic) (p1 : Int) (p2 : Int) : Option Int :=
 bnd (Xev p0) fun q1 =>
 sel (!q1) (
 some (-1)) (
 bnd (Xdb p2 0 (Xaa .i64 (p0.High - 1))) fun q2 =>
 bnd (Xdb p1 0 (Xaa .i64 (p0.Wide - 1))) fun q3 =>
 req (0 ≤ (Xaa .i64 ((Xaa .i64 (q2 * p0.Wide)) + q3)) ∧ (Xaa .i64 ((Xaa .i64 (q2 * p0.Wide)) + q3)) < p0.Dots.size) <|
 some (Xaa .i64 ((Ykq p0.Dots (Xaa .i64 ((Xaa .i64 (q2 * p0.Wide)) + q3))))))
def Xcy (p0 : Pic) (p1 : Int) (p2 : Int) (v7 : (Int × (List Int) × (List Int))) : Option (Lp (Int × (List Int) × (List Int)) ((List Int) × (List Int))) :=
 sel (decide (v7.1 < 8)) (
 bnd (
 bnd (
 sel (decide (p2 > 0)) (
 bnd (Xd2 p0 (Xaa .i64 (p1 + v7.1)) (Xaa .i64 (p2 - 1))) fun q16 =>
 req ((v7.2.1.length + ([q16]).length) * 8 ≤ 140737488355328 ∧ v7.2.1.length + ([q16]).length ≤ maxLen) <|
 some (v7.2.1 ++ ([q16]))) (
 some v7.2.1)) fun v15 =>
 sel (decide (p1 > 0)) (
 bnd (Xd2 p0 (Xaa .i64 (p1 - 1)) (Xaa .i64 (p2 + v7.1))) fun q17 =>
 req ((v7.2.2.length + ([q17]).length) * 8 ≤ 140737488355328 ∧ v7.2.2.length + ([q17]).length ≤ maxLen) <|
 some (v15, (v7.2.2 ++ ([q17])))) (
 some (v15, v7.2.2))) fun v14 =>
 some (.go (Xaa .i64 (v7.1 + 1), v14.1, v14.2))) (
 some (.done (v7.2.1, v7.2.2)))
def Xdc (p0 : Pic) (p1 : Int) (p2 : Int) : Option (Xft × Bool) :=
 bnd (Xci p0 p1 p2) fun q1 =>
 sel (!q1) (
 some ((⟨[], [], 0⟩ : Xft), false)) (
 bnd (loop (Xcy p0 p1 p2) (0, [], [])) fun v13 =>
 bnd (
 bnd (
 sel (decide (p1 > 0)) (
 some (decide (p2 > 0))) (
 some false)) fun v20 =>
 sel v20 (
 bnd (Xd2 p0 (Xaa .i64 (p1 - 1)) (Xaa .i64 (p2 - 1))) fun q21 =>
 some q21) (
 some (-1))) fun v19 =>
 some ((⟨v13.1, v13.2, v19⟩ : Xft), true))
def Xkz (p0 : Int) (p1 : Int) (v17 : (Int × Int)) (v38 : (Int × Int)) : Option (Lp (Int × Int) (Ou Int Int)) :=
 sel (decide (v38.2 < p0)) (
 Yjc (fun (v44 : Int) =>
 some (.go (v44, Xaa .i64 (v38.2 + 1)))) fun j36 =>
 bnd (
 req ((2 : Int) ≠ 0) <|
 sel ((v17.2.tmod 2) == 0) (
 some (Xaa .i64 ((Xaa .i64 (p0 - 1)) - v38.2))) (
 some v38.2)) fun v45 =>
 bnd (Xar (Xaa .i64 (v17.2 - v45)) 0 (Xaa .i64 (p0 - 1))) fun q46 =>
 sel (!q46) (
 j36 v38.1) (
 sel (v38.1 == p1) (
 some (.done (.ret (Xaa .i64 ((Xaa .i64 ((Xaa .i64 (p0 * v45)) + v17.2)) - v45))))) (
 j36 (Xaa .i64 (v38.1 + 1))))) (
 some (.done (.out v38.1)))
def Xh6 (p0 : Int) (p1 : Int) (v17 : (Int × Int)) : Option (Lp (Int × Int) (Ou Unit Int)) :=
 sel (decide (v17.2 ≤ (Xaa .i64 ((Xaa .i64 (2 * p0)) - 2)))) (
 bnd (loop (Xkz p0 p1 v17) (v17.1, 0)) fun o47 => match o47 with
| .out v43 => (
 some (.go (v43, Xaa .i64 (v17.2 + 1))))
| .ret r => some (.done (.ret r))) (
 some (.done (.out ())))
def Xi0 (p0 : Int) (p1 : Int) : Option Int :=
 bnd (
 sel (p0 != 4) (
 sel (p0 != 8) (
 some true) (
 sel (decide (p1 < 0)) (
 some true) (
 some (decide (p1 ≥ (Xaa .i64 (p0 * p0))))))) (
 sel (decide (p1 < 0)) (
 some true) (
 some (decide (p1 ≥ (Xaa .i64 (p0 * p0))))))) fun v1 =>
 sel v1 (
 some (-1)) (
 bnd (loop (Xh6 p0 p1) (0, 0)) fun o48 => match o48 with
| .out v33 => (
 some (-1))
| .ret r => some r)
def Xbn (p0 : Int) (p1 : (List Int)) (v4 : (Int × (List Int))) : Option (Lp (Int × (List Int)) (List Int)) :=
 sel (decide (v4.1 < (Xaa .i64 (p0 * p0)))) (
 bnd (Xi0 p0 v4.1) fun q8 =>
 req (0 ≤ v4.1 ∧ v4.1 < p1.length) <|
 req (0 ≤ q8 ∧ q8 < v4.2.length) <|
 req (q8.toNat < v4.2.length) <|
 some (.go (Xaa .i64 (v4.1 + 1), (v4.2.set q8.toNat (p1.getD v4.1.toNat 0))))) (
 some (.done v4.2))
def Xb7 (p0 : Int) (p1 : (List Int)) : Option ((List Int) × Bool) :=
 bnd (
 sel (p0 != 4) (
 sel (p0 != 8) (
 some true) (
 some ((p1.length : Int) != (Xaa .i64 (p0 * p0))))) (
 some ((p1.length : Int) != (Xaa .i64 (p0 * p0))))) fun v1 =>
 sel v1 (
 some (([] : List Int), false)) (
 req (0 ≤ (p1.length : Int) ∧ (p1.length : Int) ≤ (p1.length : Int) ∧ (p1.length : Int) * 8 ≤ 281474976710656) <|
 bnd (loop (Xbn p0 p1) (0, (List.replicate (p1.length : Int).toNat (0 : Int)))) fun v7 =>
 some (v7, true))
def Xgq (p0 : Int) (v4 : (Int × Int)) : Option (Lp (Int × Int) Int) :=
 req ((6 : Int) ≠ 0) <|
 sel (decide (v4.2 < (Xaa .i64 (p0.tdiv 6)))) (
 some (.go (Xaa .i64 (2 * v4.1), Xaa .i64 (v4.2 + 1)))) (
 some (.done v4.1))
def Xel (p0 : Int) : Option Int :=
 bnd (Xar p0 0 40) fun q1 =>
 sel (!q1) (
 some 0) (
 bnd (
 req ((6 : Int) ≠ 0) <|
 sel ((p0.tmod 6) == 0) (
 some 10) (
 sel ((p0.tmod 6) == 1) (
 some 11) (
 sel ((p0.tmod 6) == 2) (
 some 13) (
 sel ((p0.tmod 6) == 3) (
 some 14) (
 sel ((p0.tmod 6) == 4) (
 some 16) (
 some 18)))))) fun v2 =>
 bnd (loop (Xgq p0) (v2, 0)) fun v6 =>
 some v6)
def Xdm (p0 : Int) (p1 : Int) : Option Int :=
 bnd (Xar p0 (-5000) 5000) fun q1 =>
 sel (!q1) (
 some 0) (
 bnd (Xel p1) fun q2 =>
 some (Xaa .i64 (p0 * q2)))
def Xgp (v6 : (Int × Int)) : Option (Lp (Int × Int) Int) :=
 sel (decide (v6.2 > 0)) (
 bnd (
 req ((2 : Int) ≠ 0) <|
 sel ((v6.2.tmod 2) == 1) (
 some (Xaa .i64 (0 - v6.1))) (
 some v6.1)) fun v10 =>
 req ((2 : Int) ≠ 0) <|
 some (.go (v10, Xaa .i64 (v6.2.tdiv 2)))) (
 some (.done v6.1))
def Xfl (p0 : Int) (p1 : Int) : Option Int :=
 bnd (
 bnd (Xar p0 0 7) fun q2 =>
 sel q2 (
 bnd (Xar p1 0 7) fun q3 =>
 some (!q3)) (
 some true)) fun v1 =>
 sel v1 (
 some 0) (
 bnd (loop (Xgp) (1, (IntKind.wrap .i64 (BitVec.ofInt (IntKind.bits .i64) p0 &&& BitVec.ofInt (IntKind.bits .i64) p1).toNat))) fun v9 =>
 some v9)
def Xct (p0 : (List Int)) (p1 : Int) (p2 : Int) (v3 : (Int × Int)) : Option (Lp (Int × Int) Int) :=
 sel (decide (v3.2 < 8)) (
 req (0 ≤ (Xaa .i64 ((Xaa .i64 (8 * p1)) + v3.2)) ∧ (Xaa .i64 ((Xaa .i64 (8 * p1)) + v3.2)) < p0.length) <|
 bnd (Xfl p2 v3.2) fun q7 =>
 some (.go (Xaa .i64 (v3.1 + (Xaa .i64 ((p0.getD (Xaa .i64 ((Xaa .i64 (8 * p1)) + v3.2)).toNat 0) * q7))), Xaa .i64 (v3.2 + 1)))) (
 some (.done v3.1))
def Xg5 (p0 : (List Int)) (p1 : Int) (p2 : Int) : Option Int :=
 bnd (loop (Xct p0 p1 p2) (0, 0)) fun v6 =>
 some v6
def Xbz (p0 : (List Int)) (v10 : (Int × (List Int))) (v23 : (Int × (List Int))) : Option (Lp (Int × (List Int)) (List Int)) :=
 sel (decide (v23.1 < 8)) (
 bnd (Xg5 p0 v10.1 v23.1) fun q27 =>
 req ((v23.2.length + ([q27]).length) * 8 ≤ 140737488355328 ∧ v23.2.length + ([q27]).length ≤ maxLen) <|
 some (.go (Xaa .i64 (v23.1 + 1), (v23.2 ++ ([q27]))))) (
 some (.done v23.2))
def Xby (p0 : (List Int)) (v10 : (Int × (List Int))) : Option (Lp (Int × (List Int)) (List Int)) :=
 sel (decide (v10.1 < 8)) (
 bnd (loop (Xbz p0 v10) (0, v10.2)) fun v26 =>
 some (.go (Xaa .i64 (v10.1 + 1), v26))) (
 some (.done v10.2))
def Xbq (v20 : (List Int)) (v60 : (Int × (List Int))) (v101 : (Int × (List Int))) (v114 : (Int × Int)) : Option (Lp (Int × Int) Int) :=
 sel (decide (v114.2 < 8)) (
 bnd (Xfl v60.1 v114.2) fun q118 =>
 req (0 ≤ (Xaa .i64 ((Xaa .i64 (8 * v114.2)) + v101.1)) ∧ (Xaa .i64 ((Xaa .i64 (8 * v114.2)) + v101.1)) < v20.length) <|
 req ((Xaa .i64 ((Xaa .i64 (8 * v114.2)) + v101.1)).toNat < v20.length) <|
 some (.go (Xaa .i64 (v114.1 + (Xaa .i64 (q118 * (v20.getD ((Xaa .i64 ((Xaa .i64 (8 * v114.2)) + v101.1)).toNat) 0)))), Xaa .i64 (v114.2 + 1)))) (
 some (.done v114.1))
def Xbp (v20 : (List Int)) (v60 : (Int × (List Int))) (v101 : (Int × (List Int))) : Option (Lp (Int × (List Int)) (List Int)) :=
 sel (decide (v101.1 < 8)) (
 bnd (loop (Xbq v20 v60 v101) (0, 0)) fun v117 =>
 req ((v101.2.length + ([v117]).length) * 8 ≤ 140737488355328 ∧ v101.2.length + ([v117]).length ≤ maxLen) <|
 some (.go (Xaa .i64 (v101.1 + 1), (v101.2 ++ ([v117]))))) (
 some (.done v101.2))
def Xbo (v20 : (List Int)) (v60 : (Int × (List Int))) : Option (Lp (Int × (List Int)) (List Int)) :=
 sel (decide (v60.1 < 8)) (
 bnd (loop (Xbp v20 v60) (0, v60.2)) fun v111 =>
 some (.go (Xaa .i64 (v60.1 + 1), v111))) (
 some (.done v60.2))
def Xeb (p0 : (List Int)) : Option (List Int) :=
 bnd (loop (Xby p0) (0, ([] : List Int))) fun v20 =>
 bnd (loop (Xbo v20) (0, ([] : List Int))) fun v91 =>
 some v91
def Xbx (p0 : Int) (p1 : Int) : Option Int :=
 req (p1 ≠ 0) <|
 bnd (
 req (p1 ≠ 0) <|
 sel (decide ((p0.tmod p1) < 0)) (
 some (Xaa .i64 ((Xaa .i64 (p0.tdiv p1)) - 1))) (
 some (Xaa .i64 (p0.tdiv p1)))) fun v1 =>
 some v1
def Xd3 (v5 : (Int × (List Int))) : Option (Lp (Int × (List Int)) (List Int)) :=
 sel (decide (v5.1 < 64)) (
 req (0 ≤ v5.1 ∧ v5.1 < v5.2.length) <|
 req (v5.1.toNat < v5.2.length) <|
 bnd (Xbx (Xaa .i64 ((v5.2.getD v5.1.toNat 0) + 32)) 64) fun q9 =>
 req (0 ≤ v5.1 ∧ v5.1 < v5.2.length) <|
 req (v5.1.toNat < v5.2.length) <|
 some (.go (Xaa .i64 (v5.1 + 1), (v5.2.set v5.1.toNat q9)))) (
 some (.done v5.2))
def Xdk (p0 : (List Int)) : Option (List Int) :=
 bnd (Xbd p0 64 10000000) fun q1 =>
 sel (!q1) (
 some ([] : List Int)) (
 bnd (Xeb p0) fun q2 =>
 bnd (loop (Xd3) (0, q2)) fun v8 =>
 some v8)
def Xg4 (p0 : Int) : Option Int :=
 bnd (Xar p0 0 15) fun q1 =>
 sel (!q1) (
 some (-1)) (
 req ((4 : Int) ≠ 0) <|
 req ((2 : Int) ≠ 0) <|
 req ((4 : Int) ≠ 0) <|
 req ((2 : Int) ≠ 0) <|
 bnd (
 sel (((Xaa .i64 (p0.tdiv 4)).tmod 2) == 0) (
 some (((p0.tmod 4).tmod 2) == 0)) (
 some false)) fun v2 =>
 sel v2 (
 some 0) (
 bnd (
 sel (((Xaa .i64 (p0.tdiv 4)).tmod 2) == 1) (
 some (((p0.tmod 4).tmod 2) == 1)) (
 some false)) fun v3 =>
 sel v3 (
 some 1) (
 some 2)))
def Xay (p0 : Int) (p1 : Int) (p2 : Int) (p3 : Int) : Option Int :=
 sel (p0 == 0) (
 some p1) (
 sel (p0 == 1) (
 some p2) (
 some p3))
def Xc0 (p0 : Int) (v12 : (Int × Int)) : Option (Lp (Int × Int) Int) :=
 req ((6 : Int) ≠ 0) <|
 sel (decide (v12.2 < (Xaa .i64 (p0.tdiv 6)))) (
 some (.go (Xaa .i64 (2 * v12.1), Xaa .i64 (v12.2 + 1)))) (
 some (.done v12.1))
def Xfj (p0 : Int) (p1 : Int) : Option Int :=
 bnd (Xg4 p1) fun q1 =>
 bnd (
 bnd (Xar p0 0 40) fun q3 =>
 sel q3 (
 some (decide (q1 < 0))) (
 some true)) fun v2 =>
 sel v2 (
 some 0) (
 bnd (
 req ((6 : Int) ≠ 0) <|
 sel ((p0.tmod 6) == 0) (
 bnd (Xay q1 10 16 13) fun q5 =>
 some q5) (
 sel ((p0.tmod 6) == 1) (
 bnd (Xay q1 11 18 14) fun q6 =>
 some q6) (
 sel ((p0.tmod 6) == 2) (
 bnd (Xay q1 13 20 16) fun q7 =>
 some q7) (
 sel ((p0.tmod 6) == 3) (
 bnd (Xay q1 14 23 18) fun q8 =>
 some q8) (
 sel ((p0.tmod 6) == 4) (
 bnd (Xay q1 16 25 20) fun q9 =>
 some q9) (
 sel ((p0.tmod 6) == 5) (
 bnd (Xay q1 18 29 23) fun q10 =>
 some q10) (
 some 0))))))) fun v4 =>
 bnd (loop (Xc0 p0) (v4, 0)) fun v14 =>
 some v14)
def Xdn (p0 : Int) (p1 : Int) (p2 : Int) : Option Int :=
 bnd (Xar p0 (-5000) 5000) fun q1 =>
 sel (!q1) (
 some 0) (
 bnd (Xfj p1 p2) fun q2 =>
 some (Xaa .i64 (p0 * q2)))
def Xbw (p0 : (List Int)) (v4 : (Int × (List Int))) : Option (Lp (Int × (List Int)) (List Int)) :=
 sel (decide (v4.1 < 4)) (
 req (0 ≤ (Xaa .i64 (4 * v4.1)) ∧ (Xaa .i64 (4 * v4.1)) < p0.length) <|
 req (0 ≤ (Xaa .i64 ((Xaa .i64 (4 * v4.1)) + 1)) ∧ (Xaa .i64 ((Xaa .i64 (4 * v4.1)) + 1)) < p0.length) <|
 req (0 ≤ (Xaa .i64 ((Xaa .i64 (4 * v4.1)) + 2)) ∧ (Xaa .i64 ((Xaa .i64 (4 * v4.1)) + 2)) < p0.length) <|
 req (0 ≤ (Xaa .i64 ((Xaa .i64 (4 * v4.1)) + 3)) ∧ (Xaa .i64 ((Xaa .i64 (4 * v4.1)) + 3)) < p0.length) <|
 bnd (Xbx (p0.getD (Xaa .i64 ((Xaa .i64 (4 * v4.1)) + 1)).toNat 0) 2) fun q9 =>
 bnd (Xbx (p0.getD (Xaa .i64 ((Xaa .i64 (4 * v4.1)) + 3)).toNat 0) 2) fun q10 =>
 req ((v4.2.length + ([Xaa .i64 ((Xaa .i64 ((p0.getD (Xaa .i64 (4 * v4.1)).toNat 0) + (p0.getD (Xaa .i64 ((Xaa .i64 (4 * v4.1)) + 2)).toNat 0))) + (Xaa .i64 ((p0.getD (Xaa .i64 ((Xaa .i64 (4 * v4.1)) + 1)).toNat 0) + q10))), Xaa .i64 ((Xaa .i64 ((p0.getD (Xaa .i64 (4 * v4.1)).toNat 0) - (p0.getD (Xaa .i64 ((Xaa .i64 (4 * v4.1)) + 2)).toNat 0))) + (Xaa .i64 (q9 - (p0.getD (Xaa .i64 ((Xaa .i64 (4 * v4.1)) + 3)).toNat 0)))), Xaa .i64 ((Xaa .i64 ((p0.getD (Xaa .i64 (4 * v4.1)).toNat 0) - (p0.getD (Xaa .i64 ((Xaa .i64 (4 * v4.1)) + 2)).toNat 0))) - (Xaa .i64 (q9 - (p0.getD (Xaa .i64 ((Xaa .i64 (4 * v4.1)) + 3)).toNat 0)))), Xaa .i64 ((Xaa .i64 ((p0.getD (Xaa .i64 (4 * v4.1)).toNat 0) + (p0.getD (Xaa .i64 ((Xaa .i64 (4 * v4.1)) + 2)).toNat 0))) - (Xaa .i64 ((p0.getD (Xaa .i64 ((Xaa .i64 (4 * v4.1)) + 1)).toNat 0) + q10)))]).length) * 8 ≤ 140737488355328 ∧ v4.2.length + ([Xaa .i64 ((Xaa .i64 ((p0.getD (Xaa .i64 (4 * v4.1)).toNat 0) + (p0.getD (Xaa .i64 ((Xaa .i64 (4 * v4.1)) + 2)).toNat 0))) + (Xaa .i64 ((p0.getD (Xaa .i64 ((Xaa .i64 (4 * v4.1)) + 1)).toNat 0) + q10))), Xaa .i64 ((Xaa .i64 ((p0.getD (Xaa .i64 (4 * v4.1)).toNat 0) - (p0.getD (Xaa .i64 ((Xaa .i64 (4 * v4.1)) + 2)).toNat 0))) + (Xaa .i64 (q9 - (p0.getD (Xaa .i64 ((Xaa .i64 (4 * v4.1)) + 3)).toNat 0)))), Xaa .i64 ((Xaa .i64 ((p0.getD (Xaa .i64 (4 * v4.1)).toNat 0) - (p0.getD (Xaa .i64 ((Xaa .i64 (4 * v4.1)) + 2)).toNat 0))) - (Xaa .i64 (q9 - (p0.getD (Xaa .i64 ((Xaa .i64 (4 * v4.1)) + 3)).toNat 0)))), Xaa .i64 ((Xaa .i64 ((p0.getD (Xaa .i64 (4 * v4.1)).toNat 0) + (p0.getD (Xaa .i64 ((Xaa .i64 (4 * v4.1)) + 2)).toNat 0))) - (Xaa .i64 ((p0.getD (Xaa .i64 ((Xaa .i64 (4 * v4.1)) + 1)).toNat 0) + q10)))]).length ≤ maxLen) <|
 some (.go (Xaa .i64 (v4.1 + 1), (v4.2 ++ ([Xaa .i64 ((Xaa .i64 ((p0.getD (Xaa .i64 (4 * v4.1)).toNat 0) + (p0.getD (Xaa .i64 ((Xaa .i64 (4 * v4.1)) + 2)).toNat 0))) + (Xaa .i64 ((p0.getD (Xaa .i64 ((Xaa .i64 (4 * v4.1)) + 1)).toNat 0) + q10))), Xaa .i64 ((Xaa .i64 ((p0.getD (Xaa .i64 (4 * v4.1)).toNat 0) - (p0.getD (Xaa .i64 ((Xaa .i64 (4 * v4.1)) + 2)).toNat 0))) + (Xaa .i64 (q9 - (p0.getD (Xaa .i64 ((Xaa .i64 (4 * v4.1)) + 3)).toNat 0)))), Xaa .i64 ((Xaa .i64 ((p0.getD (Xaa .i64 (4 * v4.1)).toNat 0) - (p0.getD (Xaa .i64 ((Xaa .i64 (4 * v4.1)) + 2)).toNat 0))) - (Xaa .i64 (q9 - (p0.getD (Xaa .i64 ((Xaa .i64 (4 * v4.1)) + 3)).toNat 0)))), Xaa .i64 ((Xaa .i64 ((p0.getD (Xaa .i64 (4 * v4.1)).toNat 0) + (p0.getD (Xaa .i64 ((Xaa .i64 (4 * v4.1)) + 2)).toNat 0))) - (Xaa .i64 ((p0.getD (Xaa .i64 ((Xaa .i64 (4 * v4.1)) + 1)).toNat 0) + q10)))]))))) (
 some (.done v4.2))
def Xde (p0 : (List Int)) : Option (List Int) :=
 bnd (loop (Xbw p0) (0, ([] : List Int))) fun v8 =>
 some v8
def Xcf (p0 : (List Int)) (v2 : (Int × (List Int))) : Option (Lp (Int × (List Int)) (List Int)) :=
 sel (decide (v2.1 < 16)) (
 req ((4 : Int) ≠ 0) <|
 req ((4 : Int) ≠ 0) <|
 req (0 ≤ v2.1 ∧ v2.1 < p0.length) <|
 req (0 ≤ (Xaa .i64 ((Xaa .i64 ((v2.1.tmod 4) * 4)) + (Xaa .i64 (v2.1.tdiv 4)))) ∧ (Xaa .i64 ((Xaa .i64 ((v2.1.tmod 4) * 4)) + (Xaa .i64 (v2.1.tdiv 4)))) < v2.2.length) <|
 req ((Xaa .i64 ((Xaa .i64 ((v2.1.tmod 4) * 4)) + (Xaa .i64 (v2.1.tdiv 4)))).toNat < v2.2.length) <|
 some (.go (Xaa .i64 (v2.1 + 1), (v2.2.set ((Xaa .i64 ((Xaa .i64 ((v2.1.tmod 4) * 4)) + (Xaa .i64 (v2.1.tdiv 4)))).toNat) (p0.getD v2.1.toNat 0))))) (
 some (.done v2.2))
def Xcs (p0 : (List Int)) : Option (List Int) :=
 req (0 ≤ (16 : Int) ∧ (16 : Int) ≤ (16 : Int) ∧ (16 : Int) * 8 ≤ 281474976710656) <|
 bnd (loop (Xcf p0) (0, (List.replicate (16 : Int).toNat (0 : Int)))) fun v4 =>
 some v4
def Xer (v8 : (Int × (List Int))) : Option (Lp (Int × (List Int)) (List Int)) :=
 sel (decide (v8.1 < 16)) (
 req (0 ≤ v8.1 ∧ v8.1 < v8.2.length) <|
 req (v8.1.toNat < v8.2.length) <|
 bnd (Xbx (Xaa .i64 ((v8.2.getD v8.1.toNat 0) + 32)) 64) fun q12 =>
 req (0 ≤ v8.1 ∧ v8.1 < v8.2.length) <|
 req (v8.1.toNat < v8.2.length) <|
 some (.go (Xaa .i64 (v8.1 + 1), (v8.2.set v8.1.toNat q12)))) (
 some (.done v8.2))
def Xej (p0 : (List Int)) : Option (List Int) :=
 bnd (Xbd p0 16 10000000) fun q1 =>
 sel (!q1) (
 some ([] : List Int)) (
 bnd (Xde p0) fun q2 =>
 bnd (Xcs q2) fun q3 =>
 bnd (Xde q3) fun q4 =>
 bnd (Xcs q4) fun q5 =>
 bnd (loop (Xer) (0, q5)) fun v11 =>
 some v11)
def Xa2 (p1 : Cond) (v8 : (Int × (List Int))) : Option (Lp (Int × (List Int)) (List Int)) :=
 sel (decide (v8.1 < 64)) (
 req (0 ≤ v8.1 ∧ v8.1 < v8.2.length) <|
 req (v8.1.toNat < v8.2.length) <|
 bnd (Xdm (v8.2.getD v8.1.toNat 0) p1.Qp) fun q12 =>
 req (0 ≤ v8.1 ∧ v8.1 < v8.2.length) <|
 req (v8.1.toNat < v8.2.length) <|
 some (.go (Xaa .i64 (v8.1 + 1), (v8.2.set v8.1.toNat q12)))) (
 some (.done v8.2))
def Xa1 (p1 : Cond) (v52 : (Int × (List Int))) : Option (Lp (Int × (List Int)) (List Int)) :=
 sel (decide (v52.1 < 16)) (
 req (0 ≤ v52.1 ∧ v52.1 < v52.2.length) <|
 req (v52.1.toNat < v52.2.length) <|
 bnd (Xdn (v52.2.getD v52.1.toNat 0) p1.Qp v52.1) fun q56 =>
 req (0 ≤ v52.1 ∧ v52.1 < v52.2.length) <|
 req (v52.1.toNat < v52.2.length) <|
 some (.go (Xaa .i64 (v52.1 + 1), (v52.2.set v52.1.toNat q56)))) (
 some (.done v52.2))
def Xa3 (v31 : (Int × (List Int))) (q58 : (List Int)) (v60 : (Int × (List Int))) : Option (Lp (Int × (List Int)) (List Int)) :=
 sel (decide (v60.1 < 16)) (
 req ((2 : Int) ≠ 0) <|
 req ((4 : Int) ≠ 0) <|
 req ((2 : Int) ≠ 0) <|
 req ((4 : Int) ≠ 0) <|
 req (0 ≤ v60.1 ∧ v60.1 < q58.length) <|
 req (v60.1.toNat < q58.length) <|
 req (0 ≤ (Xaa .i64 ((Xaa .i64 ((Xaa .i64 (8 * (Xaa .i64 ((Xaa .i64 ((Xaa .i64 (v31.1.tdiv 2)) * 4)) + (Xaa .i64 (v60.1.tdiv 4)))))) + (Xaa .i64 ((v31.1.tmod 2) * 4)))) + (v60.1.tmod 4))) ∧ (Xaa .i64 ((Xaa .i64 ((Xaa .i64 (8 * (Xaa .i64 ((Xaa .i64 ((Xaa .i64 (v31.1.tdiv 2)) * 4)) + (Xaa .i64 (v60.1.tdiv 4)))))) + (Xaa .i64 ((v31.1.tmod 2) * 4)))) + (v60.1.tmod 4))) < v60.2.length) <|
 req ((Xaa .i64 ((Xaa .i64 ((Xaa .i64 (8 * (Xaa .i64 ((Xaa .i64 ((Xaa .i64 (v31.1.tdiv 2)) * 4)) + (Xaa .i64 (v60.1.tdiv 4)))))) + (Xaa .i64 ((v31.1.tmod 2) * 4)))) + (v60.1.tmod 4))).toNat < v60.2.length) <|
 some (.go (Xaa .i64 (v60.1 + 1), (v60.2.set ((Xaa .i64 ((Xaa .i64 ((Xaa .i64 (8 * (Xaa .i64 ((Xaa .i64 ((Xaa .i64 (v31.1.tdiv 2)) * 4)) + (Xaa .i64 (v60.1.tdiv 4)))))) + (Xaa .i64 ((v31.1.tmod 2) * 4)))) + (v60.1.tmod 4))).toNat) (q58.getD v60.1.toNat 0))))) (
 some (.done v60.2))
def Xbl (p0 : (List Int)) (p1 : Cond) (v31 : (Int × (List Int))) : Option (Lp (Int × (List Int)) (List Int)) :=
 sel (decide (v31.1 < 4)) (
 req (0 ≤ (Xaa .i64 (16 * v31.1)) ∧ (Xaa .i64 (16 * v31.1)) ≤ (Xaa .i64 ((Xaa .i64 (16 * v31.1)) + 16)) ∧ (Xaa .i64 ((Xaa .i64 (16 * v31.1)) + 16)) ≤ (p0.length : Int)) <|
 bnd (Xb7 4 ((p0.drop (Xaa .i64 (16 * v31.1)).toNat).take ((Xaa .i64 ((Xaa .i64 (16 * v31.1)) + 16)).toNat - (Xaa .i64 (16 * v31.1)).toNat))) fun q49 =>
 bnd (loop (Xa1 p1) (0, q49.1)) fun v55 =>
 bnd (Xej v55) fun q58 =>
 bnd (loop (Xa3 v31 q58) (0, v31.2)) fun v62 =>
 some (.go (Xaa .i64 (v31.1 + 1), v62))) (
 some (.done v31.2))
def Xcd (p0 : (List Int)) (p1 : Cond) : Option ((List Int) × Bool) :=
 bnd (
 bnd (Xfh p1) fun q2 =>
 sel q2 (
 bnd (Xbd p0 64 5000) fun q3 =>
 some (!q3)) (
 some true)) fun v1 =>
 sel v1 (
 some (([] : List Int), false)) (
 sel p1.Exact (
 bnd (Xb7 8 p0) fun q4 =>
 some (q4.1, q4.2)) (
 sel p1.Large (
 bnd (Xb7 8 p0) fun q5 =>
 bnd (loop (Xa2 p1) (0, q5.1)) fun v11 =>
 bnd (Xdk v11) fun q14 =>
 some (q14, true)) (
 req (0 ≤ (64 : Int) ∧ (64 : Int) ≤ (64 : Int) ∧ (64 : Int) * 8 ≤ 281474976710656) <|
 bnd (loop (Xbl p0 p1) (0, (List.replicate (64 : Int).toNat (0 : Int)))) fun v48 =>
 some (v48, true))))
def Xfp (p0 : (List Int)) (v4 : Int) : Option (Lp Int (Ou Unit Bool)) :=
 sel (decide (v4 < (p0.length : Int))) (
 req (0 ≤ v4 ∧ v4 < p0.length) <|
 bnd (Xar (p0.getD v4.toNat 0) 0 255) fun q8 =>
 sel (!q8) (
 some (.done (.ret false))) (
 some (.go (Xaa .i64 (v4 + 1))))) (
 some (.done (.out ())))
def Xhe (p0 : (List Int)) : Option Bool :=
 bnd (
 sel ((p0.length : Int) != 0) (
 some ((p0.length : Int) != 8)) (
 some false)) fun v1 =>
 sel v1 (
 some false) (
 bnd (loop (Xfp p0) 0) fun o9 => match o9 with
| .out v7 => (
 some true)
| .ret r => some r)
def Xhd (p0 : Xft) : Option Bool :=
 bnd (
 bnd (Xhe p0.Above) fun q2 =>
 sel q2 (
 bnd (Xhe p0.Left) fun q3 =>
 sel q3 (
 bnd (Xar p0.Corner (-1) 255) fun q4 =>
 some q4) (
 some false)) (
 some false)) fun v1 =>
 some v1
def Xb8 (p0 : (List Int)) (p1 : Int) : Option Int :=
 sel ((p0.length : Int) == 0) (
 some 128) (
 req (0 ≤ p1 ∧ p1 < p0.length) <|
 some (p0.getD p1.toNat 0))
def Xex (p0 : Xft) (v2 : (Int × Int)) : Option (Lp (Int × Int) Int) :=
 sel (decide (v2.2 < (p0.Above.length : Int))) (
 req (0 ≤ v2.2 ∧ v2.2 < p0.Above.length) <|
 some (.go (Xaa .i64 (v2.1 + (p0.Above.getD v2.2.toNat 0)), Xaa .i64 (v2.2 + 1)))) (
 some (.done v2.1))
def Xey (p0 : Xft) (v7 : (Int × Int)) : Option (Lp (Int × Int) Int) :=
 sel (decide (v7.2 < (p0.Left.length : Int))) (
 req (0 ≤ v7.2 ∧ v7.2 < p0.Left.length) <|
 some (.go (Xaa .i64 (v7.1 + (p0.Left.getD v7.2.toNat 0)), Xaa .i64 (v7.2 + 1)))) (
 some (.done v7.1))
def Xg6 (p0 : Xft) : Option Int :=
 sel ((Xaa .i64 ((p0.Above.length : Int) + (p0.Left.length : Int))) == 0) (
 some 128) (
 req ((2 : Int) ≠ 0) <|
 bnd (loop (Xex p0) (Xaa .i64 ((Xaa .i64 ((p0.Above.length : Int) + (p0.Left.length : Int))).tdiv 2), 0)) fun v4 =>
 bnd (loop (Xey p0) (v4, 0)) fun v9 =>
 req ((Xaa .i64 ((p0.Above.length : Int) + (p0.Left.length : Int))) ≠ 0) <|
 some (Xaa .i64 (v9.tdiv (Xaa .i64 ((p0.Above.length : Int) + (p0.Left.length : Int))))))
def Xcc (p0 : Int) (p1 : Xft) (v4 : Int) (v11 : (Int × (List Int))) : Option (Lp (Int × (List Int)) (List Int)) :=
 sel (decide (v11.1 < 64)) (
 bnd (
 req ((8 : Int) ≠ 0) <|
 bnd (Xb8 p1.Above (v11.1.tmod 8)) fun q20 =>
 req ((8 : Int) ≠ 0) <|
 bnd (Xb8 p1.Left (Xaa .i64 (v11.1.tdiv 8))) fun q21 =>
 sel (p0 == 0) (
 bnd (Xg6 p1) fun q22 =>
 req ((v11.2.length + ([q22]).length) * 8 ≤ 140737488355328 ∧ v11.2.length + ([q22]).length ≤ maxLen) <|
 some (v11.2 ++ ([q22]))) (
 sel (p0 == 1) (
 req ((v11.2.length + ([q20]).length) * 8 ≤ 140737488355328 ∧ v11.2.length + ([q20]).length ≤ maxLen) <|
 some (v11.2 ++ ([q20]))) (
 sel (p0 == 2) (
 req ((v11.2.length + ([q21]).length) * 8 ≤ 140737488355328 ∧ v11.2.length + ([q21]).length ≤ maxLen) <|
 some (v11.2 ++ ([q21]))) (
 bnd (Xdb (Xaa .i64 ((Xaa .i64 (q21 + q20)) - v4)) 0 255) fun q23 =>
 req ((v11.2.length + ([q23]).length) * 8 ≤ 140737488355328 ∧ v11.2.length + ([q23]).length ≤ maxLen) <|
 some (v11.2 ++ ([q23])))))) fun v19 =>
 some (.go (Xaa .i64 (v11.1 + 1), v19))) (
 some (.done v11.2))
def Xcb (p0 : Int) (p1 : Xft) : Option (List Int) :=
 bnd (
 bnd (Xhd p1) fun q2 =>
 sel q2 (
 bnd (Xar p0 0 3) fun q3 =>
 some (!q3)) (
 some true)) fun v1 =>
 sel v1 (
 some ([] : List Int)) (
 bnd (
 sel (decide (p1.Corner < 0)) (
 some 128) (
 some p1.Corner)) fun v4 =>
 bnd (loop (Xcc p0 p1 v4) (0, ([] : List Int))) fun v18 =>
 some v18)
def Xch (p0 : (List Int)) (v3 : Int) : Option (Lp Int (Ou Unit Bool)) :=
 sel (decide (v3 < 64)) (
 req (0 ≤ v3 ∧ v3 < p0.length) <|
 bnd (Xar (p0.getD v3.toNat 0) 0 255) fun q7 =>
 sel (!q7) (
 some (.done (.ret false))) (
 some (.go (Xaa .i64 (v3 + 1))))) (
 some (.done (.out ())))
def Xcu (p0 : (List Int)) : Option Bool :=
 sel ((p0.length : Int) != 64) (
 some false) (
 bnd (loop (Xch p0) 0) fun o8 => match o8 with
| .out v6 => (
 some true)
| .ret r => some r)
def Xdl (p0 : (List Int)) (p1 : (List Int)) (v6 : (Int × (List Int))) : Option (Lp (Int × (List Int)) (List Int)) :=
 sel (decide (v6.1 < 64)) (
 req (0 ≤ v6.1 ∧ v6.1 < p0.length) <|
 req (0 ≤ v6.1 ∧ v6.1 < p1.length) <|
 bnd (Xdb (Xaa .i64 ((p0.getD v6.1.toNat 0) + (p1.getD v6.1.toNat 0))) 0 255) fun q10 =>
 req ((v6.2.length + ([q10]).length) * 8 ≤ 140737488355328 ∧ v6.2.length + ([q10]).length ≤ maxLen) <|
 some (.go (Xaa .i64 (v6.1 + 1), (v6.2 ++ ([q10]))))) (
 some (.done v6.2))
def Xfi (p0 : (List Int)) (p1 : (List Int)) : Option (List Int) :=
 bnd (
 bnd (Xcu p0) fun q2 =>
 sel q2 (
 bnd (Xbd p1 64 10000000) fun q3 =>
 some (!q3)) (
 some true)) fun v1 =>
 sel v1 (
 some ([] : List Int)) (
 bnd (loop (Xdl p0 p1) (0, ([] : List Int))) fun v9 =>
 some v9)
def Xfg (p0 : Pic) (p1 : Int) (p2 : Int) (v7 : (Int × (List Int))) : Option (Lp (Int × (List Int)) (List Int)) :=
 sel (decide (v7.1 < 64)) (
 req ((8 : Int) ≠ 0) <|
 req ((8 : Int) ≠ 0) <|
 bnd (Xd2 p0 (Xaa .i64 (p1 + (v7.1.tmod 8))) (Xaa .i64 (p2 + (Xaa .i64 (v7.1.tdiv 8))))) fun q11 =>
 req ((v7.2.length + ([q11]).length) * 8 ≤ 140737488355328 ∧ v7.2.length + ([q11]).length ≤ maxLen) <|
 some (.go (Xaa .i64 (v7.1 + 1), (v7.2 ++ ([q11]))))) (
 some (.done v7.2))
def Xd9 (p0 : Pic) (p1 : Int) (p2 : Int) : Option (List Int) :=
 bnd (
 bnd (Xev p0) fun q2 =>
 sel q2 (
 bnd (Xar p1 (-1000) 1000) fun q3 =>
 sel q3 (
 bnd (Xar p2 (-1000) 1000) fun q4 =>
 some (!q4)) (
 some true)) (
 some true)) fun v1 =>
 sel v1 (
 some ([] : List Int)) (
 bnd (loop (Xfg p0 p1 p2) (0, ([] : List Int))) fun v10 =>
 some v10)
def Xfm (p0 : Pic) (p1 : Pic) (p2 : Int) (p3 : Int) (p4 : Cond) (p5 : Int) (p6 : Int) (p7 : Xba) : Option ((List Int) × Bool) :=
 bnd (
 bnd (Xci p0 p5 p6) fun q2 =>
 sel q2 (
 bnd (Xar p2 0 256) fun q3 =>
 sel q3 (
 bnd (Xar p3 0 256) fun q4 =>
 sel q4 (
 bnd (Xh7 p7) fun q5 =>
 sel q5 (
 bnd (Xfh p4) fun q6 =>
 some (!q6)) (
 some true)) (
 some true)) (
 some true)) (
 some true)) fun v1 =>
 sel v1 (
 some (([] : List Int), false)) (
 sel (p7.Kind == 2) (
 bnd (Xdc p0 p5 p6) fun q7 =>
 bnd (Xcd p7.Levels p4) fun q8 =>
 bnd (Xcb p7.Mode q7.1) fun q9 =>
 bnd (Xfi q9 q8.1) fun q10 =>
 some (q10, true)) (
 bnd (
 sel p4.Key (
 some true) (
 bnd (Xev p1) fun q12 =>
 some (!q12))) fun v11 =>
 sel v11 (
 some (([] : List Int), false)) (
 bnd (Xd9 p1 (Xaa .i64 ((Xaa .i64 (p2 + p5)) + p7.Dx)) (Xaa .i64 ((Xaa .i64 (p3 + p6)) + p7.Dy))) fun q13 =>
 sel (p7.Kind == 0) (
 some (q13, true)) (
 bnd (Xcd p7.Levels p4) fun q14 =>
 bnd (Xfi q13 q14.1) fun q15 =>
 some (q15, true)))))
def Xap (p0 : Int) (p1 : Int) (p2 : Int) : Option Bool :=
 bnd (
 sel (decide (p0 ≥ p1)) (
 some (decide (p0 ≤ p2))) (
 some false)) fun v1 =>
 some v1
def Xe3 (p0 : Cond) : Option Bool :=
 bnd (
 bnd (Xap p0.Qp 0 40) fun q2 =>
 sel q2 (
 sel p0.Large (
 some (!p0.Exact)) (
 some true)) (
 some false)) fun v1 =>
 some v1
def Xhq (p0 : (List Int)) (p2 : Int) (p3 : Int) (v3 : Int) : Option (Lp Int (Ou Unit Bool)) :=
 sel (decide (v3 < (p0.length : Int))) (
 req (0 ≤ v3 ∧ v3 < p0.length) <|
 bnd (Xap (p0.getD v3.toNat 0) p2 p3) fun q7 =>
 sel (!q7) (
 some (.done (.ret false))) (
 some (.go (Xaa .i64 (v3 + 1))))) (
 some (.done (.out ())))
def Xa7 (p0 : (List Int)) (p1 : Int) (p2 : Int) (p3 : Int) : Option Bool :=
 bnd (loop (Xhq p0 p2 p3) 0) fun o8 => match o8 with
| .out v6 => (
 some ((p0.length : Int) == p1))
| .ret r => some r
def Xdh (p0 : (List Int)) : Option Bool :=
 bnd (Xa7 p0 64 (-5000) 5000) fun q1 =>
 some q1
def Xho (p0 : Xba) : Option Bool :=
 sel (p0.Kind == 0) (
 bnd (
 sel (p0.Mode == 0) (
 sel (p0.Dx == 0) (
 sel (p0.Dy == 0) (
 some ((p0.Levels.length : Int) == 0)) (
 some false)) (
 some false)) (
 some false)) fun v1 =>
 some v1) (
 sel (p0.Kind == 1) (
 bnd (
 sel (p0.Mode == 0) (
 bnd (Xap p0.Dx (-16) 16) fun q3 =>
 sel q3 (
 bnd (Xap p0.Dy (-16) 16) fun q4 =>
 sel q4 (
 bnd (Xdh p0.Levels) fun q5 =>
 some q5) (
 some false)) (
 some false)) (
 some false)) fun v2 =>
 some v2) (
 sel (p0.Kind == 2) (
 bnd (
 bnd (Xap p0.Mode 0 3) fun q7 =>
 sel q7 (
 sel (p0.Dx == 0) (
 sel (p0.Dy == 0) (
 bnd (Xdh p0.Levels) fun q8 =>
 some q8) (
 some false)) (
 some false)) (
 some false)) fun v6 =>
 some v6) (
 some false)))
def Xdu (p0 : Pic) : Option Bool :=
 bnd (
 bnd (Xap p0.Wide 1 256) fun q2 =>
 sel q2 (
 bnd (Xap p0.High 1 256) fun q3 =>
 sel q3 (
 some ((p0.Dots.size : Int) == (Xaa .i64 (p0.Wide * p0.High)))) (
 some false)) (
 some false)) fun v1 =>
 some v1
def Xgi (p0 : Pic) (p1 : Yob) : Option Bool :=
 bnd (
 bnd (Xap p1.Wide 1 p0.Wide) fun q2 =>
 sel q2 (
 bnd (Xap p1.High 1 p0.High) fun q3 =>
 sel q3 (
 bnd (Xap p1.Left 0 (Xaa .i64 (p0.Wide - p1.Wide))) fun q4 =>
 sel q4 (
 bnd (Xap p1.Top 0 (Xaa .i64 (p0.High - p1.High))) fun q5 =>
 some q5) (
 some false)) (
 some false)) (
 some false)) fun v1 =>
 some v1
def Xa6 (p0 : Pic) (p1 : Int) (p2 : Int) : Option Bool :=
 bnd (
 req ((8 : Int) ≠ 0) <|
 sel ((p1.tmod 8) == 0) (
 req ((8 : Int) ≠ 0) <|
 sel ((p2.tmod 8) == 0) (
 bnd (Xap p1 0 (Xaa .i64 (p0.Wide - 8))) fun q2 =>
 sel q2 (
 bnd (Xap p2 0 (Xaa .i64 (p0.High - 8))) fun q3 =>
 some q3) (
 some false)) (
 some false)) (
 some false)) fun v1 =>
 some v1
def Xe8 (p0 : Xba) (p1 : Cond) : Option Bool :=
 bnd (
 sel p1.Key (
 some (p0.Kind == 2)) (
 some true)) fun v1 =>
 some v1
def Xc5 (p0 : Int) (p1 : Int) (p2 : Int) : Option Int :=
 some (if (if p2 < p0 then p2 else p0) > p1 then (if p2 < p0 then p2 else p0) else p1)
def Xc9 (p0 : Pic) (p1 : Int) (p2 : Int) : Option Int :=
 bnd (Xc5 p2 0 (Xaa .i64 (p0.High - 1))) fun q1 =>
 bnd (Xc5 p1 0 (Xaa .i64 (p0.Wide - 1))) fun q2 =>
 req (0 ≤ (Xaa .i64 ((Xaa .i64 (q1 * p0.Wide)) + q2)) ∧ (Xaa .i64 ((Xaa .i64 (q1 * p0.Wide)) + q2)) < p0.Dots.size) <|
 some (Xaa .i64 ((Ykq p0.Dots (Xaa .i64 ((Xaa .i64 (q1 * p0.Wide)) + q2)))))
def Xc8 (p0 : Pic) (p1 : Int) (p2 : Int) (v10 : (Int × (List Int))) (v23 : (Int × (List Int))) : Option (Lp (Int × (List Int)) (List Int)) :=
 sel (decide (v23.1 < 8)) (
 bnd (Xc9 p0 (Xaa .i64 (p1 + v23.1)) (Xaa .i64 (p2 + v10.1))) fun q27 =>
 req ((v23.2.length + ([q27]).length) * 8 ≤ 140737488355328 ∧ v23.2.length + ([q27]).length ≤ maxLen) <|
 some (.go (Xaa .i64 (v23.1 + 1), (v23.2 ++ ([q27]))))) (
 some (.done v23.2))
def Xc7 (p0 : Pic) (p1 : Int) (p2 : Int) (v10 : (Int × (List Int))) : Option (Lp (Int × (List Int)) (List Int)) :=
 sel (decide (v10.1 < 8)) (
 bnd (loop (Xc8 p0 p1 p2 v10) (0, v10.2)) fun v26 =>
 some (.go (Xaa .i64 (v10.1 + 1), v26))) (
 some (.done v10.2))
def Xbi (p0 : Pic) (p1 : Int) (p2 : Int) : Option (List Int) :=
 req (0 ≤ (0 : Int) ∧ (0 : Int) ≤ (64 : Int) ∧ (64 : Int) * 8 ≤ 281474976710656) <|
 bnd (loop (Xc7 p0 p1 p2) (0, (List.replicate (0 : Int).toNat (0 : Int)))) fun v20 =>
 some v20
def Xhr (p0 : Int) (v16 : (Int × (List Int))) (v37 : (Int × (List Int))) : Option (Lp (Int × (List Int)) (List Int)) :=
 sel (decide (v37.1 ≤ v16.1)) (
 bnd (
 bnd (
 req ((2 : Int) ≠ 0) <|
 sel ((v16.1.tmod 2) == 0) (
 some (Xaa .i64 (v16.1 - v37.1))) (
 some v37.1)) fun v44 =>
 bnd (
 sel (decide (v44 < p0)) (
 some (decide ((Xaa .i64 (v16.1 - v44)) < p0))) (
 some false)) fun v45 =>
 sel v45 (
 req ((v37.2.length + ([Xaa .i64 ((Xaa .i64 (v44 * p0)) + (Xaa .i64 (v16.1 - v44)))]).length) * 8 ≤ 140737488355328 ∧ v37.2.length + ([Xaa .i64 ((Xaa .i64 (v44 * p0)) + (Xaa .i64 (v16.1 - v44)))]).length ≤ maxLen) <|
 some (v37.2 ++ ([Xaa .i64 ((Xaa .i64 (v44 * p0)) + (Xaa .i64 (v16.1 - v44)))]))) (
 some v37.2)) fun v43 =>
 some (.go (Xaa .i64 (v37.1 + 1), v43))) (
 some (.done v37.2))
def Xe1 (p0 : Int) (v16 : (Int × (List Int))) : Option (Lp (Int × (List Int)) (List Int)) :=
 sel (decide (v16.1 ≤ (Xaa .i64 ((Xaa .i64 (2 * p0)) - 2)))) (
 bnd (loop (Xhr p0 v16) (0, v16.2)) fun v42 =>
 some (.go (Xaa .i64 (v16.1 + 1), v42))) (
 some (.done v16.2))
def Xeu (p0 : Int) : Option (List Int) :=
 bnd (loop (Xe1 p0) (0, ([] : List Int))) fun v32 =>
 some v32
def Xfx (p1 : (List Int)) (q2 : (List Int)) (v4 : (Int × (List Int))) : Option (Lp (Int × (List Int)) (List Int)) :=
 sel (decide (v4.1 < (q2.length : Int))) (
 req (0 ≤ v4.1 ∧ v4.1 < q2.length) <|
 req (v4.1.toNat < q2.length) <|
 req (0 ≤ v4.1 ∧ v4.1 < p1.length) <|
 req (0 ≤ (q2.getD v4.1.toNat 0) ∧ (q2.getD v4.1.toNat 0) < v4.2.length) <|
 req ((q2.getD v4.1.toNat 0).toNat < v4.2.length) <|
 some (.go (Xaa .i64 (v4.1 + 1), (v4.2.set ((q2.getD v4.1.toNat 0).toNat) (p1.getD v4.1.toNat 0))))) (
 some (.done v4.2))
def Xdg (p0 : Int) (p1 : (List Int)) : Option ((List Int) × Bool) :=
 bnd (
 sel (p0 != 4) (
 sel (p0 != 8) (
 some true) (
 some ((p1.length : Int) != (Xaa .i64 (p0 * p0))))) (
 some ((p1.length : Int) != (Xaa .i64 (p0 * p0))))) fun v1 =>
 sel v1 (
 some (([] : List Int), false)) (
 req (0 ≤ (p1.length : Int) ∧ (p1.length : Int) ≤ (p1.length : Int) ∧ (p1.length : Int) * 8 ≤ 281474976710656) <|
 bnd (Xeu p0) fun q2 =>
 bnd (loop (Xfx p1 q2) (0, (List.replicate (p1.length : Int).toNat (0 : Int)))) fun v6 =>
 some (v6, true))
def Xg2 (p0 : Int) : Option Int :=
 bnd (Xap p0 0 40) fun q1 =>
 sel (!q1) (
 some 0) (
 req ((6 : Int) ≠ 0) <|
 req (0 ≤ (p0.tmod 6) ∧ (p0.tmod 6) < ([10, 11, 13, 14, 16, 18]).length) <|
 req ((p0.tmod 6).toNat < ([10, 11, 13, 14, 16, 18]).length) <|
 req ((6 : Int) ≠ 0) <|
 req (0 ≤ (Xaa .i64 (p0.tdiv 6))) <|
 some (Xaa .i64 ((([10, 11, 13, 14, 16, 18]).getD ((p0.tmod 6).toNat) 0) * 2 ^ min (Xaa .i64 (p0.tdiv 6)).toNat (IntKind.bits .i64))))
def Xgh (p0 : Int) (p1 : Int) : Option Int :=
 bnd (Xap p0 (-5000) 5000) fun q1 =>
 sel (!q1) (
 some 0) (
 bnd (Xg2 p1) fun q2 =>
 some (Xaa .i64 (p0 * q2)))
def Xin (p0 : Int) (p1 : Int) : Option Int :=
 bnd (
 bnd (Xap p0 0 7) fun q2 =>
 sel q2 (
 bnd (Xap p1 0 7) fun q3 =>
 some (!q3)) (
 some true)) fun v1 =>
 sel v1 (
 some 0) (
 req (0 ≤ (1 : Int)) <|
 req (0 ≤ (2 : Int)) <|
 req ((2 : Int) ≠ 0) <|
 sel (((Xaa .i64 ((Xaa .i64 ((IntKind.wrap .i64 (BitVec.ofInt (IntKind.bits .i64) (IntKind.wrap .i64 (BitVec.ofInt (IntKind.bits .i64) p0 &&& BitVec.ofInt (IntKind.bits .i64) p1).toNat) &&& BitVec.ofInt (IntKind.bits .i64) 1).toNat) + (IntKind.wrap .i64 (BitVec.ofInt (IntKind.bits .i64) ((IntKind.wrap .i64 (BitVec.ofInt (IntKind.bits .i64) p0 &&& BitVec.ofInt (IntKind.bits .i64) p1).toNat) / 2 ^ min (1 : Int).toNat (IntKind.bits .i64)) &&& BitVec.ofInt (IntKind.bits .i64) 1).toNat))) + (IntKind.wrap .i64 (BitVec.ofInt (IntKind.bits .i64) ((IntKind.wrap .i64 (BitVec.ofInt (IntKind.bits .i64) p0 &&& BitVec.ofInt (IntKind.bits .i64) p1).toNat) / 2 ^ min (2 : Int).toNat (IntKind.bits .i64)) &&& BitVec.ofInt (IntKind.bits .i64) 1).toNat))).tmod 2) == 0) (
 some 1) (
 some (-1)))
def Xht (p0 : (List Int)) (v31 : (Int × (List Int))) (v72 : (Int × (List Int))) (v85 : (Int × (List Int))) : Option (Lp (Int × (List Int)) (List Int)) :=
 sel (decide (v85.1 < 8)) (
 req (0 ≤ (Xaa .i64 ((Xaa .i64 (8 * v31.1)) + v72.1)) ∧ (Xaa .i64 ((Xaa .i64 (8 * v31.1)) + v72.1)) < v85.2.length) <|
 req ((Xaa .i64 ((Xaa .i64 (8 * v31.1)) + v72.1)).toNat < v85.2.length) <|
 bnd (Xin v72.1 v85.1) fun q89 =>
 req (0 ≤ (Xaa .i64 ((Xaa .i64 (8 * v31.1)) + v85.1)) ∧ (Xaa .i64 ((Xaa .i64 (8 * v31.1)) + v85.1)) < p0.length) <|
 req (0 ≤ (Xaa .i64 ((Xaa .i64 (8 * v31.1)) + v72.1)) ∧ (Xaa .i64 ((Xaa .i64 (8 * v31.1)) + v72.1)) < v85.2.length) <|
 req ((Xaa .i64 ((Xaa .i64 (8 * v31.1)) + v72.1)).toNat < v85.2.length) <|
 some (.go (Xaa .i64 (v85.1 + 1), (v85.2.set ((Xaa .i64 ((Xaa .i64 (8 * v31.1)) + v72.1)).toNat) (Xaa .i64 ((v85.2.getD ((Xaa .i64 ((Xaa .i64 (8 * v31.1)) + v72.1)).toNat) 0) + (Xaa .i64 (q89 * (p0.getD (Xaa .i64 ((Xaa .i64 (8 * v31.1)) + v85.1)).toNat 0))))))))) (
 some (.done v85.2))
def Xm0 (p0 : (List Int)) (v31 : (Int × (List Int))) (v72 : (Int × (List Int))) : Option (Lp (Int × (List Int)) (List Int)) :=
 sel (decide (v72.1 < 8)) (
 bnd (loop (Xht p0 v31 v72) (0, v72.2)) fun v88 =>
 some (.go (Xaa .i64 (v72.1 + 1), v88))) (
 some (.done v72.2))
def Xmz (p0 : (List Int)) (v31 : (Int × (List Int))) : Option (Lp (Int × (List Int)) (List Int)) :=
 sel (decide (v31.1 < 8)) (
 bnd (loop (Xm0 p0 v31) (0, v31.2)) fun v82 =>
 some (.go (Xaa .i64 (v31.1 + 1), v82))) (
 some (.done v31.2))
def Xgk (v62 : (List Int)) (v123 : (Int × (List Int))) (v164 : (Int × (List Int))) (v177 : (Int × (List Int))) : Option (Lp (Int × (List Int)) (List Int)) :=
 sel (decide (v177.1 < 8)) (
 req (0 ≤ (Xaa .i64 ((Xaa .i64 (8 * v123.1)) + v164.1)) ∧ (Xaa .i64 ((Xaa .i64 (8 * v123.1)) + v164.1)) < v177.2.length) <|
 req ((Xaa .i64 ((Xaa .i64 (8 * v123.1)) + v164.1)).toNat < v177.2.length) <|
 bnd (Xin v123.1 v177.1) fun q181 =>
 req (0 ≤ (Xaa .i64 ((Xaa .i64 (8 * v177.1)) + v164.1)) ∧ (Xaa .i64 ((Xaa .i64 (8 * v177.1)) + v164.1)) < v62.length) <|
 req ((Xaa .i64 ((Xaa .i64 (8 * v177.1)) + v164.1)).toNat < v62.length) <|
 req (0 ≤ (Xaa .i64 ((Xaa .i64 (8 * v123.1)) + v164.1)) ∧ (Xaa .i64 ((Xaa .i64 (8 * v123.1)) + v164.1)) < v177.2.length) <|
 req ((Xaa .i64 ((Xaa .i64 (8 * v123.1)) + v164.1)).toNat < v177.2.length) <|
 some (.go (Xaa .i64 (v177.1 + 1), (v177.2.set ((Xaa .i64 ((Xaa .i64 (8 * v123.1)) + v164.1)).toNat) (Xaa .i64 ((v177.2.getD ((Xaa .i64 ((Xaa .i64 (8 * v123.1)) + v164.1)).toNat) 0) + (Xaa .i64 (q181 * (v62.getD ((Xaa .i64 ((Xaa .i64 (8 * v177.1)) + v164.1)).toNat) 0))))))))) (
 some (.done v177.2))
def Xln (v62 : (List Int)) (v123 : (Int × (List Int))) (v164 : (Int × (List Int))) : Option (Lp (Int × (List Int)) (List Int)) :=
 sel (decide (v164.1 < 8)) (
 bnd (loop (Xgk v62 v123 v164) (0, v164.2)) fun v180 =>
 some (.go (Xaa .i64 (v164.1 + 1), v180))) (
 some (.done v164.2))
def Xlm (v62 : (List Int)) (v123 : (Int × (List Int))) : Option (Lp (Int × (List Int)) (List Int)) :=
 sel (decide (v123.1 < 8)) (
 bnd (loop (Xln v62 v123) (0, v123.2)) fun v174 =>
 some (.go (Xaa .i64 (v123.1 + 1), v174))) (
 some (.done v123.2))
def Xl6 (p0 : (List Int)) : Option (List Int) :=
 req (0 ≤ (64 : Int) ∧ (64 : Int) ≤ (64 : Int) ∧ (64 : Int) * 8 ≤ 281474976710656) <|
 bnd (loop (Xmz p0) (0, (List.replicate (64 : Int).toNat (0 : Int)))) fun v62 =>
 req (0 ≤ (64 : Int) ∧ (64 : Int) ≤ (64 : Int) ∧ (64 : Int) * 8 ≤ 281474976710656) <|
 bnd (loop (Xlm v62) (0, (List.replicate (64 : Int).toNat (0 : Int)))) fun v154 =>
 some v154
def Xkg (p0 : Int) (p1 : Int) : Option Int :=
 req (p1 ≠ 0) <|
 bnd (
 req (p1 ≠ 0) <|
 sel (decide ((p0.tmod p1) < 0)) (
 some (Xaa .i64 ((Xaa .i64 (p0.tdiv p1)) - 1))) (
 some (Xaa .i64 (p0.tdiv p1)))) fun v1 =>
 some v1
def Xkq (p0 : (List Int)) (v3 : (Int × (List Int))) : Option (Lp (Int × (List Int)) (List Int)) :=
 sel (decide (v3.1 < (p0.length : Int))) (
 req (0 ≤ v3.1 ∧ v3.1 < v3.2.length) <|
 req (v3.1.toNat < v3.2.length) <|
 bnd (Xkg (Xaa .i64 ((v3.2.getD v3.1.toNat 0) + 32)) 64) fun q7 =>
 req (0 ≤ v3.1 ∧ v3.1 < v3.2.length) <|
 req (v3.1.toNat < v3.2.length) <|
 some (.go (Xaa .i64 (v3.1 + 1), (v3.2.set v3.1.toNat q7)))) (
 some (.done v3.2))
def Xhb (p0 : (List Int)) : Option ((List Int) × (List Int)) :=
 bnd (loop (Xkq p0) (0, p0)) fun v6 =>
 some (v6, v6)
def Xgg (p0 : (List Int)) : Option (List Int) :=
 bnd (Xa7 p0 64 (-10000000) 10000000) fun q1 =>
 sel (!q1) (
 some ([] : List Int)) (
 bnd (Xl6 p0) fun q2 =>
 bnd (Xhb q2) fun q3 =>
 some q3.2)
def Xmv (p0 : Int) : Option Int :=
 bnd (Xap p0 0 15) fun q1 =>
 sel (!q1) (
 some (-1)) (
 req ((4 : Int) ≠ 0) <|
 req ((2 : Int) ≠ 0) <|
 req ((4 : Int) ≠ 0) <|
 req ((2 : Int) ≠ 0) <|
 bnd (
 sel (((Xaa .i64 (p0.tdiv 4)).tmod 2) == 0) (
 some (((p0.tmod 4).tmod 2) == 0)) (
 some false)) fun v2 =>
 sel v2 (
 some 0) (
 bnd (
 sel (((Xaa .i64 (p0.tdiv 4)).tmod 2) == 1) (
 some (((p0.tmod 4).tmod 2) == 1)) (
 some false)) fun v3 =>
 sel v3 (
 some 1) (
 some 2)))
def Xji (p0 : Int) (p1 : Int) : Option Int :=
 bnd (
 bnd (Xap p0 0 40) fun q2 =>
 sel q2 (
 bnd (Xap p1 0 15) fun q3 =>
 some (!q3)) (
 some true)) fun v1 =>
 sel v1 (
 some 0) (
 req ((6 : Int) ≠ 0) <|
 bnd (Xmv p1) fun q4 =>
 req (0 ≤ (p0.tmod 6) ∧ (p0.tmod 6) < 6) <|
 req (0 ≤ q4 ∧ q4 < 3) <|
 req (((0 + (p0.tmod 6).toNat * 3) + q4.toNat * 1) < ([10, 16, 13, 11, 18, 14, 13, 20, 16, 14, 23, 18, 16, 25, 20, 18, 29, 23] : List Int).length) <|
 req ((6 : Int) ≠ 0) <|
 req (0 ≤ (Xaa .i64 (p0.tdiv 6))) <|
 some (Xaa .i64 ((([10, 16, 13, 11, 18, 14, 13, 20, 16, 14, 23, 18, 16, 25, 20, 18, 29, 23] : List Int).getD ((0 + (p0.tmod 6).toNat * 3) + q4.toNat * 1) 0) * 2 ^ min (Xaa .i64 (p0.tdiv 6)).toNat (IntKind.bits .i64))))
def Xgj (p0 : Int) (p1 : Int) (p2 : Int) : Option Int :=
 bnd (Xap p0 (-5000) 5000) fun q1 =>
 sel (!q1) (
 some 0) (
 bnd (Xji p1 p2) fun q2 =>
 some (Xaa .i64 (p0 * q2)))
def Xfz (p0 : (List Int)) : Option (List Int) :=
 req ((([] : List Int).length + p0.length) * 8 ≤ 140737488355328 ∧ ([] : List Int).length + p0.length ≤ maxLen) <|
 some (([] : List Int) ++ p0)
def Xcw (p0 : Int) (p1 : Int) (p2 : Int) (p3 : Int) : Option (Int × Int × Int × Int) :=
 bnd (Xkg p1 2) fun q1 =>
 bnd (Xkg p3 2) fun q2 =>
 some (Xaa .i64 ((Xaa .i64 (p0 + p2)) + (Xaa .i64 (p1 + q2))), Xaa .i64 ((Xaa .i64 (p0 - p2)) + (Xaa .i64 (q1 - p3))), Xaa .i64 ((Xaa .i64 (p0 - p2)) - (Xaa .i64 (q1 - p3))), Xaa .i64 ((Xaa .i64 (p0 + p2)) - (Xaa .i64 (p1 + q2))))
def Xd7 (v4 : (Int × (List Int))) : Option (Lp (Int × (List Int)) (List Int)) :=
 sel (decide (v4.1 < 16)) (
 req (0 ≤ v4.1 ∧ v4.1 < v4.2.length) <|
 req (v4.1.toNat < v4.2.length) <|
 req (0 ≤ (Xaa .i64 (v4.1 + 1)) ∧ (Xaa .i64 (v4.1 + 1)) < v4.2.length) <|
 req ((Xaa .i64 (v4.1 + 1)).toNat < v4.2.length) <|
 req (0 ≤ (Xaa .i64 (v4.1 + 2)) ∧ (Xaa .i64 (v4.1 + 2)) < v4.2.length) <|
 req ((Xaa .i64 (v4.1 + 2)).toNat < v4.2.length) <|
 req (0 ≤ (Xaa .i64 (v4.1 + 3)) ∧ (Xaa .i64 (v4.1 + 3)) < v4.2.length) <|
 req ((Xaa .i64 (v4.1 + 3)).toNat < v4.2.length) <|
 bnd (Xcw (v4.2.getD v4.1.toNat 0) (v4.2.getD ((Xaa .i64 (v4.1 + 1)).toNat) 0) (v4.2.getD ((Xaa .i64 (v4.1 + 2)).toNat) 0) (v4.2.getD ((Xaa .i64 (v4.1 + 3)).toNat) 0)) fun q8 =>
 req (0 ≤ v4.1 ∧ v4.1 ≤ (Xaa .i64 (v4.1 + 4)) ∧ (Xaa .i64 (v4.1 + 4)) ≤ (v4.2.length : Int)) <|
 req ((v4.1.toNat + ((Xaa .i64 (v4.1 + 4)).toNat - v4.1.toNat) ≤ v4.2.length ∧ ([q8.1, q8.2.1, q8.2.2.1, q8.2.2.2]).length ≤ ((Xaa .i64 (v4.1 + 4)).toNat - v4.1.toNat))) <|
 some (.go (Xaa .i64 (v4.1 + 4), (over v4.2 v4.1.toNat ([q8.1, q8.2.1, q8.2.2.1, q8.2.2.2]))))) (
 some (.done v4.2))
def Xdz (v17 : (Int × (List Int))) (q26 : (Int × Int × Int × Int)) (v28 : (Int × (List Int))) : Option (Lp (Int × (List Int)) (List Int)) :=
 sel (decide (v28.1 < 4)) (
 req (0 ≤ v28.1 ∧ v28.1 < ([q26.1, q26.2.1, q26.2.2.1, q26.2.2.2] : List Int).length) <|
 req (0 ≤ (Xaa .i64 (v17.1 + (Xaa .i64 (4 * v28.1)))) ∧ (Xaa .i64 (v17.1 + (Xaa .i64 (4 * v28.1)))) < v28.2.length) <|
 req ((Xaa .i64 (v17.1 + (Xaa .i64 (4 * v28.1)))).toNat < v28.2.length) <|
 some (.go (Xaa .i64 (v28.1 + 1), (v28.2.set ((Xaa .i64 (v17.1 + (Xaa .i64 (4 * v28.1)))).toNat) (([q26.1, q26.2.1, q26.2.2.1, q26.2.2.2] : List Int).getD v28.1.toNat 0))))) (
 some (.done v28.2))
def Xdy (v17 : (Int × (List Int))) : Option (Lp (Int × (List Int)) (List Int)) :=
 sel (decide (v17.1 < 4)) (
 req (0 ≤ v17.1 ∧ v17.1 < v17.2.length) <|
 req (v17.1.toNat < v17.2.length) <|
 req (0 ≤ (Xaa .i64 (v17.1 + 4)) ∧ (Xaa .i64 (v17.1 + 4)) < v17.2.length) <|
 req ((Xaa .i64 (v17.1 + 4)).toNat < v17.2.length) <|
 req (0 ≤ (Xaa .i64 (v17.1 + 8)) ∧ (Xaa .i64 (v17.1 + 8)) < v17.2.length) <|
 req ((Xaa .i64 (v17.1 + 8)).toNat < v17.2.length) <|
 req (0 ≤ (Xaa .i64 (v17.1 + 12)) ∧ (Xaa .i64 (v17.1 + 12)) < v17.2.length) <|
 req ((Xaa .i64 (v17.1 + 12)).toNat < v17.2.length) <|
 bnd (Xcw (v17.2.getD v17.1.toNat 0) (v17.2.getD ((Xaa .i64 (v17.1 + 4)).toNat) 0) (v17.2.getD ((Xaa .i64 (v17.1 + 8)).toNat) 0) (v17.2.getD ((Xaa .i64 (v17.1 + 12)).toNat) 0)) fun q26 =>
 bnd (loop (Xdz v17 q26) (0, v17.2)) fun v30 =>
 some (.go (Xaa .i64 (v17.1 + 1), v30))) (
 some (.done v17.2))
def Xbs (p0 : (List Int)) : Option (List Int) :=
 bnd (Xfz p0) fun q1 =>
 bnd (loop (Xd7) (0, q1)) fun v7 =>
 bnd (loop (Xdy) (0, v7)) fun v25 =>
 some v25
def Xhl (p0 : (List Int)) : Option (List Int) :=
 bnd (Xa7 p0 16 (-10000000) 10000000) fun q1 =>
 sel (!q1) (
 some ([] : List Int)) (
 bnd (Xbs p0) fun q2 =>
 bnd (Xhb q2) fun q3 =>
 some q3.2)
def Xjv (p0 : Int) (v7 : (Int × (List Int))) (v16 : (Int × (List Int))) : Option (Lp (Int × (List Int)) (List Int)) :=
 sel (decide (v16.1 < 4)) (
 req ((2 : Int) ≠ 0) <|
 req ((2 : Int) ≠ 0) <|
 req ((v16.2.length + ([Xaa .i64 ((Xaa .i64 ((Xaa .i64 ((Xaa .i64 (v7.1 + (Xaa .i64 ((Xaa .i64 (p0.tdiv 2)) * 4)))) * 8)) + v16.1)) + (Xaa .i64 ((p0.tmod 2) * 4)))]).length) * 8 ≤ 140737488355328 ∧ v16.2.length + ([Xaa .i64 ((Xaa .i64 ((Xaa .i64 ((Xaa .i64 (v7.1 + (Xaa .i64 ((Xaa .i64 (p0.tdiv 2)) * 4)))) * 8)) + v16.1)) + (Xaa .i64 ((p0.tmod 2) * 4)))]).length ≤ maxLen) <|
 some (.go (Xaa .i64 (v16.1 + 1), (v16.2 ++ ([Xaa .i64 ((Xaa .i64 ((Xaa .i64 ((Xaa .i64 (v7.1 + (Xaa .i64 ((Xaa .i64 (p0.tdiv 2)) * 4)))) * 8)) + v16.1)) + (Xaa .i64 ((p0.tmod 2) * 4)))]))))) (
 some (.done v16.2))
def Xgu (p0 : Int) (v7 : (Int × (List Int))) : Option (Lp (Int × (List Int)) (List Int)) :=
 sel (decide (v7.1 < 4)) (
 bnd (loop (Xjv p0 v7) (0, v7.2)) fun v18 =>
 some (.go (Xaa .i64 (v7.1 + 1), v18))) (
 some (.done v7.2))
def Xha (p0 : Int) : Option (List Int) :=
 bnd (loop (Xgu p0) (0, ([] : List Int))) fun v14 =>
 some v14
def Xc6 (p1 : Cond) (q5 : ((List Int) × Bool)) (v8 : (Int × (List Int))) : Option (Lp (Int × (List Int)) (List Int)) :=
 sel (decide (v8.1 < (q5.1.length : Int))) (
 req (0 ≤ v8.1 ∧ v8.1 < v8.2.length) <|
 req (v8.1.toNat < v8.2.length) <|
 bnd (Xgh (v8.2.getD v8.1.toNat 0) p1.Qp) fun q12 =>
 req (0 ≤ v8.1 ∧ v8.1 < v8.2.length) <|
 req (v8.1.toNat < v8.2.length) <|
 some (.go (Xaa .i64 (v8.1 + 1), (v8.2.set v8.1.toNat q12)))) (
 some (.done v8.2))
def Xcx (p1 : Cond) (q51 : ((List Int) × Bool)) (v54 : (Int × (List Int))) : Option (Lp (Int × (List Int)) (List Int)) :=
 sel (decide (v54.1 < (q51.1.length : Int))) (
 req (0 ≤ v54.1 ∧ v54.1 < v54.2.length) <|
 req (v54.1.toNat < v54.2.length) <|
 bnd (Xgj (v54.2.getD v54.1.toNat 0) p1.Qp v54.1) fun q58 =>
 req (0 ≤ v54.1 ∧ v54.1 < v54.2.length) <|
 req (v54.1.toNat < v54.2.length) <|
 some (.go (Xaa .i64 (v54.1 + 1), (v54.2.set v54.1.toNat q58)))) (
 some (.done v54.2))
def Xec (q60 : (List Int)) (q61 : (List Int)) (v63 : (Int × (List Int))) : Option (Lp (Int × (List Int)) (List Int)) :=
 sel (decide (v63.1 < (q61.length : Int))) (
 req (0 ≤ v63.1 ∧ v63.1 < q61.length) <|
 req (v63.1.toNat < q61.length) <|
 req (0 ≤ v63.1 ∧ v63.1 < q60.length) <|
 req (v63.1.toNat < q60.length) <|
 req (0 ≤ (q61.getD v63.1.toNat 0) ∧ (q61.getD v63.1.toNat 0) < v63.2.length) <|
 req ((q61.getD v63.1.toNat 0).toNat < v63.2.length) <|
 some (.go (Xaa .i64 (v63.1 + 1), (v63.2.set ((q61.getD v63.1.toNat 0).toNat) (q60.getD v63.1.toNat 0))))) (
 some (.done v63.2))
def Xg1 (p0 : (List Int)) (p1 : Cond) (v32 : (Int × (List Int))) : Option (Lp (Int × (List Int)) (List Int)) :=
 sel (decide (v32.1 < 4)) (
 req (0 ≤ (Xaa .i64 (16 * v32.1)) ∧ (Xaa .i64 (16 * v32.1)) ≤ (Xaa .i64 ((Xaa .i64 (16 * v32.1)) + 16)) ∧ (Xaa .i64 ((Xaa .i64 (16 * v32.1)) + 16)) ≤ (p0.length : Int)) <|
 bnd (Xdg 4 ((p0.drop (Xaa .i64 (16 * v32.1)).toNat).take ((Xaa .i64 ((Xaa .i64 (16 * v32.1)) + 16)).toNat - (Xaa .i64 (16 * v32.1)).toNat))) fun q51 =>
 bnd (loop (Xcx p1 q51) (0, q51.1)) fun v57 =>
 bnd (Xhl v57) fun q60 =>
 bnd (Xha v32.1) fun q61 =>
 bnd (loop (Xec q60 q61) (0, v32.2)) fun v65 =>
 some (.go (Xaa .i64 (v32.1 + 1), v65))) (
 some (.done v32.2))
def Xe5 (p0 : (List Int)) (p1 : Cond) : Option ((List Int) × Bool) :=
 bnd (
 bnd (Xdh p0) fun q2 =>
 sel q2 (
 bnd (Xe3 p1) fun q3 =>
 some (!q3)) (
 some true)) fun v1 =>
 sel v1 (
 some (([] : List Int), false)) (
 sel p1.Exact (
 bnd (Xdg 8 p0) fun q4 =>
 some (q4.1, q4.2)) (
 sel p1.Large (
 bnd (Xdg 8 p0) fun q5 =>
 bnd (loop (Xc6 p1 q5) (0, q5.1)) fun v11 =>
 bnd (Xgg v11) fun q14 =>
 some (q14, true)) (
 req (0 ≤ (64 : Int) ∧ (64 : Int) ≤ (64 : Int) ∧ (64 : Int) * 8 ≤ 281474976710656) <|
 bnd (loop (Xg1 p0 p1) (0, (List.replicate (64 : Int).toNat (0 : Int)))) fun v50 =>
 some (v50, true))))
def Xi8 (p0 : (List Int)) (p1 : (List Int)) (v6 : (Int × (List Int))) : Option (Lp (Int × (List Int)) (List Int)) :=
 sel (decide (v6.1 < (p0.length : Int))) (
 req (0 ≤ v6.1 ∧ v6.1 < p0.length) <|
 req (0 ≤ v6.1 ∧ v6.1 < p1.length) <|
 bnd (Xc5 (Xaa .i64 ((p0.getD v6.1.toNat 0) + (p1.getD v6.1.toNat 0))) 0 255) fun q10 =>
 req ((v6.2.length + ([q10]).length) * 8 ≤ 140737488355328 ∧ v6.2.length + ([q10]).length ≤ maxLen) <|
 some (.go (Xaa .i64 (v6.1 + 1), (v6.2 ++ ([q10]))))) (
 some (.done v6.2))
def Xik (p0 : (List Int)) (p1 : (List Int)) : Option (List Int) :=
 bnd (
 bnd (Xa7 p0 64 0 255) fun q2 =>
 sel q2 (
 bnd (Xa7 p1 64 (-10000000) 10000000) fun q3 =>
 some (!q3)) (
 some true)) fun v1 =>
 sel v1 (
 some ([] : List Int)) (
 bnd (loop (Xi8 p0 p1) (0, ([] : List Int))) fun v9 =>
 some v9)
def Xhk (p0 : Pic) (p1 : Int) (p2 : Int) (v9 : (Int × (List Int) × (List Int))) : Option (Lp (Int × (List Int) × (List Int)) ((List Int) × (List Int))) :=
 sel (decide (v9.1 < 8)) (
 bnd (
 bnd (
 sel (decide (p2 > 0)) (
 bnd (Xc9 p0 (Xaa .i64 (p1 + v9.1)) (Xaa .i64 (p2 - 1))) fun q18 =>
 req ((v9.2.1.length + ([q18]).length) * 8 ≤ 140737488355328 ∧ v9.2.1.length + ([q18]).length ≤ maxLen) <|
 some (v9.2.1 ++ ([q18]))) (
 some v9.2.1)) fun v17 =>
 sel (decide (p1 > 0)) (
 bnd (Xc9 p0 (Xaa .i64 (p1 - 1)) (Xaa .i64 (p2 + v9.1))) fun q19 =>
 req ((v9.2.2.length + ([q19]).length) * 8 ≤ 140737488355328 ∧ v9.2.2.length + ([q19]).length ≤ maxLen) <|
 some (v17, (v9.2.2 ++ ([q19])))) (
 some (v17, v9.2.2))) fun v16 =>
 some (.go (Xaa .i64 (v9.1 + 1), v16.1, v16.2))) (
 some (.done (v9.2.1, v9.2.2)))
def Xg8 (p0 : Pic) (p1 : Int) (p2 : Int) : Option (Xft × Bool) :=
 bnd (
 bnd (Xdu p0) fun q2 =>
 sel q2 (
 bnd (Xa6 p0 p1 p2) fun q3 =>
 some (!q3)) (
 some true)) fun v1 =>
 sel v1 (
 some ((⟨[], [], 0⟩ : Xft), false)) (
 bnd (loop (Xhk p0 p1 p2) (0, [], [])) fun v15 =>
 bnd (
 bnd (
 sel (decide (p1 > 0)) (
 some (decide (p2 > 0))) (
 some false)) fun v22 =>
 sel v22 (
 bnd (Xc9 p0 (Xaa .i64 (p1 - 1)) (Xaa .i64 (p2 - 1))) fun q23 =>
 some q23) (
 some (-1))) fun v21 =>
 some ((⟨v15.1, v15.2, v21⟩ : Xft), true))
def Xds (p0 : Xft) (v4 : Int) : Option (Lp Int (Ou Unit Bool)) :=
 sel (decide (v4 < (([p0.Above, p0.Left]).length : Int))) (
 req (0 ≤ v4 ∧ v4 < ([p0.Above, p0.Left]).length) <|
 req (v4.toNat < ([p0.Above, p0.Left]).length) <|
 bnd (
 sel (decide (((([p0.Above, p0.Left]).getD v4.toNat Xww).length : Int) > 0)) (
 bnd (Xa7 (([p0.Above, p0.Left]).getD v4.toNat Xww) 8 0 255) fun q10 =>
 some (!q10)) (
 some false)) fun v9 =>
 sel v9 (
 some (.done (.ret false))) (
 some (.go (Xaa .i64 (v4 + 1))))) (
 some (.done (.out ())))
def Xg9 (p0 : Xft) : Option Bool :=
 bnd (loop (Xds p0) 0) fun o11 => match o11 with
| .out v8 => (
 bnd (Xap p0.Corner (-1) 255) fun q12 =>
 some q12)
| .ret r => some r
def Xmy (p0 : (List Int)) (v2 : (Int × Int)) : Option (Lp (Int × Int) Int) :=
 sel (decide (v2.2 < (p0.length : Int))) (
 req (0 ≤ v2.2 ∧ v2.2 < p0.length) <|
 some (.go (Xaa .i64 (v2.1 + (p0.getD v2.2.toNat 0)), Xaa .i64 (v2.2 + 1)))) (
 some (.done v2.1))
def Xhc (p0 : (List Int)) : Option Int :=
 bnd (loop (Xmy p0) (0, 0)) fun v4 =>
 some v4
def Xir (p0 : (List Int)) : Option (List Int) :=
 sel ((p0.length : Int) == 0) (
 some ([128, 128, 128, 128, 128, 128, 128, 128])) (
 some p0)
def Xen (p0 : Int) (v4 : Int) (q7 : (List Int)) (q8 : (List Int)) (v9 : Int) (v22 : (Int × (List Int))) (v39 : (Int × (List Int))) : Option (Lp (Int × (List Int)) (List Int)) :=
 sel (decide (v39.1 < 8)) (
 bnd (
 sel (p0 == 0) (
 req ((v39.2.length + ([v4]).length) * 8 ≤ 140737488355328 ∧ v39.2.length + ([v4]).length ≤ maxLen) <|
 some (v39.2 ++ ([v4]))) (
 sel (p0 == 1) (
 req (0 ≤ v39.1 ∧ v39.1 < q7.length) <|
 req ((v39.2.length + ([(q7.getD v39.1.toNat 0)]).length) * 8 ≤ 140737488355328 ∧ v39.2.length + ([(q7.getD v39.1.toNat 0)]).length ≤ maxLen) <|
 some (v39.2 ++ ([(q7.getD v39.1.toNat 0)]))) (
 sel (p0 == 2) (
 req (0 ≤ v22.1 ∧ v22.1 < q8.length) <|
 req ((v39.2.length + ([(q8.getD v22.1.toNat 0)]).length) * 8 ≤ 140737488355328 ∧ v39.2.length + ([(q8.getD v22.1.toNat 0)]).length ≤ maxLen) <|
 some (v39.2 ++ ([(q8.getD v22.1.toNat 0)]))) (
 req (0 ≤ v22.1 ∧ v22.1 < q8.length) <|
 req (0 ≤ v39.1 ∧ v39.1 < q7.length) <|
 bnd (Xc5 (Xaa .i64 ((Xaa .i64 ((q8.getD v22.1.toNat 0) + (q7.getD v39.1.toNat 0))) - v9)) 0 255) fun q45 =>
 req ((v39.2.length + ([q45]).length) * 8 ≤ 140737488355328 ∧ v39.2.length + ([q45]).length ≤ maxLen) <|
 some (v39.2 ++ ([q45])))))) fun v44 =>
 some (.go (Xaa .i64 (v39.1 + 1), v44))) (
 some (.done v39.2))
def Xjt (p0 : Int) (v4 : Int) (q7 : (List Int)) (q8 : (List Int)) (v9 : Int) (v22 : (Int × (List Int))) : Option (Lp (Int × (List Int)) (List Int)) :=
 sel (decide (v22.1 < 8)) (
 bnd (loop (Xen p0 v4 q7 q8 v9 v22) (0, v22.2)) fun v43 =>
 some (.go (Xaa .i64 (v22.1 + 1), v43))) (
 some (.done v22.2))
def Xd6 (p0 : Int) (p1 : Xft) : Option (List Int) :=
 bnd (
 bnd (Xg9 p1) fun q2 =>
 sel q2 (
 bnd (Xap p0 0 3) fun q3 =>
 some (!q3)) (
 some true)) fun v1 =>
 sel v1 (
 some ([] : List Int)) (
 bnd (
 sel (decide ((Xaa .i64 ((p1.Above.length : Int) + (p1.Left.length : Int))) > 0)) (
 bnd (Xhc p1.Above) fun q5 =>
 bnd (Xhc p1.Left) fun q6 =>
 req ((2 : Int) ≠ 0) <|
 req ((Xaa .i64 ((p1.Above.length : Int) + (p1.Left.length : Int))) ≠ 0) <|
 some (Xaa .i64 ((Xaa .i64 ((Xaa .i64 (q5 + q6)) + (Xaa .i64 ((Xaa .i64 ((p1.Above.length : Int) + (p1.Left.length : Int))).tdiv 2)))).tdiv (Xaa .i64 ((p1.Above.length : Int) + (p1.Left.length : Int)))))) (
 some 128)) fun v4 =>
 bnd (Xir p1.Above) fun q7 =>
 bnd (Xir p1.Left) fun q8 =>
 bnd (
 sel (decide (p1.Corner < 0)) (
 some 128) (
 some p1.Corner)) fun v9 =>
 bnd (loop (Xjt p0 v4 q7 q8 v9) (0, ([] : List Int))) fun v35 =>
 some v35)
def Xdw (p0 : Pic) (p1 : Pic) (p2 : Int) (p3 : Int) (p4 : Cond) (p5 : Int) (p6 : Int) (p7 : Xba) : Option ((List Int) × Bool) :=
 bnd (
 bnd (Xdu p0) fun q2 =>
 sel q2 (
 bnd (Xa6 p0 p5 p6) fun q3 =>
 sel q3 (
 bnd (Xap p2 0 256) fun q4 =>
 sel q4 (
 bnd (Xap p3 0 256) fun q5 =>
 sel q5 (
 bnd (Xho p7) fun q6 =>
 sel q6 (
 bnd (Xe3 p4) fun q7 =>
 sel q7 (
 bnd (Xe8 p7 p4) fun q8 =>
 sel q8 (
 sel (p7.Kind != 2) (
 bnd (Xdu p1) fun q9 =>
 some (!q9)) (
 some false)) (
 some true)) (
 some true)) (
 some true)) (
 some true)) (
 some true)) (
 some true)) (
 some true)) fun v1 =>
 sel v1 (
 some (([] : List Int), false)) (
 sel (p7.Kind == 0) (
 bnd (Xbi p1 (Xaa .i64 (p2 + p5)) (Xaa .i64 (p3 + p6))) fun q10 =>
 some (q10, true)) (
 bnd (Xe5 p7.Levels p4) fun q11 =>
 sel (p7.Kind == 1) (
 bnd (Xbi p1 (Xaa .i64 ((Xaa .i64 (p2 + p5)) + p7.Dx)) (Xaa .i64 ((Xaa .i64 (p3 + p6)) + p7.Dy))) fun q12 =>
 bnd (Xik q12 q11.1) fun q13 =>
 some (q13, true)) (
 bnd (Xg8 p0 p5 p6) fun q14 =>
 bnd (Xd6 p7.Mode q14.1) fun q15 =>
 bnd (Xik q15 q11.1) fun q16 =>
 some (q16, true))))
def Xgn (p0 : (List Int)) (v2 : (Int × (List Int))) : Option (Lp (Int × (List Int)) (List Int)) :=
 sel (decide (v2.1 < (p0.length : Int))) (
 req (0 ≤ v2.1 ∧ v2.1 < p0.length) <|
 req (0 ≤ v2.1 ∧ v2.1 < v2.2.length) <|
 req (v2.1.toNat < v2.2.length) <|
 some (.go (Xaa .i64 (v2.1 + 1), (v2.2.set v2.1.toNat (p0.getD v2.1.toNat 0))))) (
 some (.done v2.2))
def Xfc (p0 : (List Int)) : Option (List Int) :=
 req (0 ≤ (p0.length : Int) ∧ (p0.length : Int) ≤ (p0.length : Int) ∧ (p0.length : Int) * 8 ≤ 281474976710656) <|
 bnd (loop (Xgn p0) (0, (List.replicate (p0.length : Int).toNat (0 : Int)))) fun v4 =>
 some v4
def Xiv (p0 : Cond) : Option Cond :=
 some p0
def Xhf (p0 : Pic) (p1 : Pic) : Option Bool :=
 bnd (
 bnd (Xev p0) fun q2 =>
 sel q2 (
 bnd (Xev p1) fun q3 =>
 sel q3 (
 sel (p0.Wide == p1.Wide) (
 some (p0.High == p1.High)) (
 some false)) (
 some false)) (
 some false)) fun v1 =>
 some v1
def Xig (p0 : (List Int)) (p1 : (List Int)) (v2 : (Int × (List Int))) : Option (Lp (Int × (List Int)) (List Int)) :=
 sel (decide (v2.1 < 64)) (
 req (0 ≤ v2.1 ∧ v2.1 < p0.length) <|
 req (0 ≤ v2.1 ∧ v2.1 < p1.length) <|
 req ((v2.2.length + ([Xaa .i64 ((p0.getD v2.1.toNat 0) - (p1.getD v2.1.toNat 0))]).length) * 8 ≤ 140737488355328 ∧ v2.2.length + ([Xaa .i64 ((p0.getD v2.1.toNat 0) - (p1.getD v2.1.toNat 0))]).length ≤ maxLen) <|
 some (.go (Xaa .i64 (v2.1 + 1), (v2.2 ++ ([Xaa .i64 ((p0.getD v2.1.toNat 0) - (p1.getD v2.1.toNat 0))]))))) (
 some (.done v2.2))
def Xfq (p0 : (List Int)) (p1 : (List Int)) : Option (List Int) :=
 bnd (loop (Xig p0 p1) (0, ([] : List Int))) fun v4 =>
 some v4
def Xfr (p0 : (List Int)) (v2 : Int) : Option (Lp Int (Ou Unit Bool)) :=
 sel (decide (v2 < (p0.length : Int))) (
 req (0 ≤ v2 ∧ v2 < p0.length) <|
 sel ((p0.getD v2.toNat 0) != 0) (
 some (.done (.ret false))) (
 some (.go (Xaa .i64 (v2 + 1))))) (
 some (.done (.out ())))
def Xhg (p0 : (List Int)) : Option Bool :=
 bnd (loop (Xfr p0) 0) fun o5 => match o5 with
| .out v4 => (
 some true)
| .ret r => some r
def Xcp (p0 : Int) : Option Int :=
 sel (decide (p0 < 0)) (
 some (Xaa .i64 (0 - p0))) (
 some p0)
def Xh4 (p0 : (List Int)) (p1 : (List Int)) (v6 : (Int × Int)) : Option (Lp (Int × Int) Int) :=
 sel (decide (v6.2 < 64)) (
 req (0 ≤ v6.2 ∧ v6.2 < p0.length) <|
 req (0 ≤ v6.2 ∧ v6.2 < p1.length) <|
 bnd (Xcp (Xaa .i64 ((p0.getD v6.2.toNat 0) - (p1.getD v6.2.toNat 0)))) fun q10 =>
 some (.go (Xaa .i64 (v6.1 + q10), Xaa .i64 (v6.2 + 1)))) (
 some (.done v6.1))
def Xki (p0 : (List Int)) (p1 : (List Int)) : Option Int :=
 bnd (
 bnd (Xbd p0 64 1000) fun q2 =>
 sel q2 (
 bnd (Xbd p1 64 1000) fun q3 =>
 some (!q3)) (
 some true)) fun v1 =>
 sel v1 (
 some (-1)) (
 bnd (loop (Xh4 p0 p1) (0, 0)) fun v9 =>
 some v9)
def Xf8 (v2 : (Int × ByteArray)) : Option (Lp (Int × ByteArray) ByteArray) :=
 sel (decide (v2.1 > 0)) (
 req ((2 : Int) ≠ 0) <|
 req ((strOfNums ([Xaa .u8 (Xaa .i64 (48 + (v2.1.tmod 2)))])).size + v2.2.size ≤ 9223372036854775807) <|
 req ((2 : Int) ≠ 0) <|
 some (.go (Xaa .i64 (v2.1.tdiv 2), ((strOfNums ([Xaa .u8 (Xaa .i64 (48 + (v2.1.tmod 2)))])) ++ v2.2)))) (
 some (.done v2.2))
def Xi3 (p0 : Int) : Option ByteArray :=
 bnd (loop (Xf8) (Xaa .i64 (p0 + 1), ⟨#[]⟩)) fun v4 =>
 bnd (Xjr (Xaa .i64 ((v4.size : Int) - 1)) 48) fun q6 =>
 req (q6.size + v4.size ≤ 9223372036854775807) <|
 some (q6 ++ v4)
def Xmh (p0 : Int) : Option (ByteArray × Bool) :=
 bnd (Xar p0 0 1000000) fun q1 =>
 sel (!q1) (
 some (⟨#[]⟩, false)) (
 bnd (Xi3 p0) fun q2 =>
 some (q2, true))
def Xfn (p0 : Int) : Option Int :=
 bnd (Xmh p0) fun q1 =>
 some (q1.1.size : Int)
def Xb5 (p0 : (List Int)) (p1 : Xft) (v16 : (Int × Int × Int)) : Option (Lp (Int × Int × Int) (Int × Int)) :=
 sel (decide (v16.2.2 < 4)) (
 bnd (
 bnd (Xcb v16.2.2 p1) fun q25 =>
 bnd (Xki p0 q25) fun q26 =>
 bnd (Xfn v16.2.2) fun q27 =>
 bnd (
 sel (decide (v16.2.1 < 0)) (
 some true) (
 some (decide ((Xaa .i64 (q26 + q27)) < v16.2.1)))) fun v28 =>
 sel v28 (
 some (v16.2.2, Xaa .i64 (q26 + q27))) (
 some (v16.1, v16.2.1))) fun v24 =>
 some (.go (v24.1, v24.2, Xaa .i64 (v16.2.2 + 1)))) (
 some (.done (v16.1, v16.2.1)))
def Xdi (p0 : (List Int)) (p1 : Xft) : Option (Int × Int) :=
 bnd (
 bnd (Xhd p1) fun q2 =>
 sel q2 (
 bnd (Xcu p0) fun q3 =>
 some (!q3)) (
 some true)) fun v1 =>
 sel v1 (
 some (0, (-1))) (
 bnd (loop (Xb5 p0 p1) (0, (-1), 0)) fun v23 =>
 some (v23.1, v23.2))
def Xkw (p0 : Int) : Option (Int × Bool) :=
 bnd (Xar p0 (-500000) 500000) fun q1 =>
 sel (!q1) (
 some (0, false)) (
 sel (decide (p0 > 0)) (
 some (Xaa .i64 ((Xaa .i64 (2 * p0)) - 1), true)) (
 some (Xaa .i64 ((-2) * p0), true)))
def Xmi (p0 : Int) : Option ByteArray :=
 bnd (Xkw p0) fun q1 =>
 bnd (Xi3 q1.1) fun q2 =>
 some q2
def Xoy (p0 : Int) : Option (ByteArray × Bool) :=
 bnd (Xar p0 (-500000) 500000) fun q1 =>
 sel (!q1) (
 some (⟨#[]⟩, false)) (
 bnd (Xmi p0) fun q2 =>
 some (q2, true))
def Xi1 (p0 : Int) : Option Int :=
 bnd (Xoy p0) fun q1 =>
 some (q1.1.size : Int)
def Xf6 (p0 : Pic) (p1 : (List Int)) (p2 : Int) (p3 : Int) (p4 : Int) (v32 : (Int × Int × Int × Int)) (v69 : (Int × Int × Int × Int)) : Option (Lp (Int × Int × Int × Int) (Int × Int × Int)) :=
 sel (decide (v69.2.2.2 ≤ p4)) (
 bnd (
 bnd (Xdp p0 (Xaa .i64 (p2 + v69.2.2.2)) (Xaa .i64 (p3 + v32.2.2.2)) 8 8) fun q80 =>
 sel (!q80) (
 some (v69.1, v69.2.1, v69.2.2.1)) (
 bnd (Xd9 p0 (Xaa .i64 (p2 + v69.2.2.2)) (Xaa .i64 (p3 + v32.2.2.2))) fun q81 =>
 bnd (Xki p1 q81) fun q82 =>
 bnd (Xi1 v69.2.2.2) fun q83 =>
 bnd (Xi1 v32.2.2.2) fun q84 =>
 bnd (
 sel (decide (v69.2.2.1 < 0)) (
 some true) (
 some (decide ((Xaa .i64 ((Xaa .i64 (q82 + q83)) + q84)) < v69.2.2.1)))) fun v85 =>
 sel v85 (
 some (v69.2.2.2, v32.2.2.2, Xaa .i64 ((Xaa .i64 (q82 + q83)) + q84))) (
 some (v69.1, v69.2.1, v69.2.2.1)))) fun v79 =>
 some (.go (v79.1, v79.2.1, v79.2.2, Xaa .i64 (v69.2.2.2 + 1)))) (
 some (.done (v69.1, v69.2.1, v69.2.2.1)))
def Xf5 (p0 : Pic) (p1 : (List Int)) (p2 : Int) (p3 : Int) (p4 : Int) (v32 : (Int × Int × Int × Int)) : Option (Lp (Int × Int × Int × Int) (Int × Int × Int)) :=
 sel (decide (v32.2.2.2 ≤ p4)) (
 bnd (loop (Xf6 p0 p1 p2 p3 p4 v32) (v32.1, v32.2.1, v32.2.2.1, Xaa .i64 (0 - p4))) fun v78 =>
 some (.go (v78.1, v78.2.1, v78.2.2, Xaa .i64 (v32.2.2.2 + 1)))) (
 some (.done (v32.1, v32.2.1, v32.2.2.1)))
def Xf4 (p0 : Pic) (p1 : (List Int)) (p2 : Int) (p3 : Int) (p4 : Int) : Option (Int × Int × Int) :=
 bnd (
 bnd (Xcu p1) fun q2 =>
 sel q2 (
 bnd (Xar p4 0 4) fun q3 =>
 sel q3 (
 bnd (Xci p0 p2 p3) fun q4 =>
 some (!q4)) (
 some true)) (
 some true)) fun v1 =>
 sel v1 (
 some (0, 0, (-1))) (
 bnd (loop (Xf5 p0 p1 p2 p3 p4) (0, 0, (-1), Xaa .i64 (0 - p4))) fun v60 =>
 some (v60.1, v60.2.1, v60.2.2))
def Xce (p0 : Int) (p1 : (List Int)) (v4 : (Int × (List Int))) : Option (Lp (Int × (List Int)) (List Int)) :=
 sel (decide (v4.1 < (Xaa .i64 (p0 * p0)))) (
 bnd (Xi0 p0 v4.1) fun q8 =>
 req (0 ≤ q8 ∧ q8 < p1.length) <|
 req ((v4.2.length + ([(p1.getD q8.toNat 0)]).length) * 8 ≤ 140737488355328 ∧ v4.2.length + ([(p1.getD q8.toNat 0)]).length ≤ maxLen) <|
 some (.go (Xaa .i64 (v4.1 + 1), (v4.2 ++ ([(p1.getD q8.toNat 0)]))))) (
 some (.done v4.2))
def Xdd (p0 : Int) (p1 : (List Int)) : Option ((List Int) × Bool) :=
 bnd (
 sel (p0 != 4) (
 sel (p0 != 8) (
 some true) (
 some ((p1.length : Int) != (Xaa .i64 (p0 * p0))))) (
 some ((p1.length : Int) != (Xaa .i64 (p0 * p0))))) fun v1 =>
 sel v1 (
 some (([] : List Int), false)) (
 bnd (loop (Xce p0 p1) (0, ([] : List Int))) fun v7 =>
 some (v7, true))
def Xiz (p0 : (List Int)) : Option (List Int) :=
 bnd (Xbd p0 64 1000) fun q1 =>
 sel (!q1) (
 some ([] : List Int)) (
 bnd (Xeb p0) fun q2 =>
 some q2)
def Xdo (p0 : Int) (p1 : Int) : Option Int :=
 sel (decide (p0 < 0)) (
 some (Xaa .i64 (0 - p1))) (
 some p1)
def Xcz (p0 : Int) (p1 : Int) : Option Int :=
 bnd (
 bnd (Xar p0 (-20000) 20000) fun q2 =>
 sel q2 (
 bnd (Xar p1 0 40) fun q3 =>
 some (!q3)) (
 some true)) fun v1 =>
 sel v1 (
 some 0) (
 bnd (Xel p1) fun q4 =>
 bnd (Xcp p0) fun q5 =>
 req ((2 : Int) ≠ 0) <|
 req (q4 ≠ 0) <|
 bnd (Xdo p0 (Xaa .i64 ((Xaa .i64 (q5 + (Xaa .i64 (q4.tdiv 2)))).tdiv q4))) fun q6 =>
 some q6)
def Xbb (p0 : (List Int)) (p1 : Int) (v2 : (Int × (List Int))) : Option (Lp (Int × (List Int)) (List Int)) :=
 sel (decide (v2.1 < 16)) (
 req ((2 : Int) ≠ 0) <|
 req ((4 : Int) ≠ 0) <|
 req ((2 : Int) ≠ 0) <|
 req ((4 : Int) ≠ 0) <|
 req (0 ≤ (Xaa .i64 ((Xaa .i64 ((Xaa .i64 (8 * (Xaa .i64 ((Xaa .i64 ((Xaa .i64 (p1.tdiv 2)) * 4)) + (Xaa .i64 (v2.1.tdiv 4)))))) + (Xaa .i64 ((p1.tmod 2) * 4)))) + (v2.1.tmod 4))) ∧ (Xaa .i64 ((Xaa .i64 ((Xaa .i64 (8 * (Xaa .i64 ((Xaa .i64 ((Xaa .i64 (p1.tdiv 2)) * 4)) + (Xaa .i64 (v2.1.tdiv 4)))))) + (Xaa .i64 ((p1.tmod 2) * 4)))) + (v2.1.tmod 4))) < p0.length) <|
 req ((v2.2.length + ([(p0.getD (Xaa .i64 ((Xaa .i64 ((Xaa .i64 (8 * (Xaa .i64 ((Xaa .i64 ((Xaa .i64 (p1.tdiv 2)) * 4)) + (Xaa .i64 (v2.1.tdiv 4)))))) + (Xaa .i64 ((p1.tmod 2) * 4)))) + (v2.1.tmod 4))).toNat 0)]).length) * 8 ≤ 140737488355328 ∧ v2.2.length + ([(p0.getD (Xaa .i64 ((Xaa .i64 ((Xaa .i64 (8 * (Xaa .i64 ((Xaa .i64 ((Xaa .i64 (p1.tdiv 2)) * 4)) + (Xaa .i64 (v2.1.tdiv 4)))))) + (Xaa .i64 ((p1.tmod 2) * 4)))) + (v2.1.tmod 4))).toNat 0)]).length ≤ maxLen) <|
 some (.go (Xaa .i64 (v2.1 + 1), (v2.2 ++ ([(p0.getD (Xaa .i64 ((Xaa .i64 ((Xaa .i64 (8 * (Xaa .i64 ((Xaa .i64 ((Xaa .i64 (p1.tdiv 2)) * 4)) + (Xaa .i64 (v2.1.tdiv 4)))))) + (Xaa .i64 ((p1.tmod 2) * 4)))) + (v2.1.tmod 4))).toNat 0)]))))) (
 some (.done v2.2))
def Xc2 (p0 : (List Int)) (p1 : Int) : Option (List Int) :=
 bnd (loop (Xbb p0 p1) (0, ([] : List Int))) fun v4 =>
 some v4
def Xcg (p0 : (List Int)) (v2 : (Int × (List Int))) : Option (Lp (Int × (List Int)) (List Int)) :=
 sel (decide (v2.1 < 4)) (
 req (0 ≤ (Xaa .i64 (4 * v2.1)) ∧ (Xaa .i64 (4 * v2.1)) < p0.length) <|
 req (0 ≤ (Xaa .i64 ((Xaa .i64 (4 * v2.1)) + 1)) ∧ (Xaa .i64 ((Xaa .i64 (4 * v2.1)) + 1)) < p0.length) <|
 req (0 ≤ (Xaa .i64 ((Xaa .i64 (4 * v2.1)) + 2)) ∧ (Xaa .i64 ((Xaa .i64 (4 * v2.1)) + 2)) < p0.length) <|
 req (0 ≤ (Xaa .i64 ((Xaa .i64 (4 * v2.1)) + 3)) ∧ (Xaa .i64 ((Xaa .i64 (4 * v2.1)) + 3)) < p0.length) <|
 req ((v2.2.length + ([Xaa .i64 ((Xaa .i64 ((Xaa .i64 ((p0.getD (Xaa .i64 (4 * v2.1)).toNat 0) + (p0.getD (Xaa .i64 ((Xaa .i64 (4 * v2.1)) + 1)).toNat 0))) + (p0.getD (Xaa .i64 ((Xaa .i64 (4 * v2.1)) + 2)).toNat 0))) + (p0.getD (Xaa .i64 ((Xaa .i64 (4 * v2.1)) + 3)).toNat 0)), Xaa .i64 ((Xaa .i64 ((Xaa .i64 ((Xaa .i64 (2 * (p0.getD (Xaa .i64 (4 * v2.1)).toNat 0))) + (p0.getD (Xaa .i64 ((Xaa .i64 (4 * v2.1)) + 1)).toNat 0))) - (p0.getD (Xaa .i64 ((Xaa .i64 (4 * v2.1)) + 2)).toNat 0))) - (Xaa .i64 (2 * (p0.getD (Xaa .i64 ((Xaa .i64 (4 * v2.1)) + 3)).toNat 0)))), Xaa .i64 ((Xaa .i64 ((Xaa .i64 ((p0.getD (Xaa .i64 (4 * v2.1)).toNat 0) - (p0.getD (Xaa .i64 ((Xaa .i64 (4 * v2.1)) + 1)).toNat 0))) - (p0.getD (Xaa .i64 ((Xaa .i64 (4 * v2.1)) + 2)).toNat 0))) + (p0.getD (Xaa .i64 ((Xaa .i64 (4 * v2.1)) + 3)).toNat 0)), Xaa .i64 ((Xaa .i64 ((Xaa .i64 ((p0.getD (Xaa .i64 (4 * v2.1)).toNat 0) - (Xaa .i64 (2 * (p0.getD (Xaa .i64 ((Xaa .i64 (4 * v2.1)) + 1)).toNat 0))))) + (Xaa .i64 (2 * (p0.getD (Xaa .i64 ((Xaa .i64 (4 * v2.1)) + 2)).toNat 0))))) - (p0.getD (Xaa .i64 ((Xaa .i64 (4 * v2.1)) + 3)).toNat 0))]).length) * 8 ≤ 140737488355328 ∧ v2.2.length + ([Xaa .i64 ((Xaa .i64 ((Xaa .i64 ((p0.getD (Xaa .i64 (4 * v2.1)).toNat 0) + (p0.getD (Xaa .i64 ((Xaa .i64 (4 * v2.1)) + 1)).toNat 0))) + (p0.getD (Xaa .i64 ((Xaa .i64 (4 * v2.1)) + 2)).toNat 0))) + (p0.getD (Xaa .i64 ((Xaa .i64 (4 * v2.1)) + 3)).toNat 0)), Xaa .i64 ((Xaa .i64 ((Xaa .i64 ((Xaa .i64 (2 * (p0.getD (Xaa .i64 (4 * v2.1)).toNat 0))) + (p0.getD (Xaa .i64 ((Xaa .i64 (4 * v2.1)) + 1)).toNat 0))) - (p0.getD (Xaa .i64 ((Xaa .i64 (4 * v2.1)) + 2)).toNat 0))) - (Xaa .i64 (2 * (p0.getD (Xaa .i64 ((Xaa .i64 (4 * v2.1)) + 3)).toNat 0)))), Xaa .i64 ((Xaa .i64 ((Xaa .i64 ((p0.getD (Xaa .i64 (4 * v2.1)).toNat 0) - (p0.getD (Xaa .i64 ((Xaa .i64 (4 * v2.1)) + 1)).toNat 0))) - (p0.getD (Xaa .i64 ((Xaa .i64 (4 * v2.1)) + 2)).toNat 0))) + (p0.getD (Xaa .i64 ((Xaa .i64 (4 * v2.1)) + 3)).toNat 0)), Xaa .i64 ((Xaa .i64 ((Xaa .i64 ((p0.getD (Xaa .i64 (4 * v2.1)).toNat 0) - (Xaa .i64 (2 * (p0.getD (Xaa .i64 ((Xaa .i64 (4 * v2.1)) + 1)).toNat 0))))) + (Xaa .i64 (2 * (p0.getD (Xaa .i64 ((Xaa .i64 (4 * v2.1)) + 2)).toNat 0))))) - (p0.getD (Xaa .i64 ((Xaa .i64 (4 * v2.1)) + 3)).toNat 0))]).length ≤ maxLen) <|
 some (.go (Xaa .i64 (v2.1 + 1), (v2.2 ++ ([Xaa .i64 ((Xaa .i64 ((Xaa .i64 ((p0.getD (Xaa .i64 (4 * v2.1)).toNat 0) + (p0.getD (Xaa .i64 ((Xaa .i64 (4 * v2.1)) + 1)).toNat 0))) + (p0.getD (Xaa .i64 ((Xaa .i64 (4 * v2.1)) + 2)).toNat 0))) + (p0.getD (Xaa .i64 ((Xaa .i64 (4 * v2.1)) + 3)).toNat 0)), Xaa .i64 ((Xaa .i64 ((Xaa .i64 ((Xaa .i64 (2 * (p0.getD (Xaa .i64 (4 * v2.1)).toNat 0))) + (p0.getD (Xaa .i64 ((Xaa .i64 (4 * v2.1)) + 1)).toNat 0))) - (p0.getD (Xaa .i64 ((Xaa .i64 (4 * v2.1)) + 2)).toNat 0))) - (Xaa .i64 (2 * (p0.getD (Xaa .i64 ((Xaa .i64 (4 * v2.1)) + 3)).toNat 0)))), Xaa .i64 ((Xaa .i64 ((Xaa .i64 ((p0.getD (Xaa .i64 (4 * v2.1)).toNat 0) - (p0.getD (Xaa .i64 ((Xaa .i64 (4 * v2.1)) + 1)).toNat 0))) - (p0.getD (Xaa .i64 ((Xaa .i64 (4 * v2.1)) + 2)).toNat 0))) + (p0.getD (Xaa .i64 ((Xaa .i64 (4 * v2.1)) + 3)).toNat 0)), Xaa .i64 ((Xaa .i64 ((Xaa .i64 ((p0.getD (Xaa .i64 (4 * v2.1)).toNat 0) - (Xaa .i64 (2 * (p0.getD (Xaa .i64 ((Xaa .i64 (4 * v2.1)) + 1)).toNat 0))))) + (Xaa .i64 (2 * (p0.getD (Xaa .i64 ((Xaa .i64 (4 * v2.1)) + 2)).toNat 0))))) - (p0.getD (Xaa .i64 ((Xaa .i64 (4 * v2.1)) + 3)).toNat 0))]))))) (
 some (.done v2.2))
def Xea (p0 : (List Int)) : Option (List Int) :=
 bnd (loop (Xcg p0) (0, ([] : List Int))) fun v4 =>
 some v4
def Xkx (p0 : (List Int)) : Option (List Int) :=
 bnd (Xbd p0 16 1000) fun q1 =>
 sel (!q1) (
 some ([] : List Int)) (
 bnd (Xea p0) fun q2 =>
 bnd (Xcs q2) fun q3 =>
 bnd (Xea q3) fun q4 =>
 bnd (Xcs q4) fun q5 =>
 some q5)
def Xfk (p0 : Int) (p1 : Int) : Option Int :=
 bnd (Xg4 p1) fun q1 =>
 bnd (
 bnd (Xar p0 0 40) fun q3 =>
 sel q3 (
 some (decide (q1 < 0))) (
 some true)) fun v2 =>
 sel v2 (
 some 0) (
 req ((6 : Int) ≠ 0) <|
 sel ((p0.tmod 6) == 0) (
 bnd (Xay q1 13107 5243 8066) fun q4 =>
 some q4) (
 sel ((p0.tmod 6) == 1) (
 bnd (Xay q1 11916 4660 7490) fun q5 =>
 some q5) (
 sel ((p0.tmod 6) == 2) (
 bnd (Xay q1 10082 4194 6554) fun q6 =>
 some q6) (
 sel ((p0.tmod 6) == 3) (
 bnd (Xay q1 9362 3647 5825) fun q7 =>
 some q7) (
 sel ((p0.tmod 6) == 4) (
 bnd (Xay q1 8192 3355 5243) fun q8 =>
 some q8) (
 bnd (Xay q1 7282 2893 4559) fun q9 =>
 some q9))))))
def Xc1 (p0 : Int) (p1 : Int) (p2 : Int) : Option Int :=
 bnd (
 bnd (Xar p0 (-20000) 20000) fun q2 =>
 sel q2 (
 bnd (Xar p1 0 40) fun q3 =>
 sel q3 (
 bnd (Xar p2 0 15) fun q4 =>
 some (!q4)) (
 some true)) (
 some true)) fun v1 =>
 sel v1 (
 some 0) (
 req ((6 : Int) ≠ 0) <|
 req (0 ≤ (Xaa .u64 (Xaa .i64 (15 + (Xaa .i64 (p1.tdiv 6)))))) <|
 bnd (Xcp p0) fun q5 =>
 bnd (Xfk p1 p2) fun q6 =>
 req ((3 : Int) ≠ 0) <|
 req ((Xaa .i64 (1 * 2 ^ min (Xaa .u64 (Xaa .i64 (15 + (Xaa .i64 (p1.tdiv 6))))).toNat (IntKind.bits .i64))) ≠ 0) <|
 bnd (Xdo p0 (Xaa .i64 ((Xaa .i64 ((Xaa .i64 (q5 * q6)) + (Xaa .i64 ((Xaa .i64 (1 * 2 ^ min (Xaa .u64 (Xaa .i64 (15 + (Xaa .i64 (p1.tdiv 6))))).toNat (IntKind.bits .i64))).tdiv 3)))).tdiv (Xaa .i64 (1 * 2 ^ min (Xaa .u64 (Xaa .i64 (15 + (Xaa .i64 (p1.tdiv 6))))).toNat (IntKind.bits .i64)))))) fun q7 =>
 some q7)
def Xbe (p1 : Cond) (v8 : (Int × (List Int))) : Option (Lp (Int × (List Int)) (List Int)) :=
 sel (decide (v8.1 < 64)) (
 req (0 ≤ v8.1 ∧ v8.1 < v8.2.length) <|
 req (v8.1.toNat < v8.2.length) <|
 bnd (Xcz (v8.2.getD v8.1.toNat 0) p1.Qp) fun q12 =>
 req (0 ≤ v8.1 ∧ v8.1 < v8.2.length) <|
 req (v8.1.toNat < v8.2.length) <|
 some (.go (Xaa .i64 (v8.1 + 1), (v8.2.set v8.1.toNat q12)))) (
 some (.done v8.2))
def Xa9 (p1 : Cond) (v45 : (Int × (List Int))) : Option (Lp (Int × (List Int)) (List Int)) :=
 sel (decide (v45.1 < 16)) (
 req (0 ≤ v45.1 ∧ v45.1 < v45.2.length) <|
 req (v45.1.toNat < v45.2.length) <|
 bnd (Xc1 (v45.2.getD v45.1.toNat 0) p1.Qp v45.1) fun q49 =>
 req (0 ≤ v45.1 ∧ v45.1 < v45.2.length) <|
 req (v45.1.toNat < v45.2.length) <|
 some (.go (Xaa .i64 (v45.1 + 1), (v45.2.set v45.1.toNat q49)))) (
 some (.done v45.2))
def Xb6 (p0 : (List Int)) (p1 : Cond) (v27 : (Int × (List Int))) : Option (Lp (Int × (List Int)) (List Int)) :=
 sel (decide (v27.1 < 4)) (
 bnd (Xc2 p0 v27.1) fun q41 =>
 bnd (Xkx q41) fun q42 =>
 bnd (loop (Xa9 p1) (0, q42)) fun v48 =>
 bnd (Xdd 4 v48) fun q51 =>
 req ((v27.2.length + q51.1.length) * 8 ≤ 140737488355328 ∧ v27.2.length + q51.1.length ≤ maxLen) <|
 some (.go (Xaa .i64 (v27.1 + 1), (v27.2 ++ q51.1)))) (
 some (.done v27.2))
def Xbu (p0 : (List Int)) (p1 : Cond) : Option ((List Int) × Bool) :=
 bnd (
 bnd (Xfh p1) fun q2 =>
 sel q2 (
 bnd (Xbd p0 64 255) fun q3 =>
 some (!q3)) (
 some true)) fun v1 =>
 sel v1 (
 some (([] : List Int), false)) (
 sel p1.Exact (
 bnd (Xdd 8 p0) fun q4 =>
 some (q4.1, q4.2)) (
 sel p1.Large (
 bnd (Xiz p0) fun q5 =>
 bnd (loop (Xbe p1) (0, q5)) fun v11 =>
 bnd (Xdd 8 v11) fun q14 =>
 some (q14.1, q14.2)) (
 bnd (loop (Xb6 p0 p1) (0, ([] : List Int))) fun v40 =>
 some (v40, true))))
def Xgr (p0 : Pic) (p1 : Pic) (p2 : (List Int)) (p3 : Int) (p4 : Int) (p5 : Cond) (p6 : Int) : Option Xba :=
 bnd (
 sel p5.Key (
 some false) (
 bnd (Xd9 p1 p3 p4) fun q2 =>
 bnd (Xfq p2 q2) fun q3 =>
 bnd (Xhg q3) fun q4 =>
 some q4)) fun v1 =>
 sel v1 (
 some (⟨0, 0, 0, 0, []⟩ : Xba)) (
 bnd (Xdc p0 p3 p4) fun q5 =>
 bnd (Xdi p2 q5.1) fun q6 =>
 Yjc (fun (v7 : Unit) =>
 bnd (Xcb q6.1 q5.1) fun q14 =>
 bnd (Xfq p2 q14) fun q15 =>
 bnd (Xbu q15 p5) fun q16 =>
 some (⟨2, q6.1, 0, 0, q16.1⟩ : Xba)) fun j1 =>
 sel (!p5.Key) (
 bnd (Xf4 p1 p2 p3 p4 p6) fun q8 =>
 sel (decide (q8.2.2 ≤ q6.2)) (
 bnd (Xd9 p1 (Xaa .i64 (p3 + q8.1)) (Xaa .i64 (p4 + q8.2.1))) fun q9 =>
 bnd (Xfq p2 q9) fun q10 =>
 bnd (Xbu q10 p5) fun q11 =>
 bnd (
 sel (q8.1 == 0) (
 sel (q8.2.1 == 0) (
 bnd (Xhg q11.1) fun q13 =>
 some q13) (
 some false)) (
 some false)) fun v12 =>
 sel v12 (
 some (⟨0, 0, 0, 0, []⟩ : Xba)) (
 some (⟨1, 0, q8.1, q8.2.1, q11.1⟩ : Xba))) (
 j1 ())) (
 j1 ()))
def Xbr (p0 : Pic) (p1 : Pic) (p2 : (List Int)) (p3 : Int) (p4 : Int) (p5 : Cond) (p6 : Int) : Option (Xba × (List Int) × Bool) :=
 bnd (
 bnd (Xci p0 p3 p4) fun q2 =>
 sel q2 (
 bnd (Xcu p2) fun q3 =>
 sel q3 (
 bnd (Xfh p5) fun q4 =>
 sel q4 (
 bnd (Xar p6 0 4) fun q5 =>
 sel q5 (
 sel p5.Key (
 some false) (
 bnd (Xhf p0 p1) fun q6 =>
 some (!q6))) (
 some true)) (
 some true)) (
 some true)) (
 some true)) fun v1 =>
 sel v1 (
 some ((⟨0, 0, 0, 0, []⟩ : Xba), ([] : List Int), false)) (
 bnd (Xgr p0 p1 p2 p3 p4 p5 p6) fun q7 =>
 bnd (Xfm p0 p1 0 0 p5 p3 p4 q7) fun q8 =>
 some (q7, q8.1, true))
def Xjk (p0 : Int) : Option Int :=
 some (if (Xaa .i64 (0 - p0)) > p0 then (Xaa .i64 (0 - p0)) else p0)
def Xko (p0 : (List Int)) (p1 : (List Int)) (v3 : (Int × Int)) : Option (Lp (Int × Int) Int) :=
 sel (decide (v3.2 < (p0.length : Int))) (
 req (0 ≤ v3.2 ∧ v3.2 < p0.length) <|
 req (0 ≤ v3.2 ∧ v3.2 < p1.length) <|
 bnd (Xjk (Xaa .i64 ((p0.getD v3.2.toNat 0) - (p1.getD v3.2.toNat 0)))) fun q7 =>
 some (.go (Xaa .i64 (v3.1 + q7), Xaa .i64 (v3.2 + 1)))) (
 some (.done v3.1))
def Xlc (p0 : (List Int)) (p1 : (List Int)) : Option Int :=
 bnd (loop (Xko p0 p1) (0, 0)) fun v6 =>
 some v6
def Xb1 (v2 : (Int × Int)) : Option (Lp (Int × Int) Int) :=
 sel (decide (v2.1 > 0)) (
 req (0 ≤ (1 : Int)) <|
 some (.go ((v2.1 / 2 ^ min (1 : Int).toNat (IntKind.bits .i64)), Xaa .i64 (v2.2 + 1)))) (
 some (.done v2.2))
def Xja (p0 : Int) : Option Int :=
 bnd (loop (Xb1) (p0, 0)) fun v4 =>
 some v4
def Xhs (v2 : (Int × Int × (List Int))) : Option (Lp (Int × Int × (List Int)) (List Int)) :=
 sel (decide (v2.2.1 ≥ 0)) (
 req (0 ≤ v2.2.1 ∧ v2.2.1 < v2.2.2.length) <|
 req (v2.2.1.toNat < v2.2.2.length) <|
 req (0 ≤ (1 : Int)) <|
 some (.go ((v2.1 / 2 ^ min (1 : Int).toNat (IntKind.bits .i64)), Xaa .i64 (v2.2.1 - 1), (v2.2.2.set v2.2.1.toNat (Xaa .u8 (Xaa .i64 (48 + (IntKind.wrap .i64 (BitVec.ofInt (IntKind.bits .i64) v2.1 &&& BitVec.ofInt (IntKind.bits .i64) 1).toNat)))))))) (
 some (.done v2.2.2))
def Xl5 (p0 : Int) (p1 : Int) : Option ByteArray :=
 req (0 ≤ p1 ∧ p1 ≤ p1 ∧ p1 * 1 ≤ 281474976710656) <|
 bnd (loop (Xhs) (p0, Xaa .i64 (p1 - 1), (List.replicate p1.toNat (0 : Int)))) fun v4 =>
 some (strOfNums v4)
def Xtr (p0 : Int) : Option ByteArray :=
 bnd (Xja (Xaa .i64 (p0 + 1))) fun q1 =>
 bnd (Xl5 (Xaa .i64 (p0 + 1)) (Xaa .i64 ((Xaa .i64 (2 * q1)) - 1))) fun q2 =>
 some q2
def Xkf (p0 : Int) : Option (ByteArray × Bool) :=
 bnd (Xap p0 0 1000000) fun q1 =>
 sel (!q1) (
 some (⟨#[]⟩, false)) (
 bnd (Xtr p0) fun q2 =>
 some (q2, true))
def Xio (p0 : Int) : Option Int :=
 bnd (Xkf p0) fun q1 =>
 some (q1.1.size : Int)
def Xfu (p0 : (List Int)) (p1 : Xft) (v16 : (Int × Int × Int)) : Option (Lp (Int × Int × Int) (Int × Int)) :=
 sel (decide (v16.2.2 ≤ 3)) (
 bnd (
 bnd (Xd6 v16.2.2 p1) fun q25 =>
 bnd (Xlc p0 q25) fun q26 =>
 bnd (Xio v16.2.2) fun q27 =>
 bnd (
 sel (decide (v16.2.1 < 0)) (
 some true) (
 some (decide ((Xaa .i64 (q26 + q27)) < v16.2.1)))) fun v28 =>
 sel v28 (
 some (v16.2.2, Xaa .i64 (q26 + q27))) (
 some (v16.1, v16.2.1))) fun v24 =>
 some (.go (v24.1, v24.2, Xaa .i64 (v16.2.2 + 1)))) (
 some (.done (v16.1, v16.2.1)))
def Xge (p0 : (List Int)) (p1 : Xft) : Option (Int × Int) :=
 bnd (
 bnd (Xg9 p1) fun q2 =>
 sel q2 (
 bnd (Xa7 p0 64 0 255) fun q3 =>
 some (!q3)) (
 some true)) fun v1 =>
 sel v1 (
 some (0, (-1))) (
 bnd (loop (Xfu p0 p1) (0, (-1), 0)) fun v23 =>
 some (v23.1, v23.2))
def Xgt (p0 : (List Int)) (p1 : (List Int)) (v2 : (Int × (List Int))) : Option (Lp (Int × (List Int)) (List Int)) :=
 sel (decide (v2.1 < (p0.length : Int))) (
 req (0 ≤ v2.1 ∧ v2.1 < p0.length) <|
 req (0 ≤ v2.1 ∧ v2.1 < p1.length) <|
 req ((v2.2.length + ([Xaa .i64 ((p0.getD v2.1.toNat 0) - (p1.getD v2.1.toNat 0))]).length) * 8 ≤ 140737488355328 ∧ v2.2.length + ([Xaa .i64 ((p0.getD v2.1.toNat 0) - (p1.getD v2.1.toNat 0))]).length ≤ maxLen) <|
 some (.go (Xaa .i64 (v2.1 + 1), (v2.2 ++ ([Xaa .i64 ((p0.getD v2.1.toNat 0) - (p1.getD v2.1.toNat 0))]))))) (
 some (.done v2.2))
def Xee (p0 : (List Int)) (p1 : (List Int)) : Option (List Int) :=
 bnd (loop (Xgt p0 p1) (0, ([] : List Int))) fun v4 =>
 some v4
def Xhn (p1 : (List Int)) (q2 : (List Int)) (v4 : (Int × (List Int))) : Option (Lp (Int × (List Int)) (List Int)) :=
 sel (decide (v4.1 < (q2.length : Int))) (
 req (0 ≤ v4.1 ∧ v4.1 < q2.length) <|
 req (v4.1.toNat < q2.length) <|
 req (0 ≤ (q2.getD v4.1.toNat 0) ∧ (q2.getD v4.1.toNat 0) < p1.length) <|
 req ((v4.2.length + ([(p1.getD (q2.getD v4.1.toNat 0).toNat 0)]).length) * 8 ≤ 140737488355328 ∧ v4.2.length + ([(p1.getD (q2.getD v4.1.toNat 0).toNat 0)]).length ≤ maxLen) <|
 some (.go (Xaa .i64 (v4.1 + 1), (v4.2 ++ ([(p1.getD (q2.getD v4.1.toNat 0).toNat 0)]))))) (
 some (.done v4.2))
def Xe6 (p0 : Int) (p1 : (List Int)) : Option ((List Int) × Bool) :=
 bnd (
 sel (p0 != 4) (
 sel (p0 != 8) (
 some true) (
 some ((p1.length : Int) != (Xaa .i64 (p0 * p0))))) (
 some ((p1.length : Int) != (Xaa .i64 (p0 * p0))))) fun v1 =>
 sel v1 (
 some (([] : List Int), false)) (
 bnd (Xeu p0) fun q2 =>
 bnd (loop (Xhn p1 q2) (0, ([] : List Int))) fun v6 =>
 some (v6, true))
def Xlz (p0 : (List Int)) : Option (List Int) :=
 bnd (Xa7 p0 64 (-1000) 1000) fun q1 =>
 sel (!q1) (
 some ([] : List Int)) (
 bnd (Xl6 p0) fun q2 =>
 some q2)
def Xkr (p0 : Int) (p1 : Int) : Option Int :=
 sel (decide (p1 < 0)) (
 some (Xaa .i64 (0 - p0))) (
 some p0)
def Xe4 (p0 : Int) (p1 : Int) : Option Int :=
 bnd (
 bnd (Xap p0 (-20000) 20000) fun q2 =>
 sel q2 (
 bnd (Xap p1 0 40) fun q3 =>
 some (!q3)) (
 some true)) fun v1 =>
 sel v1 (
 some 0) (
 bnd (Xg2 p1) fun q4 =>
 bnd (Xjk p0) fun q5 =>
 req ((2 : Int) ≠ 0) <|
 req (q4 ≠ 0) <|
 bnd (Xkr (Xaa .i64 ((Xaa .i64 (q5 + (Xaa .i64 (q4.tdiv 2)))).tdiv q4)) p0) fun q6 =>
 some q6)
def Xij (p0 : Int) (p1 : Int) (p2 : Int) (p3 : Int) : Option (Int × Int × Int × Int) :=
 some (Xaa .i64 ((Xaa .i64 ((Xaa .i64 (p0 + p1)) + p2)) + p3), Xaa .i64 ((Xaa .i64 ((Xaa .i64 ((Xaa .i64 (2 * p0)) + p1)) - p2)) - (Xaa .i64 (2 * p3))), Xaa .i64 ((Xaa .i64 ((Xaa .i64 (p0 - p1)) - p2)) + p3), Xaa .i64 ((Xaa .i64 ((Xaa .i64 (p0 - (Xaa .i64 (2 * p1)))) + (Xaa .i64 (2 * p2)))) - p3))
def Xf9 (v4 : (Int × (List Int))) : Option (Lp (Int × (List Int)) (List Int)) :=
 sel (decide (v4.1 < 16)) (
 req (0 ≤ v4.1 ∧ v4.1 < v4.2.length) <|
 req (v4.1.toNat < v4.2.length) <|
 req (0 ≤ (Xaa .i64 (v4.1 + 1)) ∧ (Xaa .i64 (v4.1 + 1)) < v4.2.length) <|
 req ((Xaa .i64 (v4.1 + 1)).toNat < v4.2.length) <|
 req (0 ≤ (Xaa .i64 (v4.1 + 2)) ∧ (Xaa .i64 (v4.1 + 2)) < v4.2.length) <|
 req ((Xaa .i64 (v4.1 + 2)).toNat < v4.2.length) <|
 req (0 ≤ (Xaa .i64 (v4.1 + 3)) ∧ (Xaa .i64 (v4.1 + 3)) < v4.2.length) <|
 req ((Xaa .i64 (v4.1 + 3)).toNat < v4.2.length) <|
 bnd (Xij (v4.2.getD v4.1.toNat 0) (v4.2.getD ((Xaa .i64 (v4.1 + 1)).toNat) 0) (v4.2.getD ((Xaa .i64 (v4.1 + 2)).toNat) 0) (v4.2.getD ((Xaa .i64 (v4.1 + 3)).toNat) 0)) fun q8 =>
 req (0 ≤ v4.1 ∧ v4.1 ≤ (Xaa .i64 (v4.1 + 4)) ∧ (Xaa .i64 (v4.1 + 4)) ≤ (v4.2.length : Int)) <|
 req ((v4.1.toNat + ((Xaa .i64 (v4.1 + 4)).toNat - v4.1.toNat) ≤ v4.2.length ∧ ([q8.1, q8.2.1, q8.2.2.1, q8.2.2.2]).length ≤ ((Xaa .i64 (v4.1 + 4)).toNat - v4.1.toNat))) <|
 some (.go (Xaa .i64 (v4.1 + 4), (over v4.2 v4.1.toNat ([q8.1, q8.2.1, q8.2.2.1, q8.2.2.2]))))) (
 some (.done v4.2))
def Xfa (v17 : (Int × (List Int))) (q26 : (Int × Int × Int × Int)) (v28 : (Int × (List Int))) : Option (Lp (Int × (List Int)) (List Int)) :=
 sel (decide (v28.1 < 4)) (
 req (0 ≤ v28.1 ∧ v28.1 < ([q26.1, q26.2.1, q26.2.2.1, q26.2.2.2] : List Int).length) <|
 req (0 ≤ (Xaa .i64 (v17.1 + (Xaa .i64 (4 * v28.1)))) ∧ (Xaa .i64 (v17.1 + (Xaa .i64 (4 * v28.1)))) < v28.2.length) <|
 req ((Xaa .i64 (v17.1 + (Xaa .i64 (4 * v28.1)))).toNat < v28.2.length) <|
 some (.go (Xaa .i64 (v28.1 + 1), (v28.2.set ((Xaa .i64 (v17.1 + (Xaa .i64 (4 * v28.1)))).toNat) (([q26.1, q26.2.1, q26.2.2.1, q26.2.2.2] : List Int).getD v28.1.toNat 0))))) (
 some (.done v28.2))
def Xe9 (v17 : (Int × (List Int))) : Option (Lp (Int × (List Int)) (List Int)) :=
 sel (decide (v17.1 < 4)) (
 req (0 ≤ v17.1 ∧ v17.1 < v17.2.length) <|
 req (v17.1.toNat < v17.2.length) <|
 req (0 ≤ (Xaa .i64 (v17.1 + 4)) ∧ (Xaa .i64 (v17.1 + 4)) < v17.2.length) <|
 req ((Xaa .i64 (v17.1 + 4)).toNat < v17.2.length) <|
 req (0 ≤ (Xaa .i64 (v17.1 + 8)) ∧ (Xaa .i64 (v17.1 + 8)) < v17.2.length) <|
 req ((Xaa .i64 (v17.1 + 8)).toNat < v17.2.length) <|
 req (0 ≤ (Xaa .i64 (v17.1 + 12)) ∧ (Xaa .i64 (v17.1 + 12)) < v17.2.length) <|
 req ((Xaa .i64 (v17.1 + 12)).toNat < v17.2.length) <|
 bnd (Xij (v17.2.getD v17.1.toNat 0) (v17.2.getD ((Xaa .i64 (v17.1 + 4)).toNat) 0) (v17.2.getD ((Xaa .i64 (v17.1 + 8)).toNat) 0) (v17.2.getD ((Xaa .i64 (v17.1 + 12)).toNat) 0)) fun q26 =>
 bnd (loop (Xfa v17 q26) (0, v17.2)) fun v30 =>
 some (.go (Xaa .i64 (v17.1 + 1), v30))) (
 some (.done v17.2))
def Xco (p0 : (List Int)) : Option (List Int) :=
 bnd (Xfz p0) fun q1 =>
 bnd (loop (Xf9) (0, q1)) fun v7 =>
 bnd (loop (Xe9) (0, v7)) fun v25 =>
 some v25
def Xnz (p0 : (List Int)) : Option (List Int) :=
 bnd (Xa7 p0 16 (-1000) 1000) fun q1 =>
 sel (!q1) (
 some ([] : List Int)) (
 bnd (Xco p0) fun q2 =>
 some q2)
def Xjj (p0 : Int) (p1 : Int) : Option Int :=
 bnd (
 bnd (Xap p0 0 40) fun q2 =>
 sel q2 (
 bnd (Xap p1 0 15) fun q3 =>
 some (!q3)) (
 some true)) fun v1 =>
 sel v1 (
 some 0) (
 req ((6 : Int) ≠ 0) <|
 bnd (Xmv p1) fun q4 =>
 req (0 ≤ (p0.tmod 6) ∧ (p0.tmod 6) < 6) <|
 req (0 ≤ q4 ∧ q4 < 3) <|
 req (((0 + (p0.tmod 6).toNat * 3) + q4.toNat * 1) < ([13107, 5243, 8066, 11916, 4660, 7490, 10082, 4194, 6554, 9362, 3647, 5825, 8192, 3355, 5243, 7282, 2893, 4559] : List Int).length) <|
 some (([13107, 5243, 8066, 11916, 4660, 7490, 10082, 4194, 6554, 9362, 3647, 5825, 8192, 3355, 5243, 7282, 2893, 4559] : List Int).getD ((0 + (p0.tmod 6).toNat * 3) + q4.toNat * 1) 0))
def Xe7 (p0 : Int) (p1 : Int) (p2 : Int) : Option Int :=
 bnd (
 bnd (Xap p0 (-20000) 20000) fun q2 =>
 sel q2 (
 bnd (Xap p1 0 40) fun q3 =>
 sel q3 (
 bnd (Xap p2 0 15) fun q4 =>
 some (!q4)) (
 some true)) (
 some true)) fun v1 =>
 sel v1 (
 some 0) (
 req ((6 : Int) ≠ 0) <|
 req (0 ≤ (Xaa .i64 (15 + (Xaa .i64 (p1.tdiv 6))))) <|
 bnd (Xjk p0) fun q5 =>
 bnd (Xjj p1 p2) fun q6 =>
 req ((3 : Int) ≠ 0) <|
 req ((Xaa .i64 (1 * 2 ^ min (Xaa .i64 (15 + (Xaa .i64 (p1.tdiv 6)))).toNat (IntKind.bits .i64))) ≠ 0) <|
 bnd (Xkr (Xaa .i64 ((Xaa .i64 ((Xaa .i64 (q5 * q6)) + (Xaa .i64 ((Xaa .i64 (1 * 2 ^ min (Xaa .i64 (15 + (Xaa .i64 (p1.tdiv 6)))).toNat (IntKind.bits .i64))).tdiv 3)))).tdiv (Xaa .i64 (1 * 2 ^ min (Xaa .i64 (15 + (Xaa .i64 (p1.tdiv 6)))).toNat (IntKind.bits .i64))))) p0) fun q7 =>
 some q7)
def Xgs (p1 : Cond) (q5 : (List Int)) (v8 : (Int × (List Int))) : Option (Lp (Int × (List Int)) (List Int)) :=
 sel (decide (v8.1 < (q5.length : Int))) (
 req (0 ≤ v8.1 ∧ v8.1 < v8.2.length) <|
 req (v8.1.toNat < v8.2.length) <|
 bnd (Xe4 (v8.2.getD v8.1.toNat 0) p1.Qp) fun q12 =>
 req (0 ≤ v8.1 ∧ v8.1 < v8.2.length) <|
 req (v8.1.toNat < v8.2.length) <|
 some (.go (Xaa .i64 (v8.1 + 1), (v8.2.set v8.1.toNat q12)))) (
 some (.done v8.2))
def Xdt (p0 : (List Int)) (q51 : (List Int)) (v53 : (Int × (List Int))) : Option (Lp (Int × (List Int)) (List Int)) :=
 sel (decide (v53.1 < (q51.length : Int))) (
 req (0 ≤ v53.1 ∧ v53.1 < q51.length) <|
 req (v53.1.toNat < q51.length) <|
 req (0 ≤ (q51.getD v53.1.toNat 0) ∧ (q51.getD v53.1.toNat 0) < p0.length) <|
 req ((v53.2.length + ([(p0.getD (q51.getD v53.1.toNat 0).toNat 0)]).length) * 8 ≤ 140737488355328 ∧ v53.2.length + ([(p0.getD (q51.getD v53.1.toNat 0).toNat 0)]).length ≤ maxLen) <|
 some (.go (Xaa .i64 (v53.1 + 1), (v53.2 ++ ([(p0.getD (q51.getD v53.1.toNat 0).toNat 0)]))))) (
 some (.done v53.2))
def Xfv (p1 : Cond) (q57 : (List Int)) (v60 : (Int × (List Int))) : Option (Lp (Int × (List Int)) (List Int)) :=
 sel (decide (v60.1 < (q57.length : Int))) (
 req (0 ≤ v60.1 ∧ v60.1 < v60.2.length) <|
 req (v60.1.toNat < v60.2.length) <|
 bnd (Xe7 (v60.2.getD v60.1.toNat 0) p1.Qp v60.1) fun q64 =>
 req (0 ≤ v60.1 ∧ v60.1 < v60.2.length) <|
 req (v60.1.toNat < v60.2.length) <|
 some (.go (Xaa .i64 (v60.1 + 1), (v60.2.set v60.1.toNat q64)))) (
 some (.done v60.2))
def Xil (p0 : (List Int)) (p1 : Cond) (v32 : (Int × (List Int))) : Option (Lp (Int × (List Int)) (List Int)) :=
 sel (decide (v32.1 < 4)) (
 bnd (Xha v32.1) fun q51 =>
 bnd (loop (Xdt p0 q51) (0, ([] : List Int))) fun v55 =>
 bnd (Xnz v55) fun q57 =>
 bnd (loop (Xfv p1 q57) (0, q57)) fun v63 =>
 bnd (Xe6 4 v63) fun q66 =>
 req ((v32.2.length + q66.1.length) * 8 ≤ 140737488355328 ∧ v32.2.length + q66.1.length ≤ maxLen) <|
 some (.go (Xaa .i64 (v32.1 + 1), (v32.2 ++ q66.1)))) (
 some (.done v32.2))
def Xed (p0 : (List Int)) (p1 : Cond) : Option ((List Int) × Bool) :=
 bnd (
 bnd (Xa7 p0 64 (-255) 255) fun q2 =>
 sel q2 (
 bnd (Xe3 p1) fun q3 =>
 some (!q3)) (
 some true)) fun v1 =>
 sel v1 (
 some (([] : List Int), false)) (
 sel p1.Exact (
 bnd (Xe6 8 p0) fun q4 =>
 some (q4.1, q4.2)) (
 sel p1.Large (
 bnd (Xlz p0) fun q5 =>
 bnd (loop (Xgs p1 q5) (0, q5)) fun v11 =>
 bnd (Xe6 8 v11) fun q14 =>
 some (q14.1, q14.2)) (
 bnd (loop (Xil p0 p1) (0, ([] : List Int))) fun v50 =>
 some (v50, true))))
def Xkl (p0 : Int) : Option (Int × Bool) :=
 bnd (Xap p0 (-500000) 500000) fun q1 =>
 sel (!q1) (
 some (0, false)) (
 sel (decide (p0 > 0)) (
 some (Xaa .i64 ((Xaa .i64 (2 * p0)) - 1), true)) (
 some (Xaa .i64 ((-2) * p0), true)))
def Xl0 (p0 : Int) : Option (ByteArray × Bool) :=
 bnd (Xkl p0) fun q1 =>
 sel (!q1.2) (
 some (⟨#[]⟩, false)) (
 bnd (Xkf q1.1) fun q2 =>
 some (q2.1, q2.2))
def Xim (p0 : Int) : Option Int :=
 bnd (Xl0 p0) fun q1 =>
 some (q1.1.size : Int)
def Xb0 (p0 : Pic) (p1 : (List Int)) (p2 : Int) (p3 : Int) (p4 : Int) (v33 : (Int × Int × Int × Int)) (v70 : (Int × Int × Int × Int)) : Option (Lp (Int × Int × Int × Int) (Int × Int × Int)) :=
 sel (decide (v70.2.2.2 ≤ p4)) (
 bnd (
 bnd (Xgi p0 (⟨Xaa .i64 (p2 + v70.2.2.2), Xaa .i64 (p3 + v33.2.2.2), 8, 8⟩ : Yob)) fun q81 =>
 sel (!q81) (
 some (v70.1, v70.2.1, v70.2.2.1)) (
 bnd (Xbi p0 (Xaa .i64 (p2 + v70.2.2.2)) (Xaa .i64 (p3 + v33.2.2.2))) fun q82 =>
 bnd (Xlc p1 q82) fun q83 =>
 bnd (Xim v70.2.2.2) fun q84 =>
 bnd (Xim v33.2.2.2) fun q85 =>
 bnd (
 sel (decide (v70.2.2.1 < 0)) (
 some true) (
 some (decide ((Xaa .i64 ((Xaa .i64 (q83 + q84)) + q85)) < v70.2.2.1)))) fun v86 =>
 sel v86 (
 some (v70.2.2.2, v33.2.2.2, Xaa .i64 ((Xaa .i64 (q83 + q84)) + q85))) (
 some (v70.1, v70.2.1, v70.2.2.1)))) fun v80 =>
 some (.go (v80.1, v80.2.1, v80.2.2, Xaa .i64 (v70.2.2.2 + 1)))) (
 some (.done (v70.1, v70.2.1, v70.2.2.1)))
def Xdr (p0 : Pic) (p1 : (List Int)) (p2 : Int) (p3 : Int) (p4 : Int) (v33 : (Int × Int × Int × Int)) : Option (Lp (Int × Int × Int × Int) (Int × Int × Int)) :=
 sel (decide (v33.2.2.2 ≤ p4)) (
 bnd (loop (Xb0 p0 p1 p2 p3 p4 v33) (v33.1, v33.2.1, v33.2.2.1, Xaa .i64 (0 - p4))) fun v79 =>
 some (.go (v79.1, v79.2.1, v79.2.2, Xaa .i64 (v33.2.2.2 + 1)))) (
 some (.done (v33.1, v33.2.1, v33.2.2.1)))
def Xcm (p0 : Pic) (p1 : (List Int)) (p2 : Int) (p3 : Int) (p4 : Int) : Option (Int × Int × Int) :=
 bnd (
 bnd (Xdu p0) fun q2 =>
 sel q2 (
 bnd (Xa7 p1 64 0 255) fun q3 =>
 sel q3 (
 bnd (Xap p4 0 4) fun q4 =>
 sel q4 (
 bnd (Xa6 p0 p2 p3) fun q5 =>
 some (!q5)) (
 some true)) (
 some true)) (
 some true)) fun v1 =>
 sel v1 (
 some (0, 0, (-1))) (
 bnd (loop (Xdr p0 p1 p2 p3 p4) (0, 0, (-1), Xaa .i64 (0 - p4))) fun v61 =>
 some (v61.1, v61.2.1, v61.2.2))
def Xbj (p0 : Pic) (p1 : Pic) (p2 : (List Int)) (p3 : Int) (p4 : Int) (p5 : Cond) (p6 : Int) : Option (Xba × (List Int) × Bool) :=
 bnd (
 bnd (Xdu p0) fun q2 =>
 sel q2 (
 bnd (Xa6 p0 p3 p4) fun q3 =>
 sel q3 (
 bnd (Xa7 p2 64 0 255) fun q4 =>
 sel q4 (
 bnd (Xe3 p5) fun q5 =>
 sel q5 (
 bnd (Xap p6 0 4) fun q6 =>
 some (!q6)) (
 some true)) (
 some true)) (
 some true)) (
 some true)) fun v1 =>
 sel v1 (
 some ((⟨0, 0, 0, 0, []⟩ : Xba), ([] : List Int), false)) (
 bnd (
 sel p5.Key (
 some false) (
 bnd (Xdu p1) fun q8 =>
 sel q8 (
 sel (p1.Wide != p0.Wide) (
 some true) (
 some (p1.High != p0.High))) (
 some true))) fun v7 =>
 sel v7 (
 some ((⟨0, 0, 0, 0, []⟩ : Xba), ([] : List Int), false)) (
 bnd (Xg8 p0 p3 p4) fun q9 =>
 bnd (Xge p2 q9.1) fun q10 =>
 bnd (Xd6 q10.1 q9.1) fun q11 =>
 bnd (Xee p2 q11) fun q12 =>
 bnd (Xed q12 p5) fun q13 =>
 bnd (
 sel (!p5.Key) (
 bnd (Xbi p1 p3 p4) fun q15 =>
 bnd (Xlc p2 q15) fun q16 =>
 sel (q16 == 0) (
 some (0, 0, 0, 0, [])) (
 bnd (Xcm p1 p2 p3 p4 p6) fun q17 =>
 sel (decide (q17.2.2 ≤ q10.2)) (
 bnd (Xbi p1 (Xaa .i64 (p3 + q17.1)) (Xaa .i64 (p4 + q17.2.1))) fun q18 =>
 bnd (Xee p2 q18) fun q19 =>
 bnd (Xed q19 p5) fun q20 =>
 bnd (
 sel (q17.1 == 0) (
 sel (q17.2.1 == 0) (
 bnd (Xa7 q20.1 64 0 0) fun q22 =>
 some q22) (
 some false)) (
 some false)) fun v21 =>
 sel v21 (
 some (0, 0, 0, 0, [])) (
 some (1, 0, q17.1, q17.2.1, q20.1))) (
 some (2, q10.1, 0, 0, q13.1)))) (
 some (2, q10.1, 0, 0, q13.1))) fun v14 =>
 bnd (Xdw p0 p1 0 0 p5 p3 p4 (⟨v14.1, v14.2.1, v14.2.2.1, v14.2.2.2.1, v14.2.2.2.2⟩ : Xba)) fun q23 =>
 sel (!q23.2) (
 some ((⟨0, 0, 0, 0, []⟩ : Xba), ([] : List Int), false)) (
 some ((⟨v14.1, v14.2.1, v14.2.2.1, v14.2.2.2.1, v14.2.2.2.2⟩ : Xba), q23.1, true))))
def Xgm (p0 : (List Int)) (p1 : (List Int)) (v2 : Int) : Option (Lp Int (Ou Unit Bool)) :=
 sel (decide (v2 < (p0.length : Int))) (
 req (0 ≤ v2 ∧ v2 < p0.length) <|
 req (0 ≤ v2 ∧ v2 < p1.length) <|
 sel ((p0.getD v2.toNat 0) != (p1.getD v2.toNat 0)) (
 some (.done (.ret false))) (
 some (.go (Xaa .i64 (v2 + 1))))) (
 some (.done (.out ())))
def Xef (p0 : (List Int)) (p1 : (List Int)) : Option Bool :=
 sel ((p0.length : Int) != (p1.length : Int)) (
 some false) (
 bnd (loop (Xgm p0 p1) 0) fun o5 => match o5 with
| .out v4 => (
 some true)
| .ret r => some r)
def Xeg (p0 : Xba) (p1 : Xba) : Option Bool :=
 sel (p0.Kind != p1.Kind) (
 some false) (
 sel (p0.Mode != p1.Mode) (
 some false) (
 sel (p0.Dx != p1.Dx) (
 some false) (
 sel (p0.Dy != p1.Dy) (
 some false) (
 bnd (Xef p0.Levels p1.Levels) fun q1 =>
 sel (!q1) (
 some false) (
 some true)))))
def Xep (v2 : (Int × Int × (List Int))) : Option (Lp (Int × Int × (List Int)) (Int × (List Int))) :=
 sel (decide (v2.2.1 < (v2.2.2.length : Int))) (
 req (0 ≤ v2.2.1 ∧ v2.2.1 < v2.2.2.length) <|
 req (v2.2.1.toNat < v2.2.2.length) <|
 some (.go (Xaa .i64 (v2.1 + 1), Xaa .i64 (v2.2.1 + 1), (v2.2.2.set v2.2.1.toNat v2.1)))) (
 some (.done (v2.1, v2.2.2)))
def Xei (p0 : (List Int)) (p1 : Int) : Option (Int × (List Int)) :=
 bnd (loop (Xep) (p1, 0, p0)) fun v4 =>
 some (v4.1, v4.2)
def Xhv (p0 : Xba) (p1 : Int) : Option (Int × Xba) :=
 bnd (Xei p0.Levels p1) fun q1 =>
 some (q1.1, (⟨p0.Kind, p0.Mode, p0.Dx, p0.Dy, q1.2⟩ : Xba))
def Xeo (p0 : (List Int)) (v2 : (Int × Int)) : Option (Lp (Int × Int) (Ou Int Int)) :=
 sel (decide (v2.2 < (p0.length : Int))) (
 req (0 ≤ v2.2 ∧ v2.2 < p0.length) <|
 sel ((p0.getD v2.2.toNat 0) != v2.1) (
 some (.done (.ret (-1)))) (
 some (.go (Xaa .i64 (v2.1 + 1), Xaa .i64 (v2.2 + 1))))) (
 some (.done (.out v2.1)))
def Xeh (p0 : (List Int)) (p1 : Int) : Option Int :=
 bnd (loop (Xeo p0) (p1, 0)) fun o5 => match o5 with
| .out v4 => (
 some v4)
| .ret r => some r
def Xfb (p0 : Xba) (p1 : Int) : Option Int :=
 bnd (Xeh p0.Levels p1) fun q1 =>
 sel (decide (q1 < 0)) (
 some (-1)) (
 some q1)
def Xda (p0 : Pic) (p1 : Pic) (p2 : (List Int)) (p3 : Int) (p4 : Int) (p5 : Cond) (p6 : Int) : Option Bool :=
 sel (decide ((p2.length : Int) > 1048576)) (
 some true) (
 bnd (Xkh p0 1048576) fun q1 =>
 sel (decide (q1 < 0)) (
 some true) (
 bnd (Xkh p1 q1) fun q2 =>
 sel (decide (q2 < 0)) (
 some true) (
 bnd (Xf0 p0) fun q3 =>
 bnd (Xf0 p1) fun q4 =>
 bnd (Xfc p2) fun q5 =>
 bnd (Xiv p5) fun q6 =>
 bnd (Xbr q3 q4 q5 p3 p4 q6 p6) fun q7 =>
 bnd (Xfc p2) fun q8 =>
 bnd (Xf0 p0) fun q9 =>
 bnd (Xf0 p1) fun q10 =>
 bnd (Xiv p5) fun q11 =>
 bnd (Xbj q9 q10 q8 p3 p4 q11 p6) fun q12 =>
 bnd (
 bnd (Xeg q12.1 q7.1) fun q14 =>
 sel q14 (
 bnd (Xef q12.2.1 q7.2.1) fun q15 =>
 sel q15 (
 some (!(q12.2.2 == q7.2.2))) (
 some true)) (
 some true)) fun v13 =>
 sel v13 (
 some false) (
 bnd (Xfc p2) fun q16 =>
 bnd (Xef q8 q16) fun q17 =>
 sel (!q17) (
 some false) (
 bnd (Xei q8 1) fun q18 =>
 bnd (
 sel (decide (q18.1 < 0)) (
 some true) (
 bnd (Xeg q12.1 q7.1) fun q20 =>
 sel q20 (
 bnd (Xef q12.2.1 q7.2.1) fun q21 =>
 sel q21 (
 some (!(q12.2.2 == q7.2.2))) (
 some true)) (
 some true))) fun v19 =>
 sel v19 (
 some false) (
 bnd (Xhv q12.1 1) fun q22 =>
 bnd (Xei q12.2.1 q22.1) fun q23 =>
 bnd (Xfb (⟨q12.1.Kind, q12.1.Mode, q12.1.Dx, q12.1.Dy, q22.2.Levels⟩ : Xba) 1) fun q24 =>
 sel (decide (q24 < 0)) (
 some false) (
 bnd (Xeh q23.2 q24) fun q25 =>
 sel (decide (q25 < 0)) (
 some false) (
 sel (q25 != q23.1) (
 some false) (
 bnd (Xf0 p0) fun q26 =>
 bnd (Xf0 p1) fun q27 =>
 bnd (Xfc p2) fun q28 =>
 bnd (Xiv p5) fun q29 =>
 bnd (Xbj q26 q27 q28 p3 p4 q29 p6) fun q30 =>
 bnd (
 bnd (Xeg q30.1 q7.1) fun q32 =>
 sel q32 (
 bnd (Xef q30.2.1 q7.2.1) fun q33 =>
 sel q33 (
 some (!(q30.2.2 == q7.2.2))) (
 some true)) (
 some true)) fun v31 =>
 sel v31 (
 some false) (
 bnd (Xfb (⟨q12.1.Kind, q12.1.Mode, q12.1.Dx, q12.1.Dy, q22.2.Levels⟩ : Xba) 1) fun q34 =>
 sel (decide (q34 < 0)) (
 some false) (
 bnd (Xeh q23.2 q34) fun q35 =>
 sel (decide (q35 < 0)) (
 some false) (
 sel (q35 != q23.1) (
 some false) (
 some true)))))))))))))
end
end Go.Proofs.YtlebkepfhdjnmadGreat.A
