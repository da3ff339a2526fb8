/- What the functions that the law FnInOrder reaches compute, over numbers, texts and lists. Written by a program of this session. Conditions: none. -/
import Derived.Test.YtlebkepfhdjnmadGreatAL2
namespace Go.Proofs.YtlebkepfhdjnmadGreat.A
open Go Go.Proofs Go.Proofs.YtlebkepfhdjnmadGreatAL Go.RowKit
set_option linter.unusedVariables false
set_option linter.unusedSimpArgs false
structure Pic where
 Wide : Int
 High : Int
 Dots : ByteArray
structure Par where
 Qp : Int
 Large : Bool
 Exact : Bool
 Confined : Bool
structure Xbc where
 Kind : Int
 Mode : Int
 Dx : Int
 Dy : Int
 Levels : (List Int)
structure Xmb where
 Key : Bool
 Qp : Int
 Large : Bool
 Exact : Bool
structure Xal where
 Seq : Int
 First : Bool
 Last : Bool
 Bytes : ByteArray
structure Xa7 where
 Begun : Bool
 Next : Int
 Age : Int
 Held : (List Xal)
 Late : Int
 Far : Int
 Twice : Int
 Over : Int
 Lost : Int
structure Xnv where
 Above : (List Int)
 Left : (List Int)
 Corner : Int
structure Seq where
 Level : Int
 Bits : Int
 Cols : (List Int)
 Rows : (List Int)
structure Rate where
 Qp : Int
 Target : Int
 Debt : Int
structure Xcw where
 Seq : Seq
 Par : Par
 Rate : Rate
 Frame : Int
 Since : Int
 Every : Int
 Reach : Int
 Has : Bool
 Ref : Pic
structure Xau where
 b_ : (List Int)
 i_ : Int
 h_ : Int
structure Yrn where
 Tile : Int
 Frame : Int
 Qp : Int
def Xtb : ByteArray := ⟨#[]⟩
def Xaw : Xal := ⟨0, false, false, ⟨#[]⟩⟩
def Xqd : Xbc := ⟨0, 0, 0, 0, []⟩
noncomputable section
def Xak (p0 : Int) (p1 : Int) (p2 : Int) : Option Bool :=
 bnd (
 sel (decide (p0 ≥ p1)) (
 some (decide (p0 ≤ p2))) (
 some false)) fun v1 =>
 some v1
def Xhv (p0 : Int) : Option Bool :=
 bnd (
 req ((8 : Int) ≠ 0) <|
 sel ((p0.tmod 8) == 0) (
 bnd (Xak p0 8 64) fun q2 =>
 some q2) (
 some false)) fun v1 =>
 some v1
def Xgu (p0 : ByteArray) (v3 : Int) : Option (Lp Int (Ou Unit Bool)) :=
 sel (decide (v3 < (p0.size : Int))) (
 bnd (
 req (0 ≤ v3 ∧ v3 < p0.size) <|
 sel ((Xta p0 v3) != 48) (
 req (0 ≤ v3 ∧ v3 < p0.size) <|
 some ((Xta p0 v3) != 49)) (
 some false)) fun v7 =>
 sel v7 (
 some (.done (.ret false))) (
 some (.go (Xaa .i64 (v3 + 1))))) (
 some (.done (.out ())))
def Xlb (p0 : ByteArray) : Option Bool :=
 bnd (loop (Xgu p0) 0) fun o8 => match o8 with
| .out v6 => (
 some true)
| .ret r => some r
def Xmr (p0 : ByteArray) : Option Bool :=
 bnd (
 sel (decide ((p0.size : Int) ≤ 400000)) (
 bnd (Xlb p0) fun q2 =>
 some q2) (
 some false)) fun v1 =>
 some v1
def Xd8 (p0 : Xmb) : Option Bool :=
 bnd (
 bnd (Xak p0.Qp 0 40) fun q2 =>
 sel q2 (
 sel p0.Large (
 some (!p0.Exact)) (
 some true)) (
 some false)) fun v1 =>
 some v1
def Xci (p0 : (List Int)) (p1 : Int) (p2 : Int) (v3 : Int) : Option (Lp Int (Ou Unit Bool)) :=
 sel (decide (v3 < p1)) (
 req (0 ≤ v3 ∧ v3 < p0.length) <|
 bnd (Xak (p0.getD v3.toNat 0) (Xaa .i64 (0 - p2)) p2) fun q7 =>
 sel (!q7) (
 some (.done (.ret false))) (
 some (.go (Xaa .i64 (v3 + 1))))) (
 some (.done (.out ())))
def Xbj (p0 : (List Int)) (p1 : Int) (p2 : Int) : Option Bool :=
 sel ((p0.length : Int) != p1) (
 some false) (
 bnd (loop (Xci p0 p1 p2) 0) fun o8 => match o8 with
| .out v6 => (
 some true)
| .ret r => some r)
def Xig (p0 : Xbc) : Option Bool :=
 sel (p0.Kind == 0) (
 bnd (
 sel (p0.Mode == 0) (
 sel (p0.Dx == 0) (
 sel (p0.Dy == 0) (
 some ((p0.Levels.length : Int) == 0)) (
 some false)) (
 some false)) (
 some false)) fun v1 =>
 some v1) (
 sel (p0.Kind == 1) (
 bnd (
 sel (p0.Mode == 0) (
 bnd (Xak p0.Dx (-16) 16) fun q3 =>
 sel q3 (
 bnd (Xak p0.Dy (-16) 16) fun q4 =>
 sel q4 (
 bnd (Xbj p0.Levels 64 5000) fun q5 =>
 some q5) (
 some false)) (
 some false)) (
 some false)) fun v2 =>
 some v2) (
 sel (p0.Kind == 2) (
 bnd (
 bnd (Xak p0.Mode 0 3) fun q7 =>
 sel q7 (
 sel (p0.Dx == 0) (
 sel (p0.Dy == 0) (
 bnd (Xbj p0.Levels 64 5000) fun q8 =>
 some q8) (
 some false)) (
 some false)) (
 some false)) fun v6 =>
 some v6) (
 some false)))
def Xkw (p0 : Par) : Option Bool :=
 bnd (
 bnd (Xak p0.Qp 0 40) fun q2 =>
 sel q2 (
 sel p0.Large (
 some (!p0.Exact)) (
 some true)) (
 some false)) fun v1 =>
 some v1
def Xcj (p0 : Pic) : Option Bool :=
 bnd (
 bnd (Xak p0.Wide 1 256) fun q2 =>
 sel q2 (
 bnd (Xak p0.High 1 256) fun q3 =>
 sel q3 (
 some ((p0.Dots.size : Int) == (Xaa .i64 (p0.Wide * p0.High)))) (
 some false)) (
 some false)) fun v1 =>
 some v1
def Xes (p0 : Pic) (p1 : Int) (p2 : Int) (p3 : Int) (p4 : Int) : Option Bool :=
 bnd (
 bnd (Xcj p0) fun q2 =>
 sel q2 (
 bnd (Xak p3 1 p0.Wide) fun q3 =>
 sel q3 (
 bnd (Xak p4 1 p0.High) fun q4 =>
 sel q4 (
 bnd (Xak p1 0 (Xaa .i64 (p0.Wide - p3))) fun q5 =>
 sel q5 (
 bnd (Xak p2 0 (Xaa .i64 (p0.High - p4))) fun q6 =>
 some q6) (
 some false)) (
 some false)) (
 some false)) (
 some false)) fun v1 =>
 some v1
def Xfl (p0 : Int) (p1 : Int) (v2 : (Int × (List Int))) : Option (Lp (Int × (List Int)) (List Int)) :=
 sel (decide (v2.1 < p0)) (
 req (0 ≤ v2.1 ∧ v2.1 < v2.2.length) <|
 req (v2.1.toNat < v2.2.length) <|
 some (.go (Xaa .i64 (v2.1 + 1), (v2.2.set v2.1.toNat p1)))) (
 some (.done v2.2))
def Xho (p0 : Int) (p1 : Int) : Option ByteArray :=
 req (0 ≤ p0 ∧ p0 ≤ p0 ∧ p0 * 1 ≤ 281474976710656) <|
 bnd (loop (Xfl p0 p1) (0, (List.replicate p0.toNat (0 : Int)))) fun v4 =>
 some (strOfNums v4)
def Xoi (p0 : Int) (p1 : Int) : Option Pic :=
 bnd (
 bnd (Xak p0 1 256) fun q2 =>
 sel q2 (
 bnd (Xak p1 1 256) fun q3 =>
 some (!q3)) (
 some true)) fun v1 =>
 sel v1 (
 some (⟨0, 0, ⟨#[]⟩⟩ : Pic)) (
 bnd (Xho (Xaa .i64 (p0 * p1)) 128) fun q4 =>
 some (⟨p0, p1, q4⟩ : Pic))
def Xd3 (p0 : Pic) (p1 : Int) (p2 : Int) : Option Bool :=
 bnd (
 req ((8 : Int) ≠ 0) <|
 sel ((p1.tmod 8) == 0) (
 req ((8 : Int) ≠ 0) <|
 sel ((p2.tmod 8) == 0) (
 bnd (Xes p0 p1 p2 8 8) fun q2 =>
 some q2) (
 some false)) (
 some false)) fun v1 =>
 some v1
def Xbp (p0 : Int) (p1 : Int) (p2 : Int) : Option Int :=
 bnd (
 sel (decide (p2 < p1)) (
 some true) (
 some (decide (p0 < p1)))) fun v1 =>
 sel v1 (
 some p1) (
 sel (decide (p0 > p2)) (
 some p2) (
 some p0))
def Xdh (p0 : Pic) (p1 : Int) (p2 : Int) : Option Int :=
 bnd (Xcj p0) fun q1 =>
 sel (!q1) (
 some (-1)) (
 bnd (Xbp p2 0 (Xaa .i64 (p0.High - 1))) fun q2 =>
 bnd (Xbp p1 0 (Xaa .i64 (p0.Wide - 1))) fun q3 =>
 req (0 ≤ (Xaa .i64 ((Xaa .i64 (q2 * p0.Wide)) + q3)) ∧ (Xaa .i64 ((Xaa .i64 (q2 * p0.Wide)) + q3)) < p0.Dots.size) <|
 some (Xaa .i64 ((Xta p0.Dots (Xaa .i64 ((Xaa .i64 (q2 * p0.Wide)) + q3))))))
def Xfc (p0 : Pic) (p1 : Int) (p2 : Int) (v7 : (Int × (List Int) × (List Int))) : Option (Lp (Int × (List Int) × (List Int)) ((List Int) × (List Int))) :=
 sel (decide (v7.1 < 8)) (
 bnd (
 bnd (
 sel (decide (p2 > 0)) (
 bnd (Xdh p0 (Xaa .i64 (p1 + v7.1)) (Xaa .i64 (p2 - 1))) fun q16 =>
 req ((v7.2.1.length + ([q16]).length) * 8 ≤ 140737488355328 ∧ v7.2.1.length + ([q16]).length ≤ maxLen) <|
 some (v7.2.1 ++ ([q16]))) (
 some v7.2.1)) fun v15 =>
 sel (decide (p1 > 0)) (
 bnd (Xdh p0 (Xaa .i64 (p1 - 1)) (Xaa .i64 (p2 + v7.1))) fun q17 =>
 req ((v7.2.2.length + ([q17]).length) * 8 ≤ 140737488355328 ∧ v7.2.2.length + ([q17]).length ≤ maxLen) <|
 some (v15, (v7.2.2 ++ ([q17])))) (
 some (v15, v7.2.2))) fun v14 =>
 some (.go (Xaa .i64 (v7.1 + 1), v14.1, v14.2))) (
 some (.done (v7.2.1, v7.2.2)))
def Xhl (p0 : Pic) (p1 : Int) (p2 : Int) : Option (Xnv × Bool) :=
 bnd (Xd3 p0 p1 p2) fun q1 =>
 sel (!q1) (
 some ((⟨[], [], 0⟩ : Xnv), false)) (
 bnd (loop (Xfc p0 p1 p2) (0, [], [])) fun v13 =>
 bnd (
 bnd (
 sel (decide (p1 > 0)) (
 some (decide (p2 > 0))) (
 some false)) fun v20 =>
 sel v20 (
 bnd (Xdh p0 (Xaa .i64 (p1 - 1)) (Xaa .i64 (p2 - 1))) fun q21 =>
 some q21) (
 some (-1))) fun v19 =>
 some ((⟨v13.1, v13.2, v19⟩ : Xnv), true))
def Xk5 (p0 : Int) (p1 : Int) (v17 : (Int × Int)) (v38 : (Int × Int)) : Option (Lp (Int × Int) (Ou Int Int)) :=
 sel (decide (v38.2 < p0)) (
 Ynu (fun (v44 : Int) =>
 some (.go (v44, Xaa .i64 (v38.2 + 1)))) fun j36 =>
 bnd (
 req ((2 : Int) ≠ 0) <|
 sel ((v17.2.tmod 2) == 0) (
 some (Xaa .i64 ((Xaa .i64 (p0 - 1)) - v38.2))) (
 some v38.2)) fun v45 =>
 bnd (Xak (Xaa .i64 (v17.2 - v45)) 0 (Xaa .i64 (p0 - 1))) fun q46 =>
 sel (!q46) (
 j36 v38.1) (
 sel (v38.1 == p1) (
 some (.done (.ret (Xaa .i64 ((Xaa .i64 ((Xaa .i64 (p0 * v45)) + v17.2)) - v45))))) (
 j36 (Xaa .i64 (v38.1 + 1))))) (
 some (.done (.out v38.1)))
def Xif (p0 : Int) (p1 : Int) (v17 : (Int × Int)) : Option (Lp (Int × Int) (Ou Unit Int)) :=
 sel (decide (v17.2 ≤ (Xaa .i64 ((Xaa .i64 (2 * p0)) - 2)))) (
 bnd (loop (Xk5 p0 p1 v17) (v17.1, 0)) fun o47 => match o47 with
| .out v43 => (
 some (.go (v43, Xaa .i64 (v17.2 + 1))))
| .ret r => some (.done (.ret r))) (
 some (.done (.out ())))
def Xi7 (p0 : Int) (p1 : Int) : Option Int :=
 bnd (
 sel (p0 != 4) (
 sel (p0 != 8) (
 some true) (
 sel (decide (p1 < 0)) (
 some true) (
 some (decide (p1 ≥ (Xaa .i64 (p0 * p0))))))) (
 sel (decide (p1 < 0)) (
 some true) (
 some (decide (p1 ≥ (Xaa .i64 (p0 * p0))))))) fun v1 =>
 sel v1 (
 some (-1)) (
 bnd (loop (Xif p0 p1) (0, 0)) fun o48 => match o48 with
| .out v33 => (
 some (-1))
| .ret r => some r)
def Xdq (p0 : Int) (p1 : (List Int)) (v4 : (Int × (List Int))) : Option (Lp (Int × (List Int)) (List Int)) :=
 sel (decide (v4.1 < (Xaa .i64 (p0 * p0)))) (
 bnd (Xi7 p0 v4.1) fun q8 =>
 req (0 ≤ v4.1 ∧ v4.1 < p1.length) <|
 req (0 ≤ q8 ∧ q8 < v4.2.length) <|
 req (q8.toNat < v4.2.length) <|
 some (.go (Xaa .i64 (v4.1 + 1), (v4.2.set q8.toNat (p1.getD v4.1.toNat 0))))) (
 some (.done v4.2))
def Xda (p0 : Int) (p1 : (List Int)) : Option ((List Int) × Bool) :=
 bnd (
 sel (p0 != 4) (
 sel (p0 != 8) (
 some true) (
 some ((p1.length : Int) != (Xaa .i64 (p0 * p0))))) (
 some ((p1.length : Int) != (Xaa .i64 (p0 * p0))))) fun v1 =>
 sel v1 (
 some (([] : List Int), false)) (
 req (0 ≤ (p1.length : Int) ∧ (p1.length : Int) ≤ (p1.length : Int) ∧ (p1.length : Int) * 8 ≤ 281474976710656) <|
 bnd (loop (Xdq p0 p1) (0, (List.replicate (p1.length : Int).toNat (0 : Int)))) fun v7 =>
 some (v7, true))
def Xjn (p0 : Int) (v4 : (Int × Int)) : Option (Lp (Int × Int) Int) :=
 req ((6 : Int) ≠ 0) <|
 sel (decide (v4.2 < (Xaa .i64 (p0.tdiv 6)))) (
 some (.go (Xaa .i64 (2 * v4.1), Xaa .i64 (v4.2 + 1)))) (
 some (.done v4.1))
def Xjb (p0 : Int) : Option Int :=
 bnd (Xak p0 0 40) fun q1 =>
 sel (!q1) (
 some 0) (
 bnd (
 req ((6 : Int) ≠ 0) <|
 sel ((p0.tmod 6) == 0) (
 some 10) (
 sel ((p0.tmod 6) == 1) (
 some 11) (
 sel ((p0.tmod 6) == 2) (
 some 13) (
 sel ((p0.tmod 6) == 3) (
 some 14) (
 sel ((p0.tmod 6) == 4) (
 some 16) (
 some 18)))))) fun v2 =>
 bnd (loop (Xjn p0) (v2, 0)) fun v6 =>
 some v6)
def Xgn (p0 : Int) (p1 : Int) : Option Int :=
 bnd (Xak p0 (-5000) 5000) fun q1 =>
 sel (!q1) (
 some 0) (
 bnd (Xjb p1) fun q2 =>
 some (Xaa .i64 (p0 * q2)))
def Xjm (v6 : (Int × Int)) : Option (Lp (Int × Int) Int) :=
 sel (decide (v6.2 > 0)) (
 bnd (
 req ((2 : Int) ≠ 0) <|
 sel ((v6.2.tmod 2) == 1) (
 some (Xaa .i64 (0 - v6.1))) (
 some v6.1)) fun v10 =>
 req ((2 : Int) ≠ 0) <|
 some (.go (v10, Xaa .i64 (v6.2.tdiv 2)))) (
 some (.done v6.1))
def Xja (p0 : Int) (p1 : Int) : Option Int :=
 bnd (
 bnd (Xak p0 0 7) fun q2 =>
 sel q2 (
 bnd (Xak p1 0 7) fun q3 =>
 some (!q3)) (
 some true)) fun v1 =>
 sel v1 (
 some 0) (
 bnd (loop (Xjm) (1, (IntKind.wrap .i64 (BitVec.ofInt (IntKind.bits .i64) p0 &&& BitVec.ofInt (IntKind.bits .i64) p1).toNat))) fun v9 =>
 some v9)
def Xgv (p0 : (List Int)) (p1 : Int) (p2 : Int) (v3 : (Int × Int)) : Option (Lp (Int × Int) Int) :=
 sel (decide (v3.2 < 8)) (
 req (0 ≤ (Xaa .i64 ((Xaa .i64 (8 * p1)) + v3.2)) ∧ (Xaa .i64 ((Xaa .i64 (8 * p1)) + v3.2)) < p0.length) <|
 bnd (Xja p2 v3.2) fun q7 =>
 some (.go (Xaa .i64 (v3.1 + (Xaa .i64 ((p0.getD (Xaa .i64 ((Xaa .i64 (8 * p1)) + v3.2)).toNat 0) * q7))), Xaa .i64 (v3.2 + 1)))) (
 some (.done v3.1))
def Xlg (p0 : (List Int)) (p1 : Int) (p2 : Int) : Option Int :=
 bnd (loop (Xgv p0 p1 p2) (0, 0)) fun v6 =>
 some v6
def Xem (p0 : (List Int)) (v10 : (Int × (List Int))) (v23 : (Int × (List Int))) : Option (Lp (Int × (List Int)) (List Int)) :=
 sel (decide (v23.1 < 8)) (
 bnd (Xlg p0 v10.1 v23.1) fun q27 =>
 req ((v23.2.length + ([q27]).length) * 8 ≤ 140737488355328 ∧ v23.2.length + ([q27]).length ≤ maxLen) <|
 some (.go (Xaa .i64 (v23.1 + 1), (v23.2 ++ ([q27]))))) (
 some (.done v23.2))
def Xel (p0 : (List Int)) (v10 : (Int × (List Int))) : Option (Lp (Int × (List Int)) (List Int)) :=
 sel (decide (v10.1 < 8)) (
 bnd (loop (Xem p0 v10) (0, v10.2)) fun v26 =>
 some (.go (Xaa .i64 (v10.1 + 1), v26))) (
 some (.done v10.2))
def Xdw (v20 : (List Int)) (v60 : (Int × (List Int))) (v101 : (Int × (List Int))) (v114 : (Int × Int)) : Option (Lp (Int × Int) Int) :=
 sel (decide (v114.2 < 8)) (
 bnd (Xja v60.1 v114.2) fun q118 =>
 req (0 ≤ (Xaa .i64 ((Xaa .i64 (8 * v114.2)) + v101.1)) ∧ (Xaa .i64 ((Xaa .i64 (8 * v114.2)) + v101.1)) < v20.length) <|
 req ((Xaa .i64 ((Xaa .i64 (8 * v114.2)) + v101.1)).toNat < v20.length) <|
 some (.go (Xaa .i64 (v114.1 + (Xaa .i64 (q118 * (v20.getD ((Xaa .i64 ((Xaa .i64 (8 * v114.2)) + v101.1)).toNat) 0)))), Xaa .i64 (v114.2 + 1)))) (
 some (.done v114.1))
def Xdv (v20 : (List Int)) (v60 : (Int × (List Int))) (v101 : (Int × (List Int))) : Option (Lp (Int × (List Int)) (List Int)) :=
 sel (decide (v101.1 < 8)) (
 bnd (loop (Xdw v20 v60 v101) (0, 0)) fun v117 =>
 req ((v101.2.length + ([v117]).length) * 8 ≤ 140737488355328 ∧ v101.2.length + ([v117]).length ≤ maxLen) <|
 some (.go (Xaa .i64 (v101.1 + 1), (v101.2 ++ ([v117]))))) (
 some (.done v101.2))
def Xdu (v20 : (List Int)) (v60 : (Int × (List Int))) : Option (Lp (Int × (List Int)) (List Int)) :=
 sel (decide (v60.1 < 8)) (
 bnd (loop (Xdv v20 v60) (0, v60.2)) fun v111 =>
 some (.go (Xaa .i64 (v60.1 + 1), v111))) (
 some (.done v60.2))
def Xht (p0 : (List Int)) : Option (List Int) :=
 bnd (loop (Xel p0) (0, ([] : List Int))) fun v20 =>
 bnd (loop (Xdu v20) (0, ([] : List Int))) fun v91 =>
 some v91
def Xd0 (p0 : Int) (p1 : Int) : Option Int :=
 req (p1 ≠ 0) <|
 bnd (
 req (p1 ≠ 0) <|
 sel (decide ((p0.tmod p1) < 0)) (
 some (Xaa .i64 ((Xaa .i64 (p0.tdiv p1)) - 1))) (
 some (Xaa .i64 (p0.tdiv p1)))) fun v1 =>
 some v1
def Xdi (v5 : (Int × (List Int))) : Option (Lp (Int × (List Int)) (List Int)) :=
 sel (decide (v5.1 < 64)) (
 req (0 ≤ v5.1 ∧ v5.1 < v5.2.length) <|
 req (v5.1.toNat < v5.2.length) <|
 bnd (Xd0 (Xaa .i64 ((v5.2.getD v5.1.toNat 0) + 32)) 64) fun q9 =>
 req (0 ≤ v5.1 ∧ v5.1 < v5.2.length) <|
 req (v5.1.toNat < v5.2.length) <|
 some (.go (Xaa .i64 (v5.1 + 1), (v5.2.set v5.1.toNat q9)))) (
 some (.done v5.2))
def Xgl (p0 : (List Int)) : Option (List Int) :=
 bnd (Xbj p0 64 10000000) fun q1 =>
 sel (!q1) (
 some ([] : List Int)) (
 bnd (Xht p0) fun q2 =>
 bnd (loop (Xdi) (0, q2)) fun v8 =>
 some v8)
def Xi6 (p0 : Int) : Option Int :=
 bnd (Xak p0 0 15) fun q1 =>
 sel (!q1) (
 some (-1)) (
 req ((4 : Int) ≠ 0) <|
 req ((2 : Int) ≠ 0) <|
 req ((4 : Int) ≠ 0) <|
 req ((2 : Int) ≠ 0) <|
 bnd (
 sel (((Xaa .i64 (p0.tdiv 4)).tmod 2) == 0) (
 some (((p0.tmod 4).tmod 2) == 0)) (
 some false)) fun v2 =>
 sel v2 (
 some 0) (
 bnd (
 sel (((Xaa .i64 (p0.tdiv 4)).tmod 2) == 1) (
 some (((p0.tmod 4).tmod 2) == 1)) (
 some false)) fun v3 =>
 sel v3 (
 some 1) (
 some 2)))
def Xbg (p0 : Int) (p1 : Int) (p2 : Int) (p3 : Int) : Option Int :=
 sel (p0 == 0) (
 some p1) (
 sel (p0 == 1) (
 some p2) (
 some p3))
def Xdo (p0 : Int) (v12 : (Int × Int)) : Option (Lp (Int × Int) Int) :=
 req ((6 : Int) ≠ 0) <|
 sel (decide (v12.2 < (Xaa .i64 (p0.tdiv 6)))) (
 some (.go (Xaa .i64 (2 * v12.1), Xaa .i64 (v12.2 + 1)))) (
 some (.done v12.1))
def Xjx (p0 : Int) (p1 : Int) : Option Int :=
 bnd (Xi6 p1) fun q1 =>
 bnd (
 bnd (Xak p0 0 40) fun q3 =>
 sel q3 (
 some (decide (q1 < 0))) (
 some true)) fun v2 =>
 sel v2 (
 some 0) (
 bnd (
 req ((6 : Int) ≠ 0) <|
 sel ((p0.tmod 6) == 0) (
 bnd (Xbg q1 10 16 13) fun q5 =>
 some q5) (
 sel ((p0.tmod 6) == 1) (
 bnd (Xbg q1 11 18 14) fun q6 =>
 some q6) (
 sel ((p0.tmod 6) == 2) (
 bnd (Xbg q1 13 20 16) fun q7 =>
 some q7) (
 sel ((p0.tmod 6) == 3) (
 bnd (Xbg q1 14 23 18) fun q8 =>
 some q8) (
 sel ((p0.tmod 6) == 4) (
 bnd (Xbg q1 16 25 20) fun q9 =>
 some q9) (
 sel ((p0.tmod 6) == 5) (
 bnd (Xbg q1 18 29 23) fun q10 =>
 some q10) (
 some 0))))))) fun v4 =>
 bnd (loop (Xdo p0) (v4, 0)) fun v14 =>
 some v14)
def Xgp (p0 : Int) (p1 : Int) (p2 : Int) : Option Int :=
 bnd (Xak p0 (-5000) 5000) fun q1 =>
 sel (!q1) (
 some 0) (
 bnd (Xjx p1 p2) fun q2 =>
 some (Xaa .i64 (p0 * q2)))
def Xek (p0 : (List Int)) (v4 : (Int × (List Int))) : Option (Lp (Int × (List Int)) (List Int)) :=
 sel (decide (v4.1 < 4)) (
 req (0 ≤ (Xaa .i64 (4 * v4.1)) ∧ (Xaa .i64 (4 * v4.1)) < p0.length) <|
 req (0 ≤ (Xaa .i64 ((Xaa .i64 (4 * v4.1)) + 1)) ∧ (Xaa .i64 ((Xaa .i64 (4 * v4.1)) + 1)) < p0.length) <|
 req (0 ≤ (Xaa .i64 ((Xaa .i64 (4 * v4.1)) + 2)) ∧ (Xaa .i64 ((Xaa .i64 (4 * v4.1)) + 2)) < p0.length) <|
 req (0 ≤ (Xaa .i64 ((Xaa .i64 (4 * v4.1)) + 3)) ∧ (Xaa .i64 ((Xaa .i64 (4 * v4.1)) + 3)) < p0.length) <|
 bnd (Xd0 (p0.getD (Xaa .i64 ((Xaa .i64 (4 * v4.1)) + 1)).toNat 0) 2) fun q9 =>
 bnd (Xd0 (p0.getD (Xaa .i64 ((Xaa .i64 (4 * v4.1)) + 3)).toNat 0) 2) fun q10 =>
 req ((v4.2.length + ([Xaa .i64 ((Xaa .i64 ((p0.getD (Xaa .i64 (4 * v4.1)).toNat 0) + (p0.getD (Xaa .i64 ((Xaa .i64 (4 * v4.1)) + 2)).toNat 0))) + (Xaa .i64 ((p0.getD (Xaa .i64 ((Xaa .i64 (4 * v4.1)) + 1)).toNat 0) + q10))), Xaa .i64 ((Xaa .i64 ((p0.getD (Xaa .i64 (4 * v4.1)).toNat 0) - (p0.getD (Xaa .i64 ((Xaa .i64 (4 * v4.1)) + 2)).toNat 0))) + (Xaa .i64 (q9 - (p0.getD (Xaa .i64 ((Xaa .i64 (4 * v4.1)) + 3)).toNat 0)))), Xaa .i64 ((Xaa .i64 ((p0.getD (Xaa .i64 (4 * v4.1)).toNat 0) - (p0.getD (Xaa .i64 ((Xaa .i64 (4 * v4.1)) + 2)).toNat 0))) - (Xaa .i64 (q9 - (p0.getD (Xaa .i64 ((Xaa .i64 (4 * v4.1)) + 3)).toNat 0)))), Xaa .i64 ((Xaa .i64 ((p0.getD (Xaa .i64 (4 * v4.1)).toNat 0) + (p0.getD (Xaa .i64 ((Xaa .i64 (4 * v4.1)) + 2)).toNat 0))) - (Xaa .i64 ((p0.getD (Xaa .i64 ((Xaa .i64 (4 * v4.1)) + 1)).toNat 0) + q10)))]).length) * 8 ≤ 140737488355328 ∧ v4.2.length + ([Xaa .i64 ((Xaa .i64 ((p0.getD (Xaa .i64 (4 * v4.1)).toNat 0) + (p0.getD (Xaa .i64 ((Xaa .i64 (4 * v4.1)) + 2)).toNat 0))) + (Xaa .i64 ((p0.getD (Xaa .i64 ((Xaa .i64 (4 * v4.1)) + 1)).toNat 0) + q10))), Xaa .i64 ((Xaa .i64 ((p0.getD (Xaa .i64 (4 * v4.1)).toNat 0) - (p0.getD (Xaa .i64 ((Xaa .i64 (4 * v4.1)) + 2)).toNat 0))) + (Xaa .i64 (q9 - (p0.getD (Xaa .i64 ((Xaa .i64 (4 * v4.1)) + 3)).toNat 0)))), Xaa .i64 ((Xaa .i64 ((p0.getD (Xaa .i64 (4 * v4.1)).toNat 0) - (p0.getD (Xaa .i64 ((Xaa .i64 (4 * v4.1)) + 2)).toNat 0))) - (Xaa .i64 (q9 - (p0.getD (Xaa .i64 ((Xaa .i64 (4 * v4.1)) + 3)).toNat 0)))), Xaa .i64 ((Xaa .i64 ((p0.getD (Xaa .i64 (4 * v4.1)).toNat 0) + (p0.getD (Xaa .i64 ((Xaa .i64 (4 * v4.1)) + 2)).toNat 0))) - (Xaa .i64 ((p0.getD (Xaa .i64 ((Xaa .i64 (4 * v4.1)) + 1)).toNat 0) + q10)))]).length ≤ maxLen) <|
 some (.go (Xaa .i64 (v4.1 + 1), (v4.2 ++ ([Xaa .i64 ((Xaa .i64 ((p0.getD (Xaa .i64 (4 * v4.1)).toNat 0) + (p0.getD (Xaa .i64 ((Xaa .i64 (4 * v4.1)) + 2)).toNat 0))) + (Xaa .i64 ((p0.getD (Xaa .i64 ((Xaa .i64 (4 * v4.1)) + 1)).toNat 0) + q10))), Xaa .i64 ((Xaa .i64 ((p0.getD (Xaa .i64 (4 * v4.1)).toNat 0) - (p0.getD (Xaa .i64 ((Xaa .i64 (4 * v4.1)) + 2)).toNat 0))) + (Xaa .i64 (q9 - (p0.getD (Xaa .i64 ((Xaa .i64 (4 * v4.1)) + 3)).toNat 0)))), Xaa .i64 ((Xaa .i64 ((p0.getD (Xaa .i64 (4 * v4.1)).toNat 0) - (p0.getD (Xaa .i64 ((Xaa .i64 (4 * v4.1)) + 2)).toNat 0))) - (Xaa .i64 (q9 - (p0.getD (Xaa .i64 ((Xaa .i64 (4 * v4.1)) + 3)).toNat 0)))), Xaa .i64 ((Xaa .i64 ((p0.getD (Xaa .i64 (4 * v4.1)).toNat 0) + (p0.getD (Xaa .i64 ((Xaa .i64 (4 * v4.1)) + 2)).toNat 0))) - (Xaa .i64 ((p0.getD (Xaa .i64 ((Xaa .i64 (4 * v4.1)) + 1)).toNat 0) + q10)))]))))) (
 some (.done v4.2))
def Xf9 (p0 : (List Int)) : Option (List Int) :=
 bnd (loop (Xek p0) (0, ([] : List Int))) fun v8 =>
 some v8
def Xfp (p0 : (List Int)) (v2 : (Int × (List Int))) : Option (Lp (Int × (List Int)) (List Int)) :=
 sel (decide (v2.1 < 16)) (
 req ((4 : Int) ≠ 0) <|
 req ((4 : Int) ≠ 0) <|
 req (0 ≤ v2.1 ∧ v2.1 < p0.length) <|
 req (0 ≤ (Xaa .i64 ((Xaa .i64 ((v2.1.tmod 4) * 4)) + (Xaa .i64 (v2.1.tdiv 4)))) ∧ (Xaa .i64 ((Xaa .i64 ((v2.1.tmod 4) * 4)) + (Xaa .i64 (v2.1.tdiv 4)))) < v2.2.length) <|
 req ((Xaa .i64 ((Xaa .i64 ((v2.1.tmod 4) * 4)) + (Xaa .i64 (v2.1.tdiv 4)))).toNat < v2.2.length) <|
 some (.go (Xaa .i64 (v2.1 + 1), (v2.2.set ((Xaa .i64 ((Xaa .i64 ((v2.1.tmod 4) * 4)) + (Xaa .i64 (v2.1.tdiv 4)))).toNat) (p0.getD v2.1.toNat 0))))) (
 some (.done v2.2))
def Xd1 (p0 : (List Int)) : Option (List Int) :=
 req (0 ≤ (16 : Int) ∧ (16 : Int) ≤ (16 : Int) ∧ (16 : Int) * 8 ≤ 281474976710656) <|
 bnd (loop (Xfp p0) (0, (List.replicate (16 : Int).toNat (0 : Int)))) fun v4 =>
 some v4
def Xeg (v8 : (Int × (List Int))) : Option (Lp (Int × (List Int)) (List Int)) :=
 sel (decide (v8.1 < 16)) (
 req (0 ≤ v8.1 ∧ v8.1 < v8.2.length) <|
 req (v8.1.toNat < v8.2.length) <|
 bnd (Xd0 (Xaa .i64 ((v8.2.getD v8.1.toNat 0) + 32)) 64) fun q12 =>
 req (0 ≤ v8.1 ∧ v8.1 < v8.2.length) <|
 req (v8.1.toNat < v8.2.length) <|
 some (.go (Xaa .i64 (v8.1 + 1), (v8.2.set v8.1.toNat q12)))) (
 some (.done v8.2))
def Xib (p0 : (List Int)) : Option (List Int) :=
 bnd (Xbj p0 16 10000000) fun q1 =>
 sel (!q1) (
 some ([] : List Int)) (
 bnd (Xf9 p0) fun q2 =>
 bnd (Xd1 q2) fun q3 =>
 bnd (Xf9 q3) fun q4 =>
 bnd (Xd1 q4) fun q5 =>
 bnd (loop (Xeg) (0, q5)) fun v11 =>
 some v11)
def Xc2 (p1 : Xmb) (v8 : (Int × (List Int))) : Option (Lp (Int × (List Int)) (List Int)) :=
 sel (decide (v8.1 < 64)) (
 req (0 ≤ v8.1 ∧ v8.1 < v8.2.length) <|
 req (v8.1.toNat < v8.2.length) <|
 bnd (Xgn (v8.2.getD v8.1.toNat 0) p1.Qp) fun q12 =>
 req (0 ≤ v8.1 ∧ v8.1 < v8.2.length) <|
 req (v8.1.toNat < v8.2.length) <|
 some (.go (Xaa .i64 (v8.1 + 1), (v8.2.set v8.1.toNat q12)))) (
 some (.done v8.2))
def Xcr (p1 : Xmb) (v52 : (Int × (List Int))) : Option (Lp (Int × (List Int)) (List Int)) :=
 sel (decide (v52.1 < 16)) (
 req (0 ≤ v52.1 ∧ v52.1 < v52.2.length) <|
 req (v52.1.toNat < v52.2.length) <|
 bnd (Xgp (v52.2.getD v52.1.toNat 0) p1.Qp v52.1) fun q56 =>
 req (0 ≤ v52.1 ∧ v52.1 < v52.2.length) <|
 req (v52.1.toNat < v52.2.length) <|
 some (.go (Xaa .i64 (v52.1 + 1), (v52.2.set v52.1.toNat q56)))) (
 some (.done v52.2))
def Xcs (v31 : (Int × (List Int))) (q58 : (List Int)) (v60 : (Int × (List Int))) : Option (Lp (Int × (List Int)) (List Int)) :=
 sel (decide (v60.1 < 16)) (
 req ((2 : Int) ≠ 0) <|
 req ((4 : Int) ≠ 0) <|
 req ((2 : Int) ≠ 0) <|
 req ((4 : Int) ≠ 0) <|
 req (0 ≤ v60.1 ∧ v60.1 < q58.length) <|
 req (v60.1.toNat < q58.length) <|
 req (0 ≤ (Xaa .i64 ((Xaa .i64 ((Xaa .i64 (8 * (Xaa .i64 ((Xaa .i64 ((Xaa .i64 (v31.1.tdiv 2)) * 4)) + (Xaa .i64 (v60.1.tdiv 4)))))) + (Xaa .i64 ((v31.1.tmod 2) * 4)))) + (v60.1.tmod 4))) ∧ (Xaa .i64 ((Xaa .i64 ((Xaa .i64 (8 * (Xaa .i64 ((Xaa .i64 ((Xaa .i64 (v31.1.tdiv 2)) * 4)) + (Xaa .i64 (v60.1.tdiv 4)))))) + (Xaa .i64 ((v31.1.tmod 2) * 4)))) + (v60.1.tmod 4))) < v60.2.length) <|
 req ((Xaa .i64 ((Xaa .i64 ((Xaa .i64 (8 * (Xaa .i64 ((Xaa .i64 ((Xaa .i64 (v31.1.tdiv 2)) * 4)) + (Xaa .i64 (v60.1.tdiv 4)))))) + (Xaa .i64 ((v31.1.tmod 2) * 4)))) + (v60.1.tmod 4))).toNat < v60.2.length) <|
 some (.go (Xaa .i64 (v60.1 + 1), (v60.2.set ((Xaa .i64 ((Xaa .i64 ((Xaa .i64 (8 * (Xaa .i64 ((Xaa .i64 ((Xaa .i64 (v31.1.tdiv 2)) * 4)) + (Xaa .i64 (v60.1.tdiv 4)))))) + (Xaa .i64 ((v31.1.tmod 2) * 4)))) + (v60.1.tmod 4))).toNat) (q58.getD v60.1.toNat 0))))) (
 some (.done v60.2))
def Xcq (p0 : (List Int)) (p1 : Xmb) (v31 : (Int × (List Int))) : Option (Lp (Int × (List Int)) (List Int)) :=
 sel (decide (v31.1 < 4)) (
 req (0 ≤ (Xaa .i64 (16 * v31.1)) ∧ (Xaa .i64 (16 * v31.1)) ≤ (Xaa .i64 ((Xaa .i64 (16 * v31.1)) + 16)) ∧ (Xaa .i64 ((Xaa .i64 (16 * v31.1)) + 16)) ≤ (p0.length : Int)) <|
 bnd (Xda 4 ((p0.drop (Xaa .i64 (16 * v31.1)).toNat).take ((Xaa .i64 ((Xaa .i64 (16 * v31.1)) + 16)).toNat - (Xaa .i64 (16 * v31.1)).toNat))) fun q49 =>
 bnd (loop (Xcr p1) (0, q49.1)) fun v55 =>
 bnd (Xib v55) fun q58 =>
 bnd (loop (Xcs v31 q58) (0, v31.2)) fun v62 =>
 some (.go (Xaa .i64 (v31.1 + 1), v62))) (
 some (.done v31.2))
def Xdk (p0 : (List Int)) (p1 : Xmb) : Option ((List Int) × Bool) :=
 bnd (
 bnd (Xd8 p1) fun q2 =>
 sel q2 (
 bnd (Xbj p0 64 5000) fun q3 =>
 some (!q3)) (
 some true)) fun v1 =>
 sel v1 (
 some (([] : List Int), false)) (
 sel p1.Exact (
 bnd (Xda 8 p0) fun q4 =>
 some (q4.1, q4.2)) (
 sel p1.Large (
 bnd (Xda 8 p0) fun q5 =>
 bnd (loop (Xc2 p1) (0, q5.1)) fun v11 =>
 bnd (Xgl v11) fun q14 =>
 some (q14, true)) (
 req (0 ≤ (64 : Int) ∧ (64 : Int) ≤ (64 : Int) ∧ (64 : Int) * 8 ≤ 281474976710656) <|
 bnd (loop (Xcq p0 p1) (0, (List.replicate (64 : Int).toNat (0 : Int)))) fun v48 =>
 some (v48, true))))
def Xfu (p0 : (List Int)) (v4 : Int) : Option (Lp Int (Ou Unit Bool)) :=
 sel (decide (v4 < (p0.length : Int))) (
 req (0 ≤ v4 ∧ v4 < p0.length) <|
 bnd (Xak (p0.getD v4.toNat 0) 0 255) fun q8 =>
 sel (!q8) (
 some (.done (.ret false))) (
 some (.go (Xaa .i64 (v4 + 1))))) (
 some (.done (.out ())))
def Xhu (p0 : (List Int)) : Option Bool :=
 bnd (
 sel ((p0.length : Int) != 0) (
 some ((p0.length : Int) != 8)) (
 some false)) fun v1 =>
 sel v1 (
 some false) (
 bnd (loop (Xfu p0) 0) fun o9 => match o9 with
| .out v7 => (
 some true)
| .ret r => some r)
def Xhm (p0 : Xnv) : Option Bool :=
 bnd (
 bnd (Xhu p0.Above) fun q2 =>
 sel q2 (
 bnd (Xhu p0.Left) fun q3 =>
 sel q3 (
 bnd (Xak p0.Corner (-1) 255) fun q4 =>
 some q4) (
 some false)) (
 some false)) fun v1 =>
 some v1
def Xet (p0 : (List Int)) (p1 : Int) : Option Int :=
 sel ((p0.length : Int) == 0) (
 some 128) (
 req (0 ≤ p1 ∧ p1 < p0.length) <|
 some (p0.getD p1.toNat 0))
def Xgw (p0 : Xnv) (v2 : (Int × Int)) : Option (Lp (Int × Int) Int) :=
 sel (decide (v2.2 < (p0.Above.length : Int))) (
 req (0 ≤ v2.2 ∧ v2.2 < p0.Above.length) <|
 some (.go (Xaa .i64 (v2.1 + (p0.Above.getD v2.2.toNat 0)), Xaa .i64 (v2.2 + 1)))) (
 some (.done v2.1))
def Xgx (p0 : Xnv) (v7 : (Int × Int)) : Option (Lp (Int × Int) Int) :=
 sel (decide (v7.2 < (p0.Left.length : Int))) (
 req (0 ≤ v7.2 ∧ v7.2 < p0.Left.length) <|
 some (.go (Xaa .i64 (v7.1 + (p0.Left.getD v7.2.toNat 0)), Xaa .i64 (v7.2 + 1)))) (
 some (.done v7.1))
def Xlh (p0 : Xnv) : Option Int :=
 sel ((Xaa .i64 ((p0.Above.length : Int) + (p0.Left.length : Int))) == 0) (
 some 128) (
 req ((2 : Int) ≠ 0) <|
 bnd (loop (Xgw p0) (Xaa .i64 ((Xaa .i64 ((p0.Above.length : Int) + (p0.Left.length : Int))).tdiv 2), 0)) fun v4 =>
 bnd (loop (Xgx p0) (v4, 0)) fun v9 =>
 req ((Xaa .i64 ((p0.Above.length : Int) + (p0.Left.length : Int))) ≠ 0) <|
 some (Xaa .i64 (v9.tdiv (Xaa .i64 ((p0.Above.length : Int) + (p0.Left.length : Int))))))
def Xfe (p0 : Int) (p1 : Xnv) (v4 : Int) (v11 : (Int × (List Int))) : Option (Lp (Int × (List Int)) (List Int)) :=
 sel (decide (v11.1 < 64)) (
 bnd (
 req ((8 : Int) ≠ 0) <|
 bnd (Xet p1.Above (v11.1.tmod 8)) fun q20 =>
 req ((8 : Int) ≠ 0) <|
 bnd (Xet p1.Left (Xaa .i64 (v11.1.tdiv 8))) fun q21 =>
 sel (p0 == 0) (
 bnd (Xlh p1) fun q22 =>
 req ((v11.2.length + ([q22]).length) * 8 ≤ 140737488355328 ∧ v11.2.length + ([q22]).length ≤ maxLen) <|
 some (v11.2 ++ ([q22]))) (
 sel (p0 == 1) (
 req ((v11.2.length + ([q20]).length) * 8 ≤ 140737488355328 ∧ v11.2.length + ([q20]).length ≤ maxLen) <|
 some (v11.2 ++ ([q20]))) (
 sel (p0 == 2) (
 req ((v11.2.length + ([q21]).length) * 8 ≤ 140737488355328 ∧ v11.2.length + ([q21]).length ≤ maxLen) <|
 some (v11.2 ++ ([q21]))) (
 bnd (Xbp (Xaa .i64 ((Xaa .i64 (q21 + q20)) - v4)) 0 255) fun q23 =>
 req ((v11.2.length + ([q23]).length) * 8 ≤ 140737488355328 ∧ v11.2.length + ([q23]).length ≤ maxLen) <|
 some (v11.2 ++ ([q23])))))) fun v19 =>
 some (.go (Xaa .i64 (v11.1 + 1), v19))) (
 some (.done v11.2))
def Xfd (p0 : Int) (p1 : Xnv) : Option (List Int) :=
 bnd (
 bnd (Xhm p1) fun q2 =>
 sel q2 (
 bnd (Xak p0 0 3) fun q3 =>
 some (!q3)) (
 some true)) fun v1 =>
 sel v1 (
 some ([] : List Int)) (
 bnd (
 sel (decide (p1.Corner < 0)) (
 some 128) (
 some p1.Corner)) fun v4 =>
 bnd (loop (Xfe p0 p1 v4) (0, ([] : List Int))) fun v18 =>
 some v18)
def Xft (p0 : (List Int)) (v3 : Int) : Option (Lp Int (Ou Unit Bool)) :=
 sel (decide (v3 < 64)) (
 req (0 ≤ v3 ∧ v3 < p0.length) <|
 bnd (Xak (p0.getD v3.toNat 0) 0 255) fun q7 =>
 sel (!q7) (
 some (.done (.ret false))) (
 some (.go (Xaa .i64 (v3 + 1))))) (
 some (.done (.out ())))
def Xd2 (p0 : (List Int)) : Option Bool :=
 sel ((p0.length : Int) != 64) (
 some false) (
 bnd (loop (Xft p0) 0) fun o8 => match o8 with
| .out v6 => (
 some true)
| .ret r => some r)
def Xgm (p0 : (List Int)) (p1 : (List Int)) (v6 : (Int × (List Int))) : Option (Lp (Int × (List Int)) (List Int)) :=
 sel (decide (v6.1 < 64)) (
 req (0 ≤ v6.1 ∧ v6.1 < p0.length) <|
 req (0 ≤ v6.1 ∧ v6.1 < p1.length) <|
 bnd (Xbp (Xaa .i64 ((p0.getD v6.1.toNat 0) + (p1.getD v6.1.toNat 0))) 0 255) fun q10 =>
 req ((v6.2.length + ([q10]).length) * 8 ≤ 140737488355328 ∧ v6.2.length + ([q10]).length ≤ maxLen) <|
 some (.go (Xaa .i64 (v6.1 + 1), (v6.2 ++ ([q10]))))) (
 some (.done v6.2))
def Xi5 (p0 : (List Int)) (p1 : (List Int)) : Option (List Int) :=
 bnd (
 bnd (Xd2 p0) fun q2 =>
 sel q2 (
 bnd (Xbj p1 64 10000000) fun q3 =>
 some (!q3)) (
 some true)) fun v1 =>
 sel v1 (
 some ([] : List Int)) (
 bnd (loop (Xgm p0 p1) (0, ([] : List Int))) fun v9 =>
 some v9)
def Xfa (p0 : Pic) (p1 : Int) (p2 : Int) (v7 : (Int × (List Int))) : Option (Lp (Int × (List Int)) (List Int)) :=
 sel (decide (v7.1 < 64)) (
 req ((8 : Int) ≠ 0) <|
 req ((8 : Int) ≠ 0) <|
 bnd (Xdh p0 (Xaa .i64 (p1 + (v7.1.tmod 8))) (Xaa .i64 (p2 + (Xaa .i64 (v7.1.tdiv 8))))) fun q11 =>
 req ((v7.2.length + ([q11]).length) * 8 ≤ 140737488355328 ∧ v7.2.length + ([q11]).length ≤ maxLen) <|
 some (.go (Xaa .i64 (v7.1 + 1), (v7.2 ++ ([q11]))))) (
 some (.done v7.2))
def Xc1 (p0 : Pic) (p1 : Int) (p2 : Int) : Option (List Int) :=
 bnd (
 bnd (Xcj p0) fun q2 =>
 sel q2 (
 bnd (Xak p1 (-1000) 1000) fun q3 =>
 sel q3 (
 bnd (Xak p2 (-1000) 1000) fun q4 =>
 some (!q4)) (
 some true)) (
 some true)) fun v1 =>
 sel v1 (
 some ([] : List Int)) (
 bnd (loop (Xfa p0 p1 p2) (0, ([] : List Int))) fun v10 =>
 some v10)
def Xfk (p0 : Pic) (p1 : Pic) (p2 : Int) (p3 : Int) (p4 : Xmb) (p5 : Int) (p6 : Int) (p7 : Xbc) : Option ((List Int) × Bool) :=
 bnd (
 bnd (Xd3 p0 p5 p6) fun q2 =>
 sel q2 (
 bnd (Xak p2 0 256) fun q3 =>
 sel q3 (
 bnd (Xak p3 0 256) fun q4 =>
 sel q4 (
 bnd (Xig p7) fun q5 =>
 sel q5 (
 bnd (Xd8 p4) fun q6 =>
 some (!q6)) (
 some true)) (
 some true)) (
 some true)) (
 some true)) fun v1 =>
 sel v1 (
 some (([] : List Int), false)) (
 sel (p7.Kind == 2) (
 bnd (Xhl p0 p5 p6) fun q7 =>
 bnd (Xdk p7.Levels p4) fun q8 =>
 bnd (Xfd p7.Mode q7.1) fun q9 =>
 bnd (Xi5 q9 q8.1) fun q10 =>
 some (q10, true)) (
 bnd (
 sel p4.Key (
 some true) (
 bnd (Xcj p1) fun q12 =>
 some (!q12))) fun v11 =>
 sel v11 (
 some (([] : List Int), false)) (
 bnd (Xc1 p1 (Xaa .i64 ((Xaa .i64 (p2 + p5)) + p7.Dx)) (Xaa .i64 ((Xaa .i64 (p3 + p6)) + p7.Dy))) fun q13 =>
 sel (p7.Kind == 0) (
 some (q13, true)) (
 bnd (Xdk p7.Levels p4) fun q14 =>
 bnd (Xi5 q13 q14.1) fun q15 =>
 some (q15, true)))))
def Xgy (p0 : Pic) (p1 : Int) (p2 : Int) (p3 : (List Int)) (v2 : (Int × (List Int))) : Option (Lp (Int × (List Int)) (List Int)) :=
 sel (decide (v2.1 < 64)) (
 req ((8 : Int) ≠ 0) <|
 req ((8 : Int) ≠ 0) <|
 req (0 ≤ v2.1 ∧ v2.1 < p3.length) <|
 req (0 ≤ (Xaa .i64 ((Xaa .i64 ((Xaa .i64 ((Xaa .i64 (p2 + (Xaa .i64 (v2.1.tdiv 8)))) * p0.Wide)) + p1)) + (v2.1.tmod 8))) ∧ (Xaa .i64 ((Xaa .i64 ((Xaa .i64 ((Xaa .i64 (p2 + (Xaa .i64 (v2.1.tdiv 8)))) * p0.Wide)) + p1)) + (v2.1.tmod 8))) < v2.2.length) <|
 req ((Xaa .i64 ((Xaa .i64 ((Xaa .i64 ((Xaa .i64 (p2 + (Xaa .i64 (v2.1.tdiv 8)))) * p0.Wide)) + p1)) + (v2.1.tmod 8))).toNat < v2.2.length) <|
 some (.go (Xaa .i64 (v2.1 + 1), (v2.2.set ((Xaa .i64 ((Xaa .i64 ((Xaa .i64 ((Xaa .i64 (p2 + (Xaa .i64 (v2.1.tdiv 8)))) * p0.Wide)) + p1)) + (v2.1.tmod 8))).toNat) (Xaa .u8 ((p3.getD v2.1.toNat 0))))))) (
 some (.done v2.2))
def Xlj (p0 : Pic) (p1 : Int) (p2 : Int) (p3 : (List Int)) : Option Pic :=
 req (p0.Dots.size ≤ maxLen) <|
 bnd (loop (Xgy p0 p1 p2 p3) (0, (Xbq p0.Dots))) fun v4 =>
 some (⟨p0.Wide, p0.High, (strOfNums v4)⟩ : Pic)
def Xcm (p0 : Int) (p1 : Int) (p2 : Int) : Option Bool :=
 bnd (
 sel (decide (p0 ≥ p1)) (
 some (decide (p0 ≤ p2))) (
 some false)) fun v1 =>
 some v1
def Xfy (p0 : Pic) (p1 : Pic) : Option Bool :=
 bnd (
 bnd (Xcj p0) fun q2 =>
 sel q2 (
 bnd (Xcj p1) fun q3 =>
 sel q3 (
 sel (p0.Wide == p1.Wide) (
 some (p0.High == p1.High)) (
 some false)) (
 some false)) (
 some false)) fun v1 =>
 some v1
def Xfx (p0 : (List Int)) (p1 : (List Int)) (v2 : (Int × (List Int))) : Option (Lp (Int × (List Int)) (List Int)) :=
 sel (decide (v2.1 < 64)) (
 req (0 ≤ v2.1 ∧ v2.1 < p0.length) <|
 req (0 ≤ v2.1 ∧ v2.1 < p1.length) <|
 req ((v2.2.length + ([Xaa .i64 ((p0.getD v2.1.toNat 0) - (p1.getD v2.1.toNat 0))]).length) * 8 ≤ 140737488355328 ∧ v2.2.length + ([Xaa .i64 ((p0.getD v2.1.toNat 0) - (p1.getD v2.1.toNat 0))]).length ≤ maxLen) <|
 some (.go (Xaa .i64 (v2.1 + 1), (v2.2 ++ ([Xaa .i64 ((p0.getD v2.1.toNat 0) - (p1.getD v2.1.toNat 0))]))))) (
 some (.done v2.2))
def Xfw (p0 : (List Int)) (p1 : (List Int)) : Option (List Int) :=
 bnd (loop (Xfx p0 p1) (0, ([] : List Int))) fun v4 =>
 some v4
def Xdy (p0 : (List Int)) (v2 : Int) : Option (Lp Int (Ou Unit Bool)) :=
 sel (decide (v2 < (p0.length : Int))) (
 req (0 ≤ v2 ∧ v2 < p0.length) <|
 sel ((p0.getD v2.toNat 0) != 0) (
 some (.done (.ret false))) (
 some (.go (Xaa .i64 (v2 + 1))))) (
 some (.done (.out ())))
def Xhw (p0 : (List Int)) : Option Bool :=
 bnd (loop (Xdy p0) 0) fun o5 => match o5 with
| .out v4 => (
 some true)
| .ret r => some r
def Xd9 (p0 : Int) : Option Int :=
 sel (decide (p0 < 0)) (
 some (Xaa .i64 (0 - p0))) (
 some p0)
def Xic (p0 : (List Int)) (p1 : (List Int)) (v6 : (Int × Int)) : Option (Lp (Int × Int) Int) :=
 sel (decide (v6.2 < 64)) (
 req (0 ≤ v6.2 ∧ v6.2 < p0.length) <|
 req (0 ≤ v6.2 ∧ v6.2 < p1.length) <|
 bnd (Xd9 (Xaa .i64 ((p0.getD v6.2.toNat 0) - (p1.getD v6.2.toNat 0)))) fun q10 =>
 some (.go (Xaa .i64 (v6.1 + q10), Xaa .i64 (v6.2 + 1)))) (
 some (.done v6.1))
def Xkv (p0 : (List Int)) (p1 : (List Int)) : Option Int :=
 bnd (
 bnd (Xbj p0 64 1000) fun q2 =>
 sel q2 (
 bnd (Xbj p1 64 1000) fun q3 =>
 some (!q3)) (
 some true)) fun v1 =>
 sel v1 (
 some (-1)) (
 bnd (loop (Xic p0 p1) (0, 0)) fun v9 =>
 some v9)
def Xf8 (v2 : (Int × ByteArray)) : Option (Lp (Int × ByteArray) ByteArray) :=
 sel (decide (v2.1 > 0)) (
 req ((2 : Int) ≠ 0) <|
 req ((strOfNums ([Xaa .u8 (Xaa .i64 (48 + (v2.1.tmod 2)))])).size + v2.2.size ≤ 9223372036854775807) <|
 req ((2 : Int) ≠ 0) <|
 some (.go (Xaa .i64 (v2.1.tdiv 2), ((strOfNums ([Xaa .u8 (Xaa .i64 (48 + (v2.1.tmod 2)))])) ++ v2.2)))) (
 some (.done v2.2))
def Xb0 (p0 : Int) : Option ByteArray :=
 bnd (loop (Xf8) (Xaa .i64 (p0 + 1), ⟨#[]⟩)) fun v4 =>
 bnd (Xho (Xaa .i64 ((v4.size : Int) - 1)) 48) fun q6 =>
 req (q6.size + v4.size ≤ 9223372036854775807) <|
 some (q6 ++ v4)
def Xpk (p0 : Int) : Option (ByteArray × Bool) :=
 bnd (Xak p0 0 1000000) fun q1 =>
 sel (!q1) (
 some (⟨#[]⟩, false)) (
 bnd (Xb0 p0) fun q2 =>
 some (q2, true))
def Xla (p0 : Int) : Option Int :=
 bnd (Xpk p0) fun q1 =>
 some (q1.1.size : Int)
def Xf3 (p0 : (List Int)) (p1 : Xnv) (v16 : (Int × Int × Int)) : Option (Lp (Int × Int × Int) (Int × Int)) :=
 sel (decide (v16.2.2 < 4)) (
 bnd (
 bnd (Xfd v16.2.2 p1) fun q25 =>
 bnd (Xkv p0 q25) fun q26 =>
 bnd (Xla v16.2.2) fun q27 =>
 bnd (
 sel (decide (v16.2.1 < 0)) (
 some true) (
 some (decide ((Xaa .i64 (q26 + q27)) < v16.2.1)))) fun v28 =>
 sel v28 (
 some (v16.2.2, Xaa .i64 (q26 + q27))) (
 some (v16.1, v16.2.1))) fun v24 =>
 some (.go (v24.1, v24.2, Xaa .i64 (v16.2.2 + 1)))) (
 some (.done (v16.1, v16.2.1)))
def Xgi (p0 : (List Int)) (p1 : Xnv) : Option (Int × Int) :=
 bnd (
 bnd (Xhm p1) fun q2 =>
 sel q2 (
 bnd (Xd2 p0) fun q3 =>
 some (!q3)) (
 some true)) fun v1 =>
 sel v1 (
 some (0, (-1))) (
 bnd (loop (Xf3 p0 p1) (0, (-1), 0)) fun v23 =>
 some (v23.1, v23.2))
def Xk0 (p0 : Int) : Option (Int × Bool) :=
 bnd (Xak p0 (-500000) 500000) fun q1 =>
 sel (!q1) (
 some (0, false)) (
 sel (decide (p0 > 0)) (
 some (Xaa .i64 ((Xaa .i64 (2 * p0)) - 1), true)) (
 some (Xaa .i64 ((-2) * p0), true)))
def Xf7 (p0 : Int) : Option ByteArray :=
 bnd (Xk0 p0) fun q1 =>
 bnd (Xb0 q1.1) fun q2 =>
 some q2
def Xpj (p0 : Int) : Option (ByteArray × Bool) :=
 bnd (Xak p0 (-500000) 500000) fun q1 =>
 sel (!q1) (
 some (⟨#[]⟩, false)) (
 bnd (Xf7 p0) fun q2 =>
 some (q2, true))
def Xi8 (p0 : Int) : Option Int :=
 bnd (Xpj p0) fun q1 =>
 some (q1.1.size : Int)
def Xf5 (p0 : Pic) (p1 : (List Int)) (p2 : Int) (p3 : Int) (p4 : Int) (v32 : (Int × Int × Int × Int)) (v69 : (Int × Int × Int × Int)) : Option (Lp (Int × Int × Int × Int) (Int × Int × Int)) :=
 sel (decide (v69.2.2.2 ≤ p4)) (
 bnd (
 bnd (Xes p0 (Xaa .i64 (p2 + v69.2.2.2)) (Xaa .i64 (p3 + v32.2.2.2)) 8 8) fun q80 =>
 sel (!q80) (
 some (v69.1, v69.2.1, v69.2.2.1)) (
 bnd (Xc1 p0 (Xaa .i64 (p2 + v69.2.2.2)) (Xaa .i64 (p3 + v32.2.2.2))) fun q81 =>
 bnd (Xkv p1 q81) fun q82 =>
 bnd (Xi8 v69.2.2.2) fun q83 =>
 bnd (Xi8 v32.2.2.2) fun q84 =>
 bnd (
 sel (decide (v69.2.2.1 < 0)) (
 some true) (
 some (decide ((Xaa .i64 ((Xaa .i64 (q82 + q83)) + q84)) < v69.2.2.1)))) fun v85 =>
 sel v85 (
 some (v69.2.2.2, v32.2.2.2, Xaa .i64 ((Xaa .i64 (q82 + q83)) + q84))) (
 some (v69.1, v69.2.1, v69.2.2.1)))) fun v79 =>
 some (.go (v79.1, v79.2.1, v79.2.2, Xaa .i64 (v69.2.2.2 + 1)))) (
 some (.done (v69.1, v69.2.1, v69.2.2.1)))
def Xf4 (p0 : Pic) (p1 : (List Int)) (p2 : Int) (p3 : Int) (p4 : Int) (v32 : (Int × Int × Int × Int)) : Option (Lp (Int × Int × Int × Int) (Int × Int × Int)) :=
 sel (decide (v32.2.2.2 ≤ p4)) (
 bnd (loop (Xf5 p0 p1 p2 p3 p4 v32) (v32.1, v32.2.1, v32.2.2.1, Xaa .i64 (0 - p4))) fun v78 =>
 some (.go (v78.1, v78.2.1, v78.2.2, Xaa .i64 (v32.2.2.2 + 1)))) (
 some (.done (v32.1, v32.2.1, v32.2.2.1)))
def Xh8 (p0 : Pic) (p1 : (List Int)) (p2 : Int) (p3 : Int) (p4 : Int) : Option (Int × Int × Int) :=
 bnd (
 bnd (Xd2 p1) fun q2 =>
 sel q2 (
 bnd (Xak p4 0 4) fun q3 =>
 sel q3 (
 bnd (Xd3 p0 p2 p3) fun q4 =>
 some (!q4)) (
 some true)) (
 some true)) fun v1 =>
 sel v1 (
 some (0, 0, (-1))) (
 bnd (loop (Xf4 p0 p1 p2 p3 p4) (0, 0, (-1), Xaa .i64 (0 - p4))) fun v60 =>
 some (v60.1, v60.2.1, v60.2.2))
def Xfh (p0 : Int) (p1 : (List Int)) (v4 : (Int × (List Int))) : Option (Lp (Int × (List Int)) (List Int)) :=
 sel (decide (v4.1 < (Xaa .i64 (p0 * p0)))) (
 bnd (Xi7 p0 v4.1) fun q8 =>
 req (0 ≤ q8 ∧ q8 < p1.length) <|
 req ((v4.2.length + ([(p1.getD q8.toNat 0)]).length) * 8 ≤ 140737488355328 ∧ v4.2.length + ([(p1.getD q8.toNat 0)]).length ≤ maxLen) <|
 some (.go (Xaa .i64 (v4.1 + 1), (v4.2 ++ ([(p1.getD q8.toNat 0)]))))) (
 some (.done v4.2))
def Xfg (p0 : Int) (p1 : (List Int)) : Option ((List Int) × Bool) :=
 bnd (
 sel (p0 != 4) (
 sel (p0 != 8) (
 some true) (
 some ((p1.length : Int) != (Xaa .i64 (p0 * p0))))) (
 some ((p1.length : Int) != (Xaa .i64 (p0 * p0))))) fun v1 =>
 sel v1 (
 some (([] : List Int), false)) (
 bnd (loop (Xfh p0 p1) (0, ([] : List Int))) fun v7 =>
 some (v7, true))
def Xmn (p0 : (List Int)) : Option (List Int) :=
 bnd (Xbj p0 64 1000) fun q1 =>
 sel (!q1) (
 some ([] : List Int)) (
 bnd (Xht p0) fun q2 =>
 some q2)
def Xer (p0 : Int) (p1 : Int) : Option Int :=
 sel (decide (p0 < 0)) (
 some (Xaa .i64 (0 - p1))) (
 some p1)
def Xff (p0 : Int) (p1 : Int) : Option Int :=
 bnd (
 bnd (Xak p0 (-20000) 20000) fun q2 =>
 sel q2 (
 bnd (Xak p1 0 40) fun q3 =>
 some (!q3)) (
 some true)) fun v1 =>
 sel v1 (
 some 0) (
 bnd (Xjb p1) fun q4 =>
 bnd (Xd9 p0) fun q5 =>
 req ((2 : Int) ≠ 0) <|
 req (q4 ≠ 0) <|
 bnd (Xer p0 (Xaa .i64 ((Xaa .i64 (q5 + (Xaa .i64 (q4.tdiv 2)))).tdiv q4))) fun q6 =>
 some q6)
def Xc6 (p0 : (List Int)) (p1 : Int) (v2 : (Int × (List Int))) : Option (Lp (Int × (List Int)) (List Int)) :=
 sel (decide (v2.1 < 16)) (
 req ((2 : Int) ≠ 0) <|
 req ((4 : Int) ≠ 0) <|
 req ((2 : Int) ≠ 0) <|
 req ((4 : Int) ≠ 0) <|
 req (0 ≤ (Xaa .i64 ((Xaa .i64 ((Xaa .i64 (8 * (Xaa .i64 ((Xaa .i64 ((Xaa .i64 (p1.tdiv 2)) * 4)) + (Xaa .i64 (v2.1.tdiv 4)))))) + (Xaa .i64 ((p1.tmod 2) * 4)))) + (v2.1.tmod 4))) ∧ (Xaa .i64 ((Xaa .i64 ((Xaa .i64 (8 * (Xaa .i64 ((Xaa .i64 ((Xaa .i64 (p1.tdiv 2)) * 4)) + (Xaa .i64 (v2.1.tdiv 4)))))) + (Xaa .i64 ((p1.tmod 2) * 4)))) + (v2.1.tmod 4))) < p0.length) <|
 req ((v2.2.length + ([(p0.getD (Xaa .i64 ((Xaa .i64 ((Xaa .i64 (8 * (Xaa .i64 ((Xaa .i64 ((Xaa .i64 (p1.tdiv 2)) * 4)) + (Xaa .i64 (v2.1.tdiv 4)))))) + (Xaa .i64 ((p1.tmod 2) * 4)))) + (v2.1.tmod 4))).toNat 0)]).length) * 8 ≤ 140737488355328 ∧ v2.2.length + ([(p0.getD (Xaa .i64 ((Xaa .i64 ((Xaa .i64 (8 * (Xaa .i64 ((Xaa .i64 ((Xaa .i64 (p1.tdiv 2)) * 4)) + (Xaa .i64 (v2.1.tdiv 4)))))) + (Xaa .i64 ((p1.tmod 2) * 4)))) + (v2.1.tmod 4))).toNat 0)]).length ≤ maxLen) <|
 some (.go (Xaa .i64 (v2.1 + 1), (v2.2 ++ ([(p0.getD (Xaa .i64 ((Xaa .i64 ((Xaa .i64 (8 * (Xaa .i64 ((Xaa .i64 ((Xaa .i64 (p1.tdiv 2)) * 4)) + (Xaa .i64 (v2.1.tdiv 4)))))) + (Xaa .i64 ((p1.tmod 2) * 4)))) + (v2.1.tmod 4))).toNat 0)]))))) (
 some (.done v2.2))
def Xfv (p0 : (List Int)) (p1 : Int) : Option (List Int) :=
 bnd (loop (Xc6 p0 p1) (0, ([] : List Int))) fun v4 =>
 some v4
def Xfq (p0 : (List Int)) (v2 : (Int × (List Int))) : Option (Lp (Int × (List Int)) (List Int)) :=
 sel (decide (v2.1 < 4)) (
 req (0 ≤ (Xaa .i64 (4 * v2.1)) ∧ (Xaa .i64 (4 * v2.1)) < p0.length) <|
 req (0 ≤ (Xaa .i64 ((Xaa .i64 (4 * v2.1)) + 1)) ∧ (Xaa .i64 ((Xaa .i64 (4 * v2.1)) + 1)) < p0.length) <|
 req (0 ≤ (Xaa .i64 ((Xaa .i64 (4 * v2.1)) + 2)) ∧ (Xaa .i64 ((Xaa .i64 (4 * v2.1)) + 2)) < p0.length) <|
 req (0 ≤ (Xaa .i64 ((Xaa .i64 (4 * v2.1)) + 3)) ∧ (Xaa .i64 ((Xaa .i64 (4 * v2.1)) + 3)) < p0.length) <|
 req ((v2.2.length + ([Xaa .i64 ((Xaa .i64 ((Xaa .i64 ((p0.getD (Xaa .i64 (4 * v2.1)).toNat 0) + (p0.getD (Xaa .i64 ((Xaa .i64 (4 * v2.1)) + 1)).toNat 0))) + (p0.getD (Xaa .i64 ((Xaa .i64 (4 * v2.1)) + 2)).toNat 0))) + (p0.getD (Xaa .i64 ((Xaa .i64 (4 * v2.1)) + 3)).toNat 0)), Xaa .i64 ((Xaa .i64 ((Xaa .i64 ((Xaa .i64 (2 * (p0.getD (Xaa .i64 (4 * v2.1)).toNat 0))) + (p0.getD (Xaa .i64 ((Xaa .i64 (4 * v2.1)) + 1)).toNat 0))) - (p0.getD (Xaa .i64 ((Xaa .i64 (4 * v2.1)) + 2)).toNat 0))) - (Xaa .i64 (2 * (p0.getD (Xaa .i64 ((Xaa .i64 (4 * v2.1)) + 3)).toNat 0)))), Xaa .i64 ((Xaa .i64 ((Xaa .i64 ((p0.getD (Xaa .i64 (4 * v2.1)).toNat 0) - (p0.getD (Xaa .i64 ((Xaa .i64 (4 * v2.1)) + 1)).toNat 0))) - (p0.getD (Xaa .i64 ((Xaa .i64 (4 * v2.1)) + 2)).toNat 0))) + (p0.getD (Xaa .i64 ((Xaa .i64 (4 * v2.1)) + 3)).toNat 0)), Xaa .i64 ((Xaa .i64 ((Xaa .i64 ((p0.getD (Xaa .i64 (4 * v2.1)).toNat 0) - (Xaa .i64 (2 * (p0.getD (Xaa .i64 ((Xaa .i64 (4 * v2.1)) + 1)).toNat 0))))) + (Xaa .i64 (2 * (p0.getD (Xaa .i64 ((Xaa .i64 (4 * v2.1)) + 2)).toNat 0))))) - (p0.getD (Xaa .i64 ((Xaa .i64 (4 * v2.1)) + 3)).toNat 0))]).length) * 8 ≤ 140737488355328 ∧ v2.2.length + ([Xaa .i64 ((Xaa .i64 ((Xaa .i64 ((p0.getD (Xaa .i64 (4 * v2.1)).toNat 0) + (p0.getD (Xaa .i64 ((Xaa .i64 (4 * v2.1)) + 1)).toNat 0))) + (p0.getD (Xaa .i64 ((Xaa .i64 (4 * v2.1)) + 2)).toNat 0))) + (p0.getD (Xaa .i64 ((Xaa .i64 (4 * v2.1)) + 3)).toNat 0)), Xaa .i64 ((Xaa .i64 ((Xaa .i64 ((Xaa .i64 (2 * (p0.getD (Xaa .i64 (4 * v2.1)).toNat 0))) + (p0.getD (Xaa .i64 ((Xaa .i64 (4 * v2.1)) + 1)).toNat 0))) - (p0.getD (Xaa .i64 ((Xaa .i64 (4 * v2.1)) + 2)).toNat 0))) - (Xaa .i64 (2 * (p0.getD (Xaa .i64 ((Xaa .i64 (4 * v2.1)) + 3)).toNat 0)))), Xaa .i64 ((Xaa .i64 ((Xaa .i64 ((p0.getD (Xaa .i64 (4 * v2.1)).toNat 0) - (p0.getD (Xaa .i64 ((Xaa .i64 (4 * v2.1)) + 1)).toNat 0))) - (p0.getD (Xaa .i64 ((Xaa .i64 (4 * v2.1)) + 2)).toNat 0))) + (p0.getD (Xaa .i64 ((Xaa .i64 (4 * v2.1)) + 3)).toNat 0)), Xaa .i64 ((Xaa .i64 ((Xaa .i64 ((p0.getD (Xaa .i64 (4 * v2.1)).toNat 0) - (Xaa .i64 (2 * (p0.getD (Xaa .i64 ((Xaa .i64 (4 * v2.1)) + 1)).toNat 0))))) + (Xaa .i64 (2 * (p0.getD (Xaa .i64 ((Xaa .i64 (4 * v2.1)) + 2)).toNat 0))))) - (p0.getD (Xaa .i64 ((Xaa .i64 (4 * v2.1)) + 3)).toNat 0))]).length ≤ maxLen) <|
 some (.go (Xaa .i64 (v2.1 + 1), (v2.2 ++ ([Xaa .i64 ((Xaa .i64 ((Xaa .i64 ((p0.getD (Xaa .i64 (4 * v2.1)).toNat 0) + (p0.getD (Xaa .i64 ((Xaa .i64 (4 * v2.1)) + 1)).toNat 0))) + (p0.getD (Xaa .i64 ((Xaa .i64 (4 * v2.1)) + 2)).toNat 0))) + (p0.getD (Xaa .i64 ((Xaa .i64 (4 * v2.1)) + 3)).toNat 0)), Xaa .i64 ((Xaa .i64 ((Xaa .i64 ((Xaa .i64 (2 * (p0.getD (Xaa .i64 (4 * v2.1)).toNat 0))) + (p0.getD (Xaa .i64 ((Xaa .i64 (4 * v2.1)) + 1)).toNat 0))) - (p0.getD (Xaa .i64 ((Xaa .i64 (4 * v2.1)) + 2)).toNat 0))) - (Xaa .i64 (2 * (p0.getD (Xaa .i64 ((Xaa .i64 (4 * v2.1)) + 3)).toNat 0)))), Xaa .i64 ((Xaa .i64 ((Xaa .i64 ((p0.getD (Xaa .i64 (4 * v2.1)).toNat 0) - (p0.getD (Xaa .i64 ((Xaa .i64 (4 * v2.1)) + 1)).toNat 0))) - (p0.getD (Xaa .i64 ((Xaa .i64 (4 * v2.1)) + 2)).toNat 0))) + (p0.getD (Xaa .i64 ((Xaa .i64 (4 * v2.1)) + 3)).toNat 0)), Xaa .i64 ((Xaa .i64 ((Xaa .i64 ((p0.getD (Xaa .i64 (4 * v2.1)).toNat 0) - (Xaa .i64 (2 * (p0.getD (Xaa .i64 ((Xaa .i64 (4 * v2.1)) + 1)).toNat 0))))) + (Xaa .i64 (2 * (p0.getD (Xaa .i64 ((Xaa .i64 (4 * v2.1)) + 2)).toNat 0))))) - (p0.getD (Xaa .i64 ((Xaa .i64 (4 * v2.1)) + 3)).toNat 0))]))))) (
 some (.done v2.2))
def Xhs (p0 : (List Int)) : Option (List Int) :=
 bnd (loop (Xfq p0) (0, ([] : List Int))) fun v4 =>
 some v4
def Xof (p0 : (List Int)) : Option (List Int) :=
 bnd (Xbj p0 16 1000) fun q1 =>
 sel (!q1) (
 some ([] : List Int)) (
 bnd (Xhs p0) fun q2 =>
 bnd (Xd1 q2) fun q3 =>
 bnd (Xhs q3) fun q4 =>
 bnd (Xd1 q4) fun q5 =>
 some q5)
def Xjz (p0 : Int) (p1 : Int) : Option Int :=
 bnd (Xi6 p1) fun q1 =>
 bnd (
 bnd (Xak p0 0 40) fun q3 =>
 sel q3 (
 some (decide (q1 < 0))) (
 some true)) fun v2 =>
 sel v2 (
 some 0) (
 req ((6 : Int) ≠ 0) <|
 sel ((p0.tmod 6) == 0) (
 bnd (Xbg q1 13107 5243 8066) fun q4 =>
 some q4) (
 sel ((p0.tmod 6) == 1) (
 bnd (Xbg q1 11916 4660 7490) fun q5 =>
 some q5) (
 sel ((p0.tmod 6) == 2) (
 bnd (Xbg q1 10082 4194 6554) fun q6 =>
 some q6) (
 sel ((p0.tmod 6) == 3) (
 bnd (Xbg q1 9362 3647 5825) fun q7 =>
 some q7) (
 sel ((p0.tmod 6) == 4) (
 bnd (Xbg q1 8192 3355 5243) fun q8 =>
 some q8) (
 bnd (Xbg q1 7282 2893 4559) fun q9 =>
 some q9))))))
def Xfi (p0 : Int) (p1 : Int) (p2 : Int) : Option Int :=
 bnd (
 bnd (Xak p0 (-20000) 20000) fun q2 =>
 sel q2 (
 bnd (Xak p1 0 40) fun q3 =>
 sel q3 (
 bnd (Xak p2 0 15) fun q4 =>
 some (!q4)) (
 some true)) (
 some true)) fun v1 =>
 sel v1 (
 some 0) (
 req ((6 : Int) ≠ 0) <|
 req (0 ≤ (Xaa .u64 (Xaa .i64 (15 + (Xaa .i64 (p1.tdiv 6)))))) <|
 bnd (Xd9 p0) fun q5 =>
 bnd (Xjz p1 p2) fun q6 =>
 req ((3 : Int) ≠ 0) <|
 req ((Xaa .i64 (1 * 2 ^ min (Xaa .u64 (Xaa .i64 (15 + (Xaa .i64 (p1.tdiv 6))))).toNat (IntKind.bits .i64))) ≠ 0) <|
 bnd (Xer p0 (Xaa .i64 ((Xaa .i64 ((Xaa .i64 (q5 * q6)) + (Xaa .i64 ((Xaa .i64 (1 * 2 ^ min (Xaa .u64 (Xaa .i64 (15 + (Xaa .i64 (p1.tdiv 6))))).toNat (IntKind.bits .i64))).tdiv 3)))).tdiv (Xaa .i64 (1 * 2 ^ min (Xaa .u64 (Xaa .i64 (15 + (Xaa .i64 (p1.tdiv 6))))).toNat (IntKind.bits .i64)))))) fun q7 =>
 some q7)
def Xeh (p1 : Xmb) (v8 : (Int × (List Int))) : Option (Lp (Int × (List Int)) (List Int)) :=
 sel (decide (v8.1 < 64)) (
 req (0 ≤ v8.1 ∧ v8.1 < v8.2.length) <|
 req (v8.1.toNat < v8.2.length) <|
 bnd (Xff (v8.2.getD v8.1.toNat 0) p1.Qp) fun q12 =>
 req (0 ≤ v8.1 ∧ v8.1 < v8.2.length) <|
 req (v8.1.toNat < v8.2.length) <|
 some (.go (Xaa .i64 (v8.1 + 1), (v8.2.set v8.1.toNat q12)))) (
 some (.done v8.2))
def Xdm (p1 : Xmb) (v45 : (Int × (List Int))) : Option (Lp (Int × (List Int)) (List Int)) :=
 sel (decide (v45.1 < 16)) (
 req (0 ≤ v45.1 ∧ v45.1 < v45.2.length) <|
 req (v45.1.toNat < v45.2.length) <|
 bnd (Xfi (v45.2.getD v45.1.toNat 0) p1.Qp v45.1) fun q49 =>
 req (0 ≤ v45.1 ∧ v45.1 < v45.2.length) <|
 req (v45.1.toNat < v45.2.length) <|
 some (.go (Xaa .i64 (v45.1 + 1), (v45.2.set v45.1.toNat q49)))) (
 some (.done v45.2))
def Xdl (p0 : (List Int)) (p1 : Xmb) (v27 : (Int × (List Int))) : Option (Lp (Int × (List Int)) (List Int)) :=
 sel (decide (v27.1 < 4)) (
 bnd (Xfv p0 v27.1) fun q41 =>
 bnd (Xof q41) fun q42 =>
 bnd (loop (Xdm p1) (0, q42)) fun v48 =>
 bnd (Xfg 4 v48) fun q51 =>
 req ((v27.2.length + q51.1.length) * 8 ≤ 140737488355328 ∧ v27.2.length + q51.1.length ≤ maxLen) <|
 some (.go (Xaa .i64 (v27.1 + 1), (v27.2 ++ q51.1)))) (
 some (.done v27.2))
def Xf6 (p0 : (List Int)) (p1 : Xmb) : Option ((List Int) × Bool) :=
 bnd (
 bnd (Xd8 p1) fun q2 =>
 sel q2 (
 bnd (Xbj p0 64 255) fun q3 =>
 some (!q3)) (
 some true)) fun v1 =>
 sel v1 (
 some (([] : List Int), false)) (
 sel p1.Exact (
 bnd (Xfg 8 p0) fun q4 =>
 some (q4.1, q4.2)) (
 sel p1.Large (
 bnd (Xmn p0) fun q5 =>
 bnd (loop (Xeh p1) (0, q5)) fun v11 =>
 bnd (Xfg 8 v11) fun q14 =>
 some (q14.1, q14.2)) (
 bnd (loop (Xdl p0 p1) (0, ([] : List Int))) fun v40 =>
 some (v40, true))))
def Xg0 (p0 : Pic) (p1 : Pic) (p2 : (List Int)) (p3 : Int) (p4 : Int) (p5 : Xmb) (p6 : Int) : Option Xbc :=
 bnd (
 sel p5.Key (
 some false) (
 bnd (Xc1 p1 p3 p4) fun q2 =>
 bnd (Xfw p2 q2) fun q3 =>
 bnd (Xhw q3) fun q4 =>
 some q4)) fun v1 =>
 sel v1 (
 some (⟨0, 0, 0, 0, []⟩ : Xbc)) (
 bnd (Xhl p0 p3 p4) fun q5 =>
 bnd (Xgi p2 q5.1) fun q6 =>
 Ynu (fun (v7 : Unit) =>
 bnd (Xfd q6.1 q5.1) fun q14 =>
 bnd (Xfw p2 q14) fun q15 =>
 bnd (Xf6 q15 p5) fun q16 =>
 some (⟨2, q6.1, 0, 0, q16.1⟩ : Xbc)) fun j1 =>
 sel (!p5.Key) (
 bnd (Xh8 p1 p2 p3 p4 p6) fun q8 =>
 sel (decide (q8.2.2 ≤ q6.2)) (
 bnd (Xc1 p1 (Xaa .i64 (p3 + q8.1)) (Xaa .i64 (p4 + q8.2.1))) fun q9 =>
 bnd (Xfw p2 q9) fun q10 =>
 bnd (Xf6 q10 p5) fun q11 =>
 bnd (
 sel (q8.1 == 0) (
 sel (q8.2.1 == 0) (
 bnd (Xhw q11.1) fun q13 =>
 some q13) (
 some false)) (
 some false)) fun v12 =>
 sel v12 (
 some (⟨0, 0, 0, 0, []⟩ : Xbc)) (
 some (⟨1, 0, q8.1, q8.2.1, q11.1⟩ : Xbc))) (
 j1 ())) (
 j1 ()))
def Xgr (p0 : Pic) (p1 : Pic) (p2 : (List Int)) (p3 : Int) (p4 : Int) (p5 : Xmb) (p6 : Int) : Option (Xbc × (List Int) × Bool) :=
 bnd (
 bnd (Xd3 p0 p3 p4) fun q2 =>
 sel q2 (
 bnd (Xd2 p2) fun q3 =>
 sel q3 (
 bnd (Xd8 p5) fun q4 =>
 sel q4 (
 bnd (Xak p6 0 4) fun q5 =>
 sel q5 (
 sel p5.Key (
 some false) (
 bnd (Xfy p0 p1) fun q6 =>
 some (!q6))) (
 some true)) (
 some true)) (
 some true)) (
 some true)) fun v1 =>
 sel v1 (
 some ((⟨0, 0, 0, 0, []⟩ : Xbc), ([] : List Int), false)) (
 bnd (Xg0 p0 p1 p2 p3 p4 p5 p6) fun q7 =>
 bnd (Xfk p0 p1 0 0 p5 p3 p4 q7) fun q8 =>
 some (q7, q8.1, true))
def Xyb (p0 : (List Int)) : Option Bool :=
 some (decide ((p0.length : Int) > 1048576))
def Xjo (p0 : (List Int)) (v3 : (Int × Int)) : Option (Lp (Int × Int) Int) :=
 bnd (
 sel (decide (v3.2 < (p0.length : Int))) (
 some (decide (v3.2 < 4000))) (
 some false)) fun v7 =>
 sel v7 (
 req (0 ≤ v3.2 ∧ v3.2 < p0.length) <|
 some (.go ((IntKind.wrap .i64 (BitVec.ofInt (IntKind.bits .i64) (Xaa .i64 ((Xaa .i64 ((Xaa .i64 (v3.1 * 131)) + (Xaa .i64 ((p0.getD v3.2.toNat 0))))) + 7)) &&& BitVec.ofInt (IntKind.bits .i64) 1073741823).toNat), Xaa .i64 (v3.2 + 1)))) (
 some (.done v3.1))
def Xje (p0 : (List Int)) : Option Xau :=
 bnd (loop (Xjo p0) (Xaa .i64 (94701 + (p0.length : Int)), 0)) fun v6 =>
 some (⟨p0, 0, v6⟩ : Xau)
def Xbl (p0 : Xau) : Option (Int × Xau) :=
 req (0 ≤ (33 : Int)) <|
 req (0 ≤ (45 : Int)) <|
 bnd (
 sel (decide (p0.i_ < (p0.b_.length : Int))) (
 req (0 ≤ p0.i_ ∧ p0.i_ < p0.b_.length) <|
 some ((IntKind.wrap .i64 (BitVec.ofInt (IntKind.bits .i64) (Xaa .i64 ((IntKind.wrap .i64 (BitVec.ofInt (IntKind.bits .i64) (IntKind.wrap .i64 (BitVec.ofInt (IntKind.bits .i64) ((Xaa .i64 ((Xaa .i64 (p0.h_ * 6364136223846793005)) + 1442695040888963407)) / 2 ^ min (33 : Int).toNat (IntKind.bits .i64)) ^^^ BitVec.ofInt (IntKind.bits .i64) ((Xaa .i64 ((Xaa .i64 (p0.h_ * 6364136223846793005)) + 1442695040888963407)) / 2 ^ min (45 : Int).toNat (IntKind.bits .i64))).toNat) &&& BitVec.ofInt (IntKind.bits .i64) 255).toNat) + (Xaa .i64 ((p0.b_.getD p0.i_.toNat 0))))) &&& BitVec.ofInt (IntKind.bits .i64) 255).toNat), Xaa .i64 (p0.i_ + 1))) (
 some ((IntKind.wrap .i64 (BitVec.ofInt (IntKind.bits .i64) (IntKind.wrap .i64 (BitVec.ofInt (IntKind.bits .i64) ((Xaa .i64 ((Xaa .i64 (p0.h_ * 6364136223846793005)) + 1442695040888963407)) / 2 ^ min (33 : Int).toNat (IntKind.bits .i64)) ^^^ BitVec.ofInt (IntKind.bits .i64) ((Xaa .i64 ((Xaa .i64 (p0.h_ * 6364136223846793005)) + 1442695040888963407)) / 2 ^ min (45 : Int).toNat (IntKind.bits .i64))).toNat) &&& BitVec.ofInt (IntKind.bits .i64) 255).toNat), p0.i_))) fun v1 =>
 some (v1.1, (⟨p0.b_, v1.2, Xaa .i64 ((Xaa .i64 (p0.h_ * 6364136223846793005)) + 1442695040888963407)⟩ : Xau))
def Xas (p0 : Xau) (p1 : Int) : Option (Int × Xau) :=
 sel (decide (p1 ≤ 0)) (
 some (0, p0)) (
 sel (decide (p1 ≤ 256)) (
 bnd (Xbl p0) fun q1 =>
 req (p1 ≠ 0) <|
 some ((q1.1.tmod p1), q1.2)) (
 bnd (Xbl p0) fun q2 =>
 bnd (Xbl q2.2) fun q3 =>
 bnd (Xbl q3.2) fun q4 =>
 bnd (Xbl q4.2) fun q5 =>
 req (p1 ≠ 0) <|
 some (((Xaa .i64 ((Xaa .i64 ((Xaa .i64 ((Xaa .i64 (q2.1 * 16777216)) + (Xaa .i64 (q3.1 * 65536)))) + (Xaa .i64 (q4.1 * 256)))) + q5.1)).tmod p1), q5.2)))
def Xct (p0 : Xau) (p1 : (List Int)) : Option (Int × Xau) :=
 bnd (Xas p0 (p1.length : Int)) fun q1 =>
 req (0 ≤ q1.1 ∧ q1.1 < p1.length) <|
 some ((p1.getD q1.1.toNat 0), q1.2)
def Xch (p0 : Xau) (p1 : Int) : Option (Bool × Xau) :=
 bnd (Xas p0 p1) fun q1 =>
 some ((q1.1 == 0), q1.2)
def Xim (v4 : (Int × (List Int) × Int × Int × (List Int))) : Option (Lp (Int × (List Int) × Int × Int × (List Int)) ((List Int) × Int × Int × (List Int))) :=
 bnd (Xas (⟨v4.2.1, v4.2.2.1, v4.2.2.2.1⟩ : Xau) 14) fun q9 =>
 sel (decide (v4.1 < q9.1)) (
 bnd (Xct q9.2 ([0, 0, 0, 0, 1, 2, 3, 3, 4, 200])) fun q10 =>
 req ((v4.2.2.2.2.length + ([Xaa .u8 (q10.1)]).length) * 1 ≤ 140737488355328 ∧ v4.2.2.2.2.length + ([Xaa .u8 (q10.1)]).length ≤ maxLen) <|
 some (.go (Xaa .i64 (v4.1 + 1), q10.2.b_, q10.2.i_, q10.2.h_, (v4.2.2.2.2 ++ ([Xaa .u8 (q10.1)]))))) (
 some (.done (q9.2.b_, q9.2.i_, q9.2.h_, v4.2.2.2.2)))
def Xj1 (p0 : Xau) : Option (ByteArray × Xau) :=
 bnd (loop (Xim) (0, p0.b_, p0.i_, p0.h_, ([] : List Int))) fun v8 =>
 bnd (
 bnd (Xch (⟨v8.1, v8.2.1, v8.2.2.1⟩ : Xau) 8) fun q13 =>
 sel (!q13.1) (
 bnd (Xas q13.2 5) fun q14 =>
 req ((v8.2.2.2.length + ([Xaa .u8 (Xaa .i64 (1 + q14.1))]).length) * 1 ≤ 140737488355328 ∧ v8.2.2.2.length + ([Xaa .u8 (Xaa .i64 (1 + q14.1))]).length ≤ maxLen) <|
 some ((v8.2.2.2 ++ ([Xaa .u8 (Xaa .i64 (1 + q14.1))])), q14.2.b_, q14.2.i_, q14.2.h_)) (
 some (v8.2.2.2, q13.2.b_, q13.2.i_, q13.2.h_))) fun v12 =>
 some ((strOfNums v12.1), (⟨v12.2.1, v12.2.2.1, v12.2.2.2⟩ : Xau))
def Xg8 (v4 : (Int × (List Int) × Int × Int × (List ByteArray))) : Option (Lp (Int × (List Int) × Int × Int × (List ByteArray)) ((List ByteArray) × (List Int) × Int × Int)) :=
 bnd (Xas (⟨v4.2.1, v4.2.2.1, v4.2.2.2.1⟩ : Xau) 5) fun q9 =>
 sel (decide (v4.1 < q9.1)) (
 bnd (Xj1 q9.2) fun q10 =>
 req ((v4.2.2.2.2.length + ([q10.1]).length) * 16 ≤ 140737488355328 ∧ v4.2.2.2.2.length + ([q10.1]).length ≤ maxLen) <|
 some (.go (Xaa .i64 (v4.1 + 1), q10.2.b_, q10.2.i_, q10.2.h_, (v4.2.2.2.2 ++ ([q10.1]))))) (
 some (.done (v4.2.2.2.2, q9.2.b_, q9.2.i_, q9.2.h_)))
def Xin (p0 : Xau) : Option ((List ByteArray) × Xau) :=
 bnd (loop (Xg8) (0, p0.b_, p0.i_, p0.h_, ([] : List ByteArray))) fun v8 =>
 some (v8.1, (⟨v8.2.1, v8.2.2.1, v8.2.2.2⟩ : Xau))
def Xej (p0 : Xau) : Option (Par × Xau) :=
 bnd (Xas p0 41) fun q1 =>
 bnd (Xch q1.2 4) fun q2 =>
 bnd (
 bnd (Xas q2.2 3) fun q4 =>
 sel (q4.1 == 0) (
 some (true, false, q4.2.b_, q4.2.i_, q4.2.h_)) (
 sel (q4.1 == 1) (
 some (false, true, q4.2.b_, q4.2.i_, q4.2.h_)) (
 some (false, false, q4.2.b_, q4.2.i_, q4.2.h_)))) fun v3 =>
 some ((⟨q1.1, v3.1, v3.2.1, (!q2.1)⟩ : Par), (⟨v3.2.2.1, v3.2.2.2.1, v3.2.2.2.2⟩ : Xau))
def Xiy (p0 : Xau) : Option (Rate × Xau) :=
 bnd (Xas p0 2000) fun q1 =>
 bnd (Xas q1.2 41) fun q2 =>
 bnd (Xas q2.2 (Xaa .i64 ((Xaa .i64 (16 * (Xaa .i64 (1 + q1.1)))) + 1))) fun q3 =>
 some ((⟨q2.1, Xaa .i64 (1 + q1.1), Xaa .i64 (q3.1 - (Xaa .i64 (8 * (Xaa .i64 (1 + q1.1)))))⟩ : Rate), q3.2)
def Xeq (p0 : (List Int)) (v4 : (Int × Int)) : Option (Lp (Int × Int) (Ou Int Int)) :=
 sel (decide (v4.2 < (p0.length : Int))) (
 req (0 ≤ v4.2 ∧ v4.2 < p0.length) <|
 bnd (Xak (p0.getD v4.2.toNat 0) 1 8) fun q8 =>
 sel (!q8) (
 some (.done (.ret 0))) (
 req (0 ≤ v4.2 ∧ v4.2 < p0.length) <|
 some (.go (Xaa .i64 (v4.1 + (p0.getD v4.2.toNat 0)), Xaa .i64 (v4.2 + 1))))) (
 some (.done (.out v4.1)))
def Xfo (p0 : (List Int)) : Option Int :=
 bnd (
 sel (decide ((p0.length : Int) < 1)) (
 some true) (
 some (decide ((p0.length : Int) > 4)))) fun v1 =>
 sel v1 (
 some 0) (
 bnd (loop (Xeq p0) (0, 0)) fun o9 => match o9 with
| .out v7 => (
 some v7)
| .ret r => some r)
def Xgs (p0 : Seq) : Option Int :=
 bnd (Xfo p0.Cols) fun q1 =>
 bnd (Xfo p0.Rows) fun q2 =>
 some (Xaa .i64 (q1 * q2))
def Xdj (p0 : Int) : Option Int :=
 sel (p0 == 1) (
 some 16) (
 sel (p0 == 2) (
 some 64) (
 sel (p0 == 3) (
 some 256) (
 some 0)))
def Xi9 (p0 : Seq) : Option Bool :=
 bnd (
 bnd (Xgs p0) fun q2 =>
 bnd (Xdj p0.Level) fun q3 =>
 bnd (Xak q2 1 q3) fun q4 =>
 sel q4 (
 bnd (Xak p0.Bits 3 8) fun q5 =>
 some q5) (
 some false)) fun v1 =>
 some v1
def Xg3 (p0 : (List Int)) (p1 : (List Int)) (v3 : Int) : Option (Lp Int (Ou Unit Int)) :=
 sel (decide (v3 ≤ 3)) (
 bnd (Xi9 (⟨v3, 3, p0, p1⟩ : Seq)) fun q7 =>
 sel q7 (
 some (.done (.ret v3))) (
 some (.go (Xaa .i64 (v3 + 1))))) (
 some (.done (.out ())))
def Xid (p0 : (List Int)) (p1 : (List Int)) : Option Int :=
 bnd (loop (Xg3 p0 p1) 1) fun o8 => match o8 with
| .out v6 => (
 some 0)
| .ret r => some r
def Xhn (p0 : Seq) : Option Int :=
 bnd (Xi9 p0) fun q1 =>
 sel (!q1) (
 some 0) (
 some (Xaa .i64 ((p0.Cols.length : Int) * (p0.Rows.length : Int))))
def Xhe (p0 : Rate) : Option Bool :=
 bnd (
 bnd (Xak p0.Qp 0 40) fun q2 =>
 sel q2 (
 bnd (Xak p0.Target 1 100000) fun q3 =>
 sel q3 (
 bnd (Xak p0.Debt (Xaa .i64 ((-8) * p0.Target)) (Xaa .i64 (8 * p0.Target))) fun q4 =>
 some q4) (
 some false)) (
 some false)) fun v1 =>
 some v1
def Xhf (p0 : Seq) : Option (Int × Int) :=
 bnd (Xi9 p0) fun q1 =>
 sel (!q1) (
 some (0, 0)) (
 bnd (Xfo p0.Cols) fun q2 =>
 bnd (Xfo p0.Rows) fun q3 =>
 some (Xaa .i64 (8 * q2), Xaa .i64 (8 * q3)))
def Xc3 (p0 : Xcw) : Option Bool :=
 bnd (
 bnd (Xhn p0.Seq) fun q2 =>
 sel (q2 != 1) (
 some true) (
 bnd (Xkw p0.Par) fun q3 =>
 sel q3 (
 bnd (Xhe p0.Rate) fun q4 =>
 sel q4 (
 sel (decide (p0.Frame < 0)) (
 some true) (
 req (0 ≤ (Xaa .u64 (p0.Seq.Bits))) <|
 some (decide (p0.Frame ≥ (Xaa .i64 (1 * 2 ^ min (Xaa .u64 (p0.Seq.Bits)).toNat (IntKind.bits .i64))))))) (
 some true)) (
 some true))) fun v1 =>
 sel v1 (
 some false) (
 bnd (
 bnd (Xak p0.Every 1 1000) fun q6 =>
 sel q6 (
 bnd (Xak p0.Since 0 1000) fun q7 =>
 sel q7 (
 bnd (Xak p0.Reach 0 4) fun q8 =>
 some (!q8)) (
 some true)) (
 some true)) fun v5 =>
 sel v5 (
 some false) (
 bnd (Xhf p0.Seq) fun q9 =>
 sel p0.Has (
 bnd (
 bnd (Xcj p0.Ref) fun q11 =>
 sel q11 (
 sel (p0.Ref.Wide == q9.1) (
 some (p0.Ref.High == q9.2)) (
 some false)) (
 some false)) fun v10 =>
 some v10) (
 bnd (
 sel (p0.Ref.Wide == 0) (
 sel (p0.Ref.High == 0) (
 some ((p0.Ref.Dots.size : Int) == 0)) (
 some false)) (
 some false)) fun v12 =>
 some v12)))
def Xgq (p0 : Int) (p1 : Int) (p2 : Int) (p3 : Par) (p4 : Rate) (p5 : Int) (p6 : Int) : Option (Xcw × Bool) :=
 bnd (Xid ([p0]) ([p1])) fun q1 =>
 bnd (Xc3 (⟨(⟨q1, p2, [p0], [p1]⟩ : Seq), p3, p4, 0, 0, p5, p6, false, (⟨0, 0, ⟨#[]⟩⟩ : Pic)⟩ : Xcw)) fun q2 =>
 sel (!q2) (
 some ((⟨(⟨0, 0, [], []⟩ : Seq), (⟨0, false, false, false⟩ : Par), (⟨0, 0, 0⟩ : Rate), 0, 0, 0, 0, false, (⟨0, 0, ⟨#[]⟩⟩ : Pic)⟩ : Xcw), false)) (
 some ((⟨(⟨q1, p2, [p0], [p1]⟩ : Seq), p3, p4, 0, 0, p5, p6, false, (⟨0, 0, ⟨#[]⟩⟩ : Pic)⟩ : Xcw), true))
def Xis (p1 : Int) (v7 : (Int × Int × (List Int) × Int × Int × (List Int))) : Option (Lp (Int × Int × (List Int) × Int × Int × (List Int)) ((List Int) × (List Int) × Int × Int)) :=
 sel (decide (v7.2.1 < p1)) (
 bnd (
 bnd (Xas (⟨v7.2.2.1, v7.2.2.2.1, v7.2.2.2.2.1⟩ : Xau) 6) fun q15 =>
 sel (q15.1 == 0) (
 bnd (Xbl q15.2) fun q16 =>
 some (q16.1, q16.2.b_, q16.2.i_, q16.2.h_)) (
 sel (q15.1 == 1) (
 bnd (Xas q15.2 9) fun q17 =>
 some ((IntKind.wrap .i64 (BitVec.ofInt (IntKind.bits .i64) (Xaa .i64 ((Xaa .i64 (v7.1 + q17.1)) + 252)) &&& BitVec.ofInt (IntKind.bits .i64) 255).toNat), q17.2.b_, q17.2.i_, q17.2.h_)) (
 some (v7.1, q15.2.b_, q15.2.i_, q15.2.h_)))) fun v14 =>
 req ((v7.2.2.2.2.2.length + ([Xaa .u8 (v14.1)]).length) * 1 ≤ 140737488355328 ∧ v7.2.2.2.2.2.length + ([Xaa .u8 (v14.1)]).length ≤ maxLen) <|
 some (.go (v14.1, Xaa .i64 (v7.2.1 + 1), v14.2.1, v14.2.2.1, v14.2.2.2, (v7.2.2.2.2.2 ++ ([Xaa .u8 (v14.1)]))))) (
 some (.done (v7.2.2.2.2.2, v7.2.2.1, v7.2.2.2.1, v7.2.2.2.2.1)))
def Xj3 (p0 : Xau) (p1 : Int) : Option (ByteArray × Xau) :=
 bnd (Xbl p0) fun q1 =>
 bnd (loop (Xis p1) (q1.1, 0, q1.2.b_, q1.2.i_, q1.2.h_, ([] : List Int))) fun v13 =>
 some ((strOfNums v13.1), (⟨v13.2.1, v13.2.2.1, v13.2.2.2⟩ : Xau))
def Xit (p0 : Xau) (p1 : Int) (p2 : Int) : Option (Pic × Xau) :=
 bnd (Xj3 p0 (Xaa .i64 (p1 * p2))) fun q1 =>
 some ((⟨p1, p2, q1.1⟩ : Pic), q1.2)
def Xk4 (p0 : Xcw) (p1 : Bool) : Option Bool :=
 bnd (
 bnd (Xc3 p0) fun q2 =>
 sel q2 (
 sel p1 (
 some true) (
 sel p0.Has (
 some (decide (p0.Since ≥ p0.Every))) (
 some true))) (
 some false)) fun v1 =>
 some v1
def Xhp (p0 : Seq) : Option Seq :=
 req ((([] : List Int).length + p0.Cols.length) * 8 ≤ 140737488355328 ∧ ([] : List Int).length + p0.Cols.length ≤ maxLen) <|
 req ((([] : List Int).length + p0.Rows.length) * 8 ≤ 140737488355328 ∧ ([] : List Int).length + p0.Rows.length ≤ maxLen) <|
 some (⟨p0.Level, p0.Bits, (([] : List Int) ++ p0.Cols), (([] : List Int) ++ p0.Rows)⟩ : Seq)
def Xmq (p0 : Rate) (p1 : Bool) : Option Int :=
 bnd (Xhe p0) fun q1 =>
 sel (!q1) (
 some 0) (
 sel p1 (
 bnd (Xbp (Xaa .i64 (p0.Qp - 2)) 0 40) fun q2 =>
 some q2) (
 some p0.Qp))
def Xg7 (p0 : Pic) (p1 : Pic) (p2 : Xmb) (p3 : Int) (v24 : (Int × (List Xbc) × Int × Int × ByteArray)) (v45 : (Int × (List Xbc) × Int × Int × ByteArray)) : Option (Lp (Int × (List Xbc) × Int × Int × ByteArray) ((List Xbc) × Int × Int × ByteArray)) :=
 sel (decide (v45.1 < p0.Wide)) (
 bnd (Xc1 p0 v45.1 v24.1) fun q51 =>
 bnd (Xgr (⟨v45.2.2.1, v45.2.2.2.1, v45.2.2.2.2⟩ : Pic) p1 q51 v45.1 v24.1 p2 p3) fun q52 =>
 req ((v45.2.1.length + ([q52.1]).length) * 56 ≤ 140737488355328 ∧ v45.2.1.length + ([q52.1]).length ≤ maxLen) <|
 bnd (Xlj (⟨v45.2.2.1, v45.2.2.2.1, v45.2.2.2.2⟩ : Pic) v45.1 v24.1 q52.2.1) fun q53 =>
 some (.go (Xaa .i64 (v45.1 + 8), (v45.2.1 ++ ([q52.1])), q53.Wide, q53.High, q53.Dots))) (
 some (.done (v45.2.1, v45.2.2.1, v45.2.2.2.1, v45.2.2.2.2)))
def Xg6 (p0 : Pic) (p1 : Pic) (p2 : Xmb) (p3 : Int) (v24 : (Int × (List Xbc) × Int × Int × ByteArray)) : Option (Lp (Int × (List Xbc) × Int × Int × ByteArray) ((List Xbc) × Int × Int × ByteArray)) :=
 sel (decide (v24.1 < p0.High)) (
 bnd (loop (Xg7 p0 p1 p2 p3 v24) (0, v24.2.1, v24.2.2.1, v24.2.2.2.1, v24.2.2.2.2)) fun v50 =>
 some (.go (Xaa .i64 (v24.1 + 8), v50.1, v50.2.1, v50.2.2.1, v50.2.2.2))) (
 some (.done (v24.2.1, v24.2.2.1, v24.2.2.2.1, v24.2.2.2.2)))
def Xj0 (p0 : Pic) (p1 : Pic) (p2 : Xmb) (p3 : Int) : Option ((List Xbc) × Pic × Bool) :=
 bnd (
 bnd (Xcj p0) fun q2 =>
 sel q2 (
 bnd (Xhv p0.Wide) fun q3 =>
 sel q3 (
 bnd (Xhv p0.High) fun q4 =>
 sel q4 (
 bnd (Xd8 p2) fun q5 =>
 sel q5 (
 bnd (Xak p3 0 4) fun q6 =>
 sel q6 (
 sel p2.Key (
 some false) (
 bnd (Xfy p0 p1) fun q7 =>
 some (!q7))) (
 some true)) (
 some true)) (
 some true)) (
 some true)) (
 some true)) fun v1 =>
 sel v1 (
 some (([] : List Xbc), (⟨0, 0, ⟨#[]⟩⟩ : Pic), false)) (
 bnd (Xoi p0.Wide p0.High) fun q8 =>
 bnd (loop (Xg6 p0 p1 p2 p3) (0, ([] : List Xbc), q8.Wide, q8.High, q8.Dots)) fun v40 =>
 some (v40.1, (⟨v40.2.1, v40.2.2.1, v40.2.2.2⟩ : Pic), true))
def Xm9 (p0 : Seq) (p1 : Par) (p2 : Yrn) : Option Bool :=
 bnd (
 bnd (Xkw p1) fun q2 =>
 sel q2 (
 sel (decide (p2.Tile ≥ 0)) (
 bnd (Xhn p0) fun q3 =>
 sel (decide (p2.Tile < q3)) (
 sel (decide (p2.Frame ≥ 0)) (
 req (0 ≤ (Xaa .u64 (p0.Bits))) <|
 sel (decide (p2.Frame < (Xaa .i64 (1 * 2 ^ min (Xaa .u64 (p0.Bits)).toNat (IntKind.bits .i64))))) (
 bnd (Xak p2.Qp 0 40) fun q4 =>
 some q4) (
 some false)) (
 some false)) (
 some false)) (
 some false)) (
 some false)) fun v1 =>
 some v1
def Xgt (v2 : (Int × Int × (List Int))) : Option (Lp (Int × Int × (List Int)) (List Int)) :=
 sel (decide (v2.2.1 ≥ 0)) (
 req ((2 : Int) ≠ 0) <|
 req (0 ≤ v2.2.1 ∧ v2.2.1 < v2.2.2.length) <|
 req (v2.2.1.toNat < v2.2.2.length) <|
 req ((2 : Int) ≠ 0) <|
 some (.go (Xaa .i64 (v2.1.tdiv 2), Xaa .i64 (v2.2.1 - 1), (v2.2.2.set v2.2.1.toNat (Xaa .u8 (Xaa .i64 (48 + (v2.1.tmod 2)))))))) (
 some (.done v2.2.2))
def Xhh (p0 : Int) (p1 : Int) : Option ByteArray :=
 req (0 ≤ p1 ∧ p1 ≤ p1 ∧ p1 * 1 ≤ 281474976710656) <|
 bnd (loop (Xgt) (p0, Xaa .i64 (p1 - 1), (List.replicate p1.toNat (0 : Int)))) fun v4 =>
 some (strOfNums v4)
def Xjw (p0 : Seq) (p1 : Par) (p2 : Yrn) : Option (ByteArray × Bool) :=
 bnd (Xm9 p0 p1 p2) fun q1 =>
 sel (!q1) (
 some (⟨#[]⟩, false)) (
 bnd (Xb0 p2.Tile) fun q2 =>
 bnd (Xhh p2.Frame p0.Bits) fun q3 =>
 req (q2.size + q3.size ≤ 9223372036854775807) <|
 bnd (Xf7 (Xaa .i64 (p2.Qp - p1.Qp))) fun q4 =>
 req ((q2 ++ q3).size + q4.size ≤ 9223372036854775807) <|
 some (((q2 ++ q3) ++ q4), true))
def Xdx (p0 : (List Int)) (v5 : (Int × Int × ByteArray × Int)) : Option (Lp (Int × Int × ByteArray × Int) (Int × ByteArray)) :=
 sel (decide (v5.2.2.2 < (p0.length : Int))) (
 bnd (
 req (0 ≤ v5.2.2.2 ∧ v5.2.2.2 < p0.length) <|
 sel ((p0.getD v5.2.2.2.toNat 0) == 0) (
 some (v5.1, Xaa .i64 (v5.2.1 + 1), v5.2.2.1)) (
 bnd (Xb0 v5.2.1) fun q12 =>
 req (v5.2.2.1.size + q12.size ≤ 9223372036854775807) <|
 req (0 ≤ v5.2.2.2 ∧ v5.2.2.2 < p0.length) <|
 bnd (Xf7 (p0.getD v5.2.2.2.toNat 0)) fun q13 =>
 req ((v5.2.2.1 ++ q12).size + q13.size ≤ 9223372036854775807) <|
 some (Xaa .i64 (v5.1 + 1), 0, ((v5.2.2.1 ++ q12) ++ q13)))) fun v11 =>
 some (.go (v11.1, v11.2.1, v11.2.2, Xaa .i64 (v5.2.2.2 + 1)))) (
 some (.done (v5.1, v5.2.2.1)))
def Xc5 (p0 : (List Int)) : Option ByteArray :=
 bnd (loop (Xdx p0) (0, 0, ⟨#[]⟩, 0)) fun v10 =>
 bnd (Xb0 v10.1) fun q15 =>
 req (q15.size + v10.2.size ≤ 9223372036854775807) <|
 some (q15 ++ v10.2)
def Xjf (p0 : (List Int)) (p1 : Xmb) : Option ByteArray :=
 bnd (
 sel p1.Large (
 some true) (
 some p1.Exact)) fun v1 =>
 sel v1 (
 bnd (Xc5 p0) fun q2 =>
 some q2) (
 req (0 ≤ (0 : Int) ∧ (0 : Int) ≤ (16 : Int) ∧ (16 : Int) ≤ (p0.length : Int)) <|
 bnd (Xc5 ((p0.drop (0 : Int).toNat).take ((16 : Int).toNat - (0 : Int).toNat))) fun q3 =>
 req (0 ≤ (16 : Int) ∧ (16 : Int) ≤ (32 : Int) ∧ (32 : Int) ≤ (p0.length : Int)) <|
 bnd (Xc5 ((p0.drop (16 : Int).toNat).take ((32 : Int).toNat - (16 : Int).toNat))) fun q4 =>
 req (q3.size + q4.size ≤ 9223372036854775807) <|
 req (0 ≤ (32 : Int) ∧ (32 : Int) ≤ (48 : Int) ∧ (48 : Int) ≤ (p0.length : Int)) <|
 bnd (Xc5 ((p0.drop (32 : Int).toNat).take ((48 : Int).toNat - (32 : Int).toNat))) fun q5 =>
 req ((q3 ++ q4).size + q5.size ≤ 9223372036854775807) <|
 req (0 ≤ (48 : Int) ∧ (48 : Int) ≤ (p0.length : Int) ∧ (p0.length : Int) ≤ (p0.length : Int)) <|
 bnd (Xc5 ((p0.drop (48 : Int).toNat).take ((p0.length : Int).toNat - (48 : Int).toNat))) fun q6 =>
 req (((q3 ++ q4) ++ q5).size + q6.size ≤ 9223372036854775807) <|
 some (((q3 ++ q4) ++ q5) ++ q6))
def Xli (p0 : Xbc) (p1 : Xmb) : Option ByteArray :=
 bnd (
 sel (!p1.Key) (
 bnd (Xb0 p0.Kind) fun q2 =>
 some q2) (
 some ⟨#[]⟩)) fun v1 =>
 sel (p0.Kind == 1) (
 bnd (Xf7 p0.Dx) fun q3 =>
 req (v1.size + q3.size ≤ 9223372036854775807) <|
 bnd (Xf7 p0.Dy) fun q4 =>
 req ((v1 ++ q3).size + q4.size ≤ 9223372036854775807) <|
 bnd (Xjf p0.Levels p1) fun q5 =>
 req (((v1 ++ q3) ++ q4).size + q5.size ≤ 9223372036854775807) <|
 some (((v1 ++ q3) ++ q4) ++ q5)) (
 sel (p0.Kind == 2) (
 bnd (Xb0 p0.Mode) fun q6 =>
 req (v1.size + q6.size ≤ 9223372036854775807) <|
 bnd (Xjf p0.Levels p1) fun q7 =>
 req ((v1 ++ q6).size + q7.size ≤ 9223372036854775807) <|
 some ((v1 ++ q6) ++ q7)) (
 some v1))
def Xgz (p0 : (List Xbc)) (p1 : Xmb) (v3 : (Int × (List Int))) : Option (Lp (Int × (List Int)) (List Int)) :=
 sel (decide (v3.1 < (p0.length : Int))) (
 req (0 ≤ v3.1 ∧ v3.1 < p0.length) <|
 bnd (Xli (⟨(p0.getD v3.1.toNat Xqd).Kind, (p0.getD v3.1.toNat Xqd).Mode, (p0.getD v3.1.toNat Xqd).Dx, (p0.getD v3.1.toNat Xqd).Dy, (p0.getD v3.1.toNat Xqd).Levels⟩ : Xbc) p1) fun q7 =>
 req ((v3.2.length + (Xbq q7).length) * 1 ≤ 140737488355328 ∧ v3.2.length + (Xbq q7).length ≤ maxLen) <|
 some (.go (Xaa .i64 (v3.1 + 1), (v3.2 ++ (Xbq q7))))) (
 some (.done v3.2))
def Xlk (p0 : (List Xbc)) (p1 : Xmb) : Option ByteArray :=
 bnd (loop (Xgz p0 p1) (0, ([] : List Int))) fun v6 =>
 some (strOfNums v6)
def Xfn (p0 : (List Int)) (v4 : (ByteArray × Int)) : Option (Lp (ByteArray × Int) ByteArray) :=
 sel (decide (v4.2 < (p0.length : Int))) (
 req (0 ≤ v4.2 ∧ v4.2 < p0.length) <|
 bnd (Xb0 (p0.getD v4.2.toNat 0)) fun q8 =>
 req (v4.1.size + q8.size ≤ 9223372036854775807) <|
 some (.go ((v4.1 ++ q8), Xaa .i64 (v4.2 + 1)))) (
 some (.done v4.1))
def Xhr (p0 : (List Int)) : Option ByteArray :=
 bnd (Xb0 (p0.length : Int)) fun q1 =>
 bnd (loop (Xfn p0) (q1, 0)) fun v7 =>
 some v7
def Xlf (p0 : Seq) : Option ByteArray :=
 bnd (Xb0 p0.Level) fun q1 =>
 bnd (Xhh p0.Bits 4) fun q2 =>
 req (q1.size + q2.size ≤ 9223372036854775807) <|
 bnd (Xhr p0.Cols) fun q3 =>
 req ((q1 ++ q2).size + q3.size ≤ 9223372036854775807) <|
 bnd (Xhr p0.Rows) fun q4 =>
 req (((q1 ++ q2) ++ q3).size + q4.size ≤ 9223372036854775807) <|
 some (((q1 ++ q2) ++ q3) ++ q4)
def Xj2 (p0 : Int) : Option Bool :=
 bnd (
 sel (p0 == 1) (
 some true) (
 sel (p0 == 5) (
 some true) (
 sel (p0 == 7) (
 some true) (
 some (p0 == 8))))) fun v1 =>
 some v1
def Xei (v2 : (List Int)) : Option (Lp (List Int) (List Int)) :=
 req ((8 : Int) ≠ 0) <|
 sel (((v2.length : Int).tmod 8) != 0) (
 req ((v2.length + ([48]).length) * 1 ≤ 140737488355328 ∧ v2.length + ([48]).length ≤ maxLen) <|
 some (.go (v2 ++ ([48])))) (
 some (.done v2))
def Xck (v4 : (List Int)) (v12 : (Int × (List Int))) (v21 : (Int × Int)) : Option (Lp (Int × Int) Int) :=
 sel (decide (v21.2 < 8)) (
 req (0 ≤ (Xaa .i64 (v12.1 + v21.2)) ∧ (Xaa .i64 (v12.1 + v21.2)) < v4.length) <|
 req ((Xaa .i64 (v12.1 + v21.2)).toNat < v4.length) <|
 some (.go (Xaa .i64 ((Xaa .i64 ((Xaa .i64 (2 * v21.1)) + (Xaa .i64 ((v4.getD ((Xaa .i64 (v12.1 + v21.2)).toNat) 0))))) - 48), Xaa .i64 (v21.2 + 1)))) (
 some (.done v21.1))
def Xdt (v4 : (List Int)) (v12 : (Int × (List Int))) : Option (Lp (Int × (List Int)) (List Int)) :=
 sel (decide (v12.1 < (v4.length : Int))) (
 bnd (loop (Xck v4 v12) (0, 0)) fun v23 =>
 req ((v12.2.length + ([Xaa .u8 (v23)]).length) * 1 ≤ 140737488355328 ∧ v12.2.length + ([Xaa .u8 (v23)]).length ≤ maxLen) <|
 some (.go (Xaa .i64 (v12.1 + 8), (v12.2 ++ ([Xaa .u8 (v23)]))))) (
 some (.done v12.2))
def Xij (p0 : ByteArray) : Option ByteArray :=
 req (p0.size ≤ maxLen) <|
 req (((Xbq p0).length + ([49]).length) * 1 ≤ 140737488355328 ∧ (Xbq p0).length + ([49]).length ≤ maxLen) <|
 bnd (loop (Xei) ((Xbq p0) ++ ([49]))) fun v4 =>
 bnd (loop (Xdt v4) (0, ([] : List Int))) fun v19 =>
 some (strOfNums v19)
def Xhg (p0 : Int) (p1 : ByteArray) : Option (ByteArray × Bool) :=
 bnd (
 bnd (Xj2 p0) fun q2 =>
 sel q2 (
 bnd (Xmr p1) fun q3 =>
 some (!q3)) (
 some true)) fun v1 =>
 sel v1 (
 some (⟨#[]⟩, false)) (
 bnd (Xij p1) fun q4 =>
 req ((strOfNums ([Xaa .u8 (p0)])).size + q4.size ≤ 9223372036854775807) <|
 some (((strOfNums ([Xaa .u8 (p0)])) ++ q4), true))
def Xhq (p0 : Bool) : Option ByteArray :=
 sel p0 (
 some ⟨#[49]⟩) (
 some ⟨#[48]⟩)
def Xle (p0 : Par) : Option ByteArray :=
 bnd (Xhh p0.Qp 6) fun q1 =>
 bnd (Xhq p0.Large) fun q2 =>
 req (q1.size + q2.size ≤ 9223372036854775807) <|
 bnd (Xhq p0.Exact) fun q3 =>
 req ((q1 ++ q2).size + q3.size ≤ 9223372036854775807) <|
 bnd (Xhq p0.Confined) fun q4 =>
 req (((q1 ++ q2) ++ q3).size + q4.size ≤ 9223372036854775807) <|
 some (((q1 ++ q2) ++ q3) ++ q4)
def Xdp (p0 : Xcw) : Option (List ByteArray) :=
 bnd (Xc3 p0) fun q1 =>
 sel (!q1) (
 some ([] : List ByteArray)) (
 bnd (Xlf p0.Seq) fun q2 =>
 bnd (Xhg 7 q2) fun q3 =>
 bnd (Xle p0.Par) fun q4 =>
 bnd (Xhg 8 q4) fun q5 =>
 some ([q3.1, q5.1]))
def Xie (p0 : Rate) (p1 : Int) : Option Rate :=
 bnd (Xhe p0) fun q1 =>
 sel (!q1) (
 some p0) (
 bnd (Xbp p1 0 400000) fun q2 =>
 bnd (Xbp (Xaa .i64 ((Xaa .i64 (p0.Debt + q2)) - p0.Target)) (Xaa .i64 ((-8) * p0.Target)) (Xaa .i64 (8 * p0.Target))) fun q3 =>
 bnd (
 sel (decide (q3 > p0.Target)) (
 some (Xaa .i64 (p0.Qp + 1))) (
 some p0.Qp)) fun v4 =>
 bnd (
 sel (decide (q3 < (Xaa .i64 (0 - p0.Target)))) (
 some (Xaa .i64 (v4 - 1))) (
 some v4)) fun v5 =>
 bnd (Xbp v5 0 40) fun q6 =>
 some (⟨q6, p0.Target, q3⟩ : Rate))
def Xfj (p0 : Xcw) (p1 : Pic) (p2 : Bool) : Option (Xcw × (List ByteArray) × Bool) :=
 bnd (Xhf p0.Seq) fun q1 =>
 bnd (Xk4 p0 p2) fun q2 =>
 bnd (
 bnd (Xc3 p0) fun q4 =>
 sel q4 (
 bnd (Xcj p1) fun q5 =>
 sel q5 (
 sel (p1.Wide != q1.1) (
 some true) (
 sel (p1.High != q1.2) (
 some true) (
 sel q2 (
 some false) (
 some (decide (p0.Since ≥ 1000)))))) (
 some true)) (
 some true)) fun v3 =>
 sel v3 (
 bnd (Xhp p0.Seq) fun q6 =>
 some ((⟨q6, p0.Par, p0.Rate, p0.Frame, p0.Since, p0.Every, p0.Reach, p0.Has, p0.Ref⟩ : Xcw), ([] : List ByteArray), false)) (
 bnd (Xmq p0.Rate q2) fun q7 =>
 bnd (Xj0 p1 p0.Ref (⟨q2, q7, p0.Par.Large, p0.Par.Exact⟩ : Xmb) p0.Reach) fun q8 =>
 bnd (Xjw p0.Seq p0.Par (⟨0, p0.Frame, q7⟩ : Yrn)) fun q9 =>
 bnd (Xlk q8.1 (⟨q2, q7, p0.Par.Large, p0.Par.Exact⟩ : Xmb)) fun q10 =>
 req (q9.1.size + q10.size ≤ 9223372036854775807) <|
 bnd (
 sel q2 (
 bnd (Xdp p0) fun q12 =>
 some (5, q12)) (
 some (1, ([] : List ByteArray)))) fun v11 =>
 bnd (Xhg v11.1 (q9.1 ++ q10)) fun q13 =>
 req ((v11.2.length + ([q13.1]).length) * 16 ≤ 140737488355328 ∧ v11.2.length + ([q13.1]).length ≤ maxLen) <|
 bnd (Xhp p0.Seq) fun q14 =>
 bnd (Xie p0.Rate ((q9.1 ++ q10).size : Int)) fun q15 =>
 req (0 ≤ (Xaa .u64 (p0.Seq.Bits))) <|
 req ((Xaa .i64 (1 * 2 ^ min (Xaa .u64 (p0.Seq.Bits)).toNat (IntKind.bits .i64))) ≠ 0) <|
 bnd (
 sel q2 (
 some 1) (
 some (Xaa .i64 (p0.Since + 1)))) fun v16 =>
 some ((⟨q14, p0.Par, q15, ((Xaa .i64 (p0.Frame + 1)).tmod (Xaa .i64 (1 * 2 ^ min (Xaa .u64 (p0.Seq.Bits)).toNat (IntKind.bits .i64)))), v16, p0.Every, p0.Reach, true, q8.2.1⟩ : Xcw), (v11.2 ++ ([q13.1])), true))
def Xiw (p1 : Pic) (v3 : (Int × Int × (List Int) × Int × Int)) (v7 : (Int × (List Int))) : Option (Lp (Int × (List Int)) (List Int)) :=
 sel (decide (v7.1 < (p1.Dots.size : Int))) (
 req (p1.Wide ≠ 0) <|
 req (p1.Wide ≠ 0) <|
 bnd (Xdh p1 (Xaa .i64 ((v7.1.tmod p1.Wide) + v3.1)) (Xaa .i64 ((Xaa .i64 (v7.1.tdiv p1.Wide)) + v3.2.1))) fun q11 =>
 req ((v7.2.length + ([Xaa .u8 (q11)]).length) * 1 ≤ 140737488355328 ∧ v7.2.length + ([Xaa .u8 (q11)]).length ≤ maxLen) <|
 some (.go (Xaa .i64 (v7.1 + 1), (v7.2 ++ ([Xaa .u8 (q11)]))))) (
 some (.done v7.2))
def Xix (v17 : (Int × (List Int) × Int × Int × (List Int))) : Option (Lp (Int × (List Int) × Int × Int × (List Int)) ((List Int) × (List Int) × Int × Int)) :=
 bnd (Xas (⟨v17.2.1, v17.2.2.1, v17.2.2.2.1⟩ : Xau) 6) fun q23 =>
 sel (decide (v17.1 < q23.1)) (
 bnd (Xas q23.2 (v17.2.2.2.2.length : Int)) fun q24 =>
 bnd (Xbl q24.2) fun q25 =>
 req (0 ≤ q24.1 ∧ q24.1 < v17.2.2.2.2.length) <|
 req (q24.1.toNat < v17.2.2.2.2.length) <|
 some (.go (Xaa .i64 (v17.1 + 1), q25.2.b_, q25.2.i_, q25.2.h_, (v17.2.2.2.2.set q24.1.toNat (Xaa .u8 (q25.1)))))) (
 some (.done (v17.2.2.2.2, q23.2.b_, q23.2.i_, q23.2.h_)))
def Xj4 (p0 : Xau) (p1 : Pic) : Option (Pic × Xau) :=
 bnd (Xas p0 7) fun q1 =>
 bnd (Xas q1.2 5) fun q2 =>
 bnd (
 bnd (Xch q2.2 3) fun q4 =>
 sel q4.1 (
 some (0, 0, q4.2.b_, q4.2.i_, q4.2.h_)) (
 some (Xaa .i64 (q1.1 - 3), Xaa .i64 (q2.1 - 2), q4.2.b_, q4.2.i_, q4.2.h_))) fun v3 =>
 bnd (loop (Xiw p1 v3) (0, ([] : List Int))) fun v10 =>
 bnd (loop (Xix) (0, v3.2.2.1, v3.2.2.2.1, v3.2.2.2.2, v10)) fun v22 =>
 some ((⟨p1.Wide, p1.High, (strOfNums v22.1)⟩ : Pic), (⟨v22.2.1, v22.2.2.1, v22.2.2.2⟩ : Xau))
def Xhb (v16 : (Int × (List Int) × Int × Int × Int × Int × Int × Bool × Bool × Bool × Int × Int × Int × Int × Int × Int × Int × Bool × Int × Int × ByteArray × (List ByteArray) × Int × Int × ByteArray × (List Int) × (List Int))) : Option (Lp (Int × (List Int) × Int × Int × Int × Int × Int × Bool × Bool × Bool × Int × Int × Int × Int × Int × Int × Int × Bool × Int × Int × ByteArray × (List ByteArray) × Int × Int × ByteArray × (List Int) × (List Int)) (Int × Int × Int × Bool × Bool × Bool × Int × Int × Int × Int × Int × Int × Int × Bool × Int × Int × ByteArray × (List ByteArray) × (List Int) × Int × Int × (List Int) × (List Int))) :=
 bnd (Xas (⟨v16.2.1, v16.2.2.1, v16.2.2.2.1⟩ : Xau) 4) fun q23 =>
 sel (decide (v16.1 < q23.1)) (
 bnd (Xch q23.2 5) fun q24 =>
 bnd (Xfj (⟨(⟨v16.2.2.2.2.1, v16.2.2.2.2.2.1, v16.2.2.2.2.2.2.2.2.2.2.2.2.2.2.2.2.2.2.2.2.2.2.2.2.2.1, v16.2.2.2.2.2.2.2.2.2.2.2.2.2.2.2.2.2.2.2.2.2.2.2.2.2.2⟩ : Seq), (⟨v16.2.2.2.2.2.2.1, v16.2.2.2.2.2.2.2.1, v16.2.2.2.2.2.2.2.2.1, v16.2.2.2.2.2.2.2.2.2.1⟩ : Par), (⟨v16.2.2.2.2.2.2.2.2.2.2.1, v16.2.2.2.2.2.2.2.2.2.2.2.1, v16.2.2.2.2.2.2.2.2.2.2.2.2.1⟩ : Rate), v16.2.2.2.2.2.2.2.2.2.2.2.2.2.1, v16.2.2.2.2.2.2.2.2.2.2.2.2.2.2.1, v16.2.2.2.2.2.2.2.2.2.2.2.2.2.2.2.1, v16.2.2.2.2.2.2.2.2.2.2.2.2.2.2.2.2.1, v16.2.2.2.2.2.2.2.2.2.2.2.2.2.2.2.2.2.1, (⟨v16.2.2.2.2.2.2.2.2.2.2.2.2.2.2.2.2.2.2.1, v16.2.2.2.2.2.2.2.2.2.2.2.2.2.2.2.2.2.2.2.1, v16.2.2.2.2.2.2.2.2.2.2.2.2.2.2.2.2.2.2.2.2.1⟩ : Pic)⟩ : Xcw) (⟨v16.2.2.2.2.2.2.2.2.2.2.2.2.2.2.2.2.2.2.2.2.2.2.1, v16.2.2.2.2.2.2.2.2.2.2.2.2.2.2.2.2.2.2.2.2.2.2.2.1, v16.2.2.2.2.2.2.2.2.2.2.2.2.2.2.2.2.2.2.2.2.2.2.2.2.1⟩ : Pic) q24.1) fun q25 =>
 req ((v16.2.2.2.2.2.2.2.2.2.2.2.2.2.2.2.2.2.2.2.2.2.1.length + q25.2.1.length) * 16 ≤ 140737488355328 ∧ v16.2.2.2.2.2.2.2.2.2.2.2.2.2.2.2.2.2.2.2.2.2.1.length + q25.2.1.length ≤ maxLen) <|
 bnd (Xj4 q24.2 (⟨v16.2.2.2.2.2.2.2.2.2.2.2.2.2.2.2.2.2.2.2.2.2.2.1, v16.2.2.2.2.2.2.2.2.2.2.2.2.2.2.2.2.2.2.2.2.2.2.2.1, v16.2.2.2.2.2.2.2.2.2.2.2.2.2.2.2.2.2.2.2.2.2.2.2.2.1⟩ : Pic)) fun q26 =>
 some (.go (Xaa .i64 (v16.1 + 1), q26.2.b_, q26.2.i_, q26.2.h_, q25.1.Seq.Level, q25.1.Seq.Bits, q25.1.Par.Qp, q25.1.Par.Large, q25.1.Par.Exact, q25.1.Par.Confined, q25.1.Rate.Qp, q25.1.Rate.Target, q25.1.Rate.Debt, q25.1.Frame, q25.1.Since, q25.1.Every, q25.1.Reach, q25.1.Has, q25.1.Ref.Wide, q25.1.Ref.High, q25.1.Ref.Dots, (v16.2.2.2.2.2.2.2.2.2.2.2.2.2.2.2.2.2.2.2.2.2.1 ++ q25.2.1), q26.1.Wide, q26.1.High, q26.1.Dots, q25.1.Seq.Cols, q25.1.Seq.Rows))) (
 some (.done (v16.2.2.2.2.1, v16.2.2.2.2.2.1, v16.2.2.2.2.2.2.1, v16.2.2.2.2.2.2.2.1, v16.2.2.2.2.2.2.2.2.1, v16.2.2.2.2.2.2.2.2.2.1, v16.2.2.2.2.2.2.2.2.2.2.1, v16.2.2.2.2.2.2.2.2.2.2.2.1, v16.2.2.2.2.2.2.2.2.2.2.2.2.1, v16.2.2.2.2.2.2.2.2.2.2.2.2.2.1, v16.2.2.2.2.2.2.2.2.2.2.2.2.2.2.1, v16.2.2.2.2.2.2.2.2.2.2.2.2.2.2.2.1, v16.2.2.2.2.2.2.2.2.2.2.2.2.2.2.2.2.1, v16.2.2.2.2.2.2.2.2.2.2.2.2.2.2.2.2.2.1, v16.2.2.2.2.2.2.2.2.2.2.2.2.2.2.2.2.2.2.1, v16.2.2.2.2.2.2.2.2.2.2.2.2.2.2.2.2.2.2.2.1, v16.2.2.2.2.2.2.2.2.2.2.2.2.2.2.2.2.2.2.2.2.1, v16.2.2.2.2.2.2.2.2.2.2.2.2.2.2.2.2.2.2.2.2.2.1, q23.2.b_, q23.2.i_, q23.2.h_, v16.2.2.2.2.2.2.2.2.2.2.2.2.2.2.2.2.2.2.2.2.2.2.2.2.2.1, v16.2.2.2.2.2.2.2.2.2.2.2.2.2.2.2.2.2.2.2.2.2.2.2.2.2.2)))
def Xga (p0 : Xau) : Option (Xcw × (List ByteArray) × Xau) :=
 bnd (Xas p0 2) fun q1 =>
 bnd (Xas q1.2 2) fun q2 =>
 bnd (Xas q2.2 3) fun q3 =>
 bnd (Xej q3.2) fun q4 =>
 bnd (Xiy q4.2) fun q5 =>
 bnd (Xas q5.2 5) fun q6 =>
 bnd (Xas q6.2 3) fun q7 =>
 bnd (Xgq (Xaa .i64 (1 + q1.1)) (Xaa .i64 (1 + q2.1)) (Xaa .i64 (3 + q3.1)) q4.1 q5.1 (Xaa .i64 (1 + q6.1)) q7.1) fun q8 =>
 bnd (Xhf q8.1.Seq) fun q9 =>
 bnd (Xit q7.2 q9.1 q9.2) fun q10 =>
 bnd (loop (Xhb) (0, q10.2.b_, q10.2.i_, q10.2.h_, q8.1.Seq.Level, q8.1.Seq.Bits, q8.1.Par.Qp, q8.1.Par.Large, q8.1.Par.Exact, q8.1.Par.Confined, q8.1.Rate.Qp, q8.1.Rate.Target, q8.1.Rate.Debt, q8.1.Frame, q8.1.Since, q8.1.Every, q8.1.Reach, q8.1.Has, q8.1.Ref.Wide, q8.1.Ref.High, q8.1.Ref.Dots, ([] : List ByteArray), q10.1.Wide, q10.1.High, q10.1.Dots, q8.1.Seq.Cols, q8.1.Seq.Rows)) fun v22 =>
 some ((⟨(⟨v22.1, v22.2.1, v22.2.2.2.2.2.2.2.2.2.2.2.2.2.2.2.2.2.2.2.2.2.1, v22.2.2.2.2.2.2.2.2.2.2.2.2.2.2.2.2.2.2.2.2.2.2⟩ : Seq), (⟨v22.2.2.1, v22.2.2.2.1, v22.2.2.2.2.1, v22.2.2.2.2.2.1⟩ : Par), (⟨v22.2.2.2.2.2.2.1, v22.2.2.2.2.2.2.2.1, v22.2.2.2.2.2.2.2.2.1⟩ : Rate), v22.2.2.2.2.2.2.2.2.2.1, v22.2.2.2.2.2.2.2.2.2.2.1, v22.2.2.2.2.2.2.2.2.2.2.2.1, v22.2.2.2.2.2.2.2.2.2.2.2.2.1, v22.2.2.2.2.2.2.2.2.2.2.2.2.2.1, (⟨v22.2.2.2.2.2.2.2.2.2.2.2.2.2.2.1, v22.2.2.2.2.2.2.2.2.2.2.2.2.2.2.2.1, v22.2.2.2.2.2.2.2.2.2.2.2.2.2.2.2.2.1⟩ : Pic)⟩ : Xcw), v22.2.2.2.2.2.2.2.2.2.2.2.2.2.2.2.2.2.1, (⟨v22.2.2.2.2.2.2.2.2.2.2.2.2.2.2.2.2.2.2.1, v22.2.2.2.2.2.2.2.2.2.2.2.2.2.2.2.2.2.2.2.1, v22.2.2.2.2.2.2.2.2.2.2.2.2.2.2.2.2.2.2.2.2.1⟩ : Xau))
def Xln (p0 : Xau) : Option (Int × Xau) :=
 bnd (Xch p0 3) fun q1 =>
 sel q1.1 (
 bnd (Xct q1.2 ([0, 65535, 65530, 65520, 32767, 32768])) fun q2 =>
 some (q2.1, q2.2)) (
 bnd (Xas q1.2 65536) fun q3 =>
 some (q3.1, q3.2))
def Xc4 (p0 : ByteArray) (v4 : (Int × (List Int))) : Option (Lp (Int × (List Int)) (List Int)) :=
 sel (decide (v4.1 < (p0.size : Int))) (
 bnd (
 bnd (
 sel (decide ((v4.2.length : Int) ≥ 2)) (
 req (0 ≤ (Xaa .i64 ((v4.2.length : Int) - 1)) ∧ (Xaa .i64 ((v4.2.length : Int) - 1)) < v4.2.length) <|
 req ((Xaa .i64 ((v4.2.length : Int) - 1)).toNat < v4.2.length) <|
 sel ((v4.2.getD ((Xaa .i64 ((v4.2.length : Int) - 1)).toNat) 0) == 0) (
 req (0 ≤ (Xaa .i64 ((v4.2.length : Int) - 2)) ∧ (Xaa .i64 ((v4.2.length : Int) - 2)) < v4.2.length) <|
 req ((Xaa .i64 ((v4.2.length : Int) - 2)).toNat < v4.2.length) <|
 sel ((v4.2.getD ((Xaa .i64 ((v4.2.length : Int) - 2)).toNat) 0) == 0) (
 req (0 ≤ v4.1 ∧ v4.1 < p0.size) <|
 some (decide ((Xta p0 v4.1) < 4))) (
 some false)) (
 some false)) (
 some false)) fun v10 =>
 sel v10 (
 req ((v4.2.length + ([3]).length) * 1 ≤ 140737488355328 ∧ v4.2.length + ([3]).length ≤ maxLen) <|
 some (v4.2 ++ ([3]))) (
 some v4.2)) fun v9 =>
 req (0 ≤ v4.1 ∧ v4.1 < p0.size) <|
 req ((v9.length + ([(Xta p0 v4.1)]).length) * 1 ≤ 140737488355328 ∧ v9.length + ([(Xta p0 v4.1)]).length ≤ maxLen) <|
 some (.go (Xaa .i64 (v4.1 + 1), (v9 ++ ([(Xta p0 v4.1)]))))) (
 some (.done v4.2))
def Xfm (p0 : ByteArray) : Option ByteArray :=
 bnd (loop (Xc4 p0) (0, ([] : List Int))) fun v8 =>
 some (strOfNums v8)
def Xjv (p0 : ByteArray) : Option (ByteArray × Bool) :=
 bnd (
 sel ((p0.size : Int) == 0) (
 some true) (
 sel (decide ((p0.size : Int) > 60000)) (
 some true) (
 req (0 ≤ (Xaa .i64 ((p0.size : Int) - 1)) ∧ (Xaa .i64 ((p0.size : Int) - 1)) < p0.size) <|
 some ((Xta p0 (Xaa .i64 ((p0.size : Int) - 1))) == 0)))) fun v1 =>
 sel v1 (
 some (⟨#[]⟩, false)) (
 bnd (Xfm p0) fun q2 =>
 some (q2, true))
def Xep (p0 : (List ByteArray)) (v3 : (Int × (List Int))) : Option (Lp (Int × (List Int)) (Ou (List Int) (ByteArray × Bool))) :=
 sel (decide (v3.1 < (p0.length : Int))) (
 req (0 ≤ v3.1 ∧ v3.1 < p0.length) <|
 bnd (Xjv (p0.getD v3.1.toNat Xtb)) fun q7 =>
 sel (!q7.2) (
 some (.done (.ret (⟨#[]⟩, false)))) (
 req ((v3.2.length + ([0, 0, 1]).length) * 1 ≤ 140737488355328 ∧ v3.2.length + ([0, 0, 1]).length ≤ maxLen) <|
 req (((v3.2 ++ ([0, 0, 1])).length + (Xbq q7.1).length) * 1 ≤ 140737488355328 ∧ (v3.2 ++ ([0, 0, 1])).length + (Xbq q7.1).length ≤ maxLen) <|
 sel (decide ((((v3.2 ++ ([0, 0, 1])) ++ (Xbq q7.1)).length : Int) > 60000)) (
 some (.done (.ret (⟨#[]⟩, false)))) (
 some (.go (Xaa .i64 (v3.1 + 1), ((v3.2 ++ ([0, 0, 1])) ++ (Xbq q7.1))))))) (
 some (.done (.out v3.2)))
def Xk1 (p0 : (List ByteArray)) : Option (ByteArray × Bool) :=
 sel (decide ((p0.length : Int) > 400)) (
 some (⟨#[]⟩, false)) (
 bnd (loop (Xep p0) (0, ([] : List Int))) fun o8 => match o8 with
| .out v6 => (
 some ((strOfNums v6), true))
| .ret r => some r)
def Xjy (p0 : Int) (p1 : Int) : Option Int :=
 bnd (
 bnd (Xak p0 0 65535) fun q2 =>
 sel q2 (
 bnd (Xak p1 0 65535) fun q3 =>
 some (!q3)) (
 some true)) fun v1 =>
 sel v1 (
 some 0) (
 req ((65536 : Int) ≠ 0) <|
 some ((Xaa .i64 (p0 + p1)).tmod 65536))
def Xdn (p1 : Int) (p2 : Int) (q4 : (ByteArray × Bool)) (v9 : (Int × (List Xal))) : Option (Lp (Int × (List Xal)) (List Xal)) :=
 sel (decide (v9.1 < (q4.1.size : Int))) (
 bnd (Xbp (Xaa .i64 (v9.1 + p2)) 0 (q4.1.size : Int)) fun q14 =>
 bnd (Xjy p1 (v9.2.length : Int)) fun q15 =>
 req (0 ≤ v9.1 ∧ v9.1 ≤ q14 ∧ q14 ≤ (q4.1.size : Int)) <|
 req ((v9.2.length + ([(⟨q15, (v9.1 == 0), (q14 == (q4.1.size : Int)), (q4.1.extract v9.1.toNat q14.toNat)⟩ : Xal)]).length) * 32 ≤ 140737488355328 ∧ v9.2.length + ([(⟨q15, (v9.1 == 0), (q14 == (q4.1.size : Int)), (q4.1.extract v9.1.toNat q14.toNat)⟩ : Xal)]).length ≤ maxLen) <|
 some (.go (Xaa .i64 (v9.1 + p2), (v9.2 ++ ([(⟨q15, (v9.1 == 0), (q14 == (q4.1.size : Int)), (q4.1.extract v9.1.toNat q14.toNat)⟩ : Xal)]))))) (
 some (.done v9.2))
def Xgo (p0 : (List ByteArray)) (p1 : Int) (p2 : Int) : Option ((List Xal) × Bool) :=
 bnd (
 bnd (Xak p1 0 65535) fun q2 =>
 sel q2 (
 bnd (Xak p2 1 400) fun q3 =>
 some (!q3)) (
 some true)) fun v1 =>
 sel v1 (
 some (([] : List Xal), false)) (
 bnd (Xk1 p0) fun q4 =>
 bnd (
 sel q4.2 (
 sel ((q4.1.size : Int) == 0) (
 some true) (
 req (p2 ≠ 0) <|
 some (decide ((Xaa .i64 ((Xaa .i64 ((Xaa .i64 ((q4.1.size : Int) + p2)) - 1)).tdiv p2)) > 60)))) (
 some true)) fun v5 =>
 sel v5 (
 some (([] : List Xal), false)) (
 bnd (loop (Xdn p1 p2 q4) (0, ([] : List Xal))) fun v13 =>
 some (v13, true)))
def Xj5 (p0 : Xau) : Option ((List Xal) × Xau) :=
 bnd (Xin p0) fun q1 =>
 bnd (
 bnd (Xch q1.2 2) fun q3 =>
 sel q3.1 (
 bnd (Xga q3.2) fun q4 =>
 some (q4.2.2.b_, q4.2.2.i_, q4.2.2.h_, q4.2.1)) (
 some (q3.2.b_, q3.2.i_, q3.2.h_, q1.1))) fun v2 =>
 bnd (Xln (⟨v2.1, v2.2.1, v2.2.2.1⟩ : Xau)) fun q5 =>
 bnd (Xct q5.2 ([2, 9, 40, 100, 400])) fun q6 =>
 bnd (Xgo v2.2.2.2 q5.1 q6.1) fun q7 =>
 some (q7.1, q6.2)
def Xef (p0 : (List Int)) : Option (List Xal) :=
 bnd (Xje p0) fun q1 =>
 bnd (Xj5 q1) fun q2 =>
 bnd (
 sel (decide ((q2.1.length : Int) < 2)) (
 some true) (
 some (decide ((q2.1.length : Int) > 24)))) fun v3 =>
 sel v3 (
 some ([] : List Xal)) (
 some q2.1)
def Xex (v5 : (Int × (List Int) × Int × Int × (List Int))) : Option (Lp (Int × (List Int) × Int × Int × (List Int)) (List Int)) :=
 sel (decide (v5.1 < 12)) (
 bnd (Xas (⟨v5.2.1, v5.2.2.1, v5.2.2.2.1⟩ : Xau) 10000) fun q9 =>
 req ((v5.2.2.2.2.length + ([q9.1]).length) * 8 ≤ 140737488355328 ∧ v5.2.2.2.2.length + ([q9.1]).length ≤ maxLen) <|
 some (.go (Xaa .i64 (v5.1 + 1), q9.2.b_, q9.2.i_, q9.2.h_, (v5.2.2.2.2 ++ ([q9.1]))))) (
 some (.done v5.2.2.2.2))
def Xfb (p0 : (List Int)) : Option (List Int) :=
 bnd (Xje p0) fun q1 =>
 bnd (Xbl q1) fun q2 =>
 bnd (loop (Xex) (0, q2.2.b_, q2.2.i_, q2.2.h_, ([] : List Int))) fun v8 =>
 some v8
def Xeo (p0 : Xa7) : Option Xa7 :=
 req ((([] : List Xal).length + p0.Held.length) * 32 ≤ 140737488355328 ∧ ([] : List Xal).length + p0.Held.length ≤ maxLen) <|
 some (⟨p0.Begun, p0.Next, p0.Age, (([] : List Xal) ++ p0.Held), p0.Late, p0.Far, p0.Twice, p0.Over, p0.Lost⟩ : Xa7)
def Xb1 (p0 : Int) : Option Bool :=
 bnd (Xcm p0 0 65535) fun q1 =>
 some q1
def Xd4 (p0 : Int) (p1 : Int) : Option Int :=
 bnd (
 bnd (Xb1 p0) fun q2 =>
 sel q2 (
 bnd (Xb1 p1) fun q3 =>
 some (!q3)) (
 some true)) fun v1 =>
 sel v1 (
 some 0) (
 req ((65536 : Int) ≠ 0) <|
 bnd (
 sel (decide (((Xaa .i64 ((Xaa .i64 (p1 - p0)) + 65536)).tmod 65536) ≥ 32768)) (
 some (Xaa .i64 (((Xaa .i64 ((Xaa .i64 (p1 - p0)) + 65536)).tmod 65536) - 65536))) (
 some ((Xaa .i64 ((Xaa .i64 (p1 - p0)) + 65536)).tmod 65536))) fun v4 =>
 some v4)
def Xf0 (p0 : Xal) : Option Bool :=
 bnd (
 bnd (Xb1 p0.Seq) fun q2 =>
 sel q2 (
 bnd (Xcm (p0.Bytes.size : Int) 1 400) fun q3 =>
 some q3) (
 some false)) fun v1 =>
 some v1
def Xdf (p0 : Xa7) (v10 : (Int × Int)) : Option (Lp (Int × Int) (Ou Unit Bool)) :=
 sel (decide (v10.2 < (p0.Held.length : Int))) (
 req (0 ≤ v10.2 ∧ v10.2 < p0.Held.length) <|
 bnd (Xd4 p0.Next ((p0.Held.getD v10.2.toNat Xaw).Seq)) fun q17 =>
 bnd (
 bnd (Xf0 (⟨(p0.Held.getD v10.2.toNat Xaw).Seq, (p0.Held.getD v10.2.toNat Xaw).First, (p0.Held.getD v10.2.toNat Xaw).Last, (p0.Held.getD v10.2.toNat Xaw).Bytes⟩ : Xal)) fun q19 =>
 sel q19 (
 bnd (Xcm q17 (Xaa .i64 (v10.1 + 1)) 39) fun q20 =>
 some (!q20)) (
 some true)) fun v18 =>
 sel v18 (
 some (.done (.ret false))) (
 some (.go (q17, Xaa .i64 (v10.2 + 1))))) (
 some (.done (.out ())))
def Xb8 (p0 : Xa7) (v24 : Int) : Option (Lp Int (Ou Unit Bool)) :=
 sel (decide (v24 < (([p0.Late, p0.Far, p0.Twice, p0.Over, p0.Lost]).length : Int))) (
 req (0 ≤ v24 ∧ v24 < ([p0.Late, p0.Far, p0.Twice, p0.Over, p0.Lost]).length) <|
 req (v24.toNat < ([p0.Late, p0.Far, p0.Twice, p0.Over, p0.Lost]).length) <|
 bnd (Xcm (([p0.Late, p0.Far, p0.Twice, p0.Over, p0.Lost]).getD v24.toNat 0) 0 1000000000) fun q28 =>
 sel (!q28) (
 some (.done (.ret false))) (
 some (.go (Xaa .i64 (v24 + 1))))) (
 some (.done (.out ())))
def Xdz (p0 : Xa7) : Option Bool :=
 sel (!p0.Begun) (
 bnd (
 sel (p0.Next == 0) (
 sel (p0.Age == 0) (
 sel ((p0.Held.length : Int) == 0) (
 sel (p0.Late == 0) (
 sel (p0.Far == 0) (
 sel (p0.Twice == 0) (
 sel (p0.Over == 0) (
 some (p0.Lost == 0)) (
 some false)) (
 some false)) (
 some false)) (
 some false)) (
 some false)) (
 some false)) (
 some false)) fun v1 =>
 some v1) (
 bnd (
 bnd (Xb1 p0.Next) fun q3 =>
 sel q3 (
 bnd (Xcm p0.Age 0 20) fun q4 =>
 sel q4 (
 some (decide ((p0.Held.length : Int) > 24))) (
 some true)) (
 some true)) fun v2 =>
 sel v2 (
 some false) (
 bnd (loop (Xdf p0) ((-1), 0)) fun o21 => match o21 with
| .out v16 => (
 bnd (loop (Xb8 p0) 0) fun o29 => match o29 with
| .out v27 => (
 some true)
| .ret r => some r)
| .ret r => some r))
def Xc0 (p0 : Int) : Option Int :=
 some (if (1000000000 : Int) < (Xaa .i64 (p0 + 1)) then (1000000000 : Int) else (Xaa .i64 (p0 + 1)))
def Xec (p0 : Xa7) (p1 : Int) (v3 : Int) : Option (Lp Int (Ou Unit Bool)) :=
 sel (decide (v3 < (p0.Held.length : Int))) (
 req (0 ≤ v3 ∧ v3 < p0.Held.length) <|
 sel (((p0.Held.getD v3.toNat Xaw).Seq) == p1) (
 some (.done (.ret true))) (
 some (.go (Xaa .i64 (v3 + 1))))) (
 some (.done (.out ())))
def Xf1 (p0 : Xa7) (p1 : Int) : Option Bool :=
 bnd (Xdz p0) fun q1 =>
 sel (!q1) (
 some false) (
 bnd (loop (Xec p0 p1) 0) fun o6 => match o6 with
| .out v5 => (
 some false)
| .ret r => some r)
def Xcz (p0 : Int) (p1 : Int) : Option Int :=
 bnd (
 bnd (Xb1 p0) fun q2 =>
 sel q2 (
 bnd (Xb1 p1) fun q3 =>
 some (!q3)) (
 some true)) fun v1 =>
 sel v1 (
 some 0) (
 req ((65536 : Int) ≠ 0) <|
 some ((Xaa .i64 (p0 + p1)).tmod 65536))
def Xbt (p0 : Xa7) (p1 : Xal) (v5 : Int) : Option (Lp Int Int) :=
 bnd (
 sel (decide (v5 < (p0.Held.length : Int))) (
 req (0 ≤ v5 ∧ v5 < p0.Held.length) <|
 req (v5.toNat < p0.Held.length) <|
 bnd (Xd4 p0.Next ((p0.Held.getD v5.toNat Xaw).Seq)) fun q12 =>
 bnd (Xd4 p0.Next p1.Seq) fun q13 =>
 some (decide (q12 < q13))) (
 some false)) fun v11 =>
 sel v11 (
 some (.go (Xaa .i64 (v5 + 1)))) (
 some (.done v5))
def Xby (p0 : Xa7) (p1 : Xal) : Option Xa7 :=
 bnd (loop (Xbt p0 p1) 0) fun v10 =>
 req (0 ≤ (0 : Int) ∧ (0 : Int) ≤ v10 ∧ v10 ≤ (p0.Held.length : Int)) <|
 req (((0 : Int).toNat + (v10.toNat - (0 : Int).toNat) ≤ p0.Held.length) ∧ (([] : List Xal).length + ((p0.Held.drop ((0 : Int).toNat)).take (v10.toNat - (0 : Int).toNat)).length) * 32 ≤ 140737488355328 ∧ ([] : List Xal).length + ((p0.Held.drop ((0 : Int).toNat)).take (v10.toNat - (0 : Int).toNat)).length ≤ maxLen) <|
 req (((([] : List Xal) ++ ((p0.Held.drop ((0 : Int).toNat)).take (v10.toNat - (0 : Int).toNat))).length + ([p1]).length) * 32 ≤ 140737488355328 ∧ (([] : List Xal) ++ ((p0.Held.drop ((0 : Int).toNat)).take (v10.toNat - (0 : Int).toNat))).length + ([p1]).length ≤ maxLen) <|
 req (0 ≤ v10 ∧ v10 ≤ (p0.Held.length : Int) ∧ (p0.Held.length : Int) ≤ (p0.Held.length : Int)) <|
 req ((v10.toNat + ((p0.Held.length : Int).toNat - v10.toNat) ≤ p0.Held.length) ∧ (((([] : List Xal) ++ ((p0.Held.drop ((0 : Int).toNat)).take (v10.toNat - (0 : Int).toNat))) ++ ([p1])).length + ((p0.Held.drop v10.toNat).take ((p0.Held.length : Int).toNat - v10.toNat)).length) * 32 ≤ 140737488355328 ∧ ((([] : List Xal) ++ ((p0.Held.drop ((0 : Int).toNat)).take (v10.toNat - (0 : Int).toNat))) ++ ([p1])).length + ((p0.Held.drop v10.toNat).take ((p0.Held.length : Int).toNat - v10.toNat)).length ≤ maxLen) <|
 some (⟨p0.Begun, p0.Next, p0.Age, (((([] : List Xal) ++ ((p0.Held.drop ((0 : Int).toNat)).take (v10.toNat - (0 : Int).toNat))) ++ ([p1])) ++ ((p0.Held.drop v10.toNat).take ((p0.Held.length : Int).toNat - v10.toNat))), p0.Late, p0.Far, p0.Twice, p0.Over, p0.Lost⟩ : Xa7)
def Xcl (p0 : Xa7) (v13 : Int) : Option (Lp Int Int) :=
 bnd (
 sel (decide (v13 < (Xaa .i64 ((p0.Held.length : Int) - 1)))) (
 req (0 ≤ v13 ∧ v13 < p0.Held.length) <|
 some (!((p0.Held.getD v13.toNat Xaw).Last))) (
 some false)) fun v17 =>
 sel v17 (
 some (.go (Xaa .i64 (v13 + 1)))) (
 some (.done v13))
def Xhi (p0 : Xa7) (p1 : Xal) : Option (Xa7 × Int) :=
 bnd (Xeo p0) fun q1 =>
 bnd (Xdz p0) fun q2 =>
 sel (!q2) (
 some (q1, 1)) (
 bnd (Xf0 p1) fun q3 =>
 sel (!q3) (
 some (q1, 2)) (
 sel (!p0.Begun) (
 some ((⟨true, p1.Seq, q1.Age, [p1], q1.Late, q1.Far, q1.Twice, q1.Over, q1.Lost⟩ : Xa7), 0)) (
 bnd (Xd4 p0.Next p1.Seq) fun q4 =>
 bnd (
 sel (decide (q4 ≥ 40)) (
 some true) (
 some (decide (q4 < (-40))))) fun v5 =>
 sel v5 (
 bnd (Xc0 p0.Far) fun q6 =>
 some ((⟨q1.Begun, p1.Seq, 0, [p1], q1.Late, q6, q1.Twice, q1.Over, q1.Lost⟩ : Xa7), 4)) (
 sel (decide (q4 < 0)) (
 bnd (Xc0 p0.Late) fun q7 =>
 some ((⟨q1.Begun, q1.Next, q1.Age, q1.Held, q7, q1.Far, q1.Twice, q1.Over, q1.Lost⟩ : Xa7), 3)) (
 bnd (Xf1 p0 p1.Seq) fun q8 =>
 sel q8 (
 bnd (Xc0 p0.Twice) fun q9 =>
 some ((⟨q1.Begun, q1.Next, q1.Age, q1.Held, q1.Late, q1.Far, q9, q1.Over, q1.Lost⟩ : Xa7), 5)) (
 sel ((p0.Held.length : Int) == 24) (
 bnd (Xc0 p0.Over) fun q10 =>
 bnd (loop (Xcl p0) 0) fun v16 =>
 req (0 ≤ v16 ∧ v16 < p0.Held.length) <|
 bnd (Xcz ((p0.Held.getD v16.toNat Xaw).Seq) 1) fun q19 =>
 req (0 ≤ (Xaa .i64 (v16 + 1)) ∧ (Xaa .i64 (v16 + 1)) ≤ (q1.Held.length : Int) ∧ (q1.Held.length : Int) ≤ (q1.Held.length : Int)) <|
 bnd (
 bnd (Xd4 q19 p1.Seq) fun q21 =>
 bnd (Xcm q21 0 39) fun q22 =>
 sel q22 (
 bnd (Xby (⟨q1.Begun, q19, 0, ((q1.Held.drop ((Xaa .i64 (v16 + 1)).toNat)).take ((q1.Held.length : Int).toNat - (Xaa .i64 (v16 + 1)).toNat)), q1.Late, q1.Far, q1.Twice, q10, q1.Lost⟩ : Xa7) p1) fun q23 =>
 some (q23.Begun, q23.Next, q23.Age, q23.Late, q23.Far, q23.Twice, q23.Over, q23.Lost, q23.Held)) (
 some (q1.Begun, q19, 0, q1.Late, q1.Far, q1.Twice, q10, q1.Lost, ((q1.Held.drop ((Xaa .i64 (v16 + 1)).toNat)).take ((q1.Held.length : Int).toNat - (Xaa .i64 (v16 + 1)).toNat))))) fun v20 =>
 some ((⟨v20.1, v20.2.1, v20.2.2.1, v20.2.2.2.2.2.2.2.2, v20.2.2.2.1, v20.2.2.2.2.1, v20.2.2.2.2.2.1, v20.2.2.2.2.2.2.1, v20.2.2.2.2.2.2.2.1⟩ : Xa7), 6)) (
 bnd (Xby q1 p1) fun q24 =>
 some (q24, 0))))))))
def Xbw (p0 : Xa7) (q1 : Xa7) (v8 : Int) : Option (Lp Int (Ou Unit (Xa7 × (List Xal) × Int))) :=
 sel (decide (v8 < (q1.Held.length : Int))) (
 req (0 ≤ v8 ∧ v8 < q1.Held.length) <|
 req (v8.toNat < q1.Held.length) <|
 bnd (Xcz p0.Next v8) fun q13 =>
 sel (((q1.Held.getD v8.toNat Xaw).Seq) != q13) (
 some (.done (.out ()))) (
 sel ((q1.Held.getD v8.toNat Xaw).Last) (
 req (0 ≤ (0 : Int) ∧ (0 : Int) ≤ (Xaa .i64 (v8 + 1)) ∧ (Xaa .i64 (v8 + 1)) ≤ (q1.Held.length : Int)) <|
 req (((0 : Int).toNat + ((Xaa .i64 (v8 + 1)).toNat - (0 : Int).toNat) ≤ q1.Held.length) ∧ (([] : List Xal).length + ((q1.Held.drop ((0 : Int).toNat)).take ((Xaa .i64 (v8 + 1)).toNat - (0 : Int).toNat)).length) * 32 ≤ 140737488355328 ∧ ([] : List Xal).length + ((q1.Held.drop ((0 : Int).toNat)).take ((Xaa .i64 (v8 + 1)).toNat - (0 : Int).toNat)).length ≤ maxLen) <|
 req (0 ≤ (Xaa .i64 (v8 + 1)) ∧ (Xaa .i64 (v8 + 1)) ≤ (q1.Held.length : Int) ∧ (q1.Held.length : Int) ≤ (q1.Held.length : Int)) <|
 req (((Xaa .i64 (v8 + 1)).toNat + ((q1.Held.length : Int).toNat - (Xaa .i64 (v8 + 1)).toNat) ≤ q1.Held.length) ∧ (([] : List Xal).length + ((q1.Held.drop ((Xaa .i64 (v8 + 1)).toNat)).take ((q1.Held.length : Int).toNat - (Xaa .i64 (v8 + 1)).toNat)).length) * 32 ≤ 140737488355328 ∧ ([] : List Xal).length + ((q1.Held.drop ((Xaa .i64 (v8 + 1)).toNat)).take ((q1.Held.length : Int).toNat - (Xaa .i64 (v8 + 1)).toNat)).length ≤ maxLen) <|
 bnd (Xcz ((q1.Held.getD v8.toNat Xaw).Seq) 1) fun q14 =>
 some (.done (.ret ((⟨q1.Begun, q14, 0, (([] : List Xal) ++ ((q1.Held.drop ((Xaa .i64 (v8 + 1)).toNat)).take ((q1.Held.length : Int).toNat - (Xaa .i64 (v8 + 1)).toNat))), q1.Late, q1.Far, q1.Twice, q1.Over, q1.Lost⟩ : Xa7), (([] : List Xal) ++ ((q1.Held.drop ((0 : Int).toNat)).take ((Xaa .i64 (v8 + 1)).toNat - (0 : Int).toNat))), 1)))) (
 some (.go (Xaa .i64 (v8 + 1)))))) (
 some (.done (.out ())))
def Xbx (p0 : Xa7) (q17 : Int) (v20 : Int) : Option (Lp Int (Int × (List Xal))) :=
 sel (decide (v20 < (p0.Held.length : Int))) (
 req (0 ≤ v20 ∧ v20 < p0.Held.length) <|
 bnd (
 sel ((p0.Held.getD v20.toNat Xaw).First) (
 some (((p0.Held.getD v20.toNat Xaw).Seq) != p0.Next)) (
 some false)) fun v24 =>
 sel v24 (
 req (0 ≤ v20 ∧ v20 ≤ (p0.Held.length : Int) ∧ (p0.Held.length : Int) ≤ (p0.Held.length : Int)) <|
 req ((([] : List Xal).length + ((p0.Held.drop v20.toNat).take ((p0.Held.length : Int).toNat - v20.toNat)).length) * 32 ≤ 140737488355328 ∧ ([] : List Xal).length + ((p0.Held.drop v20.toNat).take ((p0.Held.length : Int).toNat - v20.toNat)).length ≤ maxLen) <|
 some (.done ((p0.Held.getD v20.toNat Xaw).Seq, (([] : List Xal) ++ ((p0.Held.drop v20.toNat).take ((p0.Held.length : Int).toNat - v20.toNat)))))) (
 some (.go (Xaa .i64 (v20 + 1))))) (
 some (.done (q17, ([] : List Xal))))
def Xgf (p0 : Xa7) (p1 : Int) : Option (Xa7 × (List Xal) × Int) :=
 bnd (Xeo p0) fun q1 =>
 bnd (
 bnd (Xdz p0) fun q3 =>
 sel q3 (
 bnd (Xcm p1 0 20) fun q4 =>
 some (!q4)) (
 some true)) fun v2 =>
 sel v2 (
 some (q1, ([] : List Xal), 0)) (
 bnd (loop (Xbw p0 q1) 0) fun o15 => match o15 with
| .out v12 => (
 sel ((p0.Held.length : Int) == 0) (
 some ((⟨q1.Begun, q1.Next, 0, q1.Held, q1.Late, q1.Far, q1.Twice, q1.Over, q1.Lost⟩ : Xa7), ([] : List Xal), 0)) (
 sel (decide (p0.Age < p1)) (
 some ((⟨q1.Begun, q1.Next, Xaa .i64 (q1.Age + 1), q1.Held, q1.Late, q1.Far, q1.Twice, q1.Over, q1.Lost⟩ : Xa7), ([] : List Xal), 0)) (
 bnd (Xc0 p0.Lost) fun q16 =>
 req (0 ≤ (Xaa .i64 ((p0.Held.length : Int) - 1)) ∧ (Xaa .i64 ((p0.Held.length : Int) - 1)) < p0.Held.length) <|
 bnd (Xcz ((p0.Held.getD (Xaa .i64 ((p0.Held.length : Int) - 1)).toNat Xaw).Seq) 1) fun q17 =>
 bnd (loop (Xbx p0 q17) 0) fun v23 =>
 some ((⟨q1.Begun, v23.1, 0, v23.2, q1.Late, q1.Far, q1.Twice, q1.Over, q16⟩ : Xa7), ([] : List Xal), 2))))
| .ret r => some r)
def Xcn (p0 : (List Xal)) (p1 : (List Xal)) (v2 : Int) : Option (Lp Int (Ou Unit Bool)) :=
 sel (decide (v2 < (p0.length : Int))) (
 req (0 ≤ v2 ∧ v2 < p0.length) <|
 req (0 ≤ v2 ∧ v2 < p1.length) <|
 sel (((((p0.getD v2.toNat Xaw).Seq) == ((p1.getD v2.toNat Xaw).Seq)) && ((((p0.getD v2.toNat Xaw).First) == ((p1.getD v2.toNat Xaw).First)) && ((((p0.getD v2.toNat Xaw).Last) == ((p1.getD v2.toNat Xaw).Last)) && (((p0.getD v2.toNat Xaw).Bytes).toList == ((p1.getD v2.toNat Xaw).Bytes).toList)))) == false) (
 some (.done (.ret false))) (
 some (.go (Xaa .i64 (v2 + 1))))) (
 some (.done (.out ())))
def Xed (p0 : (List Xal)) (p1 : (List Xal)) : Option Bool :=
 sel ((p0.length : Int) != (p1.length : Int)) (
 some false) (
 bnd (loop (Xcn p0 p1) 0) fun o5 => match o5 with
| .out v4 => (
 some true)
| .ret r => some r)
def Xdg (q3 : (List Int)) (v9 : (Int × Bool × Int × Int × Int × Int × Int × Int × Int × (List Xal) × (List Xal))) : Option (Lp (Int × Bool × Int × Int × Int × Int × Int × Int × Int × (List Xal) × (List Xal)) (Ou (Bool × Int × Int × Int × Int × Int × Int × Int × (List Xal)) Bool)) :=
 sel (decide ((v9.2.2.2.2.2.2.2.2.2.1.length : Int) > 0)) (
 req ((12 : Int) ≠ 0) <|
 req (0 ≤ (v9.1.tmod 12) ∧ (v9.1.tmod 12) < q3.length) <|
 req ((v9.1.tmod 12).toNat < q3.length) <|
 req ((v9.2.2.2.2.2.2.2.2.2.1.length : Int) ≠ 0) <|
 req (0 ≤ ((q3.getD ((v9.1.tmod 12).toNat) 0).tmod (v9.2.2.2.2.2.2.2.2.2.1.length : Int)) ∧ ((q3.getD ((v9.1.tmod 12).toNat) 0).tmod (v9.2.2.2.2.2.2.2.2.2.1.length : Int)) < v9.2.2.2.2.2.2.2.2.2.1.length) <|
 req (((q3.getD ((v9.1.tmod 12).toNat) 0).tmod (v9.2.2.2.2.2.2.2.2.2.1.length : Int)).toNat < v9.2.2.2.2.2.2.2.2.2.1.length) <|
 bnd (Xhi (⟨v9.2.1, v9.2.2.1, v9.2.2.2.1, v9.2.2.2.2.2.2.2.2.2.2, v9.2.2.2.2.1, v9.2.2.2.2.2.1, v9.2.2.2.2.2.2.1, v9.2.2.2.2.2.2.2.1, v9.2.2.2.2.2.2.2.2.1⟩ : Xa7) (⟨(v9.2.2.2.2.2.2.2.2.2.1.getD (((q3.getD ((v9.1.tmod 12).toNat) 0).tmod (v9.2.2.2.2.2.2.2.2.2.1.length : Int)).toNat) Xaw).Seq, (v9.2.2.2.2.2.2.2.2.2.1.getD (((q3.getD ((v9.1.tmod 12).toNat) 0).tmod (v9.2.2.2.2.2.2.2.2.2.1.length : Int)).toNat) Xaw).First, (v9.2.2.2.2.2.2.2.2.2.1.getD (((q3.getD ((v9.1.tmod 12).toNat) 0).tmod (v9.2.2.2.2.2.2.2.2.2.1.length : Int)).toNat) Xaw).Last, (v9.2.2.2.2.2.2.2.2.2.1.getD (((q3.getD ((v9.1.tmod 12).toNat) 0).tmod (v9.2.2.2.2.2.2.2.2.2.1.length : Int)).toNat) Xaw).Bytes⟩ : Xal)) fun q15 =>
 bnd (
 sel (q15.2 != 0) (
 some true) (
 req (0 ≤ ((q3.getD ((v9.1.tmod 12).toNat) 0).tmod (v9.2.2.2.2.2.2.2.2.2.1.length : Int)) ∧ ((q3.getD ((v9.1.tmod 12).toNat) 0).tmod (v9.2.2.2.2.2.2.2.2.2.1.length : Int)) < v9.2.2.2.2.2.2.2.2.2.1.length) <|
 req (((q3.getD ((v9.1.tmod 12).toNat) 0).tmod (v9.2.2.2.2.2.2.2.2.2.1.length : Int)).toNat < v9.2.2.2.2.2.2.2.2.2.1.length) <|
 bnd (Xf1 q15.1 ((v9.2.2.2.2.2.2.2.2.2.1.getD (((q3.getD ((v9.1.tmod 12).toNat) 0).tmod (v9.2.2.2.2.2.2.2.2.2.1.length : Int)).toNat) Xaw).Seq)) fun q17 =>
 some (!q17))) fun v16 =>
 sel v16 (
 some (.done (.ret false))) (
 req (0 ≤ (0 : Int) ∧ (0 : Int) ≤ ((q3.getD ((v9.1.tmod 12).toNat) 0).tmod (v9.2.2.2.2.2.2.2.2.2.1.length : Int)) ∧ ((q3.getD ((v9.1.tmod 12).toNat) 0).tmod (v9.2.2.2.2.2.2.2.2.2.1.length : Int)) ≤ (v9.2.2.2.2.2.2.2.2.2.1.length : Int)) <|
 req (((0 : Int).toNat + (((q3.getD ((v9.1.tmod 12).toNat) 0).tmod (v9.2.2.2.2.2.2.2.2.2.1.length : Int)).toNat - (0 : Int).toNat) ≤ v9.2.2.2.2.2.2.2.2.2.1.length) ∧ (([] : List Xal).length + ((v9.2.2.2.2.2.2.2.2.2.1.drop ((0 : Int).toNat)).take (((q3.getD ((v9.1.tmod 12).toNat) 0).tmod (v9.2.2.2.2.2.2.2.2.2.1.length : Int)).toNat - (0 : Int).toNat)).length) * 32 ≤ 140737488355328 ∧ ([] : List Xal).length + ((v9.2.2.2.2.2.2.2.2.2.1.drop ((0 : Int).toNat)).take (((q3.getD ((v9.1.tmod 12).toNat) 0).tmod (v9.2.2.2.2.2.2.2.2.2.1.length : Int)).toNat - (0 : Int).toNat)).length ≤ maxLen) <|
 req (0 ≤ (Xaa .i64 (((q3.getD ((v9.1.tmod 12).toNat) 0).tmod (v9.2.2.2.2.2.2.2.2.2.1.length : Int)) + 1)) ∧ (Xaa .i64 (((q3.getD ((v9.1.tmod 12).toNat) 0).tmod (v9.2.2.2.2.2.2.2.2.2.1.length : Int)) + 1)) ≤ (v9.2.2.2.2.2.2.2.2.2.1.length : Int) ∧ (v9.2.2.2.2.2.2.2.2.2.1.length : Int) ≤ (v9.2.2.2.2.2.2.2.2.2.1.length : Int)) <|
 req (((Xaa .i64 (((q3.getD ((v9.1.tmod 12).toNat) 0).tmod (v9.2.2.2.2.2.2.2.2.2.1.length : Int)) + 1)).toNat + ((v9.2.2.2.2.2.2.2.2.2.1.length : Int).toNat - (Xaa .i64 (((q3.getD ((v9.1.tmod 12).toNat) 0).tmod (v9.2.2.2.2.2.2.2.2.2.1.length : Int)) + 1)).toNat) ≤ v9.2.2.2.2.2.2.2.2.2.1.length) ∧ ((([] : List Xal) ++ ((v9.2.2.2.2.2.2.2.2.2.1.drop ((0 : Int).toNat)).take (((q3.getD ((v9.1.tmod 12).toNat) 0).tmod (v9.2.2.2.2.2.2.2.2.2.1.length : Int)).toNat - (0 : Int).toNat))).length + ((v9.2.2.2.2.2.2.2.2.2.1.drop ((Xaa .i64 (((q3.getD ((v9.1.tmod 12).toNat) 0).tmod (v9.2.2.2.2.2.2.2.2.2.1.length : Int)) + 1)).toNat)).take ((v9.2.2.2.2.2.2.2.2.2.1.length : Int).toNat - (Xaa .i64 (((q3.getD ((v9.1.tmod 12).toNat) 0).tmod (v9.2.2.2.2.2.2.2.2.2.1.length : Int)) + 1)).toNat)).length) * 32 ≤ 140737488355328 ∧ (([] : List Xal) ++ ((v9.2.2.2.2.2.2.2.2.2.1.drop ((0 : Int).toNat)).take (((q3.getD ((v9.1.tmod 12).toNat) 0).tmod (v9.2.2.2.2.2.2.2.2.2.1.length : Int)).toNat - (0 : Int).toNat))).length + ((v9.2.2.2.2.2.2.2.2.2.1.drop ((Xaa .i64 (((q3.getD ((v9.1.tmod 12).toNat) 0).tmod (v9.2.2.2.2.2.2.2.2.2.1.length : Int)) + 1)).toNat)).take ((v9.2.2.2.2.2.2.2.2.2.1.length : Int).toNat - (Xaa .i64 (((q3.getD ((v9.1.tmod 12).toNat) 0).tmod (v9.2.2.2.2.2.2.2.2.2.1.length : Int)) + 1)).toNat)).length ≤ maxLen) <|
 some (.go (Xaa .i64 (v9.1 + 1), q15.1.Begun, q15.1.Next, q15.1.Age, q15.1.Late, q15.1.Far, q15.1.Twice, q15.1.Over, q15.1.Lost, ((([] : List Xal) ++ ((v9.2.2.2.2.2.2.2.2.2.1.drop ((0 : Int).toNat)).take (((q3.getD ((v9.1.tmod 12).toNat) 0).tmod (v9.2.2.2.2.2.2.2.2.2.1.length : Int)).toNat - (0 : Int).toNat))) ++ ((v9.2.2.2.2.2.2.2.2.2.1.drop ((Xaa .i64 (((q3.getD ((v9.1.tmod 12).toNat) 0).tmod (v9.2.2.2.2.2.2.2.2.2.1.length : Int)) + 1)).toNat)).take ((v9.2.2.2.2.2.2.2.2.2.1.length : Int).toNat - (Xaa .i64 (((q3.getD ((v9.1.tmod 12).toNat) 0).tmod (v9.2.2.2.2.2.2.2.2.2.1.length : Int)) + 1)).toNat))), q15.1.Held)))) (
 some (.done (.out (v9.2.1, v9.2.2.1, v9.2.2.2.1, v9.2.2.2.2.1, v9.2.2.2.2.2.1, v9.2.2.2.2.2.2.1, v9.2.2.2.2.2.2.2.1, v9.2.2.2.2.2.2.2.2.1, v9.2.2.2.2.2.2.2.2.2.2))))
def Xji (p0 : (List Int)) : Option Bool :=
 bnd (Xyb p0) fun q1 =>
 sel q1 (
 some true) (
 bnd (Xef p0) fun q2 =>
 bnd (Xfb p0) fun q3 =>
 sel ((q2.length : Int) == 0) (
 some true) (
 req (0 ≤ (0 : Int) ∧ (0 : Int) < q2.length) <|
 req ((0 : Int).toNat < q2.length) <|
 bnd (Xhi (⟨false, 0, 0, [], 0, 0, 0, 0, 0⟩ : Xa7) (⟨(q2.getD ((0 : Int).toNat) Xaw).Seq, (q2.getD ((0 : Int).toNat) Xaw).First, (q2.getD ((0 : Int).toNat) Xaw).Last, (q2.getD ((0 : Int).toNat) Xaw).Bytes⟩ : Xal)) fun q4 =>
 sel (q4.2 != 0) (
 some false) (
 req (0 ≤ (1 : Int) ∧ (1 : Int) ≤ (q2.length : Int) ∧ (q2.length : Int) ≤ (q2.length : Int)) <|
 req (((1 : Int).toNat + ((q2.length : Int).toNat - (1 : Int).toNat) ≤ q2.length) ∧ (([] : List Xal).length + ((q2.drop ((1 : Int).toNat)).take ((q2.length : Int).toNat - (1 : Int).toNat)).length) * 32 ≤ 140737488355328 ∧ ([] : List Xal).length + ((q2.drop ((1 : Int).toNat)).take ((q2.length : Int).toNat - (1 : Int).toNat)).length ≤ maxLen) <|
 bnd (loop (Xdg q3) (0, q4.1.Begun, q4.1.Next, q4.1.Age, q4.1.Late, q4.1.Far, q4.1.Twice, q4.1.Over, q4.1.Lost, (([] : List Xal) ++ ((q2.drop ((1 : Int).toNat)).take ((q2.length : Int).toNat - (1 : Int).toNat))), q4.1.Held)) fun o18 => match o18 with
| .out v14 => (
 bnd (Xgf (⟨v14.1, v14.2.1, v14.2.2.1, v14.2.2.2.2.2.2.2.2, v14.2.2.2.1, v14.2.2.2.2.1, v14.2.2.2.2.2.1, v14.2.2.2.2.2.2.1, v14.2.2.2.2.2.2.2.1⟩ : Xa7) 0) fun q19 =>
 bnd (
 sel (q19.2.2 == 1) (
 bnd (Xed q19.2.1 q2) fun q21 =>
 sel q21 (
 sel ((q19.1.Held.length : Int) == 0) (
 req (0 ≤ (Xaa .i64 ((q2.length : Int) - 1)) ∧ (Xaa .i64 ((q2.length : Int) - 1)) < q2.length) <|
 req ((Xaa .i64 ((q2.length : Int) - 1)).toNat < q2.length) <|
 bnd (Xcz ((q2.getD ((Xaa .i64 ((q2.length : Int) - 1)).toNat) Xaw).Seq) 1) fun q22 =>
 sel (q19.1.Next == q22) (
 bnd (Xdz q19.1) fun q23 =>
 some q23) (
 some false)) (
 some false)) (
 some false)) (
 some false)) fun v20 =>
 some v20)
| .ret r => some r)))
end
end Go.Proofs.YtlebkepfhdjnmadGreat.A
