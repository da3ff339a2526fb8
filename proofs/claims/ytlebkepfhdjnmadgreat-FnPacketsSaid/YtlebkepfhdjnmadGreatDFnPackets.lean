/- What the functions that the law FnPackets reaches compute, over numbers, texts and lists. Written by a program of this session. Conditions: none. -/
import Derived.Test.YtlebkepfhdjnmadGreatAL2
namespace Go.Proofs.YtlebkepfhdjnmadGreat.A
open Go Go.Proofs Go.Proofs.YtlebkepfhdjnmadGreatAL Go.RowKit
set_option linter.unusedVariables false
set_option linter.unusedSimpArgs false
structure Pic where
 Wide : Int
 High : Int
 Dots : ByteArray
structure Par where
 Qp : Int
 Large : Bool
 Exact : Bool
 Confined : Bool
structure Xba where
 Kind : Int
 Mode : Int
 Dx : Int
 Dy : Int
 Levels : (List Int)
structure Xly where
 Key : Bool
 Qp : Int
 Large : Bool
 Exact : Bool
structure Xay where
 Seq : Int
 First : Bool
 Last : Bool
 Bytes : ByteArray
structure Xnb where
 Above : (List Int)
 Left : (List Int)
 Corner : Int
structure Seq where
 Level : Int
 Bits : Int
 Cols : (List Int)
 Rows : (List Int)
structure Rate where
 Qp : Int
 Target : Int
 Debt : Int
structure Xcm where
 Seq : Seq
 Par : Par
 Rate : Rate
 Frame : Int
 Since : Int
 Every : Int
 Reach : Int
 Has : Bool
 Ref : Pic
structure Xaw where
 b_ : (List Int)
 i_ : Int
 h_ : Int
structure Yry where
 Tile : Int
 Frame : Int
 Qp : Int
def Xou : ByteArray := ⟨#[]⟩
def Xa4 : Xay := ⟨0, false, false, ⟨#[]⟩⟩
def Xp3 : Xba := ⟨0, 0, 0, 0, []⟩
noncomputable section
def Xak (p0 : Int) (p1 : Int) (p2 : Int) : Option Bool :=
 bnd (
 sel (decide (p0 ≥ p1)) (
 some (decide (p0 ≤ p2))) (
 some false)) fun v1 =>
 some v1
def Xhi (p0 : Int) : Option Bool :=
 bnd (
 req ((8 : Int) ≠ 0) <|
 sel ((p0.tmod 8) == 0) (
 bnd (Xak p0 8 64) fun q2 =>
 some q2) (
 some false)) fun v1 =>
 some v1
def Xf9 (p0 : ByteArray) (v3 : Int) : Option (Lp Int (Ou Unit Bool)) :=
 sel (decide (v3 < (p0.size : Int))) (
 bnd (
 req (0 ≤ v3 ∧ v3 < p0.size) <|
 sel ((Xei p0 v3) != 48) (
 req (0 ≤ v3 ∧ v3 < p0.size) <|
 some ((Xei p0 v3) != 49)) (
 some false)) fun v7 =>
 sel v7 (
 some (.done (.ret false))) (
 some (.go (Xaa .i64 (v3 + 1))))) (
 some (.done (.out ())))
def Xkw (p0 : ByteArray) : Option Bool :=
 bnd (loop (Xf9 p0) 0) fun o8 => match o8 with
| .out v6 => (
 some true)
| .ret r => some r
def Xmd (p0 : ByteArray) : Option Bool :=
 bnd (
 sel (decide ((p0.size : Int) ≤ 400000)) (
 bnd (Xkw p0) fun q2 =>
 some q2) (
 some false)) fun v1 =>
 some v1
def Xdv (p0 : Xly) : Option Bool :=
 bnd (
 bnd (Xak p0.Qp 0 40) fun q2 =>
 sel q2 (
 sel p0.Large (
 some (!p0.Exact)) (
 some true)) (
 some false)) fun v1 =>
 some v1
def Xb9 (p0 : (List Int)) (p1 : Int) (p2 : Int) (v3 : Int) : Option (Lp Int (Ou Unit Bool)) :=
 sel (decide (v3 < p1)) (
 req (0 ≤ v3 ∧ v3 < p0.length) <|
 bnd (Xak (p0.getD v3.toNat 0) (Xaa .i64 (0 - p2)) p2) fun q7 =>
 sel (!q7) (
 some (.done (.ret false))) (
 some (.go (Xaa .i64 (v3 + 1))))) (
 some (.done (.out ())))
def Xbf (p0 : (List Int)) (p1 : Int) (p2 : Int) : Option Bool :=
 sel ((p0.length : Int) != p1) (
 some false) (
 bnd (loop (Xb9 p0 p1 p2) 0) fun o8 => match o8 with
| .out v6 => (
 some true)
| .ret r => some r)
def Xh1 (p0 : Xba) : Option Bool :=
 sel (p0.Kind == 0) (
 bnd (
 sel (p0.Mode == 0) (
 sel (p0.Dx == 0) (
 sel (p0.Dy == 0) (
 some ((p0.Levels.length : Int) == 0)) (
 some false)) (
 some false)) (
 some false)) fun v1 =>
 some v1) (
 sel (p0.Kind == 1) (
 bnd (
 sel (p0.Mode == 0) (
 bnd (Xak p0.Dx (-16) 16) fun q3 =>
 sel q3 (
 bnd (Xak p0.Dy (-16) 16) fun q4 =>
 sel q4 (
 bnd (Xbf p0.Levels 64 5000) fun q5 =>
 some q5) (
 some false)) (
 some false)) (
 some false)) fun v2 =>
 some v2) (
 sel (p0.Kind == 2) (
 bnd (
 bnd (Xak p0.Mode 0 3) fun q7 =>
 sel q7 (
 sel (p0.Dx == 0) (
 sel (p0.Dy == 0) (
 bnd (Xbf p0.Levels 64 5000) fun q8 =>
 some q8) (
 some false)) (
 some false)) (
 some false)) fun v6 =>
 some v6) (
 some false)))
def Xkd (p0 : Par) : Option Bool :=
 bnd (
 bnd (Xak p0.Qp 0 40) fun q2 =>
 sel q2 (
 sel p0.Large (
 some (!p0.Exact)) (
 some true)) (
 some false)) fun v1 =>
 some v1
def Xcc (p0 : Pic) : Option Bool :=
 bnd (
 bnd (Xak p0.Wide 1 256) fun q2 =>
 sel q2 (
 bnd (Xak p0.High 1 256) fun q3 =>
 sel q3 (
 some ((p0.Dots.size : Int) == (Xaa .i64 (p0.Wide * p0.High)))) (
 some false)) (
 some false)) fun v1 =>
 some v1
def Xed (p0 : Pic) (p1 : Int) (p2 : Int) (p3 : Int) (p4 : Int) : Option Bool :=
 bnd (
 bnd (Xcc p0) fun q2 =>
 sel q2 (
 bnd (Xak p3 1 p0.Wide) fun q3 =>
 sel q3 (
 bnd (Xak p4 1 p0.High) fun q4 =>
 sel q4 (
 bnd (Xak p1 0 (Xaa .i64 (p0.Wide - p3))) fun q5 =>
 sel q5 (
 bnd (Xak p2 0 (Xaa .i64 (p0.High - p4))) fun q6 =>
 some q6) (
 some false)) (
 some false)) (
 some false)) (
 some false)) fun v1 =>
 some v1
def Xe5 (p0 : Int) (p1 : Int) (v2 : (Int × (List Int))) : Option (Lp (Int × (List Int)) (List Int)) :=
 sel (decide (v2.1 < p0)) (
 req (0 ≤ v2.1 ∧ v2.1 < v2.2.length) <|
 req (v2.1.toNat < v2.2.length) <|
 some (.go (Xaa .i64 (v2.1 + 1), (v2.2.set v2.1.toNat p1)))) (
 some (.done v2.2))
def Xhb (p0 : Int) (p1 : Int) : Option ByteArray :=
 req (0 ≤ p0 ∧ p0 ≤ p0 ∧ p0 * 1 ≤ 281474976710656) <|
 bnd (loop (Xe5 p0 p1) (0, (List.replicate p0.toNat (0 : Int)))) fun v4 =>
 some (strOfNums v4)
def Xn0 (p0 : Int) (p1 : Int) : Option Pic :=
 bnd (
 bnd (Xak p0 1 256) fun q2 =>
 sel q2 (
 bnd (Xak p1 1 256) fun q3 =>
 some (!q3)) (
 some true)) fun v1 =>
 sel v1 (
 some (⟨0, 0, ⟨#[]⟩⟩ : Pic)) (
 bnd (Xhb (Xaa .i64 (p0 * p1)) 128) fun q4 =>
 some (⟨p0, p1, q4⟩ : Pic))
def Xdr (p0 : Pic) (p1 : Int) (p2 : Int) : Option Bool :=
 bnd (
 req ((8 : Int) ≠ 0) <|
 sel ((p1.tmod 8) == 0) (
 req ((8 : Int) ≠ 0) <|
 sel ((p2.tmod 8) == 0) (
 bnd (Xed p0 p1 p2 8 8) fun q2 =>
 some q2) (
 some false)) (
 some false)) fun v1 =>
 some v1
def Xbj (p0 : Int) (p1 : Int) (p2 : Int) : Option Int :=
 bnd (
 sel (decide (p2 < p1)) (
 some true) (
 some (decide (p0 < p1)))) fun v1 =>
 sel v1 (
 some p1) (
 sel (decide (p0 > p2)) (
 some p2) (
 some p0))
def Xc5 (p0 : Pic) (p1 : Int) (p2 : Int) : Option Int :=
 bnd (Xcc p0) fun q1 =>
 sel (!q1) (
 some (-1)) (
 bnd (Xbj p2 0 (Xaa .i64 (p0.High - 1))) fun q2 =>
 bnd (Xbj p1 0 (Xaa .i64 (p0.Wide - 1))) fun q3 =>
 req (0 ≤ (Xaa .i64 ((Xaa .i64 (q2 * p0.Wide)) + q3)) ∧ (Xaa .i64 ((Xaa .i64 (q2 * p0.Wide)) + q3)) < p0.Dots.size) <|
 some (Xaa .i64 ((Xei p0.Dots (Xaa .i64 ((Xaa .i64 (q2 * p0.Wide)) + q3))))))
def Xew (p0 : Pic) (p1 : Int) (p2 : Int) (v7 : (Int × (List Int) × (List Int))) : Option (Lp (Int × (List Int) × (List Int)) ((List Int) × (List Int))) :=
 sel (decide (v7.1 < 8)) (
 bnd (
 bnd (
 sel (decide (p2 > 0)) (
 bnd (Xc5 p0 (Xaa .i64 (p1 + v7.1)) (Xaa .i64 (p2 - 1))) fun q16 =>
 req ((v7.2.1.length + ([q16]).length) * 8 ≤ 140737488355328 ∧ v7.2.1.length + ([q16]).length ≤ maxLen) <|
 some (v7.2.1 ++ ([q16]))) (
 some v7.2.1)) fun v15 =>
 sel (decide (p1 > 0)) (
 bnd (Xc5 p0 (Xaa .i64 (p1 - 1)) (Xaa .i64 (p2 + v7.1))) fun q17 =>
 req ((v7.2.2.length + ([q17]).length) * 8 ≤ 140737488355328 ∧ v7.2.2.length + ([q17]).length ≤ maxLen) <|
 some (v15, (v7.2.2 ++ ([q17])))) (
 some (v15, v7.2.2))) fun v14 =>
 some (.go (Xaa .i64 (v7.1 + 1), v14.1, v14.2))) (
 some (.done (v7.2.1, v7.2.2)))
def Xg8 (p0 : Pic) (p1 : Int) (p2 : Int) : Option (Xnb × Bool) :=
 bnd (Xdr p0 p1 p2) fun q1 =>
 sel (!q1) (
 some ((⟨[], [], 0⟩ : Xnb), false)) (
 bnd (loop (Xew p0 p1 p2) (0, [], [])) fun v13 =>
 bnd (
 bnd (
 sel (decide (p1 > 0)) (
 some (decide (p2 > 0))) (
 some false)) fun v20 =>
 sel v20 (
 bnd (Xc5 p0 (Xaa .i64 (p1 - 1)) (Xaa .i64 (p2 - 1))) fun q21 =>
 some q21) (
 some (-1))) fun v19 =>
 some ((⟨v13.1, v13.2, v19⟩ : Xnb), true))
def Xkp (p0 : Int) (p1 : Int) (v17 : (Int × Int)) (v38 : (Int × Int)) : Option (Lp (Int × Int) (Ou Int Int)) :=
 sel (decide (v38.2 < p0)) (
 Yh4 (fun (v44 : Int) =>
 some (.go (v44, Xaa .i64 (v38.2 + 1)))) fun j36 =>
 bnd (
 req ((2 : Int) ≠ 0) <|
 sel ((v17.2.tmod 2) == 0) (
 some (Xaa .i64 ((Xaa .i64 (p0 - 1)) - v38.2))) (
 some v38.2)) fun v45 =>
 bnd (Xak (Xaa .i64 (v17.2 - v45)) 0 (Xaa .i64 (p0 - 1))) fun q46 =>
 sel (!q46) (
 j36 v38.1) (
 sel (v38.1 == p1) (
 some (.done (.ret (Xaa .i64 ((Xaa .i64 ((Xaa .i64 (p0 * v45)) + v17.2)) - v45))))) (
 j36 (Xaa .i64 (v38.1 + 1))))) (
 some (.done (.out v38.1)))
def Xh0 (p0 : Int) (p1 : Int) (v17 : (Int × Int)) : Option (Lp (Int × Int) (Ou Unit Int)) :=
 sel (decide (v17.2 ≤ (Xaa .i64 ((Xaa .i64 (2 * p0)) - 2)))) (
 bnd (loop (Xkp p0 p1 v17) (v17.1, 0)) fun o47 => match o47 with
| .out v43 => (
 some (.go (v43, Xaa .i64 (v17.2 + 1))))
| .ret r => some (.done (.ret r))) (
 some (.done (.out ())))
def Xiu (p0 : Int) (p1 : Int) : Option Int :=
 bnd (
 sel (p0 != 4) (
 sel (p0 != 8) (
 some true) (
 sel (decide (p1 < 0)) (
 some true) (
 some (decide (p1 ≥ (Xaa .i64 (p0 * p0))))))) (
 sel (decide (p1 < 0)) (
 some true) (
 some (decide (p1 ≥ (Xaa .i64 (p0 * p0))))))) fun v1 =>
 sel v1 (
 some (-1)) (
 bnd (loop (Xh0 p0 p1) (0, 0)) fun o48 => match o48 with
| .out v33 => (
 some (-1))
| .ret r => some r)
def Xde (p0 : Int) (p1 : (List Int)) (v4 : (Int × (List Int))) : Option (Lp (Int × (List Int)) (List Int)) :=
 sel (decide (v4.1 < (Xaa .i64 (p0 * p0)))) (
 bnd (Xiu p0 v4.1) fun q8 =>
 req (0 ≤ v4.1 ∧ v4.1 < p1.length) <|
 req (0 ≤ q8 ∧ q8 < v4.2.length) <|
 req (q8.toNat < v4.2.length) <|
 some (.go (Xaa .i64 (v4.1 + 1), (v4.2.set q8.toNat (p1.getD v4.1.toNat 0))))) (
 some (.done v4.2))
def Xcz (p0 : Int) (p1 : (List Int)) : Option ((List Int) × Bool) :=
 bnd (
 sel (p0 != 4) (
 sel (p0 != 8) (
 some true) (
 some ((p1.length : Int) != (Xaa .i64 (p0 * p0))))) (
 some ((p1.length : Int) != (Xaa .i64 (p0 * p0))))) fun v1 =>
 sel v1 (
 some (([] : List Int), false)) (
 req (0 ≤ (p1.length : Int) ∧ (p1.length : Int) ≤ (p1.length : Int) ∧ (p1.length : Int) * 8 ≤ 281474976710656) <|
 bnd (loop (Xde p0 p1) (0, (List.replicate (p1.length : Int).toNat (0 : Int)))) fun v7 =>
 some (v7, true))
def Xi9 (p0 : Int) (v4 : (Int × Int)) : Option (Lp (Int × Int) Int) :=
 req ((6 : Int) ≠ 0) <|
 sel (decide (v4.2 < (Xaa .i64 (p0.tdiv 6)))) (
 some (.go (Xaa .i64 (2 * v4.1), Xaa .i64 (v4.2 + 1)))) (
 some (.done v4.1))
def Xiy (p0 : Int) : Option Int :=
 bnd (Xak p0 0 40) fun q1 =>
 sel (!q1) (
 some 0) (
 bnd (
 req ((6 : Int) ≠ 0) <|
 sel ((p0.tmod 6) == 0) (
 some 10) (
 sel ((p0.tmod 6) == 1) (
 some 11) (
 sel ((p0.tmod 6) == 2) (
 some 13) (
 sel ((p0.tmod 6) == 3) (
 some 14) (
 sel ((p0.tmod 6) == 4) (
 some 16) (
 some 18)))))) fun v2 =>
 bnd (loop (Xi9 p0) (v2, 0)) fun v6 =>
 some v6)
def Xf2 (p0 : Int) (p1 : Int) : Option Int :=
 bnd (Xak p0 (-5000) 5000) fun q1 =>
 sel (!q1) (
 some 0) (
 bnd (Xiy p1) fun q2 =>
 some (Xaa .i64 (p0 * q2)))
def Xi8 (v6 : (Int × Int)) : Option (Lp (Int × Int) Int) :=
 sel (decide (v6.2 > 0)) (
 bnd (
 req ((2 : Int) ≠ 0) <|
 sel ((v6.2.tmod 2) == 1) (
 some (Xaa .i64 (0 - v6.1))) (
 some v6.1)) fun v10 =>
 req ((2 : Int) ≠ 0) <|
 some (.go (v10, Xaa .i64 (v6.2.tdiv 2)))) (
 some (.done v6.1))
def Xix (p0 : Int) (p1 : Int) : Option Int :=
 bnd (
 bnd (Xak p0 0 7) fun q2 =>
 sel q2 (
 bnd (Xak p1 0 7) fun q3 =>
 some (!q3)) (
 some true)) fun v1 =>
 sel v1 (
 some 0) (
 bnd (loop (Xi8) (1, (IntKind.wrap .i64 (BitVec.ofInt (IntKind.bits .i64) p0 &&& BitVec.ofInt (IntKind.bits .i64) p1).toNat))) fun v9 =>
 some v9)
def Xga (p0 : (List Int)) (p1 : Int) (p2 : Int) (v3 : (Int × Int)) : Option (Lp (Int × Int) Int) :=
 sel (decide (v3.2 < 8)) (
 req (0 ≤ (Xaa .i64 ((Xaa .i64 (8 * p1)) + v3.2)) ∧ (Xaa .i64 ((Xaa .i64 (8 * p1)) + v3.2)) < p0.length) <|
 bnd (Xix p2 v3.2) fun q7 =>
 some (.go (Xaa .i64 (v3.1 + (Xaa .i64 ((p0.getD (Xaa .i64 ((Xaa .i64 (8 * p1)) + v3.2)).toNat 0) * q7))), Xaa .i64 (v3.2 + 1)))) (
 some (.done v3.1))
def Xk1 (p0 : (List Int)) (p1 : Int) (p2 : Int) : Option Int :=
 bnd (loop (Xga p0 p1 p2) (0, 0)) fun v6 =>
 some v6
def Xd7 (p0 : (List Int)) (v10 : (Int × (List Int))) (v23 : (Int × (List Int))) : Option (Lp (Int × (List Int)) (List Int)) :=
 sel (decide (v23.1 < 8)) (
 bnd (Xk1 p0 v10.1 v23.1) fun q27 =>
 req ((v23.2.length + ([q27]).length) * 8 ≤ 140737488355328 ∧ v23.2.length + ([q27]).length ≤ maxLen) <|
 some (.go (Xaa .i64 (v23.1 + 1), (v23.2 ++ ([q27]))))) (
 some (.done v23.2))
def Xd6 (p0 : (List Int)) (v10 : (Int × (List Int))) : Option (Lp (Int × (List Int)) (List Int)) :=
 sel (decide (v10.1 < 8)) (
 bnd (loop (Xd7 p0 v10) (0, v10.2)) fun v26 =>
 some (.go (Xaa .i64 (v10.1 + 1), v26))) (
 some (.done v10.2))
def Xdk (v20 : (List Int)) (v60 : (Int × (List Int))) (v101 : (Int × (List Int))) (v114 : (Int × Int)) : Option (Lp (Int × Int) Int) :=
 sel (decide (v114.2 < 8)) (
 bnd (Xix v60.1 v114.2) fun q118 =>
 req (0 ≤ (Xaa .i64 ((Xaa .i64 (8 * v114.2)) + v101.1)) ∧ (Xaa .i64 ((Xaa .i64 (8 * v114.2)) + v101.1)) < v20.length) <|
 req ((Xaa .i64 ((Xaa .i64 (8 * v114.2)) + v101.1)).toNat < v20.length) <|
 some (.go (Xaa .i64 (v114.1 + (Xaa .i64 (q118 * (v20.getD ((Xaa .i64 ((Xaa .i64 (8 * v114.2)) + v101.1)).toNat) 0)))), Xaa .i64 (v114.2 + 1)))) (
 some (.done v114.1))
def Xdj (v20 : (List Int)) (v60 : (Int × (List Int))) (v101 : (Int × (List Int))) : Option (Lp (Int × (List Int)) (List Int)) :=
 sel (decide (v101.1 < 8)) (
 bnd (loop (Xdk v20 v60 v101) (0, 0)) fun v117 =>
 req ((v101.2.length + ([v117]).length) * 8 ≤ 140737488355328 ∧ v101.2.length + ([v117]).length ≤ maxLen) <|
 some (.go (Xaa .i64 (v101.1 + 1), (v101.2 ++ ([v117]))))) (
 some (.done v101.2))
def Xdi (v20 : (List Int)) (v60 : (Int × (List Int))) : Option (Lp (Int × (List Int)) (List Int)) :=
 sel (decide (v60.1 < 8)) (
 bnd (loop (Xdj v20 v60) (0, v60.2)) fun v111 =>
 some (.go (Xaa .i64 (v60.1 + 1), v111))) (
 some (.done v60.2))
def Xhg (p0 : (List Int)) : Option (List Int) :=
 bnd (loop (Xd6 p0) (0, ([] : List Int))) fun v20 =>
 bnd (loop (Xdi v20) (0, ([] : List Int))) fun v91 =>
 some v91
def Xdo (p0 : Int) (p1 : Int) : Option Int :=
 req (p1 ≠ 0) <|
 bnd (
 req (p1 ≠ 0) <|
 sel (decide ((p0.tmod p1) < 0)) (
 some (Xaa .i64 ((Xaa .i64 (p0.tdiv p1)) - 1))) (
 some (Xaa .i64 (p0.tdiv p1)))) fun v1 =>
 some v1
def Xc6 (v5 : (Int × (List Int))) : Option (Lp (Int × (List Int)) (List Int)) :=
 sel (decide (v5.1 < 64)) (
 req (0 ≤ v5.1 ∧ v5.1 < v5.2.length) <|
 req (v5.1.toNat < v5.2.length) <|
 bnd (Xdo (Xaa .i64 ((v5.2.getD v5.1.toNat 0) + 32)) 64) fun q9 =>
 req (0 ≤ v5.1 ∧ v5.1 < v5.2.length) <|
 req (v5.1.toNat < v5.2.length) <|
 some (.go (Xaa .i64 (v5.1 + 1), (v5.2.set v5.1.toNat q9)))) (
 some (.done v5.2))
def Xf0 (p0 : (List Int)) : Option (List Int) :=
 bnd (Xbf p0 64 10000000) fun q1 =>
 sel (!q1) (
 some ([] : List Int)) (
 bnd (Xhg p0) fun q2 =>
 bnd (loop (Xc6) (0, q2)) fun v8 =>
 some v8)
def Xit (p0 : Int) : Option Int :=
 bnd (Xak p0 0 15) fun q1 =>
 sel (!q1) (
 some (-1)) (
 req ((4 : Int) ≠ 0) <|
 req ((2 : Int) ≠ 0) <|
 req ((4 : Int) ≠ 0) <|
 req ((2 : Int) ≠ 0) <|
 bnd (
 sel (((Xaa .i64 (p0.tdiv 4)).tmod 2) == 0) (
 some (((p0.tmod 4).tmod 2) == 0)) (
 some false)) fun v2 =>
 sel v2 (
 some 0) (
 bnd (
 sel (((Xaa .i64 (p0.tdiv 4)).tmod 2) == 1) (
 some (((p0.tmod 4).tmod 2) == 1)) (
 some false)) fun v3 =>
 sel v3 (
 some 1) (
 some 2)))
def Xbe (p0 : Int) (p1 : Int) (p2 : Int) (p3 : Int) : Option Int :=
 sel (p0 == 0) (
 some p1) (
 sel (p0 == 1) (
 some p2) (
 some p3))
def Xdc (p0 : Int) (v12 : (Int × Int)) : Option (Lp (Int × Int) Int) :=
 req ((6 : Int) ≠ 0) <|
 sel (decide (v12.2 < (Xaa .i64 (p0.tdiv 6)))) (
 some (.go (Xaa .i64 (2 * v12.1), Xaa .i64 (v12.2 + 1)))) (
 some (.done v12.1))
def Xjh (p0 : Int) (p1 : Int) : Option Int :=
 bnd (Xit p1) fun q1 =>
 bnd (
 bnd (Xak p0 0 40) fun q3 =>
 sel q3 (
 some (decide (q1 < 0))) (
 some true)) fun v2 =>
 sel v2 (
 some 0) (
 bnd (
 req ((6 : Int) ≠ 0) <|
 sel ((p0.tmod 6) == 0) (
 bnd (Xbe q1 10 16 13) fun q5 =>
 some q5) (
 sel ((p0.tmod 6) == 1) (
 bnd (Xbe q1 11 18 14) fun q6 =>
 some q6) (
 sel ((p0.tmod 6) == 2) (
 bnd (Xbe q1 13 20 16) fun q7 =>
 some q7) (
 sel ((p0.tmod 6) == 3) (
 bnd (Xbe q1 14 23 18) fun q8 =>
 some q8) (
 sel ((p0.tmod 6) == 4) (
 bnd (Xbe q1 16 25 20) fun q9 =>
 some q9) (
 sel ((p0.tmod 6) == 5) (
 bnd (Xbe q1 18 29 23) fun q10 =>
 some q10) (
 some 0))))))) fun v4 =>
 bnd (loop (Xdc p0) (v4, 0)) fun v14 =>
 some v14)
def Xf4 (p0 : Int) (p1 : Int) (p2 : Int) : Option Int :=
 bnd (Xak p0 (-5000) 5000) fun q1 =>
 sel (!q1) (
 some 0) (
 bnd (Xjh p1 p2) fun q2 =>
 some (Xaa .i64 (p0 * q2)))
def Xd5 (p0 : (List Int)) (v4 : (Int × (List Int))) : Option (Lp (Int × (List Int)) (List Int)) :=
 sel (decide (v4.1 < 4)) (
 req (0 ≤ (Xaa .i64 (4 * v4.1)) ∧ (Xaa .i64 (4 * v4.1)) < p0.length) <|
 req (0 ≤ (Xaa .i64 ((Xaa .i64 (4 * v4.1)) + 1)) ∧ (Xaa .i64 ((Xaa .i64 (4 * v4.1)) + 1)) < p0.length) <|
 req (0 ≤ (Xaa .i64 ((Xaa .i64 (4 * v4.1)) + 2)) ∧ (Xaa .i64 ((Xaa .i64 (4 * v4.1)) + 2)) < p0.length) <|
 req (0 ≤ (Xaa .i64 ((Xaa .i64 (4 * v4.1)) + 3)) ∧ (Xaa .i64 ((Xaa .i64 (4 * v4.1)) + 3)) < p0.length) <|
 bnd (Xdo (p0.getD (Xaa .i64 ((Xaa .i64 (4 * v4.1)) + 1)).toNat 0) 2) fun q9 =>
 bnd (Xdo (p0.getD (Xaa .i64 ((Xaa .i64 (4 * v4.1)) + 3)).toNat 0) 2) fun q10 =>
 req ((v4.2.length + ([Xaa .i64 ((Xaa .i64 ((p0.getD (Xaa .i64 (4 * v4.1)).toNat 0) + (p0.getD (Xaa .i64 ((Xaa .i64 (4 * v4.1)) + 2)).toNat 0))) + (Xaa .i64 ((p0.getD (Xaa .i64 ((Xaa .i64 (4 * v4.1)) + 1)).toNat 0) + q10))), Xaa .i64 ((Xaa .i64 ((p0.getD (Xaa .i64 (4 * v4.1)).toNat 0) - (p0.getD (Xaa .i64 ((Xaa .i64 (4 * v4.1)) + 2)).toNat 0))) + (Xaa .i64 (q9 - (p0.getD (Xaa .i64 ((Xaa .i64 (4 * v4.1)) + 3)).toNat 0)))), Xaa .i64 ((Xaa .i64 ((p0.getD (Xaa .i64 (4 * v4.1)).toNat 0) - (p0.getD (Xaa .i64 ((Xaa .i64 (4 * v4.1)) + 2)).toNat 0))) - (Xaa .i64 (q9 - (p0.getD (Xaa .i64 ((Xaa .i64 (4 * v4.1)) + 3)).toNat 0)))), Xaa .i64 ((Xaa .i64 ((p0.getD (Xaa .i64 (4 * v4.1)).toNat 0) + (p0.getD (Xaa .i64 ((Xaa .i64 (4 * v4.1)) + 2)).toNat 0))) - (Xaa .i64 ((p0.getD (Xaa .i64 ((Xaa .i64 (4 * v4.1)) + 1)).toNat 0) + q10)))]).length) * 8 ≤ 140737488355328 ∧ v4.2.length + ([Xaa .i64 ((Xaa .i64 ((p0.getD (Xaa .i64 (4 * v4.1)).toNat 0) + (p0.getD (Xaa .i64 ((Xaa .i64 (4 * v4.1)) + 2)).toNat 0))) + (Xaa .i64 ((p0.getD (Xaa .i64 ((Xaa .i64 (4 * v4.1)) + 1)).toNat 0) + q10))), Xaa .i64 ((Xaa .i64 ((p0.getD (Xaa .i64 (4 * v4.1)).toNat 0) - (p0.getD (Xaa .i64 ((Xaa .i64 (4 * v4.1)) + 2)).toNat 0))) + (Xaa .i64 (q9 - (p0.getD (Xaa .i64 ((Xaa .i64 (4 * v4.1)) + 3)).toNat 0)))), Xaa .i64 ((Xaa .i64 ((p0.getD (Xaa .i64 (4 * v4.1)).toNat 0) - (p0.getD (Xaa .i64 ((Xaa .i64 (4 * v4.1)) + 2)).toNat 0))) - (Xaa .i64 (q9 - (p0.getD (Xaa .i64 ((Xaa .i64 (4 * v4.1)) + 3)).toNat 0)))), Xaa .i64 ((Xaa .i64 ((p0.getD (Xaa .i64 (4 * v4.1)).toNat 0) + (p0.getD (Xaa .i64 ((Xaa .i64 (4 * v4.1)) + 2)).toNat 0))) - (Xaa .i64 ((p0.getD (Xaa .i64 ((Xaa .i64 (4 * v4.1)) + 1)).toNat 0) + q10)))]).length ≤ maxLen) <|
 some (.go (Xaa .i64 (v4.1 + 1), (v4.2 ++ ([Xaa .i64 ((Xaa .i64 ((p0.getD (Xaa .i64 (4 * v4.1)).toNat 0) + (p0.getD (Xaa .i64 ((Xaa .i64 (4 * v4.1)) + 2)).toNat 0))) + (Xaa .i64 ((p0.getD (Xaa .i64 ((Xaa .i64 (4 * v4.1)) + 1)).toNat 0) + q10))), Xaa .i64 ((Xaa .i64 ((p0.getD (Xaa .i64 (4 * v4.1)).toNat 0) - (p0.getD (Xaa .i64 ((Xaa .i64 (4 * v4.1)) + 2)).toNat 0))) + (Xaa .i64 (q9 - (p0.getD (Xaa .i64 ((Xaa .i64 (4 * v4.1)) + 3)).toNat 0)))), Xaa .i64 ((Xaa .i64 ((p0.getD (Xaa .i64 (4 * v4.1)).toNat 0) - (p0.getD (Xaa .i64 ((Xaa .i64 (4 * v4.1)) + 2)).toNat 0))) - (Xaa .i64 (q9 - (p0.getD (Xaa .i64 ((Xaa .i64 (4 * v4.1)) + 3)).toNat 0)))), Xaa .i64 ((Xaa .i64 ((p0.getD (Xaa .i64 (4 * v4.1)).toNat 0) + (p0.getD (Xaa .i64 ((Xaa .i64 (4 * v4.1)) + 2)).toNat 0))) - (Xaa .i64 ((p0.getD (Xaa .i64 ((Xaa .i64 (4 * v4.1)) + 1)).toNat 0) + q10)))]))))) (
 some (.done v4.2))
def Xfq (p0 : (List Int)) : Option (List Int) :=
 bnd (loop (Xd5 p0) (0, ([] : List Int))) fun v8 =>
 some v8
def Xe9 (p0 : (List Int)) (v2 : (Int × (List Int))) : Option (Lp (Int × (List Int)) (List Int)) :=
 sel (decide (v2.1 < 16)) (
 req ((4 : Int) ≠ 0) <|
 req ((4 : Int) ≠ 0) <|
 req (0 ≤ v2.1 ∧ v2.1 < p0.length) <|
 req (0 ≤ (Xaa .i64 ((Xaa .i64 ((v2.1.tmod 4) * 4)) + (Xaa .i64 (v2.1.tdiv 4)))) ∧ (Xaa .i64 ((Xaa .i64 ((v2.1.tmod 4) * 4)) + (Xaa .i64 (v2.1.tdiv 4)))) < v2.2.length) <|
 req ((Xaa .i64 ((Xaa .i64 ((v2.1.tmod 4) * 4)) + (Xaa .i64 (v2.1.tdiv 4)))).toNat < v2.2.length) <|
 some (.go (Xaa .i64 (v2.1 + 1), (v2.2.set ((Xaa .i64 ((Xaa .i64 ((v2.1.tmod 4) * 4)) + (Xaa .i64 (v2.1.tdiv 4)))).toNat) (p0.getD v2.1.toNat 0))))) (
 some (.done v2.2))
def Xdp (p0 : (List Int)) : Option (List Int) :=
 req (0 ≤ (16 : Int) ∧ (16 : Int) ≤ (16 : Int) ∧ (16 : Int) * 8 ≤ 281474976710656) <|
 bnd (loop (Xe9 p0) (0, (List.replicate (16 : Int).toNat (0 : Int)))) fun v4 =>
 some v4
def Xd1 (v8 : (Int × (List Int))) : Option (Lp (Int × (List Int)) (List Int)) :=
 sel (decide (v8.1 < 16)) (
 req (0 ≤ v8.1 ∧ v8.1 < v8.2.length) <|
 req (v8.1.toNat < v8.2.length) <|
 bnd (Xdo (Xaa .i64 ((v8.2.getD v8.1.toNat 0) + 32)) 64) fun q12 =>
 req (0 ≤ v8.1 ∧ v8.1 < v8.2.length) <|
 req (v8.1.toNat < v8.2.length) <|
 some (.go (Xaa .i64 (v8.1 + 1), (v8.2.set v8.1.toNat q12)))) (
 some (.done v8.2))
def Xhw (p0 : (List Int)) : Option (List Int) :=
 bnd (Xbf p0 16 10000000) fun q1 =>
 sel (!q1) (
 some ([] : List Int)) (
 bnd (Xfq p0) fun q2 =>
 bnd (Xdp q2) fun q3 =>
 bnd (Xfq q3) fun q4 =>
 bnd (Xdp q4) fun q5 =>
 bnd (loop (Xd1) (0, q5)) fun v11 =>
 some v11)
def Xcq (p1 : Xly) (v8 : (Int × (List Int))) : Option (Lp (Int × (List Int)) (List Int)) :=
 sel (decide (v8.1 < 64)) (
 req (0 ≤ v8.1 ∧ v8.1 < v8.2.length) <|
 req (v8.1.toNat < v8.2.length) <|
 bnd (Xf2 (v8.2.getD v8.1.toNat 0) p1.Qp) fun q12 =>
 req (0 ≤ v8.1 ∧ v8.1 < v8.2.length) <|
 req (v8.1.toNat < v8.2.length) <|
 some (.go (Xaa .i64 (v8.1 + 1), (v8.2.set v8.1.toNat q12)))) (
 some (.done v8.2))
def Xch (p1 : Xly) (v52 : (Int × (List Int))) : Option (Lp (Int × (List Int)) (List Int)) :=
 sel (decide (v52.1 < 16)) (
 req (0 ≤ v52.1 ∧ v52.1 < v52.2.length) <|
 req (v52.1.toNat < v52.2.length) <|
 bnd (Xf4 (v52.2.getD v52.1.toNat 0) p1.Qp v52.1) fun q56 =>
 req (0 ≤ v52.1 ∧ v52.1 < v52.2.length) <|
 req (v52.1.toNat < v52.2.length) <|
 some (.go (Xaa .i64 (v52.1 + 1), (v52.2.set v52.1.toNat q56)))) (
 some (.done v52.2))
def Xci (v31 : (Int × (List Int))) (q58 : (List Int)) (v60 : (Int × (List Int))) : Option (Lp (Int × (List Int)) (List Int)) :=
 sel (decide (v60.1 < 16)) (
 req ((2 : Int) ≠ 0) <|
 req ((4 : Int) ≠ 0) <|
 req ((2 : Int) ≠ 0) <|
 req ((4 : Int) ≠ 0) <|
 req (0 ≤ v60.1 ∧ v60.1 < q58.length) <|
 req (v60.1.toNat < q58.length) <|
 req (0 ≤ (Xaa .i64 ((Xaa .i64 ((Xaa .i64 (8 * (Xaa .i64 ((Xaa .i64 ((Xaa .i64 (v31.1.tdiv 2)) * 4)) + (Xaa .i64 (v60.1.tdiv 4)))))) + (Xaa .i64 ((v31.1.tmod 2) * 4)))) + (v60.1.tmod 4))) ∧ (Xaa .i64 ((Xaa .i64 ((Xaa .i64 (8 * (Xaa .i64 ((Xaa .i64 ((Xaa .i64 (v31.1.tdiv 2)) * 4)) + (Xaa .i64 (v60.1.tdiv 4)))))) + (Xaa .i64 ((v31.1.tmod 2) * 4)))) + (v60.1.tmod 4))) < v60.2.length) <|
 req ((Xaa .i64 ((Xaa .i64 ((Xaa .i64 (8 * (Xaa .i64 ((Xaa .i64 ((Xaa .i64 (v31.1.tdiv 2)) * 4)) + (Xaa .i64 (v60.1.tdiv 4)))))) + (Xaa .i64 ((v31.1.tmod 2) * 4)))) + (v60.1.tmod 4))).toNat < v60.2.length) <|
 some (.go (Xaa .i64 (v60.1 + 1), (v60.2.set ((Xaa .i64 ((Xaa .i64 ((Xaa .i64 (8 * (Xaa .i64 ((Xaa .i64 ((Xaa .i64 (v31.1.tdiv 2)) * 4)) + (Xaa .i64 (v60.1.tdiv 4)))))) + (Xaa .i64 ((v31.1.tmod 2) * 4)))) + (v60.1.tmod 4))).toNat) (q58.getD v60.1.toNat 0))))) (
 some (.done v60.2))
def Xcg (p0 : (List Int)) (p1 : Xly) (v31 : (Int × (List Int))) : Option (Lp (Int × (List Int)) (List Int)) :=
 sel (decide (v31.1 < 4)) (
 req (0 ≤ (Xaa .i64 (16 * v31.1)) ∧ (Xaa .i64 (16 * v31.1)) ≤ (Xaa .i64 ((Xaa .i64 (16 * v31.1)) + 16)) ∧ (Xaa .i64 ((Xaa .i64 (16 * v31.1)) + 16)) ≤ (p0.length : Int)) <|
 bnd (Xcz 4 ((p0.drop (Xaa .i64 (16 * v31.1)).toNat).take ((Xaa .i64 ((Xaa .i64 (16 * v31.1)) + 16)).toNat - (Xaa .i64 (16 * v31.1)).toNat))) fun q49 =>
 bnd (loop (Xch p1) (0, q49.1)) fun v55 =>
 bnd (Xhw v55) fun q58 =>
 bnd (loop (Xci v31 q58) (0, v31.2)) fun v62 =>
 some (.go (Xaa .i64 (v31.1 + 1), v62))) (
 some (.done v31.2))
def Xc8 (p0 : (List Int)) (p1 : Xly) : Option ((List Int) × Bool) :=
 bnd (
 bnd (Xdv p1) fun q2 =>
 sel q2 (
 bnd (Xbf p0 64 5000) fun q3 =>
 some (!q3)) (
 some true)) fun v1 =>
 sel v1 (
 some (([] : List Int), false)) (
 sel p1.Exact (
 bnd (Xcz 8 p0) fun q4 =>
 some (q4.1, q4.2)) (
 sel p1.Large (
 bnd (Xcz 8 p0) fun q5 =>
 bnd (loop (Xcq p1) (0, q5.1)) fun v11 =>
 bnd (Xf0 v11) fun q14 =>
 some (q14, true)) (
 req (0 ≤ (64 : Int) ∧ (64 : Int) ≤ (64 : Int) ∧ (64 : Int) * 8 ≤ 281474976710656) <|
 bnd (loop (Xcg p0 p1) (0, (List.replicate (64 : Int).toNat (0 : Int)))) fun v48 =>
 some (v48, true))))
def Xfe (p0 : (List Int)) (v4 : Int) : Option (Lp Int (Ou Unit Bool)) :=
 sel (decide (v4 < (p0.length : Int))) (
 req (0 ≤ v4 ∧ v4 < p0.length) <|
 bnd (Xak (p0.getD v4.toNat 0) 0 255) fun q8 =>
 sel (!q8) (
 some (.done (.ret false))) (
 some (.go (Xaa .i64 (v4 + 1))))) (
 some (.done (.out ())))
def Xhh (p0 : (List Int)) : Option Bool :=
 bnd (
 sel ((p0.length : Int) != 0) (
 some ((p0.length : Int) != 8)) (
 some false)) fun v1 =>
 sel v1 (
 some false) (
 bnd (loop (Xfe p0) 0) fun o9 => match o9 with
| .out v7 => (
 some true)
| .ret r => some r)
def Xg9 (p0 : Xnb) : Option Bool :=
 bnd (
 bnd (Xhh p0.Above) fun q2 =>
 sel q2 (
 bnd (Xhh p0.Left) fun q3 =>
 sel q3 (
 bnd (Xak p0.Corner (-1) 255) fun q4 =>
 some q4) (
 some false)) (
 some false)) fun v1 =>
 some v1
def Xee (p0 : (List Int)) (p1 : Int) : Option Int :=
 sel ((p0.length : Int) == 0) (
 some 128) (
 req (0 ≤ p1 ∧ p1 < p0.length) <|
 some (p0.getD p1.toNat 0))
def Xgb (p0 : Xnb) (v2 : (Int × Int)) : Option (Lp (Int × Int) Int) :=
 sel (decide (v2.2 < (p0.Above.length : Int))) (
 req (0 ≤ v2.2 ∧ v2.2 < p0.Above.length) <|
 some (.go (Xaa .i64 (v2.1 + (p0.Above.getD v2.2.toNat 0)), Xaa .i64 (v2.2 + 1)))) (
 some (.done v2.1))
def Xgc (p0 : Xnb) (v7 : (Int × Int)) : Option (Lp (Int × Int) Int) :=
 sel (decide (v7.2 < (p0.Left.length : Int))) (
 req (0 ≤ v7.2 ∧ v7.2 < p0.Left.length) <|
 some (.go (Xaa .i64 (v7.1 + (p0.Left.getD v7.2.toNat 0)), Xaa .i64 (v7.2 + 1)))) (
 some (.done v7.1))
def Xk2 (p0 : Xnb) : Option Int :=
 sel ((Xaa .i64 ((p0.Above.length : Int) + (p0.Left.length : Int))) == 0) (
 some 128) (
 req ((2 : Int) ≠ 0) <|
 bnd (loop (Xgb p0) (Xaa .i64 ((Xaa .i64 ((p0.Above.length : Int) + (p0.Left.length : Int))).tdiv 2), 0)) fun v4 =>
 bnd (loop (Xgc p0) (v4, 0)) fun v9 =>
 req ((Xaa .i64 ((p0.Above.length : Int) + (p0.Left.length : Int))) ≠ 0) <|
 some (Xaa .i64 (v9.tdiv (Xaa .i64 ((p0.Above.length : Int) + (p0.Left.length : Int))))))
def Xey (p0 : Int) (p1 : Xnb) (v4 : Int) (v11 : (Int × (List Int))) : Option (Lp (Int × (List Int)) (List Int)) :=
 sel (decide (v11.1 < 64)) (
 bnd (
 req ((8 : Int) ≠ 0) <|
 bnd (Xee p1.Above (v11.1.tmod 8)) fun q20 =>
 req ((8 : Int) ≠ 0) <|
 bnd (Xee p1.Left (Xaa .i64 (v11.1.tdiv 8))) fun q21 =>
 sel (p0 == 0) (
 bnd (Xk2 p1) fun q22 =>
 req ((v11.2.length + ([q22]).length) * 8 ≤ 140737488355328 ∧ v11.2.length + ([q22]).length ≤ maxLen) <|
 some (v11.2 ++ ([q22]))) (
 sel (p0 == 1) (
 req ((v11.2.length + ([q20]).length) * 8 ≤ 140737488355328 ∧ v11.2.length + ([q20]).length ≤ maxLen) <|
 some (v11.2 ++ ([q20]))) (
 sel (p0 == 2) (
 req ((v11.2.length + ([q21]).length) * 8 ≤ 140737488355328 ∧ v11.2.length + ([q21]).length ≤ maxLen) <|
 some (v11.2 ++ ([q21]))) (
 bnd (Xbj (Xaa .i64 ((Xaa .i64 (q21 + q20)) - v4)) 0 255) fun q23 =>
 req ((v11.2.length + ([q23]).length) * 8 ≤ 140737488355328 ∧ v11.2.length + ([q23]).length ≤ maxLen) <|
 some (v11.2 ++ ([q23])))))) fun v19 =>
 some (.go (Xaa .i64 (v11.1 + 1), v19))) (
 some (.done v11.2))
def Xex (p0 : Int) (p1 : Xnb) : Option (List Int) :=
 bnd (
 bnd (Xg9 p1) fun q2 =>
 sel q2 (
 bnd (Xak p0 0 3) fun q3 =>
 some (!q3)) (
 some true)) fun v1 =>
 sel v1 (
 some ([] : List Int)) (
 bnd (
 sel (decide (p1.Corner < 0)) (
 some 128) (
 some p1.Corner)) fun v4 =>
 bnd (loop (Xey p0 p1 v4) (0, ([] : List Int))) fun v18 =>
 some v18)
def Xfd (p0 : (List Int)) (v3 : Int) : Option (Lp Int (Ou Unit Bool)) :=
 sel (decide (v3 < 64)) (
 req (0 ≤ v3 ∧ v3 < p0.length) <|
 bnd (Xak (p0.getD v3.toNat 0) 0 255) fun q7 =>
 sel (!q7) (
 some (.done (.ret false))) (
 some (.go (Xaa .i64 (v3 + 1))))) (
 some (.done (.out ())))
def Xdq (p0 : (List Int)) : Option Bool :=
 sel ((p0.length : Int) != 64) (
 some false) (
 bnd (loop (Xfd p0) 0) fun o8 => match o8 with
| .out v6 => (
 some true)
| .ret r => some r)
def Xf1 (p0 : (List Int)) (p1 : (List Int)) (v6 : (Int × (List Int))) : Option (Lp (Int × (List Int)) (List Int)) :=
 sel (decide (v6.1 < 64)) (
 req (0 ≤ v6.1 ∧ v6.1 < p0.length) <|
 req (0 ≤ v6.1 ∧ v6.1 < p1.length) <|
 bnd (Xbj (Xaa .i64 ((p0.getD v6.1.toNat 0) + (p1.getD v6.1.toNat 0))) 0 255) fun q10 =>
 req ((v6.2.length + ([q10]).length) * 8 ≤ 140737488355328 ∧ v6.2.length + ([q10]).length ≤ maxLen) <|
 some (.go (Xaa .i64 (v6.1 + 1), (v6.2 ++ ([q10]))))) (
 some (.done v6.2))
def Xis (p0 : (List Int)) (p1 : (List Int)) : Option (List Int) :=
 bnd (
 bnd (Xdq p0) fun q2 =>
 sel q2 (
 bnd (Xbf p1 64 10000000) fun q3 =>
 some (!q3)) (
 some true)) fun v1 =>
 sel v1 (
 some ([] : List Int)) (
 bnd (loop (Xf1 p0 p1) (0, ([] : List Int))) fun v9 =>
 some v9)
def Xev (p0 : Pic) (p1 : Int) (p2 : Int) (v7 : (Int × (List Int))) : Option (Lp (Int × (List Int)) (List Int)) :=
 sel (decide (v7.1 < 64)) (
 req ((8 : Int) ≠ 0) <|
 req ((8 : Int) ≠ 0) <|
 bnd (Xc5 p0 (Xaa .i64 (p1 + (v7.1.tmod 8))) (Xaa .i64 (p2 + (Xaa .i64 (v7.1.tdiv 8))))) fun q11 =>
 req ((v7.2.length + ([q11]).length) * 8 ≤ 140737488355328 ∧ v7.2.length + ([q11]).length ≤ maxLen) <|
 some (.go (Xaa .i64 (v7.1 + 1), (v7.2 ++ ([q11]))))) (
 some (.done v7.2))
def Xcp (p0 : Pic) (p1 : Int) (p2 : Int) : Option (List Int) :=
 bnd (
 bnd (Xcc p0) fun q2 =>
 sel q2 (
 bnd (Xak p1 (-1000) 1000) fun q3 =>
 sel q3 (
 bnd (Xak p2 (-1000) 1000) fun q4 =>
 some (!q4)) (
 some true)) (
 some true)) fun v1 =>
 sel v1 (
 some ([] : List Int)) (
 bnd (loop (Xev p0 p1 p2) (0, ([] : List Int))) fun v10 =>
 some v10)
def Xe4 (p0 : Pic) (p1 : Pic) (p2 : Int) (p3 : Int) (p4 : Xly) (p5 : Int) (p6 : Int) (p7 : Xba) : Option ((List Int) × Bool) :=
 bnd (
 bnd (Xdr p0 p5 p6) fun q2 =>
 sel q2 (
 bnd (Xak p2 0 256) fun q3 =>
 sel q3 (
 bnd (Xak p3 0 256) fun q4 =>
 sel q4 (
 bnd (Xh1 p7) fun q5 =>
 sel q5 (
 bnd (Xdv p4) fun q6 =>
 some (!q6)) (
 some true)) (
 some true)) (
 some true)) (
 some true)) fun v1 =>
 sel v1 (
 some (([] : List Int), false)) (
 sel (p7.Kind == 2) (
 bnd (Xg8 p0 p5 p6) fun q7 =>
 bnd (Xc8 p7.Levels p4) fun q8 =>
 bnd (Xex p7.Mode q7.1) fun q9 =>
 bnd (Xis q9 q8.1) fun q10 =>
 some (q10, true)) (
 bnd (
 sel p4.Key (
 some true) (
 bnd (Xcc p1) fun q12 =>
 some (!q12))) fun v11 =>
 sel v11 (
 some (([] : List Int), false)) (
 bnd (Xcp p1 (Xaa .i64 ((Xaa .i64 (p2 + p5)) + p7.Dx)) (Xaa .i64 ((Xaa .i64 (p3 + p6)) + p7.Dy))) fun q13 =>
 sel (p7.Kind == 0) (
 some (q13, true)) (
 bnd (Xc8 p7.Levels p4) fun q14 =>
 bnd (Xis q13 q14.1) fun q15 =>
 some (q15, true)))))
def Xgd (p0 : Pic) (p1 : Int) (p2 : Int) (p3 : (List Int)) (v2 : (Int × (List Int))) : Option (Lp (Int × (List Int)) (List Int)) :=
 sel (decide (v2.1 < 64)) (
 req ((8 : Int) ≠ 0) <|
 req ((8 : Int) ≠ 0) <|
 req (0 ≤ v2.1 ∧ v2.1 < p3.length) <|
 req (0 ≤ (Xaa .i64 ((Xaa .i64 ((Xaa .i64 ((Xaa .i64 (p2 + (Xaa .i64 (v2.1.tdiv 8)))) * p0.Wide)) + p1)) + (v2.1.tmod 8))) ∧ (Xaa .i64 ((Xaa .i64 ((Xaa .i64 ((Xaa .i64 (p2 + (Xaa .i64 (v2.1.tdiv 8)))) * p0.Wide)) + p1)) + (v2.1.tmod 8))) < v2.2.length) <|
 req ((Xaa .i64 ((Xaa .i64 ((Xaa .i64 ((Xaa .i64 (p2 + (Xaa .i64 (v2.1.tdiv 8)))) * p0.Wide)) + p1)) + (v2.1.tmod 8))).toNat < v2.2.length) <|
 some (.go (Xaa .i64 (v2.1 + 1), (v2.2.set ((Xaa .i64 ((Xaa .i64 ((Xaa .i64 ((Xaa .i64 (p2 + (Xaa .i64 (v2.1.tdiv 8)))) * p0.Wide)) + p1)) + (v2.1.tmod 8))).toNat) (Xaa .u8 ((p3.getD v2.1.toNat 0))))))) (
 some (.done v2.2))
def Xk4 (p0 : Pic) (p1 : Int) (p2 : Int) (p3 : (List Int)) : Option Pic :=
 req (p0.Dots.size ≤ maxLen) <|
 bnd (loop (Xgd p0 p1 p2 p3) (0, (Xal p0.Dots))) fun v4 =>
 some (⟨p0.Wide, p0.High, (strOfNums v4)⟩ : Pic)
def Xeq (p0 : Int) (p1 : Int) (p2 : Int) : Option Bool :=
 bnd (
 sel (decide (p0 ≥ p1)) (
 some (decide (p0 ≤ p2))) (
 some false)) fun v1 =>
 some v1
def Xfi (p0 : Pic) (p1 : Pic) : Option Bool :=
 bnd (
 bnd (Xcc p0) fun q2 =>
 sel q2 (
 bnd (Xcc p1) fun q3 =>
 sel q3 (
 sel (p0.Wide == p1.Wide) (
 some (p0.High == p1.High)) (
 some false)) (
 some false)) (
 some false)) fun v1 =>
 some v1
def Xfh (p0 : (List Int)) (p1 : (List Int)) (v2 : (Int × (List Int))) : Option (Lp (Int × (List Int)) (List Int)) :=
 sel (decide (v2.1 < 64)) (
 req (0 ≤ v2.1 ∧ v2.1 < p0.length) <|
 req (0 ≤ v2.1 ∧ v2.1 < p1.length) <|
 req ((v2.2.length + ([Xaa .i64 ((p0.getD v2.1.toNat 0) - (p1.getD v2.1.toNat 0))]).length) * 8 ≤ 140737488355328 ∧ v2.2.length + ([Xaa .i64 ((p0.getD v2.1.toNat 0) - (p1.getD v2.1.toNat 0))]).length ≤ maxLen) <|
 some (.go (Xaa .i64 (v2.1 + 1), (v2.2 ++ ([Xaa .i64 ((p0.getD v2.1.toNat 0) - (p1.getD v2.1.toNat 0))]))))) (
 some (.done v2.2))
def Xfg (p0 : (List Int)) (p1 : (List Int)) : Option (List Int) :=
 bnd (loop (Xfh p0 p1) (0, ([] : List Int))) fun v4 =>
 some v4
def Xdm (p0 : (List Int)) (v2 : Int) : Option (Lp Int (Ou Unit Bool)) :=
 sel (decide (v2 < (p0.length : Int))) (
 req (0 ≤ v2 ∧ v2 < p0.length) <|
 sel ((p0.getD v2.toNat 0) != 0) (
 some (.done (.ret false))) (
 some (.go (Xaa .i64 (v2 + 1))))) (
 some (.done (.out ())))
def Xhj (p0 : (List Int)) : Option Bool :=
 bnd (loop (Xdm p0) 0) fun o5 => match o5 with
| .out v4 => (
 some true)
| .ret r => some r
def Xdw (p0 : Int) : Option Int :=
 sel (decide (p0 < 0)) (
 some (Xaa .i64 (0 - p0))) (
 some p0)
def Xhx (p0 : (List Int)) (p1 : (List Int)) (v6 : (Int × Int)) : Option (Lp (Int × Int) Int) :=
 sel (decide (v6.2 < 64)) (
 req (0 ≤ v6.2 ∧ v6.2 < p0.length) <|
 req (0 ≤ v6.2 ∧ v6.2 < p1.length) <|
 bnd (Xdw (Xaa .i64 ((p0.getD v6.2.toNat 0) - (p1.getD v6.2.toNat 0)))) fun q10 =>
 some (.go (Xaa .i64 (v6.1 + q10), Xaa .i64 (v6.2 + 1)))) (
 some (.done v6.1))
def Xkc (p0 : (List Int)) (p1 : (List Int)) : Option Int :=
 bnd (
 bnd (Xbf p0 64 1000) fun q2 =>
 sel q2 (
 bnd (Xbf p1 64 1000) fun q3 =>
 some (!q3)) (
 some true)) fun v1 =>
 sel v1 (
 some (-1)) (
 bnd (loop (Xhx p0 p1) (0, 0)) fun v9 =>
 some v9)
def Xfp (v2 : (Int × ByteArray)) : Option (Lp (Int × ByteArray) ByteArray) :=
 sel (decide (v2.1 > 0)) (
 req ((2 : Int) ≠ 0) <|
 req ((strOfNums ([Xaa .u8 (Xaa .i64 (48 + (v2.1.tmod 2)))])).size + v2.2.size ≤ 9223372036854775807) <|
 req ((2 : Int) ≠ 0) <|
 some (.go (Xaa .i64 (v2.1.tdiv 2), ((strOfNums ([Xaa .u8 (Xaa .i64 (48 + (v2.1.tmod 2)))])) ++ v2.2)))) (
 some (.done v2.2))
def Xbr (p0 : Int) : Option ByteArray :=
 bnd (loop (Xfp) (Xaa .i64 (p0 + 1), ⟨#[]⟩)) fun v4 =>
 bnd (Xhb (Xaa .i64 ((v4.size : Int) - 1)) 48) fun q6 =>
 req (q6.size + v4.size ≤ 9223372036854775807) <|
 some (q6 ++ v4)
def Xo6 (p0 : Int) : Option (ByteArray × Bool) :=
 bnd (Xak p0 0 1000000) fun q1 =>
 sel (!q1) (
 some (⟨#[]⟩, false)) (
 bnd (Xbr p0) fun q2 =>
 some (q2, true))
def Xku (p0 : Int) : Option Int :=
 bnd (Xo6 p0) fun q1 =>
 some (q1.1.size : Int)
def Xfk (p0 : (List Int)) (p1 : Xnb) (v16 : (Int × Int × Int)) : Option (Lp (Int × Int × Int) (Int × Int)) :=
 sel (decide (v16.2.2 < 4)) (
 bnd (
 bnd (Xex v16.2.2 p1) fun q25 =>
 bnd (Xkc p0 q25) fun q26 =>
 bnd (Xku v16.2.2) fun q27 =>
 bnd (
 sel (decide (v16.2.1 < 0)) (
 some true) (
 some (decide ((Xaa .i64 (q26 + q27)) < v16.2.1)))) fun v28 =>
 sel v28 (
 some (v16.2.2, Xaa .i64 (q26 + q27))) (
 some (v16.1, v16.2.1))) fun v24 =>
 some (.go (v24.1, v24.2, Xaa .i64 (v16.2.2 + 1)))) (
 some (.done (v16.1, v16.2.1)))
def Xfx (p0 : (List Int)) (p1 : Xnb) : Option (Int × Int) :=
 bnd (
 bnd (Xg9 p1) fun q2 =>
 sel q2 (
 bnd (Xdq p0) fun q3 =>
 some (!q3)) (
 some true)) fun v1 =>
 sel v1 (
 some (0, (-1))) (
 bnd (loop (Xfk p0 p1) (0, (-1), 0)) fun v23 =>
 some (v23.1, v23.2))
def Xkk (p0 : Int) : Option (Int × Bool) :=
 bnd (Xak p0 (-500000) 500000) fun q1 =>
 sel (!q1) (
 some (0, false)) (
 sel (decide (p0 > 0)) (
 some (Xaa .i64 ((Xaa .i64 (2 * p0)) - 1), true)) (
 some (Xaa .i64 ((-2) * p0), true)))
def Xfo (p0 : Int) : Option ByteArray :=
 bnd (Xkk p0) fun q1 =>
 bnd (Xbr q1.1) fun q2 =>
 some q2
def Xo5 (p0 : Int) : Option (ByteArray × Bool) :=
 bnd (Xak p0 (-500000) 500000) fun q1 =>
 sel (!q1) (
 some (⟨#[]⟩, false)) (
 bnd (Xfo p0) fun q2 =>
 some (q2, true))
def Xiv (p0 : Int) : Option Int :=
 bnd (Xo5 p0) fun q1 =>
 some (q1.1.size : Int)
def Xfm (p0 : Pic) (p1 : (List Int)) (p2 : Int) (p3 : Int) (p4 : Int) (v32 : (Int × Int × Int × Int)) (v69 : (Int × Int × Int × Int)) : Option (Lp (Int × Int × Int × Int) (Int × Int × Int)) :=
 sel (decide (v69.2.2.2 ≤ p4)) (
 bnd (
 bnd (Xed p0 (Xaa .i64 (p2 + v69.2.2.2)) (Xaa .i64 (p3 + v32.2.2.2)) 8 8) fun q80 =>
 sel (!q80) (
 some (v69.1, v69.2.1, v69.2.2.1)) (
 bnd (Xcp p0 (Xaa .i64 (p2 + v69.2.2.2)) (Xaa .i64 (p3 + v32.2.2.2))) fun q81 =>
 bnd (Xkc p1 q81) fun q82 =>
 bnd (Xiv v69.2.2.2) fun q83 =>
 bnd (Xiv v32.2.2.2) fun q84 =>
 bnd (
 sel (decide (v69.2.2.1 < 0)) (
 some true) (
 some (decide ((Xaa .i64 ((Xaa .i64 (q82 + q83)) + q84)) < v69.2.2.1)))) fun v85 =>
 sel v85 (
 some (v69.2.2.2, v32.2.2.2, Xaa .i64 ((Xaa .i64 (q82 + q83)) + q84))) (
 some (v69.1, v69.2.1, v69.2.2.1)))) fun v79 =>
 some (.go (v79.1, v79.2.1, v79.2.2, Xaa .i64 (v69.2.2.2 + 1)))) (
 some (.done (v69.1, v69.2.1, v69.2.2.1)))
def Xfl (p0 : Pic) (p1 : (List Int)) (p2 : Int) (p3 : Int) (p4 : Int) (v32 : (Int × Int × Int × Int)) : Option (Lp (Int × Int × Int × Int) (Int × Int × Int)) :=
 sel (decide (v32.2.2.2 ≤ p4)) (
 bnd (loop (Xfm p0 p1 p2 p3 p4 v32) (v32.1, v32.2.1, v32.2.2.1, Xaa .i64 (0 - p4))) fun v78 =>
 some (.go (v78.1, v78.2.1, v78.2.2, Xaa .i64 (v32.2.2.2 + 1)))) (
 some (.done (v32.1, v32.2.1, v32.2.2.1)))
def Xht (p0 : Pic) (p1 : (List Int)) (p2 : Int) (p3 : Int) (p4 : Int) : Option (Int × Int × Int) :=
 bnd (
 bnd (Xdq p1) fun q2 =>
 sel q2 (
 bnd (Xak p4 0 4) fun q3 =>
 sel q3 (
 bnd (Xdr p0 p2 p3) fun q4 =>
 some (!q4)) (
 some true)) (
 some true)) fun v1 =>
 sel v1 (
 some (0, 0, (-1))) (
 bnd (loop (Xfl p0 p1 p2 p3 p4) (0, 0, (-1), Xaa .i64 (0 - p4))) fun v60 =>
 some (v60.1, v60.2.1, v60.2.2))
def Xe1 (p0 : Int) (p1 : (List Int)) (v4 : (Int × (List Int))) : Option (Lp (Int × (List Int)) (List Int)) :=
 sel (decide (v4.1 < (Xaa .i64 (p0 * p0)))) (
 bnd (Xiu p0 v4.1) fun q8 =>
 req (0 ≤ q8 ∧ q8 < p1.length) <|
 req ((v4.2.length + ([(p1.getD q8.toNat 0)]).length) * 8 ≤ 140737488355328 ∧ v4.2.length + ([(p1.getD q8.toNat 0)]).length ≤ maxLen) <|
 some (.go (Xaa .i64 (v4.1 + 1), (v4.2 ++ ([(p1.getD q8.toNat 0)]))))) (
 some (.done v4.2))
def Xe0 (p0 : Int) (p1 : (List Int)) : Option ((List Int) × Bool) :=
 bnd (
 sel (p0 != 4) (
 sel (p0 != 8) (
 some true) (
 some ((p1.length : Int) != (Xaa .i64 (p0 * p0))))) (
 some ((p1.length : Int) != (Xaa .i64 (p0 * p0))))) fun v1 =>
 sel v1 (
 some (([] : List Int), false)) (
 bnd (loop (Xe1 p0 p1) (0, ([] : List Int))) fun v7 =>
 some (v7, true))
def Xl9 (p0 : (List Int)) : Option (List Int) :=
 bnd (Xbf p0 64 1000) fun q1 =>
 sel (!q1) (
 some ([] : List Int)) (
 bnd (Xhg p0) fun q2 =>
 some q2)
def Xec (p0 : Int) (p1 : Int) : Option Int :=
 sel (decide (p0 < 0)) (
 some (Xaa .i64 (0 - p1))) (
 some p1)
def Xez (p0 : Int) (p1 : Int) : Option Int :=
 bnd (
 bnd (Xak p0 (-20000) 20000) fun q2 =>
 sel q2 (
 bnd (Xak p1 0 40) fun q3 =>
 some (!q3)) (
 some true)) fun v1 =>
 sel v1 (
 some 0) (
 bnd (Xiy p1) fun q4 =>
 bnd (Xdw p0) fun q5 =>
 req ((2 : Int) ≠ 0) <|
 req (q4 ≠ 0) <|
 bnd (Xec p0 (Xaa .i64 ((Xaa .i64 (q5 + (Xaa .i64 (q4.tdiv 2)))).tdiv q4))) fun q6 =>
 some q6)
def Xcu (p0 : (List Int)) (p1 : Int) (v2 : (Int × (List Int))) : Option (Lp (Int × (List Int)) (List Int)) :=
 sel (decide (v2.1 < 16)) (
 req ((2 : Int) ≠ 0) <|
 req ((4 : Int) ≠ 0) <|
 req ((2 : Int) ≠ 0) <|
 req ((4 : Int) ≠ 0) <|
 req (0 ≤ (Xaa .i64 ((Xaa .i64 ((Xaa .i64 (8 * (Xaa .i64 ((Xaa .i64 ((Xaa .i64 (p1.tdiv 2)) * 4)) + (Xaa .i64 (v2.1.tdiv 4)))))) + (Xaa .i64 ((p1.tmod 2) * 4)))) + (v2.1.tmod 4))) ∧ (Xaa .i64 ((Xaa .i64 ((Xaa .i64 (8 * (Xaa .i64 ((Xaa .i64 ((Xaa .i64 (p1.tdiv 2)) * 4)) + (Xaa .i64 (v2.1.tdiv 4)))))) + (Xaa .i64 ((p1.tmod 2) * 4)))) + (v2.1.tmod 4))) < p0.length) <|
 req ((v2.2.length + ([(p0.getD (Xaa .i64 ((Xaa .i64 ((Xaa .i64 (8 * (Xaa .i64 ((Xaa .i64 ((Xaa .i64 (p1.tdiv 2)) * 4)) + (Xaa .i64 (v2.1.tdiv 4)))))) + (Xaa .i64 ((p1.tmod 2) * 4)))) + (v2.1.tmod 4))).toNat 0)]).length) * 8 ≤ 140737488355328 ∧ v2.2.length + ([(p0.getD (Xaa .i64 ((Xaa .i64 ((Xaa .i64 (8 * (Xaa .i64 ((Xaa .i64 ((Xaa .i64 (p1.tdiv 2)) * 4)) + (Xaa .i64 (v2.1.tdiv 4)))))) + (Xaa .i64 ((p1.tmod 2) * 4)))) + (v2.1.tmod 4))).toNat 0)]).length ≤ maxLen) <|
 some (.go (Xaa .i64 (v2.1 + 1), (v2.2 ++ ([(p0.getD (Xaa .i64 ((Xaa .i64 ((Xaa .i64 (8 * (Xaa .i64 ((Xaa .i64 ((Xaa .i64 (p1.tdiv 2)) * 4)) + (Xaa .i64 (v2.1.tdiv 4)))))) + (Xaa .i64 ((p1.tmod 2) * 4)))) + (v2.1.tmod 4))).toNat 0)]))))) (
 some (.done v2.2))
def Xff (p0 : (List Int)) (p1 : Int) : Option (List Int) :=
 bnd (loop (Xcu p0 p1) (0, ([] : List Int))) fun v4 =>
 some v4
def Xfa (p0 : (List Int)) (v2 : (Int × (List Int))) : Option (Lp (Int × (List Int)) (List Int)) :=
 sel (decide (v2.1 < 4)) (
 req (0 ≤ (Xaa .i64 (4 * v2.1)) ∧ (Xaa .i64 (4 * v2.1)) < p0.length) <|
 req (0 ≤ (Xaa .i64 ((Xaa .i64 (4 * v2.1)) + 1)) ∧ (Xaa .i64 ((Xaa .i64 (4 * v2.1)) + 1)) < p0.length) <|
 req (0 ≤ (Xaa .i64 ((Xaa .i64 (4 * v2.1)) + 2)) ∧ (Xaa .i64 ((Xaa .i64 (4 * v2.1)) + 2)) < p0.length) <|
 req (0 ≤ (Xaa .i64 ((Xaa .i64 (4 * v2.1)) + 3)) ∧ (Xaa .i64 ((Xaa .i64 (4 * v2.1)) + 3)) < p0.length) <|
 req ((v2.2.length + ([Xaa .i64 ((Xaa .i64 ((Xaa .i64 ((p0.getD (Xaa .i64 (4 * v2.1)).toNat 0) + (p0.getD (Xaa .i64 ((Xaa .i64 (4 * v2.1)) + 1)).toNat 0))) + (p0.getD (Xaa .i64 ((Xaa .i64 (4 * v2.1)) + 2)).toNat 0))) + (p0.getD (Xaa .i64 ((Xaa .i64 (4 * v2.1)) + 3)).toNat 0)), Xaa .i64 ((Xaa .i64 ((Xaa .i64 ((Xaa .i64 (2 * (p0.getD (Xaa .i64 (4 * v2.1)).toNat 0))) + (p0.getD (Xaa .i64 ((Xaa .i64 (4 * v2.1)) + 1)).toNat 0))) - (p0.getD (Xaa .i64 ((Xaa .i64 (4 * v2.1)) + 2)).toNat 0))) - (Xaa .i64 (2 * (p0.getD (Xaa .i64 ((Xaa .i64 (4 * v2.1)) + 3)).toNat 0)))), Xaa .i64 ((Xaa .i64 ((Xaa .i64 ((p0.getD (Xaa .i64 (4 * v2.1)).toNat 0) - (p0.getD (Xaa .i64 ((Xaa .i64 (4 * v2.1)) + 1)).toNat 0))) - (p0.getD (Xaa .i64 ((Xaa .i64 (4 * v2.1)) + 2)).toNat 0))) + (p0.getD (Xaa .i64 ((Xaa .i64 (4 * v2.1)) + 3)).toNat 0)), Xaa .i64 ((Xaa .i64 ((Xaa .i64 ((p0.getD (Xaa .i64 (4 * v2.1)).toNat 0) - (Xaa .i64 (2 * (p0.getD (Xaa .i64 ((Xaa .i64 (4 * v2.1)) + 1)).toNat 0))))) + (Xaa .i64 (2 * (p0.getD (Xaa .i64 ((Xaa .i64 (4 * v2.1)) + 2)).toNat 0))))) - (p0.getD (Xaa .i64 ((Xaa .i64 (4 * v2.1)) + 3)).toNat 0))]).length) * 8 ≤ 140737488355328 ∧ v2.2.length + ([Xaa .i64 ((Xaa .i64 ((Xaa .i64 ((p0.getD (Xaa .i64 (4 * v2.1)).toNat 0) + (p0.getD (Xaa .i64 ((Xaa .i64 (4 * v2.1)) + 1)).toNat 0))) + (p0.getD (Xaa .i64 ((Xaa .i64 (4 * v2.1)) + 2)).toNat 0))) + (p0.getD (Xaa .i64 ((Xaa .i64 (4 * v2.1)) + 3)).toNat 0)), Xaa .i64 ((Xaa .i64 ((Xaa .i64 ((Xaa .i64 (2 * (p0.getD (Xaa .i64 (4 * v2.1)).toNat 0))) + (p0.getD (Xaa .i64 ((Xaa .i64 (4 * v2.1)) + 1)).toNat 0))) - (p0.getD (Xaa .i64 ((Xaa .i64 (4 * v2.1)) + 2)).toNat 0))) - (Xaa .i64 (2 * (p0.getD (Xaa .i64 ((Xaa .i64 (4 * v2.1)) + 3)).toNat 0)))), Xaa .i64 ((Xaa .i64 ((Xaa .i64 ((p0.getD (Xaa .i64 (4 * v2.1)).toNat 0) - (p0.getD (Xaa .i64 ((Xaa .i64 (4 * v2.1)) + 1)).toNat 0))) - (p0.getD (Xaa .i64 ((Xaa .i64 (4 * v2.1)) + 2)).toNat 0))) + (p0.getD (Xaa .i64 ((Xaa .i64 (4 * v2.1)) + 3)).toNat 0)), Xaa .i64 ((Xaa .i64 ((Xaa .i64 ((p0.getD (Xaa .i64 (4 * v2.1)).toNat 0) - (Xaa .i64 (2 * (p0.getD (Xaa .i64 ((Xaa .i64 (4 * v2.1)) + 1)).toNat 0))))) + (Xaa .i64 (2 * (p0.getD (Xaa .i64 ((Xaa .i64 (4 * v2.1)) + 2)).toNat 0))))) - (p0.getD (Xaa .i64 ((Xaa .i64 (4 * v2.1)) + 3)).toNat 0))]).length ≤ maxLen) <|
 some (.go (Xaa .i64 (v2.1 + 1), (v2.2 ++ ([Xaa .i64 ((Xaa .i64 ((Xaa .i64 ((p0.getD (Xaa .i64 (4 * v2.1)).toNat 0) + (p0.getD (Xaa .i64 ((Xaa .i64 (4 * v2.1)) + 1)).toNat 0))) + (p0.getD (Xaa .i64 ((Xaa .i64 (4 * v2.1)) + 2)).toNat 0))) + (p0.getD (Xaa .i64 ((Xaa .i64 (4 * v2.1)) + 3)).toNat 0)), Xaa .i64 ((Xaa .i64 ((Xaa .i64 ((Xaa .i64 (2 * (p0.getD (Xaa .i64 (4 * v2.1)).toNat 0))) + (p0.getD (Xaa .i64 ((Xaa .i64 (4 * v2.1)) + 1)).toNat 0))) - (p0.getD (Xaa .i64 ((Xaa .i64 (4 * v2.1)) + 2)).toNat 0))) - (Xaa .i64 (2 * (p0.getD (Xaa .i64 ((Xaa .i64 (4 * v2.1)) + 3)).toNat 0)))), Xaa .i64 ((Xaa .i64 ((Xaa .i64 ((p0.getD (Xaa .i64 (4 * v2.1)).toNat 0) - (p0.getD (Xaa .i64 ((Xaa .i64 (4 * v2.1)) + 1)).toNat 0))) - (p0.getD (Xaa .i64 ((Xaa .i64 (4 * v2.1)) + 2)).toNat 0))) + (p0.getD (Xaa .i64 ((Xaa .i64 (4 * v2.1)) + 3)).toNat 0)), Xaa .i64 ((Xaa .i64 ((Xaa .i64 ((p0.getD (Xaa .i64 (4 * v2.1)).toNat 0) - (Xaa .i64 (2 * (p0.getD (Xaa .i64 ((Xaa .i64 (4 * v2.1)) + 1)).toNat 0))))) + (Xaa .i64 (2 * (p0.getD (Xaa .i64 ((Xaa .i64 (4 * v2.1)) + 2)).toNat 0))))) - (p0.getD (Xaa .i64 ((Xaa .i64 (4 * v2.1)) + 3)).toNat 0))]))))) (
 some (.done v2.2))
def Xhf (p0 : (List Int)) : Option (List Int) :=
 bnd (loop (Xfa p0) (0, ([] : List Int))) fun v4 =>
 some v4
def Xnx (p0 : (List Int)) : Option (List Int) :=
 bnd (Xbf p0 16 1000) fun q1 =>
 sel (!q1) (
 some ([] : List Int)) (
 bnd (Xhf p0) fun q2 =>
 bnd (Xdp q2) fun q3 =>
 bnd (Xhf q3) fun q4 =>
 bnd (Xdp q4) fun q5 =>
 some q5)
def Xjj (p0 : Int) (p1 : Int) : Option Int :=
 bnd (Xit p1) fun q1 =>
 bnd (
 bnd (Xak p0 0 40) fun q3 =>
 sel q3 (
 some (decide (q1 < 0))) (
 some true)) fun v2 =>
 sel v2 (
 some 0) (
 req ((6 : Int) ≠ 0) <|
 sel ((p0.tmod 6) == 0) (
 bnd (Xbe q1 13107 5243 8066) fun q4 =>
 some q4) (
 sel ((p0.tmod 6) == 1) (
 bnd (Xbe q1 11916 4660 7490) fun q5 =>
 some q5) (
 sel ((p0.tmod 6) == 2) (
 bnd (Xbe q1 10082 4194 6554) fun q6 =>
 some q6) (
 sel ((p0.tmod 6) == 3) (
 bnd (Xbe q1 9362 3647 5825) fun q7 =>
 some q7) (
 sel ((p0.tmod 6) == 4) (
 bnd (Xbe q1 8192 3355 5243) fun q8 =>
 some q8) (
 bnd (Xbe q1 7282 2893 4559) fun q9 =>
 some q9))))))
def Xe2 (p0 : Int) (p1 : Int) (p2 : Int) : Option Int :=
 bnd (
 bnd (Xak p0 (-20000) 20000) fun q2 =>
 sel q2 (
 bnd (Xak p1 0 40) fun q3 =>
 sel q3 (
 bnd (Xak p2 0 15) fun q4 =>
 some (!q4)) (
 some true)) (
 some true)) fun v1 =>
 sel v1 (
 some 0) (
 req ((6 : Int) ≠ 0) <|
 req (0 ≤ (Xaa .u64 (Xaa .i64 (15 + (Xaa .i64 (p1.tdiv 6)))))) <|
 bnd (Xdw p0) fun q5 =>
 bnd (Xjj p1 p2) fun q6 =>
 req ((3 : Int) ≠ 0) <|
 req ((Xaa .i64 (1 * 2 ^ min (Xaa .u64 (Xaa .i64 (15 + (Xaa .i64 (p1.tdiv 6))))).toNat (IntKind.bits .i64))) ≠ 0) <|
 bnd (Xec p0 (Xaa .i64 ((Xaa .i64 ((Xaa .i64 (q5 * q6)) + (Xaa .i64 ((Xaa .i64 (1 * 2 ^ min (Xaa .u64 (Xaa .i64 (15 + (Xaa .i64 (p1.tdiv 6))))).toNat (IntKind.bits .i64))).tdiv 3)))).tdiv (Xaa .i64 (1 * 2 ^ min (Xaa .u64 (Xaa .i64 (15 + (Xaa .i64 (p1.tdiv 6))))).toNat (IntKind.bits .i64)))))) fun q7 =>
 some q7)
def Xd2 (p1 : Xly) (v8 : (Int × (List Int))) : Option (Lp (Int × (List Int)) (List Int)) :=
 sel (decide (v8.1 < 64)) (
 req (0 ≤ v8.1 ∧ v8.1 < v8.2.length) <|
 req (v8.1.toNat < v8.2.length) <|
 bnd (Xez (v8.2.getD v8.1.toNat 0) p1.Qp) fun q12 =>
 req (0 ≤ v8.1 ∧ v8.1 < v8.2.length) <|
 req (v8.1.toNat < v8.2.length) <|
 some (.go (Xaa .i64 (v8.1 + 1), (v8.2.set v8.1.toNat q12)))) (
 some (.done v8.2))
def Xda (p1 : Xly) (v45 : (Int × (List Int))) : Option (Lp (Int × (List Int)) (List Int)) :=
 sel (decide (v45.1 < 16)) (
 req (0 ≤ v45.1 ∧ v45.1 < v45.2.length) <|
 req (v45.1.toNat < v45.2.length) <|
 bnd (Xe2 (v45.2.getD v45.1.toNat 0) p1.Qp v45.1) fun q49 =>
 req (0 ≤ v45.1 ∧ v45.1 < v45.2.length) <|
 req (v45.1.toNat < v45.2.length) <|
 some (.go (Xaa .i64 (v45.1 + 1), (v45.2.set v45.1.toNat q49)))) (
 some (.done v45.2))
def Xc9 (p0 : (List Int)) (p1 : Xly) (v27 : (Int × (List Int))) : Option (Lp (Int × (List Int)) (List Int)) :=
 sel (decide (v27.1 < 4)) (
 bnd (Xff p0 v27.1) fun q41 =>
 bnd (Xnx q41) fun q42 =>
 bnd (loop (Xda p1) (0, q42)) fun v48 =>
 bnd (Xe0 4 v48) fun q51 =>
 req ((v27.2.length + q51.1.length) * 8 ≤ 140737488355328 ∧ v27.2.length + q51.1.length ≤ maxLen) <|
 some (.go (Xaa .i64 (v27.1 + 1), (v27.2 ++ q51.1)))) (
 some (.done v27.2))
def Xfn (p0 : (List Int)) (p1 : Xly) : Option ((List Int) × Bool) :=
 bnd (
 bnd (Xdv p1) fun q2 =>
 sel q2 (
 bnd (Xbf p0 64 255) fun q3 =>
 some (!q3)) (
 some true)) fun v1 =>
 sel v1 (
 some (([] : List Int), false)) (
 sel p1.Exact (
 bnd (Xe0 8 p0) fun q4 =>
 some (q4.1, q4.2)) (
 sel p1.Large (
 bnd (Xl9 p0) fun q5 =>
 bnd (loop (Xd2 p1) (0, q5)) fun v11 =>
 bnd (Xe0 8 v11) fun q14 =>
 some (q14.1, q14.2)) (
 bnd (loop (Xc9 p0 p1) (0, ([] : List Int))) fun v40 =>
 some (v40, true))))
def Xgf (p0 : Pic) (p1 : Pic) (p2 : (List Int)) (p3 : Int) (p4 : Int) (p5 : Xly) (p6 : Int) : Option Xba :=
 bnd (
 sel p5.Key (
 some false) (
 bnd (Xcp p1 p3 p4) fun q2 =>
 bnd (Xfg p2 q2) fun q3 =>
 bnd (Xhj q3) fun q4 =>
 some q4)) fun v1 =>
 sel v1 (
 some (⟨0, 0, 0, 0, []⟩ : Xba)) (
 bnd (Xg8 p0 p3 p4) fun q5 =>
 bnd (Xfx p2 q5.1) fun q6 =>
 Yh4 (fun (v7 : Unit) =>
 bnd (Xex q6.1 q5.1) fun q14 =>
 bnd (Xfg p2 q14) fun q15 =>
 bnd (Xfn q15 p5) fun q16 =>
 some (⟨2, q6.1, 0, 0, q16.1⟩ : Xba)) fun j1 =>
 sel (!p5.Key) (
 bnd (Xht p1 p2 p3 p4 p6) fun q8 =>
 sel (decide (q8.2.2 ≤ q6.2)) (
 bnd (Xcp p1 (Xaa .i64 (p3 + q8.1)) (Xaa .i64 (p4 + q8.2.1))) fun q9 =>
 bnd (Xfg p2 q9) fun q10 =>
 bnd (Xfn q10 p5) fun q11 =>
 bnd (
 sel (q8.1 == 0) (
 sel (q8.2.1 == 0) (
 bnd (Xhj q11.1) fun q13 =>
 some q13) (
 some false)) (
 some false)) fun v12 =>
 sel v12 (
 some (⟨0, 0, 0, 0, []⟩ : Xba)) (
 some (⟨1, 0, q8.1, q8.2.1, q11.1⟩ : Xba))) (
 j1 ())) (
 j1 ()))
def Xf6 (p0 : Pic) (p1 : Pic) (p2 : (List Int)) (p3 : Int) (p4 : Int) (p5 : Xly) (p6 : Int) : Option (Xba × (List Int) × Bool) :=
 bnd (
 bnd (Xdr p0 p3 p4) fun q2 =>
 sel q2 (
 bnd (Xdq p2) fun q3 =>
 sel q3 (
 bnd (Xdv p5) fun q4 =>
 sel q4 (
 bnd (Xak p6 0 4) fun q5 =>
 sel q5 (
 sel p5.Key (
 some false) (
 bnd (Xfi p0 p1) fun q6 =>
 some (!q6))) (
 some true)) (
 some true)) (
 some true)) (
 some true)) fun v1 =>
 sel v1 (
 some ((⟨0, 0, 0, 0, []⟩ : Xba), ([] : List Int), false)) (
 bnd (Xgf p0 p1 p2 p3 p4 p5 p6) fun q7 =>
 bnd (Xe4 p0 p1 0 0 p5 p3 p4 q7) fun q8 =>
 some (q7, q8.1, true))
def Xx6 (p0 : (List Int)) : Option Bool :=
 some (decide ((p0.length : Int) > 1048576))
def Xja (p0 : (List Int)) (v3 : (Int × Int)) : Option (Lp (Int × Int) Int) :=
 bnd (
 sel (decide (v3.2 < (p0.length : Int))) (
 some (decide (v3.2 < 4000))) (
 some false)) fun v7 =>
 sel v7 (
 req (0 ≤ v3.2 ∧ v3.2 < p0.length) <|
 some (.go ((IntKind.wrap .i64 (BitVec.ofInt (IntKind.bits .i64) (Xaa .i64 ((Xaa .i64 ((Xaa .i64 (v3.1 * 131)) + (Xaa .i64 ((p0.getD v3.2.toNat 0))))) + 7)) &&& BitVec.ofInt (IntKind.bits .i64) 1073741823).toNat), Xaa .i64 (v3.2 + 1)))) (
 some (.done v3.1))
def Xkv (p0 : (List Int)) : Option Xaw :=
 bnd (loop (Xja p0) (Xaa .i64 (94701 + (p0.length : Int)), 0)) fun v6 =>
 some (⟨p0, 0, v6⟩ : Xaw)
def Xbk (p0 : Xaw) : Option (Int × Xaw) :=
 req (0 ≤ (33 : Int)) <|
 req (0 ≤ (45 : Int)) <|
 bnd (
 sel (decide (p0.i_ < (p0.b_.length : Int))) (
 req (0 ≤ p0.i_ ∧ p0.i_ < p0.b_.length) <|
 some ((IntKind.wrap .i64 (BitVec.ofInt (IntKind.bits .i64) (Xaa .i64 ((IntKind.wrap .i64 (BitVec.ofInt (IntKind.bits .i64) (IntKind.wrap .i64 (BitVec.ofInt (IntKind.bits .i64) ((Xaa .i64 ((Xaa .i64 (p0.h_ * 6364136223846793005)) + 1442695040888963407)) / 2 ^ min (33 : Int).toNat (IntKind.bits .i64)) ^^^ BitVec.ofInt (IntKind.bits .i64) ((Xaa .i64 ((Xaa .i64 (p0.h_ * 6364136223846793005)) + 1442695040888963407)) / 2 ^ min (45 : Int).toNat (IntKind.bits .i64))).toNat) &&& BitVec.ofInt (IntKind.bits .i64) 255).toNat) + (Xaa .i64 ((p0.b_.getD p0.i_.toNat 0))))) &&& BitVec.ofInt (IntKind.bits .i64) 255).toNat), Xaa .i64 (p0.i_ + 1))) (
 some ((IntKind.wrap .i64 (BitVec.ofInt (IntKind.bits .i64) (IntKind.wrap .i64 (BitVec.ofInt (IntKind.bits .i64) ((Xaa .i64 ((Xaa .i64 (p0.h_ * 6364136223846793005)) + 1442695040888963407)) / 2 ^ min (33 : Int).toNat (IntKind.bits .i64)) ^^^ BitVec.ofInt (IntKind.bits .i64) ((Xaa .i64 ((Xaa .i64 (p0.h_ * 6364136223846793005)) + 1442695040888963407)) / 2 ^ min (45 : Int).toNat (IntKind.bits .i64))).toNat) &&& BitVec.ofInt (IntKind.bits .i64) 255).toNat), p0.i_))) fun v1 =>
 some (v1.1, (⟨p0.b_, v1.2, Xaa .i64 ((Xaa .i64 (p0.h_ * 6364136223846793005)) + 1442695040888963407)⟩ : Xaw))
def Xat (p0 : Xaw) (p1 : Int) : Option (Int × Xaw) :=
 sel (decide (p1 ≤ 0)) (
 some (0, p0)) (
 sel (decide (p1 ≤ 256)) (
 bnd (Xbk p0) fun q1 =>
 req (p1 ≠ 0) <|
 some ((q1.1.tmod p1), q1.2)) (
 bnd (Xbk p0) fun q2 =>
 bnd (Xbk q2.2) fun q3 =>
 bnd (Xbk q3.2) fun q4 =>
 bnd (Xbk q4.2) fun q5 =>
 req (p1 ≠ 0) <|
 some (((Xaa .i64 ((Xaa .i64 ((Xaa .i64 ((Xaa .i64 (q2.1 * 16777216)) + (Xaa .i64 (q3.1 * 65536)))) + (Xaa .i64 (q4.1 * 256)))) + q5.1)).tmod p1), q5.2)))
def Xck (p0 : Xaw) (p1 : (List Int)) : Option (Int × Xaw) :=
 bnd (Xat p0 (p1.length : Int)) fun q1 =>
 req (0 ≤ q1.1 ∧ q1.1 < p1.length) <|
 some ((p1.getD q1.1.toNat 0), q1.2)
def Xb8 (p0 : Xaw) (p1 : Int) : Option (Bool × Xaw) :=
 bnd (Xat p0 p1) fun q1 =>
 some ((q1.1 == 0), q1.2)
def Xh7 (v4 : (Int × (List Int) × Int × Int × (List Int))) : Option (Lp (Int × (List Int) × Int × Int × (List Int)) ((List Int) × Int × Int × (List Int))) :=
 bnd (Xat (⟨v4.2.1, v4.2.2.1, v4.2.2.2.1⟩ : Xaw) 14) fun q9 =>
 sel (decide (v4.1 < q9.1)) (
 bnd (Xck q9.2 ([0, 0, 0, 0, 1, 2, 3, 3, 4, 200])) fun q10 =>
 req ((v4.2.2.2.2.length + ([Xaa .u8 (q10.1)]).length) * 1 ≤ 140737488355328 ∧ v4.2.2.2.2.length + ([Xaa .u8 (q10.1)]).length ≤ maxLen) <|
 some (.go (Xaa .i64 (v4.1 + 1), q10.2.b_, q10.2.i_, q10.2.h_, (v4.2.2.2.2 ++ ([Xaa .u8 (q10.1)]))))) (
 some (.done (q9.2.b_, q9.2.i_, q9.2.h_, v4.2.2.2.2)))
def Xjl (p0 : Xaw) : Option (ByteArray × Xaw) :=
 bnd (loop (Xh7) (0, p0.b_, p0.i_, p0.h_, ([] : List Int))) fun v8 =>
 bnd (
 bnd (Xb8 (⟨v8.1, v8.2.1, v8.2.2.1⟩ : Xaw) 8) fun q13 =>
 sel (!q13.1) (
 bnd (Xat q13.2 5) fun q14 =>
 req ((v8.2.2.2.length + ([Xaa .u8 (Xaa .i64 (1 + q14.1))]).length) * 1 ≤ 140737488355328 ∧ v8.2.2.2.length + ([Xaa .u8 (Xaa .i64 (1 + q14.1))]).length ≤ maxLen) <|
 some ((v8.2.2.2 ++ ([Xaa .u8 (Xaa .i64 (1 + q14.1))])), q14.2.b_, q14.2.i_, q14.2.h_)) (
 some (v8.2.2.2, q13.2.b_, q13.2.i_, q13.2.h_))) fun v12 =>
 some ((strOfNums v12.1), (⟨v12.2.1, v12.2.2.1, v12.2.2.2⟩ : Xaw))
def Xgp (v4 : (Int × (List Int) × Int × Int × (List ByteArray))) : Option (Lp (Int × (List Int) × Int × Int × (List ByteArray)) ((List ByteArray) × (List Int) × Int × Int)) :=
 bnd (Xat (⟨v4.2.1, v4.2.2.1, v4.2.2.2.1⟩ : Xaw) 5) fun q9 =>
 sel (decide (v4.1 < q9.1)) (
 bnd (Xjl q9.2) fun q10 =>
 req ((v4.2.2.2.2.length + ([q10.1]).length) * 16 ≤ 140737488355328 ∧ v4.2.2.2.2.length + ([q10.1]).length ≤ maxLen) <|
 some (.go (Xaa .i64 (v4.1 + 1), q10.2.b_, q10.2.i_, q10.2.h_, (v4.2.2.2.2 ++ ([q10.1]))))) (
 some (.done (v4.2.2.2.2, q9.2.b_, q9.2.i_, q9.2.h_)))
def Xh8 (p0 : Xaw) : Option ((List ByteArray) × Xaw) :=
 bnd (loop (Xgp) (0, p0.b_, p0.i_, p0.h_, ([] : List ByteArray))) fun v8 =>
 some (v8.1, (⟨v8.2.1, v8.2.2.1, v8.2.2.2⟩ : Xaw))
def Xd4 (p0 : Xaw) : Option (Par × Xaw) :=
 bnd (Xat p0 41) fun q1 =>
 bnd (Xb8 q1.2 4) fun q2 =>
 bnd (
 bnd (Xat q2.2 3) fun q4 =>
 sel (q4.1 == 0) (
 some (true, false, q4.2.b_, q4.2.i_, q4.2.h_)) (
 sel (q4.1 == 1) (
 some (false, true, q4.2.b_, q4.2.i_, q4.2.h_)) (
 some (false, false, q4.2.b_, q4.2.i_, q4.2.h_)))) fun v3 =>
 some ((⟨q1.1, v3.1, v3.2.1, (!q2.1)⟩ : Par), (⟨v3.2.2.1, v3.2.2.2.1, v3.2.2.2.2⟩ : Xaw))
def Xij (p0 : Xaw) : Option (Rate × Xaw) :=
 bnd (Xat p0 2000) fun q1 =>
 bnd (Xat q1.2 41) fun q2 =>
 bnd (Xat q2.2 (Xaa .i64 ((Xaa .i64 (16 * (Xaa .i64 (1 + q1.1)))) + 1))) fun q3 =>
 some ((⟨q2.1, Xaa .i64 (1 + q1.1), Xaa .i64 (q3.1 - (Xaa .i64 (8 * (Xaa .i64 (1 + q1.1)))))⟩ : Rate), q3.2)
def Xeb (p0 : (List Int)) (v4 : (Int × Int)) : Option (Lp (Int × Int) (Ou Int Int)) :=
 sel (decide (v4.2 < (p0.length : Int))) (
 req (0 ≤ v4.2 ∧ v4.2 < p0.length) <|
 bnd (Xak (p0.getD v4.2.toNat 0) 1 8) fun q8 =>
 sel (!q8) (
 some (.done (.ret 0))) (
 req (0 ≤ v4.2 ∧ v4.2 < p0.length) <|
 some (.go (Xaa .i64 (v4.1 + (p0.getD v4.2.toNat 0)), Xaa .i64 (v4.2 + 1))))) (
 some (.done (.out v4.1)))
def Xe8 (p0 : (List Int)) : Option Int :=
 bnd (
 sel (decide ((p0.length : Int) < 1)) (
 some true) (
 some (decide ((p0.length : Int) > 4)))) fun v1 =>
 sel v1 (
 some 0) (
 bnd (loop (Xeb p0) (0, 0)) fun o9 => match o9 with
| .out v7 => (
 some v7)
| .ret r => some r)
def Xf7 (p0 : Seq) : Option Int :=
 bnd (Xe8 p0.Cols) fun q1 =>
 bnd (Xe8 p0.Rows) fun q2 =>
 some (Xaa .i64 (q1 * q2))
def Xc7 (p0 : Int) : Option Int :=
 sel (p0 == 1) (
 some 16) (
 sel (p0 == 2) (
 some 64) (
 sel (p0 == 3) (
 some 256) (
 some 0)))
def Xiw (p0 : Seq) : Option Bool :=
 bnd (
 bnd (Xf7 p0) fun q2 =>
 bnd (Xc7 p0.Level) fun q3 =>
 bnd (Xak q2 1 q3) fun q4 =>
 sel q4 (
 bnd (Xak p0.Bits 3 8) fun q5 =>
 some q5) (
 some false)) fun v1 =>
 some v1
def Xgk (p0 : (List Int)) (p1 : (List Int)) (v3 : Int) : Option (Lp Int (Ou Unit Int)) :=
 sel (decide (v3 ≤ 3)) (
 bnd (Xiw (⟨v3, 3, p0, p1⟩ : Seq)) fun q7 =>
 sel q7 (
 some (.done (.ret v3))) (
 some (.go (Xaa .i64 (v3 + 1))))) (
 some (.done (.out ())))
def Xhy (p0 : (List Int)) (p1 : (List Int)) : Option Int :=
 bnd (loop (Xgk p0 p1) 1) fun o8 => match o8 with
| .out v6 => (
 some 0)
| .ret r => some r
def Xha (p0 : Seq) : Option Int :=
 bnd (Xiw p0) fun q1 =>
 sel (!q1) (
 some 0) (
 some (Xaa .i64 ((p0.Cols.length : Int) * (p0.Rows.length : Int))))
def Xg0 (p0 : Rate) : Option Bool :=
 bnd (
 bnd (Xak p0.Qp 0 40) fun q2 =>
 sel q2 (
 bnd (Xak p0.Target 1 100000) fun q3 =>
 sel q3 (
 bnd (Xak p0.Debt (Xaa .i64 ((-8) * p0.Target)) (Xaa .i64 (8 * p0.Target))) fun q4 =>
 some q4) (
 some false)) (
 some false)) fun v1 =>
 some v1
def Xg1 (p0 : Seq) : Option (Int × Int) :=
 bnd (Xiw p0) fun q1 =>
 sel (!q1) (
 some (0, 0)) (
 bnd (Xe8 p0.Cols) fun q2 =>
 bnd (Xe8 p0.Rows) fun q3 =>
 some (Xaa .i64 (8 * q2), Xaa .i64 (8 * q3)))
def Xcr (p0 : Xcm) : Option Bool :=
 bnd (
 bnd (Xha p0.Seq) fun q2 =>
 sel (q2 != 1) (
 some true) (
 bnd (Xkd p0.Par) fun q3 =>
 sel q3 (
 bnd (Xg0 p0.Rate) fun q4 =>
 sel q4 (
 sel (decide (p0.Frame < 0)) (
 some true) (
 req (0 ≤ (Xaa .u64 (p0.Seq.Bits))) <|
 some (decide (p0.Frame ≥ (Xaa .i64 (1 * 2 ^ min (Xaa .u64 (p0.Seq.Bits)).toNat (IntKind.bits .i64))))))) (
 some true)) (
 some true))) fun v1 =>
 sel v1 (
 some false) (
 bnd (
 bnd (Xak p0.Every 1 1000) fun q6 =>
 sel q6 (
 bnd (Xak p0.Since 0 1000) fun q7 =>
 sel q7 (
 bnd (Xak p0.Reach 0 4) fun q8 =>
 some (!q8)) (
 some true)) (
 some true)) fun v5 =>
 sel v5 (
 some false) (
 bnd (Xg1 p0.Seq) fun q9 =>
 sel p0.Has (
 bnd (
 bnd (Xcc p0.Ref) fun q11 =>
 sel q11 (
 sel (p0.Ref.Wide == q9.1) (
 some (p0.Ref.High == q9.2)) (
 some false)) (
 some false)) fun v10 =>
 some v10) (
 bnd (
 sel (p0.Ref.Wide == 0) (
 sel (p0.Ref.High == 0) (
 some ((p0.Ref.Dots.size : Int) == 0)) (
 some false)) (
 some false)) fun v12 =>
 some v12)))
def Xf5 (p0 : Int) (p1 : Int) (p2 : Int) (p3 : Par) (p4 : Rate) (p5 : Int) (p6 : Int) : Option (Xcm × Bool) :=
 bnd (Xhy ([p0]) ([p1])) fun q1 =>
 bnd (Xcr (⟨(⟨q1, p2, [p0], [p1]⟩ : Seq), p3, p4, 0, 0, p5, p6, false, (⟨0, 0, ⟨#[]⟩⟩ : Pic)⟩ : Xcm)) fun q2 =>
 sel (!q2) (
 some ((⟨(⟨0, 0, [], []⟩ : Seq), (⟨0, false, false, false⟩ : Par), (⟨0, 0, 0⟩ : Rate), 0, 0, 0, 0, false, (⟨0, 0, ⟨#[]⟩⟩ : Pic)⟩ : Xcm), false)) (
 some ((⟨(⟨q1, p2, [p0], [p1]⟩ : Seq), p3, p4, 0, 0, p5, p6, false, (⟨0, 0, ⟨#[]⟩⟩ : Pic)⟩ : Xcm), true))
def Xid (p1 : Int) (v7 : (Int × Int × (List Int) × Int × Int × (List Int))) : Option (Lp (Int × Int × (List Int) × Int × Int × (List Int)) ((List Int) × (List Int) × Int × Int)) :=
 sel (decide (v7.2.1 < p1)) (
 bnd (
 bnd (Xat (⟨v7.2.2.1, v7.2.2.2.1, v7.2.2.2.2.1⟩ : Xaw) 6) fun q15 =>
 sel (q15.1 == 0) (
 bnd (Xbk q15.2) fun q16 =>
 some (q16.1, q16.2.b_, q16.2.i_, q16.2.h_)) (
 sel (q15.1 == 1) (
 bnd (Xat q15.2 9) fun q17 =>
 some ((IntKind.wrap .i64 (BitVec.ofInt (IntKind.bits .i64) (Xaa .i64 ((Xaa .i64 (v7.1 + q17.1)) + 252)) &&& BitVec.ofInt (IntKind.bits .i64) 255).toNat), q17.2.b_, q17.2.i_, q17.2.h_)) (
 some (v7.1, q15.2.b_, q15.2.i_, q15.2.h_)))) fun v14 =>
 req ((v7.2.2.2.2.2.length + ([Xaa .u8 (v14.1)]).length) * 1 ≤ 140737488355328 ∧ v7.2.2.2.2.2.length + ([Xaa .u8 (v14.1)]).length ≤ maxLen) <|
 some (.go (v14.1, Xaa .i64 (v7.2.1 + 1), v14.2.1, v14.2.2.1, v14.2.2.2, (v7.2.2.2.2.2 ++ ([Xaa .u8 (v14.1)]))))) (
 some (.done (v7.2.2.2.2.2, v7.2.2.1, v7.2.2.2.1, v7.2.2.2.2.1)))
def Xjn (p0 : Xaw) (p1 : Int) : Option (ByteArray × Xaw) :=
 bnd (Xbk p0) fun q1 =>
 bnd (loop (Xid p1) (q1.1, 0, q1.2.b_, q1.2.i_, q1.2.h_, ([] : List Int))) fun v13 =>
 some ((strOfNums v13.1), (⟨v13.2.1, v13.2.2.1, v13.2.2.2⟩ : Xaw))
def Xie (p0 : Xaw) (p1 : Int) (p2 : Int) : Option (Pic × Xaw) :=
 bnd (Xjn p0 (Xaa .i64 (p1 * p2))) fun q1 =>
 some ((⟨p1, p2, q1.1⟩ : Pic), q1.2)
def Xko (p0 : Xcm) (p1 : Bool) : Option Bool :=
 bnd (
 bnd (Xcr p0) fun q2 =>
 sel q2 (
 sel p1 (
 some true) (
 sel p0.Has (
 some (decide (p0.Since ≥ p0.Every))) (
 some true))) (
 some false)) fun v1 =>
 some v1
def Xhc (p0 : Seq) : Option Seq :=
 req ((([] : List Int).length + p0.Cols.length) * 8 ≤ 140737488355328 ∧ ([] : List Int).length + p0.Cols.length ≤ maxLen) <|
 req ((([] : List Int).length + p0.Rows.length) * 8 ≤ 140737488355328 ∧ ([] : List Int).length + p0.Rows.length ≤ maxLen) <|
 some (⟨p0.Level, p0.Bits, (([] : List Int) ++ p0.Cols), (([] : List Int) ++ p0.Rows)⟩ : Seq)
def Xmc (p0 : Rate) (p1 : Bool) : Option Int :=
 bnd (Xg0 p0) fun q1 =>
 sel (!q1) (
 some 0) (
 sel p1 (
 bnd (Xbj (Xaa .i64 (p0.Qp - 2)) 0 40) fun q2 =>
 some q2) (
 some p0.Qp))
def Xgo (p0 : Pic) (p1 : Pic) (p2 : Xly) (p3 : Int) (v24 : (Int × (List Xba) × Int × Int × ByteArray)) (v45 : (Int × (List Xba) × Int × Int × ByteArray)) : Option (Lp (Int × (List Xba) × Int × Int × ByteArray) ((List Xba) × Int × Int × ByteArray)) :=
 sel (decide (v45.1 < p0.Wide)) (
 bnd (Xcp p0 v45.1 v24.1) fun q51 =>
 bnd (Xf6 (⟨v45.2.2.1, v45.2.2.2.1, v45.2.2.2.2⟩ : Pic) p1 q51 v45.1 v24.1 p2 p3) fun q52 =>
 req ((v45.2.1.length + ([q52.1]).length) * 56 ≤ 140737488355328 ∧ v45.2.1.length + ([q52.1]).length ≤ maxLen) <|
 bnd (Xk4 (⟨v45.2.2.1, v45.2.2.2.1, v45.2.2.2.2⟩ : Pic) v45.1 v24.1 q52.2.1) fun q53 =>
 some (.go (Xaa .i64 (v45.1 + 8), (v45.2.1 ++ ([q52.1])), q53.Wide, q53.High, q53.Dots))) (
 some (.done (v45.2.1, v45.2.2.1, v45.2.2.2.1, v45.2.2.2.2)))
def Xgn (p0 : Pic) (p1 : Pic) (p2 : Xly) (p3 : Int) (v24 : (Int × (List Xba) × Int × Int × ByteArray)) : Option (Lp (Int × (List Xba) × Int × Int × ByteArray) ((List Xba) × Int × Int × ByteArray)) :=
 sel (decide (v24.1 < p0.High)) (
 bnd (loop (Xgo p0 p1 p2 p3 v24) (0, v24.2.1, v24.2.2.1, v24.2.2.2.1, v24.2.2.2.2)) fun v50 =>
 some (.go (Xaa .i64 (v24.1 + 8), v50.1, v50.2.1, v50.2.2.1, v50.2.2.2))) (
 some (.done (v24.2.1, v24.2.2.1, v24.2.2.2.1, v24.2.2.2.2)))
def Xjk (p0 : Pic) (p1 : Pic) (p2 : Xly) (p3 : Int) : Option ((List Xba) × Pic × Bool) :=
 bnd (
 bnd (Xcc p0) fun q2 =>
 sel q2 (
 bnd (Xhi p0.Wide) fun q3 =>
 sel q3 (
 bnd (Xhi p0.High) fun q4 =>
 sel q4 (
 bnd (Xdv p2) fun q5 =>
 sel q5 (
 bnd (Xak p3 0 4) fun q6 =>
 sel q6 (
 sel p2.Key (
 some false) (
 bnd (Xfi p0 p1) fun q7 =>
 some (!q7))) (
 some true)) (
 some true)) (
 some true)) (
 some true)) (
 some true)) fun v1 =>
 sel v1 (
 some (([] : List Xba), (⟨0, 0, ⟨#[]⟩⟩ : Pic), false)) (
 bnd (Xn0 p0.Wide p0.High) fun q8 =>
 bnd (loop (Xgn p0 p1 p2 p3) (0, ([] : List Xba), q8.Wide, q8.High, q8.Dots)) fun v40 =>
 some (v40.1, (⟨v40.2.1, v40.2.2.1, v40.2.2.2⟩ : Pic), true))
def Xmu (p0 : Seq) (p1 : Par) (p2 : Yry) : Option Bool :=
 bnd (
 bnd (Xkd p1) fun q2 =>
 sel q2 (
 sel (decide (p2.Tile ≥ 0)) (
 bnd (Xha p0) fun q3 =>
 sel (decide (p2.Tile < q3)) (
 sel (decide (p2.Frame ≥ 0)) (
 req (0 ≤ (Xaa .u64 (p0.Bits))) <|
 sel (decide (p2.Frame < (Xaa .i64 (1 * 2 ^ min (Xaa .u64 (p0.Bits)).toNat (IntKind.bits .i64))))) (
 bnd (Xak p2.Qp 0 40) fun q4 =>
 some q4) (
 some false)) (
 some false)) (
 some false)) (
 some false)) (
 some false)) fun v1 =>
 some v1
def Xf8 (v2 : (Int × Int × (List Int))) : Option (Lp (Int × Int × (List Int)) (List Int)) :=
 sel (decide (v2.2.1 ≥ 0)) (
 req ((2 : Int) ≠ 0) <|
 req (0 ≤ v2.2.1 ∧ v2.2.1 < v2.2.2.length) <|
 req (v2.2.1.toNat < v2.2.2.length) <|
 req ((2 : Int) ≠ 0) <|
 some (.go (Xaa .i64 (v2.1.tdiv 2), Xaa .i64 (v2.2.1 - 1), (v2.2.2.set v2.2.1.toNat (Xaa .u8 (Xaa .i64 (48 + (v2.1.tmod 2)))))))) (
 some (.done v2.2.2))
def Xg3 (p0 : Int) (p1 : Int) : Option ByteArray :=
 req (0 ≤ p1 ∧ p1 ≤ p1 ∧ p1 * 1 ≤ 281474976710656) <|
 bnd (loop (Xf8) (p0, Xaa .i64 (p1 - 1), (List.replicate p1.toNat (0 : Int)))) fun v4 =>
 some (strOfNums v4)
def Xjg (p0 : Seq) (p1 : Par) (p2 : Yry) : Option (ByteArray × Bool) :=
 bnd (Xmu p0 p1 p2) fun q1 =>
 sel (!q1) (
 some (⟨#[]⟩, false)) (
 bnd (Xbr p2.Tile) fun q2 =>
 bnd (Xg3 p2.Frame p0.Bits) fun q3 =>
 req (q2.size + q3.size ≤ 9223372036854775807) <|
 bnd (Xfo (Xaa .i64 (p2.Qp - p1.Qp))) fun q4 =>
 req ((q2 ++ q3).size + q4.size ≤ 9223372036854775807) <|
 some (((q2 ++ q3) ++ q4), true))
def Xdl (p0 : (List Int)) (v5 : (Int × Int × ByteArray × Int)) : Option (Lp (Int × Int × ByteArray × Int) (Int × ByteArray)) :=
 sel (decide (v5.2.2.2 < (p0.length : Int))) (
 bnd (
 req (0 ≤ v5.2.2.2 ∧ v5.2.2.2 < p0.length) <|
 sel ((p0.getD v5.2.2.2.toNat 0) == 0) (
 some (v5.1, Xaa .i64 (v5.2.1 + 1), v5.2.2.1)) (
 bnd (Xbr v5.2.1) fun q12 =>
 req (v5.2.2.1.size + q12.size ≤ 9223372036854775807) <|
 req (0 ≤ v5.2.2.2 ∧ v5.2.2.2 < p0.length) <|
 bnd (Xfo (p0.getD v5.2.2.2.toNat 0)) fun q13 =>
 req ((v5.2.2.1 ++ q12).size + q13.size ≤ 9223372036854775807) <|
 some (Xaa .i64 (v5.1 + 1), 0, ((v5.2.2.1 ++ q12) ++ q13)))) fun v11 =>
 some (.go (v11.1, v11.2.1, v11.2.2, Xaa .i64 (v5.2.2.2 + 1)))) (
 some (.done (v5.1, v5.2.2.1)))
def Xct (p0 : (List Int)) : Option ByteArray :=
 bnd (loop (Xdl p0) (0, 0, ⟨#[]⟩, 0)) fun v10 =>
 bnd (Xbr v10.1) fun q15 =>
 req (q15.size + v10.2.size ≤ 9223372036854775807) <|
 some (q15 ++ v10.2)
def Xi1 (p0 : (List Int)) (p1 : Xly) : Option ByteArray :=
 bnd (
 sel p1.Large (
 some true) (
 some p1.Exact)) fun v1 =>
 sel v1 (
 bnd (Xct p0) fun q2 =>
 some q2) (
 req (0 ≤ (0 : Int) ∧ (0 : Int) ≤ (16 : Int) ∧ (16 : Int) ≤ (p0.length : Int)) <|
 bnd (Xct ((p0.drop (0 : Int).toNat).take ((16 : Int).toNat - (0 : Int).toNat))) fun q3 =>
 req (0 ≤ (16 : Int) ∧ (16 : Int) ≤ (32 : Int) ∧ (32 : Int) ≤ (p0.length : Int)) <|
 bnd (Xct ((p0.drop (16 : Int).toNat).take ((32 : Int).toNat - (16 : Int).toNat))) fun q4 =>
 req (q3.size + q4.size ≤ 9223372036854775807) <|
 req (0 ≤ (32 : Int) ∧ (32 : Int) ≤ (48 : Int) ∧ (48 : Int) ≤ (p0.length : Int)) <|
 bnd (Xct ((p0.drop (32 : Int).toNat).take ((48 : Int).toNat - (32 : Int).toNat))) fun q5 =>
 req ((q3 ++ q4).size + q5.size ≤ 9223372036854775807) <|
 req (0 ≤ (48 : Int) ∧ (48 : Int) ≤ (p0.length : Int) ∧ (p0.length : Int) ≤ (p0.length : Int)) <|
 bnd (Xct ((p0.drop (48 : Int).toNat).take ((p0.length : Int).toNat - (48 : Int).toNat))) fun q6 =>
 req (((q3 ++ q4) ++ q5).size + q6.size ≤ 9223372036854775807) <|
 some (((q3 ++ q4) ++ q5) ++ q6))
def Xk3 (p0 : Xba) (p1 : Xly) : Option ByteArray :=
 bnd (
 sel (!p1.Key) (
 bnd (Xbr p0.Kind) fun q2 =>
 some q2) (
 some ⟨#[]⟩)) fun v1 =>
 sel (p0.Kind == 1) (
 bnd (Xfo p0.Dx) fun q3 =>
 req (v1.size + q3.size ≤ 9223372036854775807) <|
 bnd (Xfo p0.Dy) fun q4 =>
 req ((v1 ++ q3).size + q4.size ≤ 9223372036854775807) <|
 bnd (Xi1 p0.Levels p1) fun q5 =>
 req (((v1 ++ q3) ++ q4).size + q5.size ≤ 9223372036854775807) <|
 some (((v1 ++ q3) ++ q4) ++ q5)) (
 sel (p0.Kind == 2) (
 bnd (Xbr p0.Mode) fun q6 =>
 req (v1.size + q6.size ≤ 9223372036854775807) <|
 bnd (Xi1 p0.Levels p1) fun q7 =>
 req ((v1 ++ q6).size + q7.size ≤ 9223372036854775807) <|
 some ((v1 ++ q6) ++ q7)) (
 some v1))
def Xge (p0 : (List Xba)) (p1 : Xly) (v3 : (Int × (List Int))) : Option (Lp (Int × (List Int)) (List Int)) :=
 sel (decide (v3.1 < (p0.length : Int))) (
 req (0 ≤ v3.1 ∧ v3.1 < p0.length) <|
 bnd (Xk3 (⟨(p0.getD v3.1.toNat Xp3).Kind, (p0.getD v3.1.toNat Xp3).Mode, (p0.getD v3.1.toNat Xp3).Dx, (p0.getD v3.1.toNat Xp3).Dy, (p0.getD v3.1.toNat Xp3).Levels⟩ : Xba) p1) fun q7 =>
 req ((v3.2.length + (Xal q7).length) * 1 ≤ 140737488355328 ∧ v3.2.length + (Xal q7).length ≤ maxLen) <|
 some (.go (Xaa .i64 (v3.1 + 1), (v3.2 ++ (Xal q7))))) (
 some (.done v3.2))
def Xk5 (p0 : (List Xba)) (p1 : Xly) : Option ByteArray :=
 bnd (loop (Xge p0 p1) (0, ([] : List Int))) fun v6 =>
 some (strOfNums v6)
def Xe7 (p0 : (List Int)) (v4 : (ByteArray × Int)) : Option (Lp (ByteArray × Int) ByteArray) :=
 sel (decide (v4.2 < (p0.length : Int))) (
 req (0 ≤ v4.2 ∧ v4.2 < p0.length) <|
 bnd (Xbr (p0.getD v4.2.toNat 0)) fun q8 =>
 req (v4.1.size + q8.size ≤ 9223372036854775807) <|
 some (.go ((v4.1 ++ q8), Xaa .i64 (v4.2 + 1)))) (
 some (.done v4.1))
def Xhe (p0 : (List Int)) : Option ByteArray :=
 bnd (Xbr (p0.length : Int)) fun q1 =>
 bnd (loop (Xe7 p0) (q1, 0)) fun v7 =>
 some v7
def Xk0 (p0 : Seq) : Option ByteArray :=
 bnd (Xbr p0.Level) fun q1 =>
 bnd (Xg3 p0.Bits 4) fun q2 =>
 req (q1.size + q2.size ≤ 9223372036854775807) <|
 bnd (Xhe p0.Cols) fun q3 =>
 req ((q1 ++ q2).size + q3.size ≤ 9223372036854775807) <|
 bnd (Xhe p0.Rows) fun q4 =>
 req (((q1 ++ q2) ++ q3).size + q4.size ≤ 9223372036854775807) <|
 some (((q1 ++ q2) ++ q3) ++ q4)
def Xjm (p0 : Int) : Option Bool :=
 bnd (
 sel (p0 == 1) (
 some true) (
 sel (p0 == 5) (
 some true) (
 sel (p0 == 7) (
 some true) (
 some (p0 == 8))))) fun v1 =>
 some v1
def Xd3 (v2 : (List Int)) : Option (Lp (List Int) (List Int)) :=
 req ((8 : Int) ≠ 0) <|
 sel (((v2.length : Int).tmod 8) != 0) (
 req ((v2.length + ([48]).length) * 1 ≤ 140737488355328 ∧ v2.length + ([48]).length ≤ maxLen) <|
 some (.go (v2 ++ ([48])))) (
 some (.done v2))
def Xcd (v4 : (List Int)) (v12 : (Int × (List Int))) (v21 : (Int × Int)) : Option (Lp (Int × Int) Int) :=
 sel (decide (v21.2 < 8)) (
 req (0 ≤ (Xaa .i64 (v12.1 + v21.2)) ∧ (Xaa .i64 (v12.1 + v21.2)) < v4.length) <|
 req ((Xaa .i64 (v12.1 + v21.2)).toNat < v4.length) <|
 some (.go (Xaa .i64 ((Xaa .i64 ((Xaa .i64 (2 * v21.1)) + (Xaa .i64 ((v4.getD ((Xaa .i64 (v12.1 + v21.2)).toNat) 0))))) - 48), Xaa .i64 (v21.2 + 1)))) (
 some (.done v21.1))
def Xdh (v4 : (List Int)) (v12 : (Int × (List Int))) : Option (Lp (Int × (List Int)) (List Int)) :=
 sel (decide (v12.1 < (v4.length : Int))) (
 bnd (loop (Xcd v4 v12) (0, 0)) fun v23 =>
 req ((v12.2.length + ([Xaa .u8 (v23)]).length) * 1 ≤ 140737488355328 ∧ v12.2.length + ([Xaa .u8 (v23)]).length ≤ maxLen) <|
 some (.go (Xaa .i64 (v12.1 + 8), (v12.2 ++ ([Xaa .u8 (v23)]))))) (
 some (.done v12.2))
def Xh4 (p0 : ByteArray) : Option ByteArray :=
 req (p0.size ≤ maxLen) <|
 req (((Xal p0).length + ([49]).length) * 1 ≤ 140737488355328 ∧ (Xal p0).length + ([49]).length ≤ maxLen) <|
 bnd (loop (Xd3) ((Xal p0) ++ ([49]))) fun v4 =>
 bnd (loop (Xdh v4) (0, ([] : List Int))) fun v19 =>
 some (strOfNums v19)
def Xg2 (p0 : Int) (p1 : ByteArray) : Option (ByteArray × Bool) :=
 bnd (
 bnd (Xjm p0) fun q2 =>
 sel q2 (
 bnd (Xmd p1) fun q3 =>
 some (!q3)) (
 some true)) fun v1 =>
 sel v1 (
 some (⟨#[]⟩, false)) (
 bnd (Xh4 p1) fun q4 =>
 req ((strOfNums ([Xaa .u8 (p0)])).size + q4.size ≤ 9223372036854775807) <|
 some (((strOfNums ([Xaa .u8 (p0)])) ++ q4), true))
def Xhd (p0 : Bool) : Option ByteArray :=
 sel p0 (
 some ⟨#[49]⟩) (
 some ⟨#[48]⟩)
def Xkz (p0 : Par) : Option ByteArray :=
 bnd (Xg3 p0.Qp 6) fun q1 =>
 bnd (Xhd p0.Large) fun q2 =>
 req (q1.size + q2.size ≤ 9223372036854775807) <|
 bnd (Xhd p0.Exact) fun q3 =>
 req ((q1 ++ q2).size + q3.size ≤ 9223372036854775807) <|
 bnd (Xhd p0.Confined) fun q4 =>
 req (((q1 ++ q2) ++ q3).size + q4.size ≤ 9223372036854775807) <|
 some (((q1 ++ q2) ++ q3) ++ q4)
def Xdd (p0 : Xcm) : Option (List ByteArray) :=
 bnd (Xcr p0) fun q1 =>
 sel (!q1) (
 some ([] : List ByteArray)) (
 bnd (Xk0 p0.Seq) fun q2 =>
 bnd (Xg2 7 q2) fun q3 =>
 bnd (Xkz p0.Par) fun q4 =>
 bnd (Xg2 8 q4) fun q5 =>
 some ([q3.1, q5.1]))
def Xhz (p0 : Rate) (p1 : Int) : Option Rate :=
 bnd (Xg0 p0) fun q1 =>
 sel (!q1) (
 some p0) (
 bnd (Xbj p1 0 400000) fun q2 =>
 bnd (Xbj (Xaa .i64 ((Xaa .i64 (p0.Debt + q2)) - p0.Target)) (Xaa .i64 ((-8) * p0.Target)) (Xaa .i64 (8 * p0.Target))) fun q3 =>
 bnd (
 sel (decide (q3 > p0.Target)) (
 some (Xaa .i64 (p0.Qp + 1))) (
 some p0.Qp)) fun v4 =>
 bnd (
 sel (decide (q3 < (Xaa .i64 (0 - p0.Target)))) (
 some (Xaa .i64 (v4 - 1))) (
 some v4)) fun v5 =>
 bnd (Xbj v5 0 40) fun q6 =>
 some (⟨q6, p0.Target, q3⟩ : Rate))
def Xe3 (p0 : Xcm) (p1 : Pic) (p2 : Bool) : Option (Xcm × (List ByteArray) × Bool) :=
 bnd (Xg1 p0.Seq) fun q1 =>
 bnd (Xko p0 p2) fun q2 =>
 bnd (
 bnd (Xcr p0) fun q4 =>
 sel q4 (
 bnd (Xcc p1) fun q5 =>
 sel q5 (
 sel (p1.Wide != q1.1) (
 some true) (
 sel (p1.High != q1.2) (
 some true) (
 sel q2 (
 some false) (
 some (decide (p0.Since ≥ 1000)))))) (
 some true)) (
 some true)) fun v3 =>
 sel v3 (
 bnd (Xhc p0.Seq) fun q6 =>
 some ((⟨q6, p0.Par, p0.Rate, p0.Frame, p0.Since, p0.Every, p0.Reach, p0.Has, p0.Ref⟩ : Xcm), ([] : List ByteArray), false)) (
 bnd (Xmc p0.Rate q2) fun q7 =>
 bnd (Xjk p1 p0.Ref (⟨q2, q7, p0.Par.Large, p0.Par.Exact⟩ : Xly) p0.Reach) fun q8 =>
 bnd (Xjg p0.Seq p0.Par (⟨0, p0.Frame, q7⟩ : Yry)) fun q9 =>
 bnd (Xk5 q8.1 (⟨q2, q7, p0.Par.Large, p0.Par.Exact⟩ : Xly)) fun q10 =>
 req (q9.1.size + q10.size ≤ 9223372036854775807) <|
 bnd (
 sel q2 (
 bnd (Xdd p0) fun q12 =>
 some (5, q12)) (
 some (1, ([] : List ByteArray)))) fun v11 =>
 bnd (Xg2 v11.1 (q9.1 ++ q10)) fun q13 =>
 req ((v11.2.length + ([q13.1]).length) * 16 ≤ 140737488355328 ∧ v11.2.length + ([q13.1]).length ≤ maxLen) <|
 bnd (Xhc p0.Seq) fun q14 =>
 bnd (Xhz p0.Rate ((q9.1 ++ q10).size : Int)) fun q15 =>
 req (0 ≤ (Xaa .u64 (p0.Seq.Bits))) <|
 req ((Xaa .i64 (1 * 2 ^ min (Xaa .u64 (p0.Seq.Bits)).toNat (IntKind.bits .i64))) ≠ 0) <|
 bnd (
 sel q2 (
 some 1) (
 some (Xaa .i64 (p0.Since + 1)))) fun v16 =>
 some ((⟨q14, p0.Par, q15, ((Xaa .i64 (p0.Frame + 1)).tmod (Xaa .i64 (1 * 2 ^ min (Xaa .u64 (p0.Seq.Bits)).toNat (IntKind.bits .i64)))), v16, p0.Every, p0.Reach, true, q8.2.1⟩ : Xcm), (v11.2 ++ ([q13.1])), true))
def Xih (p1 : Pic) (v3 : (Int × Int × (List Int) × Int × Int)) (v7 : (Int × (List Int))) : Option (Lp (Int × (List Int)) (List Int)) :=
 sel (decide (v7.1 < (p1.Dots.size : Int))) (
 req (p1.Wide ≠ 0) <|
 req (p1.Wide ≠ 0) <|
 bnd (Xc5 p1 (Xaa .i64 ((v7.1.tmod p1.Wide) + v3.1)) (Xaa .i64 ((Xaa .i64 (v7.1.tdiv p1.Wide)) + v3.2.1))) fun q11 =>
 req ((v7.2.length + ([Xaa .u8 (q11)]).length) * 1 ≤ 140737488355328 ∧ v7.2.length + ([Xaa .u8 (q11)]).length ≤ maxLen) <|
 some (.go (Xaa .i64 (v7.1 + 1), (v7.2 ++ ([Xaa .u8 (q11)]))))) (
 some (.done v7.2))
def Xii (v17 : (Int × (List Int) × Int × Int × (List Int))) : Option (Lp (Int × (List Int) × Int × Int × (List Int)) ((List Int) × (List Int) × Int × Int)) :=
 bnd (Xat (⟨v17.2.1, v17.2.2.1, v17.2.2.2.1⟩ : Xaw) 6) fun q23 =>
 sel (decide (v17.1 < q23.1)) (
 bnd (Xat q23.2 (v17.2.2.2.2.length : Int)) fun q24 =>
 bnd (Xbk q24.2) fun q25 =>
 req (0 ≤ q24.1 ∧ q24.1 < v17.2.2.2.2.length) <|
 req (q24.1.toNat < v17.2.2.2.2.length) <|
 some (.go (Xaa .i64 (v17.1 + 1), q25.2.b_, q25.2.i_, q25.2.h_, (v17.2.2.2.2.set q24.1.toNat (Xaa .u8 (q25.1)))))) (
 some (.done (v17.2.2.2.2, q23.2.b_, q23.2.i_, q23.2.h_)))
def Xjo (p0 : Xaw) (p1 : Pic) : Option (Pic × Xaw) :=
 bnd (Xat p0 7) fun q1 =>
 bnd (Xat q1.2 5) fun q2 =>
 bnd (
 bnd (Xb8 q2.2 3) fun q4 =>
 sel q4.1 (
 some (0, 0, q4.2.b_, q4.2.i_, q4.2.h_)) (
 some (Xaa .i64 (q1.1 - 3), Xaa .i64 (q2.1 - 2), q4.2.b_, q4.2.i_, q4.2.h_))) fun v3 =>
 bnd (loop (Xih p1 v3) (0, ([] : List Int))) fun v10 =>
 bnd (loop (Xii) (0, v3.2.2.1, v3.2.2.2.1, v3.2.2.2.2, v10)) fun v22 =>
 some ((⟨p1.Wide, p1.High, (strOfNums v22.1)⟩ : Pic), (⟨v22.2.1, v22.2.2.1, v22.2.2.2⟩ : Xaw))
def Xgs (v16 : (Int × (List Int) × Int × Int × Int × Int × Int × Bool × Bool × Bool × Int × Int × Int × Int × Int × Int × Int × Bool × Int × Int × ByteArray × (List ByteArray) × Int × Int × ByteArray × (List Int) × (List Int))) : Option (Lp (Int × (List Int) × Int × Int × Int × Int × Int × Bool × Bool × Bool × Int × Int × Int × Int × Int × Int × Int × Bool × Int × Int × ByteArray × (List ByteArray) × Int × Int × ByteArray × (List Int) × (List Int)) (Int × Int × Int × Bool × Bool × Bool × Int × Int × Int × Int × Int × Int × Int × Bool × Int × Int × ByteArray × (List ByteArray) × (List Int) × Int × Int × (List Int) × (List Int))) :=
 bnd (Xat (⟨v16.2.1, v16.2.2.1, v16.2.2.2.1⟩ : Xaw) 4) fun q23 =>
 sel (decide (v16.1 < q23.1)) (
 bnd (Xb8 q23.2 5) fun q24 =>
 bnd (Xe3 (⟨(⟨v16.2.2.2.2.1, v16.2.2.2.2.2.1, v16.2.2.2.2.2.2.2.2.2.2.2.2.2.2.2.2.2.2.2.2.2.2.2.2.2.1, v16.2.2.2.2.2.2.2.2.2.2.2.2.2.2.2.2.2.2.2.2.2.2.2.2.2.2⟩ : Seq), (⟨v16.2.2.2.2.2.2.1, v16.2.2.2.2.2.2.2.1, v16.2.2.2.2.2.2.2.2.1, v16.2.2.2.2.2.2.2.2.2.1⟩ : Par), (⟨v16.2.2.2.2.2.2.2.2.2.2.1, v16.2.2.2.2.2.2.2.2.2.2.2.1, v16.2.2.2.2.2.2.2.2.2.2.2.2.1⟩ : Rate), v16.2.2.2.2.2.2.2.2.2.2.2.2.2.1, v16.2.2.2.2.2.2.2.2.2.2.2.2.2.2.1, v16.2.2.2.2.2.2.2.2.2.2.2.2.2.2.2.1, v16.2.2.2.2.2.2.2.2.2.2.2.2.2.2.2.2.1, v16.2.2.2.2.2.2.2.2.2.2.2.2.2.2.2.2.2.1, (⟨v16.2.2.2.2.2.2.2.2.2.2.2.2.2.2.2.2.2.2.1, v16.2.2.2.2.2.2.2.2.2.2.2.2.2.2.2.2.2.2.2.1, v16.2.2.2.2.2.2.2.2.2.2.2.2.2.2.2.2.2.2.2.2.1⟩ : Pic)⟩ : Xcm) (⟨v16.2.2.2.2.2.2.2.2.2.2.2.2.2.2.2.2.2.2.2.2.2.2.1, v16.2.2.2.2.2.2.2.2.2.2.2.2.2.2.2.2.2.2.2.2.2.2.2.1, v16.2.2.2.2.2.2.2.2.2.2.2.2.2.2.2.2.2.2.2.2.2.2.2.2.1⟩ : Pic) q24.1) fun q25 =>
 req ((v16.2.2.2.2.2.2.2.2.2.2.2.2.2.2.2.2.2.2.2.2.2.1.length + q25.2.1.length) * 16 ≤ 140737488355328 ∧ v16.2.2.2.2.2.2.2.2.2.2.2.2.2.2.2.2.2.2.2.2.2.1.length + q25.2.1.length ≤ maxLen) <|
 bnd (Xjo q24.2 (⟨v16.2.2.2.2.2.2.2.2.2.2.2.2.2.2.2.2.2.2.2.2.2.2.1, v16.2.2.2.2.2.2.2.2.2.2.2.2.2.2.2.2.2.2.2.2.2.2.2.1, v16.2.2.2.2.2.2.2.2.2.2.2.2.2.2.2.2.2.2.2.2.2.2.2.2.1⟩ : Pic)) fun q26 =>
 some (.go (Xaa .i64 (v16.1 + 1), q26.2.b_, q26.2.i_, q26.2.h_, q25.1.Seq.Level, q25.1.Seq.Bits, q25.1.Par.Qp, q25.1.Par.Large, q25.1.Par.Exact, q25.1.Par.Confined, q25.1.Rate.Qp, q25.1.Rate.Target, q25.1.Rate.Debt, q25.1.Frame, q25.1.Since, q25.1.Every, q25.1.Reach, q25.1.Has, q25.1.Ref.Wide, q25.1.Ref.High, q25.1.Ref.Dots, (v16.2.2.2.2.2.2.2.2.2.2.2.2.2.2.2.2.2.2.2.2.2.1 ++ q25.2.1), q26.1.Wide, q26.1.High, q26.1.Dots, q25.1.Seq.Cols, q25.1.Seq.Rows))) (
 some (.done (v16.2.2.2.2.1, v16.2.2.2.2.2.1, v16.2.2.2.2.2.2.1, v16.2.2.2.2.2.2.2.1, v16.2.2.2.2.2.2.2.2.1, v16.2.2.2.2.2.2.2.2.2.1, v16.2.2.2.2.2.2.2.2.2.2.1, v16.2.2.2.2.2.2.2.2.2.2.2.1, v16.2.2.2.2.2.2.2.2.2.2.2.2.1, v16.2.2.2.2.2.2.2.2.2.2.2.2.2.1, v16.2.2.2.2.2.2.2.2.2.2.2.2.2.2.1, v16.2.2.2.2.2.2.2.2.2.2.2.2.2.2.2.1, v16.2.2.2.2.2.2.2.2.2.2.2.2.2.2.2.2.1, v16.2.2.2.2.2.2.2.2.2.2.2.2.2.2.2.2.2.1, v16.2.2.2.2.2.2.2.2.2.2.2.2.2.2.2.2.2.2.1, v16.2.2.2.2.2.2.2.2.2.2.2.2.2.2.2.2.2.2.2.1, v16.2.2.2.2.2.2.2.2.2.2.2.2.2.2.2.2.2.2.2.2.1, v16.2.2.2.2.2.2.2.2.2.2.2.2.2.2.2.2.2.2.2.2.2.1, q23.2.b_, q23.2.i_, q23.2.h_, v16.2.2.2.2.2.2.2.2.2.2.2.2.2.2.2.2.2.2.2.2.2.2.2.2.2.1, v16.2.2.2.2.2.2.2.2.2.2.2.2.2.2.2.2.2.2.2.2.2.2.2.2.2.2)))
def Xfr (p0 : Xaw) : Option (Xcm × (List ByteArray) × Xaw) :=
 bnd (Xat p0 2) fun q1 =>
 bnd (Xat q1.2 2) fun q2 =>
 bnd (Xat q2.2 3) fun q3 =>
 bnd (Xd4 q3.2) fun q4 =>
 bnd (Xij q4.2) fun q5 =>
 bnd (Xat q5.2 5) fun q6 =>
 bnd (Xat q6.2 3) fun q7 =>
 bnd (Xf5 (Xaa .i64 (1 + q1.1)) (Xaa .i64 (1 + q2.1)) (Xaa .i64 (3 + q3.1)) q4.1 q5.1 (Xaa .i64 (1 + q6.1)) q7.1) fun q8 =>
 bnd (Xg1 q8.1.Seq) fun q9 =>
 bnd (Xie q7.2 q9.1 q9.2) fun q10 =>
 bnd (loop (Xgs) (0, q10.2.b_, q10.2.i_, q10.2.h_, q8.1.Seq.Level, q8.1.Seq.Bits, q8.1.Par.Qp, q8.1.Par.Large, q8.1.Par.Exact, q8.1.Par.Confined, q8.1.Rate.Qp, q8.1.Rate.Target, q8.1.Rate.Debt, q8.1.Frame, q8.1.Since, q8.1.Every, q8.1.Reach, q8.1.Has, q8.1.Ref.Wide, q8.1.Ref.High, q8.1.Ref.Dots, ([] : List ByteArray), q10.1.Wide, q10.1.High, q10.1.Dots, q8.1.Seq.Cols, q8.1.Seq.Rows)) fun v22 =>
 some ((⟨(⟨v22.1, v22.2.1, v22.2.2.2.2.2.2.2.2.2.2.2.2.2.2.2.2.2.2.2.2.2.1, v22.2.2.2.2.2.2.2.2.2.2.2.2.2.2.2.2.2.2.2.2.2.2⟩ : Seq), (⟨v22.2.2.1, v22.2.2.2.1, v22.2.2.2.2.1, v22.2.2.2.2.2.1⟩ : Par), (⟨v22.2.2.2.2.2.2.1, v22.2.2.2.2.2.2.2.1, v22.2.2.2.2.2.2.2.2.1⟩ : Rate), v22.2.2.2.2.2.2.2.2.2.1, v22.2.2.2.2.2.2.2.2.2.2.1, v22.2.2.2.2.2.2.2.2.2.2.2.1, v22.2.2.2.2.2.2.2.2.2.2.2.2.1, v22.2.2.2.2.2.2.2.2.2.2.2.2.2.1, (⟨v22.2.2.2.2.2.2.2.2.2.2.2.2.2.2.1, v22.2.2.2.2.2.2.2.2.2.2.2.2.2.2.2.1, v22.2.2.2.2.2.2.2.2.2.2.2.2.2.2.2.2.1⟩ : Pic)⟩ : Xcm), v22.2.2.2.2.2.2.2.2.2.2.2.2.2.2.2.2.2.1, (⟨v22.2.2.2.2.2.2.2.2.2.2.2.2.2.2.2.2.2.2.1, v22.2.2.2.2.2.2.2.2.2.2.2.2.2.2.2.2.2.2.2.1, v22.2.2.2.2.2.2.2.2.2.2.2.2.2.2.2.2.2.2.2.2.1⟩ : Xaw))
def Xk8 (p0 : Xaw) : Option (Int × Xaw) :=
 bnd (Xb8 p0 3) fun q1 =>
 sel q1.1 (
 bnd (Xck q1.2 ([0, 65535, 65530, 65520, 32767, 32768])) fun q2 =>
 some (q2.1, q2.2)) (
 bnd (Xat q1.2 65536) fun q3 =>
 some (q3.1, q3.2))
def Xcs (p0 : ByteArray) (v4 : (Int × (List Int))) : Option (Lp (Int × (List Int)) (List Int)) :=
 sel (decide (v4.1 < (p0.size : Int))) (
 bnd (
 bnd (
 sel (decide ((v4.2.length : Int) ≥ 2)) (
 req (0 ≤ (Xaa .i64 ((v4.2.length : Int) - 1)) ∧ (Xaa .i64 ((v4.2.length : Int) - 1)) < v4.2.length) <|
 req ((Xaa .i64 ((v4.2.length : Int) - 1)).toNat < v4.2.length) <|
 sel ((v4.2.getD ((Xaa .i64 ((v4.2.length : Int) - 1)).toNat) 0) == 0) (
 req (0 ≤ (Xaa .i64 ((v4.2.length : Int) - 2)) ∧ (Xaa .i64 ((v4.2.length : Int) - 2)) < v4.2.length) <|
 req ((Xaa .i64 ((v4.2.length : Int) - 2)).toNat < v4.2.length) <|
 sel ((v4.2.getD ((Xaa .i64 ((v4.2.length : Int) - 2)).toNat) 0) == 0) (
 req (0 ≤ v4.1 ∧ v4.1 < p0.size) <|
 some (decide ((Xei p0 v4.1) < 4))) (
 some false)) (
 some false)) (
 some false)) fun v10 =>
 sel v10 (
 req ((v4.2.length + ([3]).length) * 1 ≤ 140737488355328 ∧ v4.2.length + ([3]).length ≤ maxLen) <|
 some (v4.2 ++ ([3]))) (
 some v4.2)) fun v9 =>
 req (0 ≤ v4.1 ∧ v4.1 < p0.size) <|
 req ((v9.length + ([(Xei p0 v4.1)]).length) * 1 ≤ 140737488355328 ∧ v9.length + ([(Xei p0 v4.1)]).length ≤ maxLen) <|
 some (.go (Xaa .i64 (v4.1 + 1), (v9 ++ ([(Xei p0 v4.1)]))))) (
 some (.done v4.2))
def Xe6 (p0 : ByteArray) : Option ByteArray :=
 bnd (loop (Xcs p0) (0, ([] : List Int))) fun v8 =>
 some (strOfNums v8)
def Xjf (p0 : ByteArray) : Option (ByteArray × Bool) :=
 bnd (
 sel ((p0.size : Int) == 0) (
 some true) (
 sel (decide ((p0.size : Int) > 60000)) (
 some true) (
 req (0 ≤ (Xaa .i64 ((p0.size : Int) - 1)) ∧ (Xaa .i64 ((p0.size : Int) - 1)) < p0.size) <|
 some ((Xei p0 (Xaa .i64 ((p0.size : Int) - 1))) == 0)))) fun v1 =>
 sel v1 (
 some (⟨#[]⟩, false)) (
 bnd (Xe6 p0) fun q2 =>
 some (q2, true))
def Xea (p0 : (List ByteArray)) (v3 : (Int × (List Int))) : Option (Lp (Int × (List Int)) (Ou (List Int) (ByteArray × Bool))) :=
 sel (decide (v3.1 < (p0.length : Int))) (
 req (0 ≤ v3.1 ∧ v3.1 < p0.length) <|
 bnd (Xjf (p0.getD v3.1.toNat Xou)) fun q7 =>
 sel (!q7.2) (
 some (.done (.ret (⟨#[]⟩, false)))) (
 req ((v3.2.length + ([0, 0, 1]).length) * 1 ≤ 140737488355328 ∧ v3.2.length + ([0, 0, 1]).length ≤ maxLen) <|
 req (((v3.2 ++ ([0, 0, 1])).length + (Xal q7.1).length) * 1 ≤ 140737488355328 ∧ (v3.2 ++ ([0, 0, 1])).length + (Xal q7.1).length ≤ maxLen) <|
 sel (decide ((((v3.2 ++ ([0, 0, 1])) ++ (Xal q7.1)).length : Int) > 60000)) (
 some (.done (.ret (⟨#[]⟩, false)))) (
 some (.go (Xaa .i64 (v3.1 + 1), ((v3.2 ++ ([0, 0, 1])) ++ (Xal q7.1))))))) (
 some (.done (.out v3.2)))
def Xkl (p0 : (List ByteArray)) : Option (ByteArray × Bool) :=
 sel (decide ((p0.length : Int) > 400)) (
 some (⟨#[]⟩, false)) (
 bnd (loop (Xea p0) (0, ([] : List Int))) fun o8 => match o8 with
| .out v6 => (
 some ((strOfNums v6), true))
| .ret r => some r)
def Xji (p0 : Int) (p1 : Int) : Option Int :=
 bnd (
 bnd (Xak p0 0 65535) fun q2 =>
 sel q2 (
 bnd (Xak p1 0 65535) fun q3 =>
 some (!q3)) (
 some true)) fun v1 =>
 sel v1 (
 some 0) (
 req ((65536 : Int) ≠ 0) <|
 some ((Xaa .i64 (p0 + p1)).tmod 65536))
def Xdb (p1 : Int) (p2 : Int) (q4 : (ByteArray × Bool)) (v9 : (Int × (List Xay))) : Option (Lp (Int × (List Xay)) (List Xay)) :=
 sel (decide (v9.1 < (q4.1.size : Int))) (
 bnd (Xbj (Xaa .i64 (v9.1 + p2)) 0 (q4.1.size : Int)) fun q14 =>
 bnd (Xji p1 (v9.2.length : Int)) fun q15 =>
 req (0 ≤ v9.1 ∧ v9.1 ≤ q14 ∧ q14 ≤ (q4.1.size : Int)) <|
 req ((v9.2.length + ([(⟨q15, (v9.1 == 0), (q14 == (q4.1.size : Int)), (q4.1.extract v9.1.toNat q14.toNat)⟩ : Xay)]).length) * 32 ≤ 140737488355328 ∧ v9.2.length + ([(⟨q15, (v9.1 == 0), (q14 == (q4.1.size : Int)), (q4.1.extract v9.1.toNat q14.toNat)⟩ : Xay)]).length ≤ maxLen) <|
 some (.go (Xaa .i64 (v9.1 + p2), (v9.2 ++ ([(⟨q15, (v9.1 == 0), (q14 == (q4.1.size : Int)), (q4.1.extract v9.1.toNat q14.toNat)⟩ : Xay)]))))) (
 some (.done v9.2))
def Xf3 (p0 : (List ByteArray)) (p1 : Int) (p2 : Int) : Option ((List Xay) × Bool) :=
 bnd (
 bnd (Xak p1 0 65535) fun q2 =>
 sel q2 (
 bnd (Xak p2 1 400) fun q3 =>
 some (!q3)) (
 some true)) fun v1 =>
 sel v1 (
 some (([] : List Xay), false)) (
 bnd (Xkl p0) fun q4 =>
 bnd (
 sel q4.2 (
 sel ((q4.1.size : Int) == 0) (
 some true) (
 req (p2 ≠ 0) <|
 some (decide ((Xaa .i64 ((Xaa .i64 ((Xaa .i64 ((q4.1.size : Int) + p2)) - 1)).tdiv p2)) > 60)))) (
 some true)) fun v5 =>
 sel v5 (
 some (([] : List Xay), false)) (
 bnd (loop (Xdb p1 p2 q4) (0, ([] : List Xay))) fun v13 =>
 some (v13, true)))
def Xjp (p0 : Xaw) : Option ((List Xay) × Xaw) :=
 bnd (Xh8 p0) fun q1 =>
 bnd (
 bnd (Xb8 q1.2 2) fun q3 =>
 sel q3.1 (
 bnd (Xfr q3.2) fun q4 =>
 some (q4.2.2.b_, q4.2.2.i_, q4.2.2.h_, q4.2.1)) (
 some (q3.2.b_, q3.2.i_, q3.2.h_, q1.1))) fun v2 =>
 bnd (Xk8 (⟨v2.1, v2.2.1, v2.2.2.1⟩ : Xaw)) fun q5 =>
 bnd (Xck q5.2 ([2, 9, 40, 100, 400])) fun q6 =>
 bnd (Xf3 v2.2.2.2 q5.1 q6.1) fun q7 =>
 some (q7.1, q6.2)
def Xd0 (p0 : (List Int)) : Option (List Xay) :=
 bnd (Xkv p0) fun q1 =>
 bnd (Xjp q1) fun q2 =>
 bnd (
 sel (decide ((q2.1.length : Int) < 2)) (
 some true) (
 some (decide ((q2.1.length : Int) > 24)))) fun v3 =>
 sel v3 (
 some ([] : List Xay)) (
 some q2.1)
def Xbt (p0 : Int) : Option Bool :=
 bnd (Xeq p0 0 65535) fun q1 =>
 some q1
def Xke (p0 : Int) (p1 : Int) : Option Int :=
 bnd (
 bnd (Xbt p0) fun q2 =>
 sel q2 (
 bnd (Xbt p1) fun q3 =>
 some (!q3)) (
 some true)) fun v1 =>
 sel v1 (
 some 0) (
 req ((65536 : Int) ≠ 0) <|
 bnd (
 sel (decide (((Xaa .i64 ((Xaa .i64 (p1 - p0)) + 65536)).tmod 65536) ≥ 32768)) (
 some (Xaa .i64 (((Xaa .i64 ((Xaa .i64 (p1 - p0)) + 65536)).tmod 65536) - 65536))) (
 some ((Xaa .i64 ((Xaa .i64 (p1 - p0)) + 65536)).tmod 65536))) fun v4 =>
 some v4)
def Xds (p0 : Xay) : Option Bool :=
 bnd (
 bnd (Xbt p0.Seq) fun q2 =>
 sel q2 (
 bnd (Xeq (p0.Bytes.size : Int) 1 400) fun q3 =>
 some q3) (
 some false)) fun v1 =>
 some v1
def Xep (p0 : Int) (p1 : Int) : Option Int :=
 bnd (
 bnd (Xbt p0) fun q2 =>
 sel q2 (
 bnd (Xbt p1) fun q3 =>
 some (!q3)) (
 some true)) fun v1 =>
 sel v1 (
 some 0) (
 req ((65536 : Int) ≠ 0) <|
 some ((Xaa .i64 (p0 + p1)).tmod 65536))
def Xce (p0 : (List Xay)) (p1 : (List Xay)) (v2 : Int) : Option (Lp Int (Ou Unit Bool)) :=
 sel (decide (v2 < (p0.length : Int))) (
 req (0 ≤ v2 ∧ v2 < p0.length) <|
 req (0 ≤ v2 ∧ v2 < p1.length) <|
 sel (((((p0.getD v2.toNat Xa4).Seq) == ((p1.getD v2.toNat Xa4).Seq)) && ((((p0.getD v2.toNat Xa4).First) == ((p1.getD v2.toNat Xa4).First)) && ((((p0.getD v2.toNat Xa4).Last) == ((p1.getD v2.toNat Xa4).Last)) && (((p0.getD v2.toNat Xa4).Bytes).toList == ((p1.getD v2.toNat Xa4).Bytes).toList)))) == false) (
 some (.done (.ret false))) (
 some (.go (Xaa .i64 (v2 + 1))))) (
 some (.done (.out ())))
def Xdz (p0 : (List Xay)) (p1 : (List Xay)) : Option Bool :=
 sel ((p0.length : Int) != (p1.length : Int)) (
 some false) (
 bnd (loop (Xce p0 p1) 0) fun o5 => match o5 with
| .out v4 => (
 some true)
| .ret r => some r)
def Xcv (p0 : ByteArray) (v3 : (Int × (List Int))) : Option (Lp (Int × (List Int)) (List Int)) :=
 sel (decide ((Xaa .i64 (v3.1 + 3)) ≤ (p0.size : Int))) (
 bnd (
 req (0 ≤ v3.1 ∧ v3.1 ≤ (Xaa .i64 (v3.1 + 3)) ∧ (Xaa .i64 (v3.1 + 3)) ≤ (p0.size : Int)) <|
 sel ((p0.extract v3.1.toNat (Xaa .i64 (v3.1 + 3)).toNat).toList == (⟨#[0, 0, 1]⟩ : ByteArray).toList) (
 req ((v3.2.length + ([v3.1]).length) * 8 ≤ 140737488355328 ∧ v3.2.length + ([v3.1]).length ≤ maxLen) <|
 some (v3.2 ++ ([v3.1]))) (
 some v3.2)) fun v7 =>
 some (.go (Xaa .i64 (v3.1 + 1), v7))) (
 some (.done v3.2))
def Xkh (p0 : ByteArray) : Option (List Int) :=
 bnd (loop (Xcv p0) (0, ([] : List Int))) fun v6 =>
 some v6
def Xc2 (p0 : ByteArray) (v6 : (Int × Int × (List Int))) : Option (Lp (Int × Int × (List Int)) (List Int)) :=
 sel (decide (v6.2.1 < (p0.size : Int))) (
 bnd (
 bnd (
 bnd (
 req (0 ≤ v6.2.1 ∧ v6.2.1 < p0.size) <|
 sel (decide ((Xei p0 v6.2.1) < 4)) (
 some (decide (v6.1 ≥ 2))) (
 some false)) fun v14 =>
 sel v14 (
 req ((v6.2.2.length + ([3]).length) * 1 ≤ 140737488355328 ∧ v6.2.2.length + ([3]).length ≤ maxLen) <|
 some (0, (v6.2.2 ++ ([3])))) (
 some (v6.1, v6.2.2))) fun v13 =>
 req (0 ≤ v6.2.1 ∧ v6.2.1 < p0.size) <|
 req ((v13.2.length + ([(Xei p0 v6.2.1)]).length) * 1 ≤ 140737488355328 ∧ v13.2.length + ([(Xei p0 v6.2.1)]).length ≤ maxLen) <|
 req (0 ≤ v6.2.1 ∧ v6.2.1 < p0.size) <|
 sel ((Xei p0 v6.2.1) == 0) (
 some (Xaa .i64 (v13.1 + 1), (v13.2 ++ ([(Xei p0 v6.2.1)])))) (
 some (0, (v13.2 ++ ([(Xei p0 v6.2.1)]))))) fun v12 =>
 some (.go (v12.1, Xaa .i64 (v6.2.1 + 1), v12.2))) (
 some (.done v6.2.2))
def Xg5 (p0 : ByteArray) : Option (ByteArray × Bool) :=
 bnd (
 sel (p0.toList == (⟨#[]⟩ : ByteArray).toList) (
 some true) (
 sel (decide ((p0.size : Int) > 60000)) (
 some true) (
 req (0 ≤ (Xaa .i64 ((p0.size : Int) - 1)) ∧ (Xaa .i64 ((p0.size : Int) - 1)) < p0.size) <|
 some ((Xei p0 (Xaa .i64 ((p0.size : Int) - 1))) == 0)))) fun v1 =>
 sel v1 (
 some (⟨#[]⟩, false)) (
 req ((2 : Int) ≠ 0) <|
 req (0 ≤ (0 : Int) ∧ (0 : Int) ≤ (Xaa .i64 ((p0.size : Int) + (Xaa .i64 ((p0.size : Int).tdiv 2)))) ∧ (Xaa .i64 ((p0.size : Int) + (Xaa .i64 ((p0.size : Int).tdiv 2)))) * 1 ≤ 281474976710656) <|
 bnd (loop (Xc2 p0) (0, 0, (List.replicate (0 : Int).toNat (0 : Int)))) fun v11 =>
 some ((strOfNums v11), true))
def Xcb (p0 : ByteArray) (v5 : (Int × Int × (List Int))) : Option (Lp (Int × Int × (List Int)) (List Int)) :=
 sel (decide (v5.2.1 < (p0.size : Int))) (
 bnd (
 Yh4 (fun (v12 : Int) =>
 req (0 ≤ v5.2.1 ∧ v5.2.1 < p0.size) <|
 req ((v5.2.2.length + ([(Xei p0 v5.2.1)]).length) * 1 ≤ 140737488355328 ∧ v5.2.2.length + ([(Xei p0 v5.2.1)]).length ≤ maxLen) <|
 some (v12, (v5.2.2 ++ ([(Xei p0 v5.2.1)])))) fun j12 =>
 bnd (
 sel (decide (v5.1 ≥ 2)) (
 req (0 ≤ v5.2.1 ∧ v5.2.1 < p0.size) <|
 some ((Xei p0 v5.2.1) == 3)) (
 some false)) fun v13 =>
 sel v13 (
 some (0, v5.2.2)) (
 req (0 ≤ v5.2.1 ∧ v5.2.1 < p0.size) <|
 sel ((Xei p0 v5.2.1) == 0) (
 j12 (Xaa .i64 (v5.1 + 1))) (
 j12 0))) fun v11 =>
 some (.go (v11.1, Xaa .i64 (v5.2.1 + 1), v11.2))) (
 some (.done v5.2.2))
def Xfv (p0 : ByteArray) : Option (ByteArray × Bool) :=
 req (0 ≤ (0 : Int) ∧ (0 : Int) ≤ (p0.size : Int) ∧ (p0.size : Int) * 1 ≤ 281474976710656) <|
 bnd (loop (Xcb p0) (0, 0, (List.replicate (0 : Int).toNat (0 : Int)))) fun v10 =>
 bnd (Xg5 (strOfNums v10)) fun q15 =>
 bnd (
 sel q15.2 (
 some (!(q15.1.toList == p0.toList))) (
 some true)) fun v16 =>
 sel v16 (
 some (⟨#[]⟩, false)) (
 some ((strOfNums v10), true))
def Xd8 (p0 : (List ByteArray)) (v4 : (Int × (List Int))) : Option (Lp (Int × (List Int)) (Ou (List Int) (ByteArray × Bool))) :=
 sel (decide (v4.1 < (p0.length : Int))) (
 req (0 ≤ v4.1 ∧ v4.1 < p0.length) <|
 bnd (Xg5 (p0.getD v4.1.toNat Xou)) fun q9 =>
 bnd (
 sel q9.2 (
 some (decide ((Xaa .i64 ((Xaa .i64 ((v4.2.length : Int) + 3)) + (q9.1.size : Int))) > 60000))) (
 some true)) fun v10 =>
 sel v10 (
 some (.done (.ret (⟨#[]⟩, false)))) (
 req ((v4.2.length + ([0, 0, 1]).length) * 1 ≤ 140737488355328 ∧ v4.2.length + ([0, 0, 1]).length ≤ maxLen) <|
 req (((v4.2 ++ ([0, 0, 1])).length + (Xal q9.1).length) * 1 ≤ 140737488355328 ∧ (v4.2 ++ ([0, 0, 1])).length + (Xal q9.1).length ≤ maxLen) <|
 some (.go (Xaa .i64 (v4.1 + 1), ((v4.2 ++ ([0, 0, 1])) ++ (Xal q9.1)))))) (
 some (.done (.out v4.2)))
def Xgw (p0 : (List ByteArray)) : Option (ByteArray × Bool) :=
 sel (decide ((p0.length : Int) > 400)) (
 some (⟨#[]⟩, false)) (
 bnd (loop (Xd8 p0) (0, ([] : List Int))) fun o11 => match o11 with
| .out v8 => (
 some ((strOfNums v8), true))
| .ret r => some r)
def Xbg (p0 : ByteArray) (q1 : (List Int)) (v4 : (Int × (List ByteArray))) : Option (Lp (Int × (List ByteArray)) (Ou (List ByteArray) ((List ByteArray) × Bool))) :=
 sel (decide ((Xaa .i64 (v4.1 + 1)) < ((q1 ++ ([(p0.size : Int)])).length : Int))) (
 req (0 ≤ v4.1 ∧ v4.1 < (q1 ++ ([(p0.size : Int)])).length) <|
 req (v4.1.toNat < (q1 ++ ([(p0.size : Int)])).length) <|
 req (0 ≤ (Xaa .i64 (v4.1 + 1)) ∧ (Xaa .i64 (v4.1 + 1)) < (q1 ++ ([(p0.size : Int)])).length) <|
 req ((Xaa .i64 (v4.1 + 1)).toNat < (q1 ++ ([(p0.size : Int)])).length) <|
 req (0 ≤ (Xaa .i64 (((q1 ++ ([(p0.size : Int)])).getD v4.1.toNat 0) + 3)) ∧ (Xaa .i64 (((q1 ++ ([(p0.size : Int)])).getD v4.1.toNat 0) + 3)) ≤ ((q1 ++ ([(p0.size : Int)])).getD ((Xaa .i64 (v4.1 + 1)).toNat) 0) ∧ ((q1 ++ ([(p0.size : Int)])).getD ((Xaa .i64 (v4.1 + 1)).toNat) 0) ≤ (p0.size : Int)) <|
 bnd (Xfv (p0.extract (Xaa .i64 (((q1 ++ ([(p0.size : Int)])).getD v4.1.toNat 0) + 3)).toNat ((q1 ++ ([(p0.size : Int)])).getD ((Xaa .i64 (v4.1 + 1)).toNat) 0).toNat)) fun q8 =>
 sel (!q8.2) (
 some (.done (.ret (([] : List ByteArray), false)))) (
 req ((v4.2.length + ([q8.1]).length) * 16 ≤ 140737488355328 ∧ v4.2.length + ([q8.1]).length ≤ maxLen) <|
 some (.go (Xaa .i64 (v4.1 + 1), (v4.2 ++ ([q8.1])))))) (
 some (.done (.out v4.2)))
def Xho (p0 : ByteArray) : Option ((List ByteArray) × Bool) :=
 sel (decide ((p0.size : Int) > 60000)) (
 some (([] : List ByteArray), false)) (
 bnd (Xkh p0) fun q1 =>
 req ((q1.length + ([(p0.size : Int)]).length) * 8 ≤ 140737488355328 ∧ q1.length + ([(p0.size : Int)]).length ≤ maxLen) <|
 bnd (loop (Xbg p0 q1) (0, ([] : List ByteArray))) fun o9 => match o9 with
| .out v7 => (
 bnd (Xgw v7) fun q10 =>
 bnd (
 sel q10.2 (
 some (!(q10.1.toList == p0.toList))) (
 some true)) fun v11 =>
 sel v11 (
 some (([] : List ByteArray), false)) (
 some (v7, true)))
| .ret r => some r)
def Xca (p0 : (List Xay)) (v6 : (ByteArray × Int)) : Option (Lp (ByteArray × Int) (Ou ByteArray ((List ByteArray) × Bool))) :=
 sel (decide (v6.2 < (p0.length : Int))) (
 req (0 ≤ v6.2 ∧ v6.2 < p0.length) <|
 bnd (
 bnd (Xds (⟨(p0.getD v6.2.toNat Xa4).Seq, (p0.getD v6.2.toNat Xa4).First, (p0.getD v6.2.toNat Xa4).Last, (p0.getD v6.2.toNat Xa4).Bytes⟩ : Xay)) fun q13 =>
 sel q13 (
 sel (((p0.getD v6.2.toNat Xa4).First) == (v6.2 == 0)) (
 sel (((p0.getD v6.2.toNat Xa4).Last) == (v6.2 == (Xaa .i64 ((p0.length : Int) - 1)))) (
 sel (decide (v6.2 > 0)) (
 req (0 ≤ (Xaa .i64 (v6.2 - 1)) ∧ (Xaa .i64 (v6.2 - 1)) < p0.length) <|
 bnd (Xep ((p0.getD (Xaa .i64 (v6.2 - 1)).toNat Xa4).Seq) 1) fun q14 =>
 some (((p0.getD v6.2.toNat Xa4).Seq) != q14)) (
 some false)) (
 some true)) (
 some true)) (
 some true)) fun v12 =>
 sel v12 (
 some (.done (.ret (([] : List ByteArray), false)))) (
 req (v6.1.size + ((p0.getD v6.2.toNat Xa4).Bytes).size ≤ 9223372036854775807) <|
 some (.go ((v6.1 ++ ((p0.getD v6.2.toNat Xa4).Bytes)), Xaa .i64 (v6.2 + 1))))) (
 some (.done (.out v6.1)))
def Xb6 (p0 : (List Xay)) : Option ((List ByteArray) × Bool) :=
 bnd (Xeq (p0.length : Int) 1 60) fun q1 =>
 sel (!q1) (
 some (([] : List ByteArray), false)) (
 bnd (loop (Xca p0) (⟨#[]⟩, 0)) fun o15 => match o15 with
| .out v11 => (
 bnd (Xho v11) fun q16 =>
 bnd (
 sel q16.2 (
 some ((q16.1.length : Int) == 0)) (
 some true)) fun v17 =>
 sel v17 (
 some (([] : List ByteArray), false)) (
 some (q16.1, true)))
| .ret r => some r)
def Xc3 (p1 : Int) (p2 : Int) (q1 : (ByteArray × Bool)) (v7 : (Int × (List Xay))) : Option (Lp (Int × (List Xay)) (List Xay)) :=
 sel (decide (v7.1 < (q1.1.size : Int))) (
 bnd (Xep p1 (v7.2.length : Int)) fun q11 =>
 req (0 ≤ v7.1 ∧ v7.1 ≤ (if (q1.1.size : Int) < (Xaa .i64 (v7.1 + p2)) then (q1.1.size : Int) else (Xaa .i64 (v7.1 + p2))) ∧ (if (q1.1.size : Int) < (Xaa .i64 (v7.1 + p2)) then (q1.1.size : Int) else (Xaa .i64 (v7.1 + p2))) ≤ (q1.1.size : Int)) <|
 req ((v7.2.length + ([(⟨q11, (v7.1 == 0), ((if (q1.1.size : Int) < (Xaa .i64 (v7.1 + p2)) then (q1.1.size : Int) else (Xaa .i64 (v7.1 + p2))) == (q1.1.size : Int)), (q1.1.extract v7.1.toNat (if (q1.1.size : Int) < (Xaa .i64 (v7.1 + p2)) then (q1.1.size : Int) else (Xaa .i64 (v7.1 + p2))).toNat)⟩ : Xay)]).length) * 32 ≤ 140737488355328 ∧ v7.2.length + ([(⟨q11, (v7.1 == 0), ((if (q1.1.size : Int) < (Xaa .i64 (v7.1 + p2)) then (q1.1.size : Int) else (Xaa .i64 (v7.1 + p2))) == (q1.1.size : Int)), (q1.1.extract v7.1.toNat (if (q1.1.size : Int) < (Xaa .i64 (v7.1 + p2)) then (q1.1.size : Int) else (Xaa .i64 (v7.1 + p2))).toNat)⟩ : Xay)]).length ≤ maxLen) <|
 some (.go (Xaa .i64 (v7.1 + p2), (v7.2 ++ ([(⟨q11, (v7.1 == 0), ((if (q1.1.size : Int) < (Xaa .i64 (v7.1 + p2)) then (q1.1.size : Int) else (Xaa .i64 (v7.1 + p2))) == (q1.1.size : Int)), (q1.1.extract v7.1.toNat (if (q1.1.size : Int) < (Xaa .i64 (v7.1 + p2)) then (q1.1.size : Int) else (Xaa .i64 (v7.1 + p2))).toNat)⟩ : Xay)]))))) (
 some (.done v7.2))
def Xd9 (p0 : (List ByteArray)) (p1 : Int) (p2 : Int) : Option ((List Xay) × Bool) :=
 bnd (Xgw p0) fun q1 =>
 bnd (
 sel q1.2 (
 sel (q1.1.toList == (⟨#[]⟩ : ByteArray).toList) (
 some true) (
 bnd (Xbt p1) fun q3 =>
 sel q3 (
 bnd (Xeq p2 1 400) fun q4 =>
 sel q4 (
 req (p2 ≠ 0) <|
 some (decide ((Xaa .i64 ((Xaa .i64 ((Xaa .i64 ((q1.1.size : Int) + p2)) - 1)).tdiv p2)) > 60))) (
 some true)) (
 some true))) (
 some true)) fun v2 =>
 sel v2 (
 some (([] : List Xay), false)) (
 bnd (loop (Xc3 p1 p2 q1) (0, ([] : List Xay))) fun v10 =>
 some (v10, true))
def Xen (p0 : Xay) : Option (ByteArray × Bool) :=
 bnd (Xds p0) fun q1 =>
 sel (!q1) (
 some (⟨#[]⟩, false)) (
 bnd (
 sel p0.First (
 some (IntKind.wrap .u8 (BitVec.ofInt (IntKind.bits .u8) 0 ||| BitVec.ofInt (IntKind.bits .u8) 1).toNat)) (
 some 0)) fun v2 =>
 bnd (
 sel p0.Last (
 some (IntKind.wrap .u8 (BitVec.ofInt (IntKind.bits .u8) v2 ||| BitVec.ofInt (IntKind.bits .u8) 2).toNat)) (
 some v2)) fun v3 =>
 req (0 ≤ (8 : Int)) <|
 req ((strOfNums ([Xaa .u8 ((p0.Seq / 2 ^ min (8 : Int).toNat (IntKind.bits .i64))), Xaa .u8 (p0.Seq), v3])).size + p0.Bytes.size ≤ 9223372036854775807) <|
 some (((strOfNums ([Xaa .u8 ((p0.Seq / 2 ^ min (8 : Int).toNat (IntKind.bits .i64))), Xaa .u8 (p0.Seq), v3])) ++ p0.Bytes), true))
def Xeo (p0 : ByteArray) : Option (Xay × Bool) :=
 bnd (
 sel (decide ((p0.size : Int) < 4)) (
 some true) (
 req (0 ≤ (2 : Int) ∧ (2 : Int) < p0.size) <|
 some (decide ((Xei p0 (2 : Int)) > 3)))) fun v1 =>
 sel v1 (
 some ((⟨0, false, false, ⟨#[]⟩⟩ : Xay), false)) (
 req (0 ≤ (0 : Int) ∧ (0 : Int) < p0.size) <|
 req (0 ≤ (8 : Int)) <|
 req (0 ≤ (1 : Int) ∧ (1 : Int) < p0.size) <|
 req (0 ≤ (2 : Int) ∧ (2 : Int) < p0.size) <|
 req (0 ≤ (2 : Int) ∧ (2 : Int) < p0.size) <|
 req (0 ≤ (3 : Int) ∧ (3 : Int) ≤ (p0.size : Int) ∧ (p0.size : Int) ≤ (p0.size : Int)) <|
 bnd (Xds (⟨(IntKind.wrap .i64 (BitVec.ofInt (IntKind.bits .i64) (Xaa .i64 ((Xaa .i64 ((Xei p0 (0 : Int)))) * 2 ^ min (8 : Int).toNat (IntKind.bits .i64))) ||| BitVec.ofInt (IntKind.bits .i64) (Xaa .i64 ((Xei p0 (1 : Int))))).toNat), ((IntKind.wrap .u8 (BitVec.ofInt (IntKind.bits .u8) (Xei p0 (2 : Int)) &&& BitVec.ofInt (IntKind.bits .u8) 1).toNat) == 1), ((IntKind.wrap .u8 (BitVec.ofInt (IntKind.bits .u8) (Xei p0 (2 : Int)) &&& BitVec.ofInt (IntKind.bits .u8) 2).toNat) == 2), (p0.extract (3 : Int).toNat (p0.size : Int).toNat)⟩ : Xay)) fun q2 =>
 sel (!q2) (
 some ((⟨0, false, false, ⟨#[]⟩⟩ : Xay), false)) (
 some ((⟨(IntKind.wrap .i64 (BitVec.ofInt (IntKind.bits .i64) (Xaa .i64 ((Xaa .i64 ((Xei p0 (0 : Int)))) * 2 ^ min (8 : Int).toNat (IntKind.bits .i64))) ||| BitVec.ofInt (IntKind.bits .i64) (Xaa .i64 ((Xei p0 (1 : Int))))).toNat), ((IntKind.wrap .u8 (BitVec.ofInt (IntKind.bits .u8) (Xei p0 (2 : Int)) &&& BitVec.ofInt (IntKind.bits .u8) 1).toNat) == 1), ((IntKind.wrap .u8 (BitVec.ofInt (IntKind.bits .u8) (Xei p0 (2 : Int)) &&& BitVec.ofInt (IntKind.bits .u8) 2).toNat) == 2), (p0.extract (3 : Int).toNat (p0.size : Int).toNat)⟩ : Xay), true)))
def Xc4 (q2 : (List Xay)) (v13 : Int) : Option (Lp Int (Ou Unit Bool)) :=
 sel (decide (v13 < (q2.length : Int))) (
 req (0 ≤ v13 ∧ v13 < q2.length) <|
 req (v13.toNat < q2.length) <|
 bnd (Xen (⟨(q2.getD v13.toNat Xa4).Seq, (q2.getD v13.toNat Xa4).First, (q2.getD v13.toNat Xa4).Last, (q2.getD v13.toNat Xa4).Bytes⟩ : Xay)) fun q21 =>
 bnd (Xeo q21.1) fun q22 =>
 bnd (
 sel q21.2 (
 sel q22.2 (
 req (0 ≤ v13 ∧ v13 < q2.length) <|
 req (v13.toNat < q2.length) <|
 sel (((q22.1.Seq == ((q2.getD v13.toNat Xa4).Seq)) && ((q22.1.First == ((q2.getD v13.toNat Xa4).First)) && ((q22.1.Last == ((q2.getD v13.toNat Xa4).Last)) && (q22.1.Bytes.toList == ((q2.getD v13.toNat Xa4).Bytes).toList)))) == false) (
 some true) (
 req (0 ≤ v13 ∧ v13 < q2.length) <|
 req (v13.toNat < q2.length) <|
 req (0 ≤ (0 : Int) ∧ (0 : Int) < q2.length) <|
 req ((0 : Int).toNat < q2.length) <|
 bnd (Xep ((q2.getD ((0 : Int).toNat) Xa4).Seq) v13) fun q24 =>
 sel (((q2.getD v13.toNat Xa4).Seq) != q24) (
 some true) (
 req (0 ≤ (0 : Int) ∧ (0 : Int) < q2.length) <|
 req ((0 : Int).toNat < q2.length) <|
 req (0 ≤ v13 ∧ v13 < q2.length) <|
 req (v13.toNat < q2.length) <|
 bnd (Xke ((q2.getD ((0 : Int).toNat) Xa4).Seq) ((q2.getD v13.toNat Xa4).Seq)) fun q25 =>
 some (q25 != v13)))) (
 some true)) (
 some true)) fun v23 =>
 sel v23 (
 some (.done (.ret false))) (
 some (.go (Xaa .i64 (v13 + 1))))) (
 some (.done (.out ())))
def Xi5 (p0 : (List Int)) : Option Bool :=
 bnd (Xx6 p0) fun q1 =>
 sel q1 (
 some true) (
 bnd (Xd0 p0) fun q2 =>
 sel ((q2.length : Int) == 0) (
 some true) (
 req ((([] : List Xay).length + q2.length) * 32 ≤ 140737488355328 ∧ ([] : List Xay).length + q2.length ≤ maxLen) <|
 bnd (Xb6 (([] : List Xay) ++ q2)) fun q3 =>
 req ((([] : List ByteArray).length + q3.1.length) * 16 ≤ 140737488355328 ∧ ([] : List ByteArray).length + q3.1.length ≤ maxLen) <|
 req (0 ≤ (0 : Int) ∧ (0 : Int) < q2.length) <|
 req ((0 : Int).toNat < q2.length) <|
 req (0 ≤ (0 : Int) ∧ (0 : Int) < q2.length) <|
 req ((0 : Int).toNat < q2.length) <|
 bnd (Xd9 (([] : List ByteArray) ++ q3.1) ((q2.getD ((0 : Int).toNat) Xa4).Seq) (((q2.getD ((0 : Int).toNat) Xa4).Bytes).size : Int)) fun q4 =>
 bnd (
 sel q3.2 (
 sel q4.2 (
 bnd (Xdz q4.1 q2) fun q6 =>
 some (!q6)) (
 some true)) (
 some true)) fun v5 =>
 sel v5 (
 some false) (
 bnd (loop (Xc4 q2) 0) fun o26 => match o26 with
| .out v20 => (
 req (0 ≤ (1 : Int) ∧ (1 : Int) ≤ (q2.length : Int) ∧ (q2.length : Int) ≤ (q2.length : Int)) <|
 req (((1 : Int).toNat + ((q2.length : Int).toNat - (1 : Int).toNat) ≤ q2.length) ∧ (([] : List Xay).length + ((q2.drop ((1 : Int).toNat)).take ((q2.length : Int).toNat - (1 : Int).toNat)).length) * 32 ≤ 140737488355328 ∧ ([] : List Xay).length + ((q2.drop ((1 : Int).toNat)).take ((q2.length : Int).toNat - (1 : Int).toNat)).length ≤ maxLen) <|
 bnd (Xb6 (([] : List Xay) ++ ((q2.drop ((1 : Int).toNat)).take ((q2.length : Int).toNat - (1 : Int).toNat)))) fun q27 =>
 some (!q27.2))
| .ret r => some r)))
end
end Go.Proofs.YtlebkepfhdjnmadGreat.A
