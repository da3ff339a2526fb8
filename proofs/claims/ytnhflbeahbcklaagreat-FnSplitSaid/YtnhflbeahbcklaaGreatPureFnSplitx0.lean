/- The pure statement of the law FnSplit, part 1: over numbers, texts and lists alone, what the law computes is true. Conditions: the sizes of what a machine holds. -/
import Derived.Test.YtnhflbeahbcklaaGreatDFnSplit
namespace Go.Proofs.YtnhflbeahbcklaaGreat.A.Pure
open Go Go.Proofs Go.Proofs.YtnhflbeahbcklaaGreatAL Go.RowKit
set_option linter.unusedVariables false
set_option linter.unusedSimpArgs false
set_option maxHeartbeats 1000000
noncomputable section
def Xhx (p0 : Pic) : Option Bool :=
 bnd (
 sel (p0.Wide == 0) (
 sel (p0.High == 0) (
 some ((p0.Dots.size : Int) == 0)) (
 some false)) (
 some false)) fun v1 =>
 some v1
def Xly (p0 : Seq) : Option (Int × Int) :=
 bnd (Xgx p0) fun q1 =>
 sel (!q1) (
 some (0, 0)) (
 bnd (Xht p0.Cols) fun q2 =>
 bnd (Xht p0.Rows) fun q3 =>
 some (Xaa .i64 (8 * q2), Xaa .i64 (8 * q3)))
def Xjz (p0 : Pic) : Option Bool :=
 bnd (
 bnd (Xaq p0.Wide 1 256) fun q2 =>
 sel q2 (
 bnd (Xaq p0.High 1 256) fun q3 =>
 sel q3 (
 some ((p0.Dots.size : Int) == (Xaa .i64 (p0.Wide * p0.High)))) (
 some false)) (
 some false)) fun v1 =>
 some v1
def Xnw (p0 : Pic) (p1 : Seq) : Option Bool :=
 bnd (Xly p1) fun q1 =>
 bnd (
 bnd (Xjz p0) fun q3 =>
 sel q3 (
 sel (p0.Wide == q1.1) (
 some (p0.High == q1.2)) (
 some false)) (
 some false)) fun v2 =>
 some v2
def Xzh (p0 : Xam) : Option Bool :=
 sel (!p0.HasSeq) (
 bnd (
 sel p0.HasPar (
 some false) (
 sel p0.HasRef (
 some false) (
 sel (p0.Seq.Level == 0) (
 sel (p0.Seq.Bits == 0) (
 sel ((p0.Seq.Cols.length : Int) == 0) (
 sel ((p0.Seq.Rows.length : Int) == 0) (
 sel (((p0.Par.Qp == 0) && ((p0.Par.Large == false) && ((p0.Par.Exact == false) && (p0.Par.Confined == false)))) == true) (
 sel (p0.Frame == (-1)) (
 sel (p0.Got == 0) (
 bnd (Xhx p0.Now) fun q2 =>
 sel q2 (
 bnd (Xhx p0.Ref) fun q3 =>
 some q3) (
 some false)) (
 some false)) (
 some false)) (
 some false)) (
 some false)) (
 some false)) (
 some false)) (
 some false)))) fun v1 =>
 some v1) (
 bnd (
 bnd (Xgx p0.Seq) fun q5 =>
 sel q5 (
 sel p0.HasPar (
 bnd (Xjy p0.Par) fun q6 =>
 sel q6 (
 some false) (
 some true)) (
 some (((p0.Par.Qp == 0) && ((p0.Par.Large == false) && ((p0.Par.Exact == false) && (p0.Par.Confined == false)))) == false))) (
 some true)) fun v4 =>
 sel v4 (
 some false) (
 bnd (
 sel (decide (p0.Frame < (-1))) (
 some true) (
 req (0 ≤ (Xaa .u64 (p0.Seq.Bits))) <|
 sel (decide (p0.Frame ≥ (Xaa .i64 (1 * 2 ^ min (Xaa .u64 (p0.Seq.Bits)).toNat (IntKind.bits .i64))))) (
 some true) (
 sel (decide (p0.Got < 0)) (
 some true) (
 bnd (Xd3 p0.Seq) fun q8 =>
 sel (decide (p0.Got ≥ q8)) (
 some true) (
 sel p0.HasPar (
 some false) (
 sel (decide (p0.Got > 0)) (
 some true) (
 some p0.HasRef))))))) fun v7 =>
 sel v7 (
 some false) (
 bnd (
 sel (decide (p0.Got > 0)) (
 sel (p0.Frame == (-1)) (
 some true) (
 bnd (Xnw p0.Now p0.Seq) fun q10 =>
 sel q10 (
 sel (p0.Got == 0) (
 bnd (Xhx p0.Now) fun q11 =>
 some (!q11)) (
 some false)) (
 some true))) (
 sel (p0.Got == 0) (
 bnd (Xhx p0.Now) fun q12 =>
 some (!q12)) (
 some false))) fun v9 =>
 sel v9 (
 some false) (
 bnd (
 sel p0.HasRef (
 bnd (Xnw p0.Ref p0.Seq) fun q14 =>
 sel q14 (
 some true) (
 some false)) (
 bnd (Xhx p0.Ref) fun q15 =>
 some q15)) fun v13 =>
 some v13))))
def Xgl (p0 : ByteArray) (v4 : (Int × (List Int))) : Option (Lp (Int × (List Int)) (List Int)) :=
 sel (decide (v4.1 < (p0.size : Int))) (
 req (0 ≤ v4.1 ∧ v4.1 < p0.size) <|
 bnd (Xhr (Xaa .i64 ((Xlf p0 v4.1))) 8) fun q8 =>
 req ((v4.2.length + (Xbu q8).length) * 1 ≤ 140737488355328 ∧ v4.2.length + (Xbu q8).length ≤ maxLen) <|
 some (.go (Xaa .i64 (v4.1 + 1), (v4.2 ++ (Xbu q8))))) (
 some (.done v4.2))
def Xgm (v7 : (List Int)) (v12 : Int) : Option (Lp Int Int) :=
 bnd (
 sel (decide (v12 > 0)) (
 req (0 ≤ (Xaa .i64 (v12 - 1)) ∧ (Xaa .i64 (v12 - 1)) < v7.length) <|
 req ((Xaa .i64 (v12 - 1)).toNat < v7.length) <|
 some ((v7.getD ((Xaa .i64 (v12 - 1)).toNat) 0) == 48)) (
 some false)) fun v16 =>
 sel v16 (
 some (.go (Xaa .i64 (v12 - 1)))) (
 some (.done v12))
def Xns (p0 : ByteArray) : Option (ByteArray × Bool) :=
 bnd (
 sel ((p0.size : Int) == 0) (
 some true) (
 sel (decide ((p0.size : Int) > 50001)) (
 some true) (
 req (0 ≤ (Xaa .i64 ((p0.size : Int) - 1)) ∧ (Xaa .i64 ((p0.size : Int) - 1)) < p0.size) <|
 some ((Xlf p0 (Xaa .i64 ((p0.size : Int) - 1))) == 0)))) fun v1 =>
 sel v1 (
 some (⟨#[]⟩, false)) (
 bnd (loop (Xgl p0) (0, ([] : List Int))) fun v7 =>
 bnd (loop (Xgm v7) (v7.length : Int)) fun v15 =>
 sel (decide ((Xaa .i64 (v15 - 1)) > 400000)) (
 some (⟨#[]⟩, false)) (
 req (0 ≤ (0 : Int) ∧ (0 : Int) ≤ (Xaa .i64 (v15 - 1)) ∧ (Xaa .i64 (v15 - 1)) ≤ (v7.length : Int)) <|
 req ((0 : Int).toNat + ((Xaa .i64 (v15 - 1)).toNat - (0 : Int).toNat) ≤ v7.length) <|
 some ((strOfNums ((v7.drop ((0 : Int).toNat)).take ((Xaa .i64 (v15 - 1)).toNat - (0 : Int).toNat))), true)))
def Xok (p0 : ByteArray) : Option (Int × ByteArray × Bool) :=
 bnd (
 sel (decide ((p0.size : Int) < 1)) (
 some true) (
 req (0 ≤ (0 : Int) ∧ (0 : Int) < p0.size) <|
 bnd (Xj4 (Xaa .i64 ((Xlf p0 (0 : Int))))) fun q2 =>
 some (!q2))) fun v1 =>
 sel v1 (
 some (0, ⟨#[]⟩, false)) (
 req (0 ≤ (1 : Int) ∧ (1 : Int) ≤ (p0.size : Int) ∧ (p0.size : Int) ≤ (p0.size : Int)) <|
 bnd (Xns (p0.extract (1 : Int).toNat (p0.size : Int).toNat)) fun q3 =>
 sel (!q3.2) (
 some (0, ⟨#[]⟩, false)) (
 req (0 ≤ (0 : Int) ∧ (0 : Int) < p0.size) <|
 some (Xaa .i64 ((Xlf p0 (0 : Int))), q3.1, true)))
def Xk5 (p0 : ByteArray) (p1 : Int) (p2 : Int) (v2 : (Int × Int)) : Option (Lp (Int × Int) Int) :=
 sel (decide (v2.2 < (Xaa .i64 (p1 + p2)))) (
 req (0 ≤ v2.2 ∧ v2.2 < p0.size) <|
 some (.go (Xaa .i64 ((Xaa .i64 ((Xaa .i64 (2 * v2.1)) + (Xaa .i64 ((Xlf p0 v2.2))))) - 48), Xaa .i64 (v2.2 + 1)))) (
 some (.done v2.1))
def Xcx (p0 : ByteArray) (p1 : Int) (p2 : Int) : Option (Int × Int × Bool) :=
 sel (decide (p2 > (Xaa .i64 ((p0.size : Int) - p1)))) (
 some (0, 0, false)) (
 bnd (loop (Xk5 p0 p1 p2) (0, p1)) fun v4 =>
 some (v4, Xaa .i64 (p1 + p2), true))
def Xfr (p0 : ByteArray) (p1 : Int) (v3 : Int) : Option (Lp Int Int) :=
 bnd (
 sel (decide ((Xaa .i64 (p1 + v3)) < (p0.size : Int))) (
 req (0 ≤ (Xaa .i64 (p1 + v3)) ∧ (Xaa .i64 (p1 + v3)) < p0.size) <|
 sel ((Xlf p0 (Xaa .i64 (p1 + v3))) == 48) (
 some (decide (v3 < 21))) (
 some false)) (
 some false)) fun v7 =>
 sel v7 (
 some (.go (Xaa .i64 (v3 + 1)))) (
 some (.done v3))
def Xbn (p0 : ByteArray) (p1 : Int) : Option (Int × Int × Bool) :=
 bnd (loop (Xfr p0 p1) 0) fun v6 =>
 bnd (Xcx p0 (Xaa .i64 (p1 + v6)) (Xaa .i64 (v6 + 1))) fun q9 =>
 bnd (
 sel q9.2.2 (
 req (0 ≤ (Xaa .u64 (v6))) <|
 sel (decide (q9.1 < (Xaa .i64 (1 * 2 ^ min (Xaa .u64 (v6)).toNat (IntKind.bits .i64))))) (
 some true) (
 some (decide ((Xaa .i64 (q9.1 - 1)) > 1000000)))) (
 some true)) fun v10 =>
 sel v10 (
 some (0, 0, false)) (
 some (Xaa .i64 (q9.1 - 1), q9.2.1, true))
def Xb0 (p0 : ByteArray) (q1 : (Int × Int × Bool)) (v5 : (Int × Int × (List Int))) : Option (Lp (Int × Int × (List Int)) (Ou (Int × (List Int)) ((List Int) × Int × Bool))) :=
 sel (decide (v5.2.1 < q1.1)) (
 bnd (Xbn p0 v5.1) fun q9 =>
 sel (!q9.2.2) (
 some (.done (.ret (([] : List Int), 0, false)))) (
 req ((v5.2.2.length + ([q9.1]).length) * 8 ≤ 140737488355328 ∧ v5.2.2.length + ([q9.1]).length ≤ maxLen) <|
 some (.go (q9.2.1, Xaa .i64 (v5.2.1 + 1), (v5.2.2 ++ ([q9.1])))))) (
 some (.done (.out (v5.1, v5.2.2))))
def Xgo (p0 : ByteArray) (p1 : Int) : Option ((List Int) × Int × Bool) :=
 bnd (Xbn p0 p1) fun q1 =>
 bnd (
 sel q1.2.2 (
 some (decide (q1.1 > 4))) (
 some true)) fun v2 =>
 sel v2 (
 some (([] : List Int), 0, false)) (
 bnd (loop (Xb0 p0 q1) (q1.2.1, 0, ([] : List Int))) fun o10 => match o10 with
| .out v8 => (
 some (v8.2, v8.1, true))
| .ret r => some r)
def Xft (p0 : ByteArray) (p1 : Int) : Option (Seq × Int × Bool) :=
 bnd (Xbn p0 p1) fun q1 =>
 sel (!q1.2.2) (
 some ((⟨0, 0, [], []⟩ : Seq), 0, false)) (
 bnd (Xcx p0 q1.2.1 4) fun q2 =>
 sel (!q2.2.2) (
 some ((⟨0, 0, [], []⟩ : Seq), 0, false)) (
 bnd (Xgo p0 q2.2.1) fun q3 =>
 sel (!q3.2.2) (
 some ((⟨0, 0, [], []⟩ : Seq), 0, false)) (
 bnd (Xgo p0 q3.2.1) fun q4 =>
 bnd (
 sel q4.2.2 (
 bnd (Xgx (⟨q1.1, q2.1, q3.1, q4.1⟩ : Seq)) fun q6 =>
 some (!q6)) (
 some true)) fun v5 =>
 sel v5 (
 some ((⟨0, 0, [], []⟩ : Seq), 0, false)) (
 some ((⟨q1.1, q2.1, q3.1, q4.1⟩ : Seq), q4.2.1, true)))))
def Xfs (p0 : ByteArray) (p1 : Int) : Option (Par × Int × Bool) :=
 bnd (Xcx p0 p1 6) fun q1 =>
 bnd (
 sel q1.2.2 (
 some (decide ((Xaa .i64 ((p0.size : Int) - q1.2.1)) < 3))) (
 some true)) fun v2 =>
 sel v2 (
 some ((⟨0, false, false, false⟩ : Par), 0, false)) (
 req (0 ≤ q1.2.1 ∧ q1.2.1 < p0.size) <|
 req (0 ≤ (Xaa .i64 (q1.2.1 + 1)) ∧ (Xaa .i64 (q1.2.1 + 1)) < p0.size) <|
 req (0 ≤ (Xaa .i64 (q1.2.1 + 2)) ∧ (Xaa .i64 (q1.2.1 + 2)) < p0.size) <|
 bnd (Xjy (⟨q1.1, ((Xlf p0 q1.2.1) == 49), ((Xlf p0 (Xaa .i64 (q1.2.1 + 1))) == 49), ((Xlf p0 (Xaa .i64 (q1.2.1 + 2))) == 49)⟩ : Par)) fun q3 =>
 sel (!q3) (
 some ((⟨0, false, false, false⟩ : Par), 0, false)) (
 some ((⟨q1.1, ((Xlf p0 q1.2.1) == 49), ((Xlf p0 (Xaa .i64 (q1.2.1 + 1))) == 49), ((Xlf p0 (Xaa .i64 (q1.2.1 + 2))) == 49)⟩ : Par), Xaa .i64 (q1.2.1 + 3), true)))
def Xv1 (p0 : Int) : Option (Int × Bool) :=
 bnd (Xaq p0 0 1000000) fun q1 =>
 sel (!q1) (
 some (0, false)) (
 req ((2 : Int) ≠ 0) <|
 sel ((p0.tmod 2) == 1) (
 req ((2 : Int) ≠ 0) <|
 some (Xaa .i64 ((Xaa .i64 (p0 + 1)).tdiv 2), true)) (
 req ((2 : Int) ≠ 0) <|
 some (Xaa .i64 (0 - (Xaa .i64 (p0.tdiv 2))), true)))
def Xco (p0 : ByteArray) (p1 : Int) : Option (Int × Int × Bool) :=
 bnd (Xbn p0 p1) fun q1 =>
 sel (!q1.2.2) (
 some (0, 0, false)) (
 bnd (Xv1 q1.1) fun q2 =>
 some (q2.1, q1.2.1, true))
def Xib (p0 : Seq) (p1 : Par) (p2 : ByteArray) : Option (Xow × Int × Bool) :=
 bnd (
 bnd (Xgw p2) fun q2 =>
 sel q2 (
 bnd (Xgx p0) fun q3 =>
 sel q3 (
 bnd (Xjy p1) fun q4 =>
 some (!q4)) (
 some true)) (
 some true)) fun v1 =>
 sel v1 (
 some ((⟨0, 0, 0⟩ : Xow), 0, false)) (
 bnd (Xbn p2 0) fun q5 =>
 sel (!q5.2.2) (
 some ((⟨0, 0, 0⟩ : Xow), 0, false)) (
 bnd (Xcx p2 q5.2.1 p0.Bits) fun q6 =>
 sel (!q6.2.2) (
 some ((⟨0, 0, 0⟩ : Xow), 0, false)) (
 bnd (Xco p2 q6.2.1) fun q7 =>
 bnd (
 sel q7.2.2 (
 bnd (Xlv p0 p1 (⟨q5.1, q6.1, Xaa .i64 (p1.Qp + q7.1)⟩ : Xow)) fun q9 =>
 some (!q9)) (
 some true)) fun v8 =>
 sel v8 (
 some ((⟨0, 0, 0⟩ : Xow), 0, false)) (
 some ((⟨q5.1, q6.1, Xaa .i64 (p1.Qp + q7.1)⟩ : Xow), q7.2.1, true)))))
def Xlu (p0 : Xfc) : Option Bool :=
 bnd (
 bnd (Xaq p0.Qp 0 40) fun q2 =>
 sel q2 (
 sel p0.Large (
 some (!p0.Exact)) (
 some true)) (
 some false)) fun v1 =>
 some v1
def Xcv (p0 : ByteArray) (p2 : Int) (q1 : (Int × Int × Bool)) (v9 : (Int × Int × Int × (List Int))) : Option (Lp (Int × Int × Int × (List Int)) (Ou (Int × (List Int)) ((List Int) × Int × Bool))) :=
 sel (decide (v9.2.2.1 < q1.1)) (
 bnd (Xbn p0 v9.1) fun q17 =>
 bnd (
 sel q17.2.2 (
 some (decide (q17.1 > (Xaa .i64 ((Xaa .i64 (p2 - 1)) - v9.2.1))))) (
 some true)) fun v18 =>
 sel v18 (
 some (.done (.ret (([] : List Int), 0, false)))) (
 bnd (Xco p0 q17.2.1) fun q19 =>
 bnd (
 sel q19.2.2 (
 sel (q19.1 == 0) (
 some true) (
 bnd (Xaq q19.1 (-5000) 5000) fun q21 =>
 some (!q21))) (
 some true)) fun v20 =>
 sel v20 (
 some (.done (.ret (([] : List Int), 0, false)))) (
 req (0 ≤ (Xaa .i64 (v9.2.1 + q17.1)) ∧ (Xaa .i64 (v9.2.1 + q17.1)) < v9.2.2.2.length) <|
 req ((Xaa .i64 (v9.2.1 + q17.1)).toNat < v9.2.2.2.length) <|
 some (.go (q19.2.1, Xaa .i64 ((Xaa .i64 (v9.2.1 + q17.1)) + 1), Xaa .i64 (v9.2.2.1 + 1), (v9.2.2.2.set ((Xaa .i64 (v9.2.1 + q17.1)).toNat) q19.1)))))) (
 some (.done (.out (v9.1, v9.2.2.2))))
def Xm6 (p0 : ByteArray) (p1 : Int) (p2 : Int) : Option ((List Int) × Int × Bool) :=
 req (0 ≤ p2 ∧ p2 ≤ p2 ∧ p2 * 8 ≤ 281474976710656) <|
 bnd (Xbn p0 p1) fun q1 =>
 bnd (
 sel q1.2.2 (
 some (decide (q1.1 > p2))) (
 some true)) fun v2 =>
 sel v2 (
 some (([] : List Int), 0, false)) (
 bnd (loop (Xcv p0 p2 q1) (q1.2.1, 0, 0, (List.replicate p2.toNat (0 : Int)))) fun o22 => match o22 with
| .out v16 => (
 some (v16.2, v16.1, true))
| .ret r => some r)
def Xeh (p0 : ByteArray) (v5 : (Int × Int × (List Int))) : Option (Lp (Int × Int × (List Int)) (Ou (Int × (List Int)) ((List Int) × Int × Bool))) :=
 sel (decide (v5.2.1 < 4)) (
 bnd (Xm6 p0 v5.1 16) fun q9 =>
 sel (!q9.2.2) (
 some (.done (.ret (([] : List Int), 0, false)))) (
 req ((v5.2.2.length + q9.1.length) * 8 ≤ 140737488355328 ∧ v5.2.2.length + q9.1.length ≤ maxLen) <|
 some (.go (q9.2.1, Xaa .i64 (v5.2.1 + 1), (v5.2.2 ++ q9.1))))) (
 some (.done (.out (v5.1, v5.2.2))))
def Xj6 (p0 : ByteArray) (p1 : Int) (p2 : Xfc) : Option ((List Int) × Int × Bool) :=
 bnd (
 sel p2.Large (
 some true) (
 some p2.Exact)) fun v1 =>
 sel v1 (
 bnd (Xm6 p0 p1 64) fun q2 =>
 some (q2.1, q2.2.1, q2.2.2)) (
 bnd (loop (Xeh p0) (p1, 0, ([] : List Int))) fun o10 => match o10 with
| .out v8 => (
 some (v8.2, v8.1, true))
| .ret r => some r)
def Xe8 (p0 : (List Int)) (p1 : Int) (p2 : Int) (v3 : Int) : Option (Lp Int (Ou Unit Bool)) :=
 sel (decide (v3 < p1)) (
 req (0 ≤ v3 ∧ v3 < p0.length) <|
 bnd (Xaq (p0.getD v3.toNat 0) (Xaa .i64 (0 - p2)) p2) fun q7 =>
 sel (!q7) (
 some (.done (.ret false))) (
 some (.go (Xaa .i64 (v3 + 1))))) (
 some (.done (.out ())))
def Xe7 (p0 : (List Int)) (p1 : Int) (p2 : Int) : Option Bool :=
 sel ((p0.length : Int) != p1) (
 some false) (
 bnd (loop (Xe8 p0 p1 p2) 0) fun o8 => match o8 with
| .out v6 => (
 some true)
| .ret r => some r)
def Xgb (p0 : Xao) : Option Bool :=
 sel (p0.Kind == 0) (
 bnd (
 sel (p0.Mode == 0) (
 sel (p0.Dx == 0) (
 sel (p0.Dy == 0) (
 some ((p0.Levels.length : Int) == 0)) (
 some false)) (
 some false)) (
 some false)) fun v1 =>
 some v1) (
 sel (p0.Kind == 1) (
 bnd (
 sel (p0.Mode == 0) (
 bnd (Xaq p0.Dx (-16) 16) fun q3 =>
 sel q3 (
 bnd (Xaq p0.Dy (-16) 16) fun q4 =>
 sel q4 (
 bnd (Xe7 p0.Levels 64 5000) fun q5 =>
 some q5) (
 some false)) (
 some false)) (
 some false)) fun v2 =>
 some v2) (
 sel (p0.Kind == 2) (
 bnd (
 bnd (Xaq p0.Mode 0 3) fun q7 =>
 sel q7 (
 sel (p0.Dx == 0) (
 sel (p0.Dy == 0) (
 bnd (Xe7 p0.Levels 64 5000) fun q8 =>
 some q8) (
 some false)) (
 some false)) (
 some false)) fun v6 =>
 some v6) (
 some false)))
def Xo8 (p0 : ByteArray) (p1 : Int) (p2 : Xfc) : Option (Xao × Int × Bool) :=
 Yu9 (fun (v1 : (Int × Int)) =>
 Yu9 (fun (v4 : (Int × Bool × Int × Int × Int)) =>
 sel (!v4.2.1) (
 some ((⟨0, 0, 0, 0, []⟩ : Xao), 0, false)) (
 bnd (Xj6 p0 v4.1 p2) fun q8 =>
 bnd (
 sel q8.2.2 (
 bnd (Xgb (⟨v1.2, v4.2.2.1, v4.2.2.2.1, v4.2.2.2.2, q8.1⟩ : Xao)) fun q10 =>
 some (!q10)) (
 some true)) fun v9 =>
 sel v9 (
 some ((⟨0, 0, 0, 0, []⟩ : Xao), 0, false)) (
 some ((⟨v1.2, v4.2.2.1, v4.2.2.2.1, v4.2.2.2.2, q8.1⟩ : Xao), q8.2.1, true)))) fun j2 =>
 sel (v1.2 == 0) (
 some ((⟨v1.2, 0, 0, 0, []⟩ : Xao), v1.1, true)) (
 sel (v1.2 == 1) (
 bnd (Xco p0 v1.1) fun q5 =>
 sel (!q5.2.2) (
 some ((⟨0, 0, 0, 0, []⟩ : Xao), 0, false)) (
 bnd (Xco p0 q5.2.1) fun q6 =>
 j2 (q6.2.1, q6.2.2, 0, q5.1, q6.1))) (
 bnd (Xbn p0 v1.1) fun q7 =>
 j2 (q7.2.1, q7.2.2, q7.1, 0, 0)))) fun j1 =>
 sel (!p2.Key) (
 bnd (Xbn p0 p1) fun q2 =>
 bnd (
 sel q2.2.2 (
 some (decide (q2.1 > 2))) (
 some true)) fun v3 =>
 sel v3 (
 some ((⟨0, 0, 0, 0, []⟩ : Xao), 0, false)) (
 j1 (q2.2.1, q2.1))) (
 j1 (p1, 2))
def Xck (p0 : ByteArray) (p2 : Int) (p3 : Xfc) (v8 : (Int × Int × (List Xao))) : Option (Lp (Int × Int × (List Xao)) (Ou (Int × (List Xao)) ((List Xao) × Bool))) :=
 sel (decide (v8.2.1 < p2)) (
 bnd (Xo8 p0 v8.1 p3) fun q12 =>
 sel (!q12.2.2) (
 some (.done (.ret (([] : List Xao), false)))) (
 req ((v8.2.2.length + ([q12.1]).length) * 56 ≤ 140737488355328 ∧ v8.2.2.length + ([q12.1]).length ≤ maxLen) <|
 some (.go (q12.2.1, Xaa .i64 (v8.2.1 + 1), (v8.2.2 ++ ([q12.1])))))) (
 some (.done (.out (v8.1, v8.2.2))))
def Xk1 (p0 : ByteArray) (p1 : Int) (p2 : Int) (p3 : Xfc) : Option ((List Xao) × Bool) :=
 bnd (
 bnd (Xgw p0) fun q2 =>
 sel q2 (
 bnd (Xaq p1 0 (p0.size : Int)) fun q3 =>
 sel q3 (
 bnd (Xlu p3) fun q4 =>
 sel q4 (
 bnd (Xaq p2 1 64) fun q5 =>
 some (!q5)) (
 some true)) (
 some true)) (
 some true)) fun v1 =>
 sel v1 (
 some (([] : List Xao), false)) (
 bnd (loop (Xck p0 p2 p3) (p1, 0, ([] : List Xao))) fun o13 => match o13 with
| .out v11 => (
 sel (v11.1 != (p0.size : Int)) (
 some (([] : List Xao), false)) (
 some (v11.2, true)))
| .ret r => some r)
def Xo9 (p0 : Int) : Option Bool :=
 bnd (
 req ((8 : Int) ≠ 0) <|
 sel ((p0.tmod 8) == 0) (
 bnd (Xaq p0 8 64) fun q2 =>
 some q2) (
 some false)) fun v1 =>
 some v1
def Xih (p0 : (List Xao)) (p1 : Xfc) (v7 : Int) : Option (Lp Int (Ou Unit Bool)) :=
 sel (decide (v7 < (p0.length : Int))) (
 bnd (
 req (0 ≤ v7 ∧ v7 < p0.length) <|
 bnd (Xgb (⟨(p0.getD v7.toNat Xbq).Kind, (p0.getD v7.toNat Xbq).Mode, (p0.getD v7.toNat Xbq).Dx, (p0.getD v7.toNat Xbq).Dy, (p0.getD v7.toNat Xbq).Levels⟩ : Xao)) fun q13 =>
 sel q13 (
 sel p1.Key (
 req (0 ≤ v7 ∧ v7 < p0.length) <|
 some (((p0.getD v7.toNat Xbq).Kind) != 2)) (
 some false)) (
 some true)) fun v12 =>
 sel v12 (
 some (.done (.ret false))) (
 some (.go (Xaa .i64 (v7 + 1))))) (
 some (.done (.out ())))
def Xzx (p0 : (List Xao)) (p1 : Xfc) : Option Bool :=
 bnd (
 bnd (Xlu p1) fun q2 =>
 sel q2 (
 bnd (Xaq (p0.length : Int) 1 64) fun q3 =>
 some (!q3)) (
 some true)) fun v1 =>
 sel v1 (
 some false) (
 bnd (loop (Xih p0 p1) 0) fun o14 => match o14 with
| .out v11 => (
 some true)
| .ret r => some r)
def Xdc (p0 : Pic) (p1 : Int) (p2 : Int) (p3 : Int) (p4 : Int) : Option Bool :=
 bnd (
 bnd (Xjz p0) fun q2 =>
 sel q2 (
 bnd (Xaq p3 1 p0.Wide) fun q3 =>
 sel q3 (
 bnd (Xaq p4 1 p0.High) fun q4 =>
 sel q4 (
 bnd (Xaq p1 0 (Xaa .i64 (p0.Wide - p3))) fun q5 =>
 sel q5 (
 bnd (Xaq p2 0 (Xaa .i64 (p0.High - p4))) fun q6 =>
 some q6) (
 some false)) (
 some false)) (
 some false)) (
 some false)) fun v1 =>
 some v1
def Xkw (p0 : Pic) (p1 : Xpb) (v3 : (Int × (List Int))) : Option (Lp (Int × (List Int)) (List Int)) :=
 sel (decide (v3.1 < (Xaa .i64 (p1.Top + p1.High)))) (
 req (0 ≤ (Xaa .i64 ((Xaa .i64 (v3.1 * p0.Wide)) + p1.Left)) ∧ (Xaa .i64 ((Xaa .i64 (v3.1 * p0.Wide)) + p1.Left)) ≤ (Xaa .i64 ((Xaa .i64 ((Xaa .i64 (v3.1 * p0.Wide)) + p1.Left)) + p1.Wide)) ∧ (Xaa .i64 ((Xaa .i64 ((Xaa .i64 (v3.1 * p0.Wide)) + p1.Left)) + p1.Wide)) ≤ (p0.Dots.size : Int)) <|
 req ((v3.2.length + (Xbu (p0.Dots.extract (Xaa .i64 ((Xaa .i64 (v3.1 * p0.Wide)) + p1.Left)).toNat (Xaa .i64 ((Xaa .i64 ((Xaa .i64 (v3.1 * p0.Wide)) + p1.Left)) + p1.Wide)).toNat)).length) * 1 ≤ 140737488355328 ∧ v3.2.length + (Xbu (p0.Dots.extract (Xaa .i64 ((Xaa .i64 (v3.1 * p0.Wide)) + p1.Left)).toNat (Xaa .i64 ((Xaa .i64 ((Xaa .i64 (v3.1 * p0.Wide)) + p1.Left)) + p1.Wide)).toNat)).length ≤ maxLen) <|
 some (.go (Xaa .i64 (v3.1 + 1), (v3.2 ++ (Xbu (p0.Dots.extract (Xaa .i64 ((Xaa .i64 (v3.1 * p0.Wide)) + p1.Left)).toNat (Xaa .i64 ((Xaa .i64 ((Xaa .i64 (v3.1 * p0.Wide)) + p1.Left)) + p1.Wide)).toNat)))))) (
 some (.done v3.2))
def Xtp (p0 : Pic) (p1 : Xpb) : Option (Pic × Bool) :=
 bnd (Xdc p0 p1.Left p1.Top p1.Wide p1.High) fun q1 =>
 sel (!q1) (
 some ((⟨0, 0, ⟨#[]⟩⟩ : Pic), false)) (
 bnd (loop (Xkw p0 p1) (p1.Top, ([] : List Int))) fun v5 =>
 some ((⟨p1.Wide, p1.High, (strOfNums v5)⟩ : Pic), true))
def Xqi (p0 : Int) (p1 : Int) : Option Pic :=
 bnd (
 bnd (Xaq p0 1 256) fun q2 =>
 sel q2 (
 bnd (Xaq p1 1 256) fun q3 =>
 some (!q3)) (
 some true)) fun v1 =>
 sel v1 (
 some (⟨0, 0, ⟨#[]⟩⟩ : Pic)) (
 bnd (Xj0 (Xaa .i64 (p0 * p1)) 128) fun q4 =>
 some (⟨p0, p1, q4⟩ : Pic))
def Xo6 (p0 : Pic) (p1 : Int) (p2 : Int) : Option Bool :=
 bnd (
 req ((8 : Int) ≠ 0) <|
 sel ((p1.tmod 8) == 0) (
 req ((8 : Int) ≠ 0) <|
 sel ((p2.tmod 8) == 0) (
 bnd (Xdc p0 p1 p2 8 8) fun q2 =>
 some q2) (
 some false)) (
 some false)) fun v1 =>
 some v1
def Xhm (p0 : Int) (p1 : Int) (p2 : Int) : Option Int :=
 bnd (
 sel (decide (p2 < p1)) (
 some true) (
 some (decide (p0 < p1)))) fun v1 =>
 sel v1 (
 some p1) (
 sel (decide (p0 > p2)) (
 some p2) (
 some p0))
def Xh9 (p0 : Pic) (p1 : Int) (p2 : Int) : Option Int :=
 bnd (Xjz p0) fun q1 =>
 sel (!q1) (
 some (-1)) (
 bnd (Xhm p2 0 (Xaa .i64 (p0.High - 1))) fun q2 =>
 bnd (Xhm p1 0 (Xaa .i64 (p0.Wide - 1))) fun q3 =>
 req (0 ≤ (Xaa .i64 ((Xaa .i64 (q2 * p0.Wide)) + q3)) ∧ (Xaa .i64 ((Xaa .i64 (q2 * p0.Wide)) + q3)) < p0.Dots.size) <|
 some (Xaa .i64 ((Xlf p0.Dots (Xaa .i64 ((Xaa .i64 (q2 * p0.Wide)) + q3))))))
def Xfk (p0 : Pic) (p1 : Int) (p2 : Int) (v7 : (Int × (List Int) × (List Int))) : Option (Lp (Int × (List Int) × (List Int)) ((List Int) × (List Int))) :=
 sel (decide (v7.1 < 8)) (
 bnd (
 bnd (
 sel (decide (p2 > 0)) (
 bnd (Xh9 p0 (Xaa .i64 (p1 + v7.1)) (Xaa .i64 (p2 - 1))) fun q16 =>
 req ((v7.2.1.length + ([q16]).length) * 8 ≤ 140737488355328 ∧ v7.2.1.length + ([q16]).length ≤ maxLen) <|
 some (v7.2.1 ++ ([q16]))) (
 some v7.2.1)) fun v15 =>
 sel (decide (p1 > 0)) (
 bnd (Xh9 p0 (Xaa .i64 (p1 - 1)) (Xaa .i64 (p2 + v7.1))) fun q17 =>
 req ((v7.2.2.length + ([q17]).length) * 8 ≤ 140737488355328 ∧ v7.2.2.length + ([q17]).length ≤ maxLen) <|
 some (v15, (v7.2.2 ++ ([q17])))) (
 some (v15, v7.2.2))) fun v14 =>
 some (.go (Xaa .i64 (v7.1 + 1), v14.1, v14.2))) (
 some (.done (v7.2.1, v7.2.2)))
def Xm1 (p0 : Pic) (p1 : Int) (p2 : Int) : Option (Xm9 × Bool) :=
 bnd (Xo6 p0 p1 p2) fun q1 =>
 sel (!q1) (
 some ((⟨[], [], 0⟩ : Xm9), false)) (
 bnd (loop (Xfk p0 p1 p2) (0, [], [])) fun v13 =>
 bnd (
 bnd (
 sel (decide (p1 > 0)) (
 some (decide (p2 > 0))) (
 some false)) fun v20 =>
 sel v20 (
 bnd (Xh9 p0 (Xaa .i64 (p1 - 1)) (Xaa .i64 (p2 - 1))) fun q21 =>
 some q21) (
 some (-1))) fun v19 =>
 some ((⟨v13.1, v13.2, v19⟩ : Xm9), true))
def Xsr (p0 : Int) (p1 : Int) (v17 : (Int × Int)) (v38 : (Int × Int)) : Option (Lp (Int × Int) (Ou Int Int)) :=
 sel (decide (v38.2 < p0)) (
 Yu9 (fun (v44 : Int) =>
 some (.go (v44, Xaa .i64 (v38.2 + 1)))) fun j36 =>
 bnd (
 req ((2 : Int) ≠ 0) <|
 sel ((v17.2.tmod 2) == 0) (
 some (Xaa .i64 ((Xaa .i64 (p0 - 1)) - v38.2))) (
 some v38.2)) fun v45 =>
 bnd (Xaq (Xaa .i64 (v17.2 - v45)) 0 (Xaa .i64 (p0 - 1))) fun q46 =>
 sel (!q46) (
 j36 v38.1) (
 sel (v38.1 == p1) (
 some (.done (.ret (Xaa .i64 ((Xaa .i64 ((Xaa .i64 (p0 * v45)) + v17.2)) - v45))))) (
 j36 (Xaa .i64 (v38.1 + 1))))) (
 some (.done (.out v38.1)))
def Xoi (p0 : Int) (p1 : Int) (v17 : (Int × Int)) : Option (Lp (Int × Int) (Ou Unit Int)) :=
 sel (decide (v17.2 ≤ (Xaa .i64 ((Xaa .i64 (2 * p0)) - 2)))) (
 bnd (loop (Xsr p0 p1 v17) (v17.1, 0)) fun o47 => match o47 with
| .out v43 => (
 some (.go (v43, Xaa .i64 (v17.2 + 1))))
| .ret r => some (.done (.ret r))) (
 some (.done (.out ())))
def Xv2 (p0 : Int) (p1 : Int) : Option Int :=
 bnd (
 sel (p0 != 4) (
 sel (p0 != 8) (
 some true) (
 sel (decide (p1 < 0)) (
 some true) (
 some (decide (p1 ≥ (Xaa .i64 (p0 * p0))))))) (
 sel (decide (p1 < 0)) (
 some true) (
 some (decide (p1 ≥ (Xaa .i64 (p0 * p0))))))) fun v1 =>
 sel v1 (
 some (-1)) (
 bnd (loop (Xoi p0 p1) (0, 0)) fun o48 => match o48 with
| .out v33 => (
 some (-1))
| .ret r => some r)
def Xc2 (p0 : Int) (p1 : (List Int)) (v4 : (Int × (List Int))) : Option (Lp (Int × (List Int)) (List Int)) :=
 sel (decide (v4.1 < (Xaa .i64 (p0 * p0)))) (
 bnd (Xv2 p0 v4.1) fun q8 =>
 req (0 ≤ v4.1 ∧ v4.1 < p1.length) <|
 req (0 ≤ q8 ∧ q8 < v4.2.length) <|
 req (q8.toNat < v4.2.length) <|
 some (.go (Xaa .i64 (v4.1 + 1), (v4.2.set q8.toNat (p1.getD v4.1.toNat 0))))) (
 some (.done v4.2))
def Xe6 (p0 : Int) (p1 : (List Int)) : Option ((List Int) × Bool) :=
 bnd (
 sel (p0 != 4) (
 sel (p0 != 8) (
 some true) (
 some ((p1.length : Int) != (Xaa .i64 (p0 * p0))))) (
 some ((p1.length : Int) != (Xaa .i64 (p0 * p0))))) fun v1 =>
 sel v1 (
 some (([] : List Int), false)) (
 req (0 ≤ (p1.length : Int) ∧ (p1.length : Int) ≤ (p1.length : Int) ∧ (p1.length : Int) * 8 ≤ 281474976710656) <|
 bnd (loop (Xc2 p0 p1) (0, (List.replicate (p1.length : Int).toNat (0 : Int)))) fun v7 =>
 some (v7, true))
def Xmg (p0 : Int) (v4 : (Int × Int)) : Option (Lp (Int × Int) Int) :=
 req ((6 : Int) ≠ 0) <|
 sel (decide (v4.2 < (Xaa .i64 (p0.tdiv 6)))) (
 some (.go (Xaa .i64 (2 * v4.1), Xaa .i64 (v4.2 + 1)))) (
 some (.done v4.1))
def Xlz (p0 : Int) : Option Int :=
 bnd (Xaq p0 0 40) fun q1 =>
 sel (!q1) (
 some 0) (
 bnd (
 req ((6 : Int) ≠ 0) <|
 sel ((p0.tmod 6) == 0) (
 some 10) (
 sel ((p0.tmod 6) == 1) (
 some 11) (
 sel ((p0.tmod 6) == 2) (
 some 13) (
 sel ((p0.tmod 6) == 3) (
 some 14) (
 sel ((p0.tmod 6) == 4) (
 some 16) (
 some 18)))))) fun v2 =>
 bnd (loop (Xmg p0) (v2, 0)) fun v6 =>
 some v6)
def Xix (p0 : Int) (p1 : Int) : Option Int :=
 bnd (Xaq p0 (-5000) 5000) fun q1 =>
 sel (!q1) (
 some 0) (
 bnd (Xlz p1) fun q2 =>
 some (Xaa .i64 (p0 * q2)))
def Xmf (v6 : (Int × Int)) : Option (Lp (Int × Int) Int) :=
 sel (decide (v6.2 > 0)) (
 bnd (
 req ((2 : Int) ≠ 0) <|
 sel ((v6.2.tmod 2) == 1) (
 some (Xaa .i64 (0 - v6.1))) (
 some v6.1)) fun v10 =>
 req ((2 : Int) ≠ 0) <|
 some (.go (v10, Xaa .i64 (v6.2.tdiv 2)))) (
 some (.done v6.1))
def Xlx (p0 : Int) (p1 : Int) : Option Int :=
 bnd (
 bnd (Xaq p0 0 7) fun q2 =>
 sel q2 (
 bnd (Xaq p1 0 7) fun q3 =>
 some (!q3)) (
 some true)) fun v1 =>
 sel v1 (
 some 0) (
 bnd (loop (Xmf) (1, (IntKind.wrap .i64 (BitVec.ofInt (IntKind.bits .i64) p0 &&& BitVec.ofInt (IntKind.bits .i64) p1).toNat))) fun v9 =>
 some v9)
def Xe9 (p0 : (List Int)) (p1 : Int) (p2 : Int) (v3 : (Int × Int)) : Option (Lp (Int × Int) Int) :=
 sel (decide (v3.2 < 8)) (
 req (0 ≤ (Xaa .i64 ((Xaa .i64 (8 * p1)) + v3.2)) ∧ (Xaa .i64 ((Xaa .i64 (8 * p1)) + v3.2)) < p0.length) <|
 bnd (Xlx p2 v3.2) fun q7 =>
 some (.go (Xaa .i64 (v3.1 + (Xaa .i64 ((p0.getD (Xaa .i64 ((Xaa .i64 (8 * p1)) + v3.2)).toNat 0) * q7))), Xaa .i64 (v3.2 + 1)))) (
 some (.done v3.1))
def Xoq (p0 : (List Int)) (p1 : Int) (p2 : Int) : Option Int :=
 bnd (loop (Xe9 p0 p1 p2) (0, 0)) fun v6 =>
 some v6
def Xdt (p0 : (List Int)) (v10 : (Int × (List Int))) (v23 : (Int × (List Int))) : Option (Lp (Int × (List Int)) (List Int)) :=
 sel (decide (v23.1 < 8)) (
 bnd (Xoq p0 v10.1 v23.1) fun q27 =>
 req ((v23.2.length + ([q27]).length) * 8 ≤ 140737488355328 ∧ v23.2.length + ([q27]).length ≤ maxLen) <|
 some (.go (Xaa .i64 (v23.1 + 1), (v23.2 ++ ([q27]))))) (
 some (.done v23.2))
def Xds (p0 : (List Int)) (v10 : (Int × (List Int))) : Option (Lp (Int × (List Int)) (List Int)) :=
 sel (decide (v10.1 < 8)) (
 bnd (loop (Xdt p0 v10) (0, v10.2)) fun v26 =>
 some (.go (Xaa .i64 (v10.1 + 1), v26))) (
 some (.done v10.2))
def Xc5 (v20 : (List Int)) (v60 : (Int × (List Int))) (v101 : (Int × (List Int))) (v114 : (Int × Int)) : Option (Lp (Int × Int) Int) :=
 sel (decide (v114.2 < 8)) (
 bnd (Xlx v60.1 v114.2) fun q118 =>
 req (0 ≤ (Xaa .i64 ((Xaa .i64 (8 * v114.2)) + v101.1)) ∧ (Xaa .i64 ((Xaa .i64 (8 * v114.2)) + v101.1)) < v20.length) <|
 req ((Xaa .i64 ((Xaa .i64 (8 * v114.2)) + v101.1)).toNat < v20.length) <|
 some (.go (Xaa .i64 (v114.1 + (Xaa .i64 (q118 * (v20.getD ((Xaa .i64 ((Xaa .i64 (8 * v114.2)) + v101.1)).toNat) 0)))), Xaa .i64 (v114.2 + 1)))) (
 some (.done v114.1))
def Xc4 (v20 : (List Int)) (v60 : (Int × (List Int))) (v101 : (Int × (List Int))) : Option (Lp (Int × (List Int)) (List Int)) :=
 sel (decide (v101.1 < 8)) (
 bnd (loop (Xc5 v20 v60 v101) (0, 0)) fun v117 =>
 req ((v101.2.length + ([v117]).length) * 8 ≤ 140737488355328 ∧ v101.2.length + ([v117]).length ≤ maxLen) <|
 some (.go (Xaa .i64 (v101.1 + 1), (v101.2 ++ ([v117]))))) (
 some (.done v101.2))
def Xc3 (v20 : (List Int)) (v60 : (Int × (List Int))) : Option (Lp (Int × (List Int)) (List Int)) :=
 sel (decide (v60.1 < 8)) (
 bnd (loop (Xc4 v20 v60) (0, v60.2)) fun v111 =>
 some (.go (Xaa .i64 (v60.1 + 1), v111))) (
 some (.done v60.2))
def Xm5 (p0 : (List Int)) : Option (List Int) :=
 bnd (loop (Xds p0) (0, ([] : List Int))) fun v20 =>
 bnd (loop (Xc3 v20) (0, ([] : List Int))) fun v91 =>
 some v91
def Xd5 (p0 : Int) (p1 : Int) : Option Int :=
 req (p1 ≠ 0) <|
 bnd (
 req (p1 ≠ 0) <|
 sel (decide ((p0.tmod p1) < 0)) (
 some (Xaa .i64 ((Xaa .i64 (p0.tdiv p1)) - 1))) (
 some (Xaa .i64 (p0.tdiv p1)))) fun v1 =>
 some v1
def Xia (v5 : (Int × (List Int))) : Option (Lp (Int × (List Int)) (List Int)) :=
 sel (decide (v5.1 < 64)) (
 req (0 ≤ v5.1 ∧ v5.1 < v5.2.length) <|
 req (v5.1.toNat < v5.2.length) <|
 bnd (Xd5 (Xaa .i64 ((v5.2.getD v5.1.toNat 0) + 32)) 64) fun q9 =>
 req (0 ≤ v5.1 ∧ v5.1 < v5.2.length) <|
 req (v5.1.toNat < v5.2.length) <|
 some (.go (Xaa .i64 (v5.1 + 1), (v5.2.set v5.1.toNat q9)))) (
 some (.done v5.2))
def Xiw (p0 : (List Int)) : Option (List Int) :=
 bnd (Xe7 p0 64 10000000) fun q1 =>
 sel (!q1) (
 some ([] : List Int)) (
 bnd (Xm5 p0) fun q2 =>
 bnd (loop (Xia) (0, q2)) fun v8 =>
 some v8)
def Xri (p0 : Int) : Option Int :=
 bnd (Xaq p0 0 15) fun q1 =>
 sel (!q1) (
 some (-1)) (
 req ((4 : Int) ≠ 0) <|
 req ((2 : Int) ≠ 0) <|
 req ((4 : Int) ≠ 0) <|
 req ((2 : Int) ≠ 0) <|
 bnd (
 sel (((Xaa .i64 (p0.tdiv 4)).tmod 2) == 0) (
 some (((p0.tmod 4).tmod 2) == 0)) (
 some false)) fun v2 =>
 sel v2 (
 some 0) (
 bnd (
 sel (((Xaa .i64 (p0.tdiv 4)).tmod 2) == 1) (
 some (((p0.tmod 4).tmod 2) == 1)) (
 some false)) fun v3 =>
 sel v3 (
 some 1) (
 some 2)))
def Xca (p0 : Int) (p1 : Int) (p2 : Int) (p3 : Int) : Option Int :=
 sel (p0 == 0) (
 some p1) (
 sel (p0 == 1) (
 some p2) (
 some p3))
def Xfn (p0 : Int) (v12 : (Int × Int)) : Option (Lp (Int × Int) Int) :=
 req ((6 : Int) ≠ 0) <|
 sel (decide (v12.2 < (Xaa .i64 (p0.tdiv 6)))) (
 some (.go (Xaa .i64 (2 * v12.1), Xaa .i64 (v12.2 + 1)))) (
 some (.done v12.1))
def Xm3 (p0 : Int) (p1 : Int) : Option Int :=
 bnd (Xri p1) fun q1 =>
 bnd (
 bnd (Xaq p0 0 40) fun q3 =>
 sel q3 (
 some (decide (q1 < 0))) (
 some true)) fun v2 =>
 sel v2 (
 some 0) (
 bnd (
 req ((6 : Int) ≠ 0) <|
 sel ((p0.tmod 6) == 0) (
 bnd (Xca q1 10 16 13) fun q5 =>
 some q5) (
 sel ((p0.tmod 6) == 1) (
 bnd (Xca q1 11 18 14) fun q6 =>
 some q6) (
 sel ((p0.tmod 6) == 2) (
 bnd (Xca q1 13 20 16) fun q7 =>
 some q7) (
 sel ((p0.tmod 6) == 3) (
 bnd (Xca q1 14 23 18) fun q8 =>
 some q8) (
 sel ((p0.tmod 6) == 4) (
 bnd (Xca q1 16 25 20) fun q9 =>
 some q9) (
 sel ((p0.tmod 6) == 5) (
 bnd (Xca q1 18 29 23) fun q10 =>
 some q10) (
 some 0))))))) fun v4 =>
 bnd (loop (Xfn p0) (v4, 0)) fun v14 =>
 some v14)
def Xiy (p0 : Int) (p1 : Int) (p2 : Int) : Option Int :=
 bnd (Xaq p0 (-5000) 5000) fun q1 =>
 sel (!q1) (
 some 0) (
 bnd (Xm3 p1 p2) fun q2 =>
 some (Xaa .i64 (p0 * q2)))
def Xdr (p0 : (List Int)) (v4 : (Int × (List Int))) : Option (Lp (Int × (List Int)) (List Int)) :=
 sel (decide (v4.1 < 4)) (
 req (0 ≤ (Xaa .i64 (4 * v4.1)) ∧ (Xaa .i64 (4 * v4.1)) < p0.length) <|
 req (0 ≤ (Xaa .i64 ((Xaa .i64 (4 * v4.1)) + 1)) ∧ (Xaa .i64 ((Xaa .i64 (4 * v4.1)) + 1)) < p0.length) <|
 req (0 ≤ (Xaa .i64 ((Xaa .i64 (4 * v4.1)) + 2)) ∧ (Xaa .i64 ((Xaa .i64 (4 * v4.1)) + 2)) < p0.length) <|
 req (0 ≤ (Xaa .i64 ((Xaa .i64 (4 * v4.1)) + 3)) ∧ (Xaa .i64 ((Xaa .i64 (4 * v4.1)) + 3)) < p0.length) <|
 bnd (Xd5 (p0.getD (Xaa .i64 ((Xaa .i64 (4 * v4.1)) + 1)).toNat 0) 2) fun q9 =>
 bnd (Xd5 (p0.getD (Xaa .i64 ((Xaa .i64 (4 * v4.1)) + 3)).toNat 0) 2) fun q10 =>
 req ((v4.2.length + ([Xaa .i64 ((Xaa .i64 ((p0.getD (Xaa .i64 (4 * v4.1)).toNat 0) + (p0.getD (Xaa .i64 ((Xaa .i64 (4 * v4.1)) + 2)).toNat 0))) + (Xaa .i64 ((p0.getD (Xaa .i64 ((Xaa .i64 (4 * v4.1)) + 1)).toNat 0) + q10))), Xaa .i64 ((Xaa .i64 ((p0.getD (Xaa .i64 (4 * v4.1)).toNat 0) - (p0.getD (Xaa .i64 ((Xaa .i64 (4 * v4.1)) + 2)).toNat 0))) + (Xaa .i64 (q9 - (p0.getD (Xaa .i64 ((Xaa .i64 (4 * v4.1)) + 3)).toNat 0)))), Xaa .i64 ((Xaa .i64 ((p0.getD (Xaa .i64 (4 * v4.1)).toNat 0) - (p0.getD (Xaa .i64 ((Xaa .i64 (4 * v4.1)) + 2)).toNat 0))) - (Xaa .i64 (q9 - (p0.getD (Xaa .i64 ((Xaa .i64 (4 * v4.1)) + 3)).toNat 0)))), Xaa .i64 ((Xaa .i64 ((p0.getD (Xaa .i64 (4 * v4.1)).toNat 0) + (p0.getD (Xaa .i64 ((Xaa .i64 (4 * v4.1)) + 2)).toNat 0))) - (Xaa .i64 ((p0.getD (Xaa .i64 ((Xaa .i64 (4 * v4.1)) + 1)).toNat 0) + q10)))]).length) * 8 ≤ 140737488355328 ∧ v4.2.length + ([Xaa .i64 ((Xaa .i64 ((p0.getD (Xaa .i64 (4 * v4.1)).toNat 0) + (p0.getD (Xaa .i64 ((Xaa .i64 (4 * v4.1)) + 2)).toNat 0))) + (Xaa .i64 ((p0.getD (Xaa .i64 ((Xaa .i64 (4 * v4.1)) + 1)).toNat 0) + q10))), Xaa .i64 ((Xaa .i64 ((p0.getD (Xaa .i64 (4 * v4.1)).toNat 0) - (p0.getD (Xaa .i64 ((Xaa .i64 (4 * v4.1)) + 2)).toNat 0))) + (Xaa .i64 (q9 - (p0.getD (Xaa .i64 ((Xaa .i64 (4 * v4.1)) + 3)).toNat 0)))), Xaa .i64 ((Xaa .i64 ((p0.getD (Xaa .i64 (4 * v4.1)).toNat 0) - (p0.getD (Xaa .i64 ((Xaa .i64 (4 * v4.1)) + 2)).toNat 0))) - (Xaa .i64 (q9 - (p0.getD (Xaa .i64 ((Xaa .i64 (4 * v4.1)) + 3)).toNat 0)))), Xaa .i64 ((Xaa .i64 ((p0.getD (Xaa .i64 (4 * v4.1)).toNat 0) + (p0.getD (Xaa .i64 ((Xaa .i64 (4 * v4.1)) + 2)).toNat 0))) - (Xaa .i64 ((p0.getD (Xaa .i64 ((Xaa .i64 (4 * v4.1)) + 1)).toNat 0) + q10)))]).length ≤ maxLen) <|
 some (.go (Xaa .i64 (v4.1 + 1), (v4.2 ++ ([Xaa .i64 ((Xaa .i64 ((p0.getD (Xaa .i64 (4 * v4.1)).toNat 0) + (p0.getD (Xaa .i64 ((Xaa .i64 (4 * v4.1)) + 2)).toNat 0))) + (Xaa .i64 ((p0.getD (Xaa .i64 ((Xaa .i64 (4 * v4.1)) + 1)).toNat 0) + q10))), Xaa .i64 ((Xaa .i64 ((p0.getD (Xaa .i64 (4 * v4.1)).toNat 0) - (p0.getD (Xaa .i64 ((Xaa .i64 (4 * v4.1)) + 2)).toNat 0))) + (Xaa .i64 (q9 - (p0.getD (Xaa .i64 ((Xaa .i64 (4 * v4.1)) + 3)).toNat 0)))), Xaa .i64 ((Xaa .i64 ((p0.getD (Xaa .i64 (4 * v4.1)).toNat 0) - (p0.getD (Xaa .i64 ((Xaa .i64 (4 * v4.1)) + 2)).toNat 0))) - (Xaa .i64 (q9 - (p0.getD (Xaa .i64 ((Xaa .i64 (4 * v4.1)) + 3)).toNat 0)))), Xaa .i64 ((Xaa .i64 ((p0.getD (Xaa .i64 (4 * v4.1)).toNat 0) + (p0.getD (Xaa .i64 ((Xaa .i64 (4 * v4.1)) + 2)).toNat 0))) - (Xaa .i64 ((p0.getD (Xaa .i64 ((Xaa .i64 (4 * v4.1)) + 1)).toNat 0) + q10)))]))))) (
 some (.done v4.2))
def Xif (p0 : (List Int)) : Option (List Int) :=
 bnd (loop (Xdr p0) (0, ([] : List Int))) fun v8 =>
 some v8
def Xeg (p0 : (List Int)) (v2 : (Int × (List Int))) : Option (Lp (Int × (List Int)) (List Int)) :=
 sel (decide (v2.1 < 16)) (
 req ((4 : Int) ≠ 0) <|
 req ((4 : Int) ≠ 0) <|
 req (0 ≤ v2.1 ∧ v2.1 < p0.length) <|
 req (0 ≤ (Xaa .i64 ((Xaa .i64 ((v2.1.tmod 4) * 4)) + (Xaa .i64 (v2.1.tdiv 4)))) ∧ (Xaa .i64 ((Xaa .i64 ((v2.1.tmod 4) * 4)) + (Xaa .i64 (v2.1.tdiv 4)))) < v2.2.length) <|
 req ((Xaa .i64 ((Xaa .i64 ((v2.1.tmod 4) * 4)) + (Xaa .i64 (v2.1.tdiv 4)))).toNat < v2.2.length) <|
 some (.go (Xaa .i64 (v2.1 + 1), (v2.2.set ((Xaa .i64 ((Xaa .i64 ((v2.1.tmod 4) * 4)) + (Xaa .i64 (v2.1.tdiv 4)))).toNat) (p0.getD v2.1.toNat 0))))) (
 some (.done v2.2))
def Xj5 (p0 : (List Int)) : Option (List Int) :=
 req (0 ≤ (16 : Int) ∧ (16 : Int) ≤ (16 : Int) ∧ (16 : Int) * 8 ≤ 281474976710656) <|
 bnd (loop (Xeg p0) (0, (List.replicate (16 : Int).toNat (0 : Int)))) fun v4 =>
 some v4
def Xjc (v8 : (Int × (List Int))) : Option (Lp (Int × (List Int)) (List Int)) :=
 sel (decide (v8.1 < 16)) (
 req (0 ≤ v8.1 ∧ v8.1 < v8.2.length) <|
 req (v8.1.toNat < v8.2.length) <|
 bnd (Xd5 (Xaa .i64 ((v8.2.getD v8.1.toNat 0) + 32)) 64) fun q12 =>
 req (0 ≤ v8.1 ∧ v8.1 < v8.2.length) <|
 req (v8.1.toNat < v8.2.length) <|
 some (.go (Xaa .i64 (v8.1 + 1), (v8.2.set v8.1.toNat q12)))) (
 some (.done v8.2))
def Xk0 (p0 : (List Int)) : Option (List Int) :=
 bnd (Xe7 p0 16 10000000) fun q1 =>
 sel (!q1) (
 some ([] : List Int)) (
 bnd (Xif p0) fun q2 =>
 bnd (Xj5 q2) fun q3 =>
 bnd (Xif q3) fun q4 =>
 bnd (Xj5 q4) fun q5 =>
 bnd (loop (Xjc) (0, q5)) fun v11 =>
 some v11)
def Xbx (p1 : Xfc) (v8 : (Int × (List Int))) : Option (Lp (Int × (List Int)) (List Int)) :=
 sel (decide (v8.1 < 64)) (
 req (0 ≤ v8.1 ∧ v8.1 < v8.2.length) <|
 req (v8.1.toNat < v8.2.length) <|
 bnd (Xix (v8.2.getD v8.1.toNat 0) p1.Qp) fun q12 =>
 req (0 ≤ v8.1 ∧ v8.1 < v8.2.length) <|
 req (v8.1.toNat < v8.2.length) <|
 some (.go (Xaa .i64 (v8.1 + 1), (v8.2.set v8.1.toNat q12)))) (
 some (.done v8.2))
def Xbs (p1 : Xfc) (v52 : (Int × (List Int))) : Option (Lp (Int × (List Int)) (List Int)) :=
 sel (decide (v52.1 < 16)) (
 req (0 ≤ v52.1 ∧ v52.1 < v52.2.length) <|
 req (v52.1.toNat < v52.2.length) <|
 bnd (Xiy (v52.2.getD v52.1.toNat 0) p1.Qp v52.1) fun q56 =>
 req (0 ≤ v52.1 ∧ v52.1 < v52.2.length) <|
 req (v52.1.toNat < v52.2.length) <|
 some (.go (Xaa .i64 (v52.1 + 1), (v52.2.set v52.1.toNat q56)))) (
 some (.done v52.2))
def Xbz (v31 : (Int × (List Int))) (q58 : (List Int)) (v60 : (Int × (List Int))) : Option (Lp (Int × (List Int)) (List Int)) :=
 sel (decide (v60.1 < 16)) (
 req ((2 : Int) ≠ 0) <|
 req ((4 : Int) ≠ 0) <|
 req ((2 : Int) ≠ 0) <|
 req ((4 : Int) ≠ 0) <|
 req (0 ≤ v60.1 ∧ v60.1 < q58.length) <|
 req (v60.1.toNat < q58.length) <|
 req (0 ≤ (Xaa .i64 ((Xaa .i64 ((Xaa .i64 (8 * (Xaa .i64 ((Xaa .i64 ((Xaa .i64 (v31.1.tdiv 2)) * 4)) + (Xaa .i64 (v60.1.tdiv 4)))))) + (Xaa .i64 ((v31.1.tmod 2) * 4)))) + (v60.1.tmod 4))) ∧ (Xaa .i64 ((Xaa .i64 ((Xaa .i64 (8 * (Xaa .i64 ((Xaa .i64 ((Xaa .i64 (v31.1.tdiv 2)) * 4)) + (Xaa .i64 (v60.1.tdiv 4)))))) + (Xaa .i64 ((v31.1.tmod 2) * 4)))) + (v60.1.tmod 4))) < v60.2.length) <|
 req ((Xaa .i64 ((Xaa .i64 ((Xaa .i64 (8 * (Xaa .i64 ((Xaa .i64 ((Xaa .i64 (v31.1.tdiv 2)) * 4)) + (Xaa .i64 (v60.1.tdiv 4)))))) + (Xaa .i64 ((v31.1.tmod 2) * 4)))) + (v60.1.tmod 4))).toNat < v60.2.length) <|
 some (.go (Xaa .i64 (v60.1 + 1), (v60.2.set ((Xaa .i64 ((Xaa .i64 ((Xaa .i64 (8 * (Xaa .i64 ((Xaa .i64 ((Xaa .i64 (v31.1.tdiv 2)) * 4)) + (Xaa .i64 (v60.1.tdiv 4)))))) + (Xaa .i64 ((v31.1.tmod 2) * 4)))) + (v60.1.tmod 4))).toNat) (q58.getD v60.1.toNat 0))))) (
 some (.done v60.2))
def Xc1 (p0 : (List Int)) (p1 : Xfc) (v31 : (Int × (List Int))) : Option (Lp (Int × (List Int)) (List Int)) :=
 sel (decide (v31.1 < 4)) (
 req (0 ≤ (Xaa .i64 (16 * v31.1)) ∧ (Xaa .i64 (16 * v31.1)) ≤ (Xaa .i64 ((Xaa .i64 (16 * v31.1)) + 16)) ∧ (Xaa .i64 ((Xaa .i64 (16 * v31.1)) + 16)) ≤ (p0.length : Int)) <|
 bnd (Xe6 4 ((p0.drop (Xaa .i64 (16 * v31.1)).toNat).take ((Xaa .i64 ((Xaa .i64 (16 * v31.1)) + 16)).toNat - (Xaa .i64 (16 * v31.1)).toNat))) fun q49 =>
 bnd (loop (Xbs p1) (0, q49.1)) fun v55 =>
 bnd (Xk0 v55) fun q58 =>
 bnd (loop (Xbz v31 q58) (0, v31.2)) fun v62 =>
 some (.go (Xaa .i64 (v31.1 + 1), v62))) (
 some (.done v31.2))
def Xfm (p0 : (List Int)) (p1 : Xfc) : Option ((List Int) × Bool) :=
 bnd (
 bnd (Xlu p1) fun q2 =>
 sel q2 (
 bnd (Xe7 p0 64 5000) fun q3 =>
 some (!q3)) (
 some true)) fun v1 =>
 sel v1 (
 some (([] : List Int), false)) (
 sel p1.Exact (
 bnd (Xe6 8 p0) fun q4 =>
 some (q4.1, q4.2)) (
 sel p1.Large (
 bnd (Xe6 8 p0) fun q5 =>
 bnd (loop (Xbx p1) (0, q5.1)) fun v11 =>
 bnd (Xiw v11) fun q14 =>
 some (q14, true)) (
 req (0 ≤ (64 : Int) ∧ (64 : Int) ≤ (64 : Int) ∧ (64 : Int) * 8 ≤ 281474976710656) <|
 bnd (loop (Xc1 p0 p1) (0, (List.replicate (64 : Int).toNat (0 : Int)))) fun v48 =>
 some (v48, true))))
def Xla (p0 : (List Int)) (v4 : Int) : Option (Lp Int (Ou Unit Bool)) :=
 sel (decide (v4 < (p0.length : Int))) (
 req (0 ≤ v4 ∧ v4 < p0.length) <|
 bnd (Xaq (p0.getD v4.toNat 0) 0 255) fun q8 =>
 sel (!q8) (
 some (.done (.ret false))) (
 some (.go (Xaa .i64 (v4 + 1))))) (
 some (.done (.out ())))
def Xo7 (p0 : (List Int)) : Option Bool :=
 bnd (
 sel ((p0.length : Int) != 0) (
 some ((p0.length : Int) != 8)) (
 some false)) fun v1 =>
 sel v1 (
 some false) (
 bnd (loop (Xla p0) 0) fun o9 => match o9 with
| .out v7 => (
 some true)
| .ret r => some r)
def Xsn (p0 : Xm9) : Option Bool :=
 bnd (
 bnd (Xo7 p0.Above) fun q2 =>
 sel q2 (
 bnd (Xo7 p0.Left) fun q3 =>
 sel q3 (
 bnd (Xaq p0.Corner (-1) 255) fun q4 =>
 some q4) (
 some false)) (
 some false)) fun v1 =>
 some v1
def Xfa (p0 : (List Int)) (p1 : Int) : Option Int :=
 sel ((p0.length : Int) == 0) (
 some 128) (
 req (0 ≤ p1 ∧ p1 < p0.length) <|
 some (p0.getD p1.toNat 0))
def Xi1 (p0 : Xm9) (v2 : (Int × Int)) : Option (Lp (Int × Int) Int) :=
 sel (decide (v2.2 < (p0.Above.length : Int))) (
 req (0 ≤ v2.2 ∧ v2.2 < p0.Above.length) <|
 some (.go (Xaa .i64 (v2.1 + (p0.Above.getD v2.2.toNat 0)), Xaa .i64 (v2.2 + 1)))) (
 some (.done v2.1))
def Xi2 (p0 : Xm9) (v7 : (Int × Int)) : Option (Lp (Int × Int) Int) :=
 sel (decide (v7.2 < (p0.Left.length : Int))) (
 req (0 ≤ v7.2 ∧ v7.2 < p0.Left.length) <|
 some (.go (Xaa .i64 (v7.1 + (p0.Left.getD v7.2.toNat 0)), Xaa .i64 (v7.2 + 1)))) (
 some (.done v7.1))
def Xor (p0 : Xm9) : Option Int :=
 sel ((Xaa .i64 ((p0.Above.length : Int) + (p0.Left.length : Int))) == 0) (
 some 128) (
 req ((2 : Int) ≠ 0) <|
 bnd (loop (Xi1 p0) (Xaa .i64 ((Xaa .i64 ((p0.Above.length : Int) + (p0.Left.length : Int))).tdiv 2), 0)) fun v4 =>
 bnd (loop (Xi2 p0) (v4, 0)) fun v9 =>
 req ((Xaa .i64 ((p0.Above.length : Int) + (p0.Left.length : Int))) ≠ 0) <|
 some (Xaa .i64 (v9.tdiv (Xaa .i64 ((p0.Above.length : Int) + (p0.Left.length : Int))))))
def Xed (p0 : Int) (p1 : Xm9) (v4 : Int) (v11 : (Int × (List Int))) : Option (Lp (Int × (List Int)) (List Int)) :=
 sel (decide (v11.1 < 64)) (
 bnd (
 req ((8 : Int) ≠ 0) <|
 bnd (Xfa p1.Above (v11.1.tmod 8)) fun q20 =>
 req ((8 : Int) ≠ 0) <|
 bnd (Xfa p1.Left (Xaa .i64 (v11.1.tdiv 8))) fun q21 =>
 sel (p0 == 0) (
 bnd (Xor p1) fun q22 =>
 req ((v11.2.length + ([q22]).length) * 8 ≤ 140737488355328 ∧ v11.2.length + ([q22]).length ≤ maxLen) <|
 some (v11.2 ++ ([q22]))) (
 sel (p0 == 1) (
 req ((v11.2.length + ([q20]).length) * 8 ≤ 140737488355328 ∧ v11.2.length + ([q20]).length ≤ maxLen) <|
 some (v11.2 ++ ([q20]))) (
 sel (p0 == 2) (
 req ((v11.2.length + ([q21]).length) * 8 ≤ 140737488355328 ∧ v11.2.length + ([q21]).length ≤ maxLen) <|
 some (v11.2 ++ ([q21]))) (
 bnd (Xhm (Xaa .i64 ((Xaa .i64 (q21 + q20)) - v4)) 0 255) fun q23 =>
 req ((v11.2.length + ([q23]).length) * 8 ≤ 140737488355328 ∧ v11.2.length + ([q23]).length ≤ maxLen) <|
 some (v11.2 ++ ([q23])))))) fun v19 =>
 some (.go (Xaa .i64 (v11.1 + 1), v19))) (
 some (.done v11.2))
def Xjx (p0 : Int) (p1 : Xm9) : Option (List Int) :=
 bnd (
 bnd (Xsn p1) fun q2 =>
 sel q2 (
 bnd (Xaq p0 0 3) fun q3 =>
 some (!q3)) (
 some true)) fun v1 =>
 sel v1 (
 some ([] : List Int)) (
 bnd (
 sel (decide (p1.Corner < 0)) (
 some 128) (
 some p1.Corner)) fun v4 =>
 bnd (loop (Xed p0 p1 v4) (0, ([] : List Int))) fun v18 =>
 some v18)
def Xk9 (p0 : (List Int)) (v3 : Int) : Option (Lp Int (Ou Unit Bool)) :=
 sel (decide (v3 < 64)) (
 req (0 ≤ v3 ∧ v3 < p0.length) <|
 bnd (Xaq (p0.getD v3.toNat 0) 0 255) fun q7 =>
 sel (!q7) (
 some (.done (.ret false))) (
 some (.go (Xaa .i64 (v3 + 1))))) (
 some (.done (.out ())))
def Xs2 (p0 : (List Int)) : Option Bool :=
 sel ((p0.length : Int) != 64) (
 some false) (
 bnd (loop (Xk9 p0) 0) fun o8 => match o8 with
| .out v6 => (
 some true)
| .ret r => some r)
def Xgv (p0 : (List Int)) (p1 : (List Int)) (v6 : (Int × (List Int))) : Option (Lp (Int × (List Int)) (List Int)) :=
 sel (decide (v6.1 < 64)) (
 req (0 ≤ v6.1 ∧ v6.1 < p0.length) <|
 req (0 ≤ v6.1 ∧ v6.1 < p1.length) <|
 bnd (Xhm (Xaa .i64 ((p0.getD v6.1.toNat 0) + (p1.getD v6.1.toNat 0))) 0 255) fun q10 =>
 req ((v6.2.length + ([q10]).length) * 8 ≤ 140737488355328 ∧ v6.2.length + ([q10]).length ≤ maxLen) <|
 some (.go (Xaa .i64 (v6.1 + 1), (v6.2 ++ ([q10]))))) (
 some (.done v6.2))
def Xlw (p0 : (List Int)) (p1 : (List Int)) : Option (List Int) :=
 bnd (
 bnd (Xs2 p0) fun q2 =>
 sel q2 (
 bnd (Xe7 p1 64 10000000) fun q3 =>
 some (!q3)) (
 some true)) fun v1 =>
 sel v1 (
 some ([] : List Int)) (
 bnd (loop (Xgv p0 p1) (0, ([] : List Int))) fun v9 =>
 some v9)
def Xkv (p0 : Pic) (p1 : Int) (p2 : Int) (v7 : (Int × (List Int))) : Option (Lp (Int × (List Int)) (List Int)) :=
 sel (decide (v7.1 < 64)) (
 req ((8 : Int) ≠ 0) <|
 req ((8 : Int) ≠ 0) <|
 bnd (Xh9 p0 (Xaa .i64 (p1 + (v7.1.tmod 8))) (Xaa .i64 (p2 + (Xaa .i64 (v7.1.tdiv 8))))) fun q11 =>
 req ((v7.2.length + ([q11]).length) * 8 ≤ 140737488355328 ∧ v7.2.length + ([q11]).length ≤ maxLen) <|
 some (.go (Xaa .i64 (v7.1 + 1), (v7.2 ++ ([q11]))))) (
 some (.done v7.2))
def Xsm (p0 : Pic) (p1 : Int) (p2 : Int) : Option (List Int) :=
 bnd (
 bnd (Xjz p0) fun q2 =>
 sel q2 (
 bnd (Xaq p1 (-1000) 1000) fun q3 =>
 sel q3 (
 bnd (Xaq p2 (-1000) 1000) fun q4 =>
 some (!q4)) (
 some true)) (
 some true)) fun v1 =>
 sel v1 (
 some ([] : List Int)) (
 bnd (loop (Xkv p0 p1 p2) (0, ([] : List Int))) fun v10 =>
 some v10)
def Xef (p0 : Pic) (p1 : Pic) (p2 : Int) (p3 : Int) (p4 : Xfc) (p5 : Int) (p6 : Int) (p7 : Xao) : Option ((List Int) × Bool) :=
 bnd (
 bnd (Xo6 p0 p5 p6) fun q2 =>
 sel q2 (
 bnd (Xaq p2 0 256) fun q3 =>
 sel q3 (
 bnd (Xaq p3 0 256) fun q4 =>
 sel q4 (
 bnd (Xgb p7) fun q5 =>
 sel q5 (
 bnd (Xlu p4) fun q6 =>
 some (!q6)) (
 some true)) (
 some true)) (
 some true)) (
 some true)) fun v1 =>
 sel v1 (
 some (([] : List Int), false)) (
 sel (p7.Kind == 2) (
 bnd (Xm1 p0 p5 p6) fun q7 =>
 bnd (Xfm p7.Levels p4) fun q8 =>
 bnd (Xjx p7.Mode q7.1) fun q9 =>
 bnd (Xlw q9 q8.1) fun q10 =>
 some (q10, true)) (
 bnd (
 sel p4.Key (
 some true) (
 bnd (Xjz p1) fun q12 =>
 some (!q12))) fun v11 =>
 sel v11 (
 some (([] : List Int), false)) (
 bnd (Xsm p1 (Xaa .i64 ((Xaa .i64 (p2 + p5)) + p7.Dx)) (Xaa .i64 ((Xaa .i64 (p3 + p6)) + p7.Dy))) fun q13 =>
 sel (p7.Kind == 0) (
 some (q13, true)) (
 bnd (Xfm p7.Levels p4) fun q14 =>
 bnd (Xlw q13 q14.1) fun q15 =>
 some (q15, true)))))
def Xg1 (p0 : Pic) (p1 : Int) (p2 : Int) (p3 : (List Int)) (v2 : (Int × (List Int))) : Option (Lp (Int × (List Int)) (List Int)) :=
 sel (decide (v2.1 < 64)) (
 req ((8 : Int) ≠ 0) <|
 req ((8 : Int) ≠ 0) <|
 req (0 ≤ v2.1 ∧ v2.1 < p3.length) <|
 req (0 ≤ (Xaa .i64 ((Xaa .i64 ((Xaa .i64 ((Xaa .i64 (p2 + (Xaa .i64 (v2.1.tdiv 8)))) * p0.Wide)) + p1)) + (v2.1.tmod 8))) ∧ (Xaa .i64 ((Xaa .i64 ((Xaa .i64 ((Xaa .i64 (p2 + (Xaa .i64 (v2.1.tdiv 8)))) * p0.Wide)) + p1)) + (v2.1.tmod 8))) < v2.2.length) <|
 req ((Xaa .i64 ((Xaa .i64 ((Xaa .i64 ((Xaa .i64 (p2 + (Xaa .i64 (v2.1.tdiv 8)))) * p0.Wide)) + p1)) + (v2.1.tmod 8))).toNat < v2.2.length) <|
 some (.go (Xaa .i64 (v2.1 + 1), (v2.2.set ((Xaa .i64 ((Xaa .i64 ((Xaa .i64 ((Xaa .i64 (p2 + (Xaa .i64 (v2.1.tdiv 8)))) * p0.Wide)) + p1)) + (v2.1.tmod 8))).toNat) (Xaa .u8 ((p3.getD v2.1.toNat 0))))))) (
 some (.done v2.2))
def Xl4 (p0 : Pic) (p1 : Int) (p2 : Int) (p3 : (List Int)) : Option Pic :=
 req (p0.Dots.size ≤ maxLen) <|
 bnd (loop (Xg1 p0 p1 p2 p3) (0, (Xbu p0.Dots))) fun v4 =>
 some (⟨p0.Wide, p0.High, (strOfNums v4)⟩ : Pic)
def Xbo (p1 : Xpb) (p2 : Xfc) (p4 : (List Xao)) (v9 : (Int × Int × Int × Int × ByteArray)) (v16 : (Int × Int × Int × ByteArray)) : Option (Lp (Int × Int × Int × ByteArray) (Int × Int × ByteArray)) :=
 sel (decide (v16.1 < (p4.length : Int))) (
 req ((8 : Int) ≠ 0) <|
 req ((Xaa .i64 (p1.Wide.tdiv 8)) ≠ 0) <|
 req ((8 : Int) ≠ 0) <|
 req ((Xaa .i64 (p1.Wide.tdiv 8)) ≠ 0) <|
 req (0 ≤ v16.1 ∧ v16.1 < p4.length) <|
 bnd (Xef (⟨v16.2.1, v16.2.2.1, v16.2.2.2⟩ : Pic) (⟨v9.2.2.1, v9.2.2.2.1, v9.2.2.2.2⟩ : Pic) v9.1 v9.2.1 p2 (Xaa .i64 (8 * (v16.1.tmod (Xaa .i64 (p1.Wide.tdiv 8))))) (Xaa .i64 (8 * (Xaa .i64 (v16.1.tdiv (Xaa .i64 (p1.Wide.tdiv 8)))))) (⟨(p4.getD v16.1.toNat Xbq).Kind, (p4.getD v16.1.toNat Xbq).Mode, (p4.getD v16.1.toNat Xbq).Dx, (p4.getD v16.1.toNat Xbq).Dy, (p4.getD v16.1.toNat Xbq).Levels⟩ : Xao)) fun q21 =>
 bnd (Xl4 (⟨v16.2.1, v16.2.2.1, v16.2.2.2⟩ : Pic) (Xaa .i64 (8 * (v16.1.tmod (Xaa .i64 (p1.Wide.tdiv 8))))) (Xaa .i64 (8 * (Xaa .i64 (v16.1.tdiv (Xaa .i64 (p1.Wide.tdiv 8)))))) q21.1) fun q22 =>
 some (.go (Xaa .i64 (v16.1 + 1), q22.Wide, q22.High, q22.Dots))) (
 some (.done (v16.2.1, v16.2.2.1, v16.2.2.2)))
def Xk2 (p0 : Pic) (p1 : Xpb) (p2 : Xfc) (p3 : Bool) (p4 : (List Xao)) : Option (Pic × Bool) :=
 bnd (
 bnd (Xo9 p1.Wide) fun q2 =>
 sel q2 (
 bnd (Xo9 p1.High) fun q3 =>
 sel q3 (
 bnd (Xaq p1.Left 0 256) fun q4 =>
 sel q4 (
 bnd (Xaq p1.Top 0 256) fun q5 =>
 sel q5 (
 bnd (Xzx p4 p2) fun q6 =>
 sel q6 (
 req ((8 : Int) ≠ 0) <|
 req ((8 : Int) ≠ 0) <|
 some ((p4.length : Int) != (Xaa .i64 ((Xaa .i64 (p1.Wide.tdiv 8)) * (Xaa .i64 (p1.High.tdiv 8)))))) (
 some true)) (
 some true)) (
 some true)) (
 some true)) (
 some true)) fun v1 =>
 sel v1 (
 some ((⟨0, 0, ⟨#[]⟩⟩ : Pic), false)) (
 bnd (
 sel p2.Key (
 some false) (
 bnd (Xdc p0 p1.Left p1.Top p1.Wide p1.High) fun q8 =>
 some (!q8))) fun v7 =>
 sel v7 (
 some ((⟨0, 0, ⟨#[]⟩⟩ : Pic), false)) (
 bnd (
 bnd (
 sel p2.Key (
 some false) (
 some p3)) fun v10 =>
 sel v10 (
 bnd (Xtp p0 p1) fun q11 =>
 some (0, 0, q11.1.Wide, q11.1.High, q11.1.Dots)) (
 some (p1.Left, p1.Top, p0.Wide, p0.High, p0.Dots))) fun v9 =>
 bnd (Xqi p1.Wide p1.High) fun q12 =>
 bnd (loop (Xbo p1 p2 p4 v9) (0, q12.Wide, q12.High, q12.Dots)) fun v20 =>
 some ((⟨v20.1, v20.2.1, v20.2.2⟩ : Pic), true)))
def Xb6 (p0 : Pic) (p1 : Pic) (p2 : Int) (p3 : Int) (v10 : (Int × (List Int))) (v19 : (Int × (List Int))) : Option (Lp (Int × (List Int)) (List Int)) :=
 sel (decide (v19.1 < p1.Wide)) (
 req (0 ≤ (Xaa .i64 ((Xaa .i64 (v10.1 * p1.Wide)) + v19.1)) ∧ (Xaa .i64 ((Xaa .i64 (v10.1 * p1.Wide)) + v19.1)) < p1.Dots.size) <|
 req (0 ≤ (Xaa .i64 ((Xaa .i64 ((Xaa .i64 ((Xaa .i64 (p3 + v10.1)) * p0.Wide)) + p2)) + v19.1)) ∧ (Xaa .i64 ((Xaa .i64 ((Xaa .i64 ((Xaa .i64 (p3 + v10.1)) * p0.Wide)) + p2)) + v19.1)) < v19.2.length) <|
 req ((Xaa .i64 ((Xaa .i64 ((Xaa .i64 ((Xaa .i64 (p3 + v10.1)) * p0.Wide)) + p2)) + v19.1)).toNat < v19.2.length) <|
 some (.go (Xaa .i64 (v19.1 + 1), (v19.2.set ((Xaa .i64 ((Xaa .i64 ((Xaa .i64 ((Xaa .i64 (p3 + v10.1)) * p0.Wide)) + p2)) + v19.1)).toNat) (Xlf p1.Dots (Xaa .i64 ((Xaa .i64 (v10.1 * p1.Wide)) + v19.1))))))) (
 some (.done v19.2))
def Xee (p0 : Pic) (p1 : Pic) (p2 : Int) (p3 : Int) (v10 : (Int × (List Int))) : Option (Lp (Int × (List Int)) (List Int)) :=
 sel (decide (v10.1 < p1.High)) (
 bnd (loop (Xb6 p0 p1 p2 p3 v10) (0, v10.2)) fun v21 =>
 some (.go (Xaa .i64 (v10.1 + 1), v21))) (
 some (.done v10.2))
def Xoh (p0 : Pic) (p1 : Pic) (p2 : Int) (p3 : Int) : Option (Pic × Bool) :=
 bnd (
 bnd (Xjz p1) fun q2 =>
 sel q2 (
 bnd (Xdc p0 p2 p3 p1.Wide p1.High) fun q3 =>
 some (!q3)) (
 some true)) fun v1 =>
 sel v1 (
 some (p0, false)) (
 req (p0.Dots.size ≤ maxLen) <|
 bnd (loop (Xee p0 p1 p2 p3) (0, (Xbu p0.Dots))) fun v17 =>
 some ((⟨p0.Wide, p0.High, (strOfNums v17)⟩ : Pic), true))
def Xcl (p0 : Xam) (p1 : Int) (p2 : ByteArray) : Option (Xam × Int × Pic) :=
 sel (!p0.HasPar) (
 some (p0, 4, (⟨0, 0, ⟨#[]⟩⟩ : Pic))) (
 bnd (Xib p0.Seq p0.Par p2) fun q1 =>
 sel (!q1.2.2) (
 some (p0, 5, (⟨0, 0, ⟨#[]⟩⟩ : Pic))) (
 sel (q1.1.Tile != p0.Got) (
 some (p0, 6, (⟨0, 0, ⟨#[]⟩⟩ : Pic))) (
 bnd (
 sel (p0.Frame != (-1)) (
 some (p0.Frame != q1.1.Frame)) (
 some false)) fun v2 =>
 sel v2 (
 some (p0, 7, (⟨0, 0, ⟨#[]⟩⟩ : Pic))) (
 bnd (
 sel (p1 == 1) (
 some (!p0.HasRef)) (
 some false)) fun v3 =>
 sel v3 (
 some (p0, 8, (⟨0, 0, ⟨#[]⟩⟩ : Pic))) (
 bnd (Xbv p0.Seq q1.1.Tile) fun q4 =>
 bnd (Xk1 p2 q1.2.1 q4 (⟨(p1 == 5), q1.1.Qp, p0.Par.Large, p0.Par.Exact⟩ : Xfc)) fun q5 =>
 sel (!q5.2) (
 some (p0, 9, (⟨0, 0, ⟨#[]⟩⟩ : Pic))) (
 bnd (Xda p0.Seq q1.1.Tile) fun q6 =>
 bnd (Xk2 p0.Ref q6.1 (⟨(p1 == 5), q1.1.Qp, p0.Par.Large, p0.Par.Exact⟩ : Xfc) p0.Par.Confined q5.1) fun q7 =>
 bnd (
 sel (p0.Got == 0) (
 bnd (Xly p0.Seq) fun q9 =>
 bnd (Xqi q9.1 q9.2) fun q10 =>
 some (q10.Wide, q10.High, q10.Dots)) (
 some (p0.Now.Wide, p0.Now.High, p0.Now.Dots))) fun v8 =>
 bnd (Xoh (⟨v8.1, v8.2.1, v8.2.2⟩ : Pic) q7.1 q6.1.Left q6.1.Top) fun q11 =>
 bnd (Xd3 p0.Seq) fun q12 =>
 sel (decide ((Xaa .i64 (p0.Got + 1)) < q12)) (
 some ((⟨p0.HasSeq, p0.HasPar, p0.HasRef, p0.Seq, p0.Par, q1.1.Frame, Xaa .i64 (p0.Got + 1), q11.1, p0.Ref⟩ : Xam), 0, (⟨0, 0, ⟨#[]⟩⟩ : Pic))) (
 req (0 ≤ (Xaa .u64 (p0.Seq.Bits))) <|
 req ((Xaa .i64 (1 * 2 ^ min (Xaa .u64 (p0.Seq.Bits)).toNat (IntKind.bits .i64))) ≠ 0) <|
 some ((⟨p0.HasSeq, p0.HasPar, true, p0.Seq, p0.Par, ((Xaa .i64 (q1.1.Frame + 1)).tmod (Xaa .i64 (1 * 2 ^ min (Xaa .u64 (p0.Seq.Bits)).toNat (IntKind.bits .i64)))), 0, (⟨0, 0, ⟨#[]⟩⟩ : Pic), q11.1⟩ : Xam), 0, q11.1))))))))
def Xf2 (p0 : Xam) (p1 : ByteArray) : Option (Xam × Int × Pic) :=
 bnd (Xzh p0) fun q1 =>
 sel (!q1) (
 some (p0, 1, (⟨0, 0, ⟨#[]⟩⟩ : Pic))) (
 bnd (Xok p1) fun q2 =>
 sel (!q2.2.2) (
 some (p0, 2, (⟨0, 0, ⟨#[]⟩⟩ : Pic))) (
 sel (q2.1 == 7) (
 bnd (Xft q2.2.1 0) fun q3 =>
 bnd (
 sel q3.2.2 (
 some (q3.2.1 != (q2.2.1.size : Int))) (
 some true)) fun v4 =>
 sel v4 (
 some (p0, 3, (⟨0, 0, ⟨#[]⟩⟩ : Pic))) (
 some ((⟨true, false, false, q3.1, (⟨0, false, false, false⟩ : Par), (-1), 0, (⟨0, 0, ⟨#[]⟩⟩ : Pic), (⟨0, 0, ⟨#[]⟩⟩ : Pic)⟩ : Xam), 0, (⟨0, 0, ⟨#[]⟩⟩ : Pic)))) (
 sel (q2.1 == 8) (
 bnd (Xfs q2.2.1 0) fun q5 =>
 bnd (
 sel q5.2.2 (
 some (q5.2.1 != (q2.2.1.size : Int))) (
 some true)) fun v6 =>
 sel v6 (
 some (p0, 3, (⟨0, 0, ⟨#[]⟩⟩ : Pic))) (
 bnd (
 sel p0.HasSeq (
 some (decide (p0.Got > 0))) (
 some true)) fun v7 =>
 sel v7 (
 some (p0, 4, (⟨0, 0, ⟨#[]⟩⟩ : Pic))) (
 some ((⟨p0.HasSeq, true, p0.HasRef, p0.Seq, q5.1, p0.Frame, p0.Got, p0.Now, p0.Ref⟩ : Xam), 0, (⟨0, 0, ⟨#[]⟩⟩ : Pic))))) (
 bnd (Xcl p0 q2.1 q2.2.1) fun q8 =>
 some (q8.1, q8.2.1, q8.2.2)))))
def Xm4 (p0 : Seq) : Option Seq :=
 req ((([] : List Int).length + p0.Cols.length) * 8 ≤ 140737488355328 ∧ ([] : List Int).length + p0.Cols.length ≤ maxLen) <|
 req ((([] : List Int).length + p0.Rows.length) * 8 ≤ 140737488355328 ∧ ([] : List Int).length + p0.Rows.length ≤ maxLen) <|
 some (⟨p0.Level, p0.Bits, (([] : List Int) ++ p0.Cols), (([] : List Int) ++ p0.Rows)⟩ : Seq)
def Xcn (p0 : Xam) (p1 : ByteArray) : Option (Xam × Int × Pic) :=
 bnd (Xf2 p0 p1) fun q1 =>
 bnd (Xm4 q1.1.Seq) fun q2 =>
 some ((⟨q1.1.HasSeq, q1.1.HasPar, q1.1.HasRef, q2, q1.1.Par, q1.1.Frame, q1.1.Got, q1.1.Now, q1.1.Ref⟩ : Xam), q1.2.1, q1.2.2)
def Xc9 (p1 : (List ByteArray)) (v5 : (Int × Bool × Bool × Bool × Int × Int × Int × Bool × Bool × Bool × Int × Int × Int × Int × ByteArray × Int × Int × ByteArray × (List Pic) × (List Int) × (List Int) × (List Int))) : Option (Lp (Int × Bool × Bool × Bool × Int × Int × Int × Bool × Bool × Bool × Int × Int × Int × Int × ByteArray × Int × Int × ByteArray × (List Pic) × (List Int) × (List Int) × (List Int)) (Bool × Bool × Bool × Int × Int × Int × Bool × Bool × Bool × Int × Int × Int × Int × ByteArray × Int × Int × ByteArray × (List Pic) × (List Int) × (List Int) × (List Int))) :=
 sel (decide (v5.1 < (p1.length : Int))) (
 bnd (
 req (0 ≤ v5.1 ∧ v5.1 < p1.length) <|
 bnd (Xcn (⟨v5.2.1, v5.2.2.1, v5.2.2.2.1, (⟨v5.2.2.2.2.1, v5.2.2.2.2.2.1, v5.2.2.2.2.2.2.2.2.2.2.2.2.2.2.2.2.2.2.2.2.1, v5.2.2.2.2.2.2.2.2.2.2.2.2.2.2.2.2.2.2.2.2.2⟩ : Seq), (⟨v5.2.2.2.2.2.2.1, v5.2.2.2.2.2.2.2.1, v5.2.2.2.2.2.2.2.2.1, v5.2.2.2.2.2.2.2.2.2.1⟩ : Par), v5.2.2.2.2.2.2.2.2.2.2.1, v5.2.2.2.2.2.2.2.2.2.2.2.1, (⟨v5.2.2.2.2.2.2.2.2.2.2.2.2.1, v5.2.2.2.2.2.2.2.2.2.2.2.2.2.1, v5.2.2.2.2.2.2.2.2.2.2.2.2.2.2.1⟩ : Pic), (⟨v5.2.2.2.2.2.2.2.2.2.2.2.2.2.2.2.1, v5.2.2.2.2.2.2.2.2.2.2.2.2.2.2.2.2.1, v5.2.2.2.2.2.2.2.2.2.2.2.2.2.2.2.2.2.1⟩ : Pic)⟩ : Xam) (p1.getD v5.1.toNat Xjn)) fun q11 =>
 req ((v5.2.2.2.2.2.2.2.2.2.2.2.2.2.2.2.2.2.2.2.1.length + ([q11.2.1]).length) * 8 ≤ 140737488355328 ∧ v5.2.2.2.2.2.2.2.2.2.2.2.2.2.2.2.2.2.2.2.1.length + ([q11.2.1]).length ≤ maxLen) <|
 sel (decide (q11.2.2.Wide > 0)) (
 req ((v5.2.2.2.2.2.2.2.2.2.2.2.2.2.2.2.2.2.2.1.length + ([q11.2.2]).length) * 32 ≤ 140737488355328 ∧ v5.2.2.2.2.2.2.2.2.2.2.2.2.2.2.2.2.2.2.1.length + ([q11.2.2]).length ≤ maxLen) <|
 some (q11.1.HasSeq, q11.1.HasPar, q11.1.HasRef, q11.1.Seq.Level, q11.1.Seq.Bits, q11.1.Par.Qp, q11.1.Par.Large, q11.1.Par.Exact, q11.1.Par.Confined, q11.1.Frame, q11.1.Got, q11.1.Now.Wide, q11.1.Now.High, q11.1.Now.Dots, q11.1.Ref.Wide, q11.1.Ref.High, q11.1.Ref.Dots, (v5.2.2.2.2.2.2.2.2.2.2.2.2.2.2.2.2.2.2.1 ++ ([q11.2.2])), (v5.2.2.2.2.2.2.2.2.2.2.2.2.2.2.2.2.2.2.2.1 ++ ([q11.2.1])), q11.1.Seq.Cols, q11.1.Seq.Rows)) (
 some (q11.1.HasSeq, q11.1.HasPar, q11.1.HasRef, q11.1.Seq.Level, q11.1.Seq.Bits, q11.1.Par.Qp, q11.1.Par.Large, q11.1.Par.Exact, q11.1.Par.Confined, q11.1.Frame, q11.1.Got, q11.1.Now.Wide, q11.1.Now.High, q11.1.Now.Dots, q11.1.Ref.Wide, q11.1.Ref.High, q11.1.Ref.Dots, v5.2.2.2.2.2.2.2.2.2.2.2.2.2.2.2.2.2.2.1, (v5.2.2.2.2.2.2.2.2.2.2.2.2.2.2.2.2.2.2.2.1 ++ ([q11.2.1])), q11.1.Seq.Cols, q11.1.Seq.Rows))) fun v10 =>
 some (.go (Xaa .i64 (v5.1 + 1), v10.1, v10.2.1, v10.2.2.1, v10.2.2.2.1, v10.2.2.2.2.1, v10.2.2.2.2.2.1, v10.2.2.2.2.2.2.1, v10.2.2.2.2.2.2.2.1, v10.2.2.2.2.2.2.2.2.1, v10.2.2.2.2.2.2.2.2.2.1, v10.2.2.2.2.2.2.2.2.2.2.1, v10.2.2.2.2.2.2.2.2.2.2.2.1, v10.2.2.2.2.2.2.2.2.2.2.2.2.1, v10.2.2.2.2.2.2.2.2.2.2.2.2.2.1, v10.2.2.2.2.2.2.2.2.2.2.2.2.2.2.1, v10.2.2.2.2.2.2.2.2.2.2.2.2.2.2.2.1, v10.2.2.2.2.2.2.2.2.2.2.2.2.2.2.2.2.1, v10.2.2.2.2.2.2.2.2.2.2.2.2.2.2.2.2.2.1, v10.2.2.2.2.2.2.2.2.2.2.2.2.2.2.2.2.2.2.1, v10.2.2.2.2.2.2.2.2.2.2.2.2.2.2.2.2.2.2.2.1, v10.2.2.2.2.2.2.2.2.2.2.2.2.2.2.2.2.2.2.2.2))) (
 some (.done (v5.2.1, v5.2.2.1, v5.2.2.2.1, v5.2.2.2.2.1, v5.2.2.2.2.2.1, v5.2.2.2.2.2.2.1, v5.2.2.2.2.2.2.2.1, v5.2.2.2.2.2.2.2.2.1, v5.2.2.2.2.2.2.2.2.2.1, v5.2.2.2.2.2.2.2.2.2.2.1, v5.2.2.2.2.2.2.2.2.2.2.2.1, v5.2.2.2.2.2.2.2.2.2.2.2.2.1, v5.2.2.2.2.2.2.2.2.2.2.2.2.2.1, v5.2.2.2.2.2.2.2.2.2.2.2.2.2.2.1, v5.2.2.2.2.2.2.2.2.2.2.2.2.2.2.2.1, v5.2.2.2.2.2.2.2.2.2.2.2.2.2.2.2.2.1, v5.2.2.2.2.2.2.2.2.2.2.2.2.2.2.2.2.2.1, v5.2.2.2.2.2.2.2.2.2.2.2.2.2.2.2.2.2.2.1, v5.2.2.2.2.2.2.2.2.2.2.2.2.2.2.2.2.2.2.2.1, v5.2.2.2.2.2.2.2.2.2.2.2.2.2.2.2.2.2.2.2.2.1, v5.2.2.2.2.2.2.2.2.2.2.2.2.2.2.2.2.2.2.2.2.2)))
def Xof (p0 : Xam) (p1 : (List ByteArray)) : Option (Xam × (List Pic) × (List Int)) :=
 bnd (Xm4 p0.Seq) fun q1 =>
 sel (decide ((p1.length : Int) > 400)) (
 some ((⟨p0.HasSeq, p0.HasPar, p0.HasRef, q1, p0.Par, p0.Frame, p0.Got, p0.Now, p0.Ref⟩ : Xam), ([] : List Pic), ([] : List Int))) (
 bnd (loop (Xc9 p1) (0, p0.HasSeq, p0.HasPar, p0.HasRef, q1.Level, q1.Bits, p0.Par.Qp, p0.Par.Large, p0.Par.Exact, p0.Par.Confined, p0.Frame, p0.Got, p0.Now.Wide, p0.Now.High, p0.Now.Dots, p0.Ref.Wide, p0.Ref.High, p0.Ref.Dots, ([] : List Pic), ([] : List Int), q1.Cols, q1.Rows)) fun v9 =>
 some ((⟨v9.1, v9.2.1, v9.2.2.1, (⟨v9.2.2.2.1, v9.2.2.2.2.1, v9.2.2.2.2.2.2.2.2.2.2.2.2.2.2.2.2.2.2.2.1, v9.2.2.2.2.2.2.2.2.2.2.2.2.2.2.2.2.2.2.2.2⟩ : Seq), (⟨v9.2.2.2.2.2.1, v9.2.2.2.2.2.2.1, v9.2.2.2.2.2.2.2.1, v9.2.2.2.2.2.2.2.2.1⟩ : Par), v9.2.2.2.2.2.2.2.2.2.1, v9.2.2.2.2.2.2.2.2.2.2.1, (⟨v9.2.2.2.2.2.2.2.2.2.2.2.1, v9.2.2.2.2.2.2.2.2.2.2.2.2.1, v9.2.2.2.2.2.2.2.2.2.2.2.2.2.1⟩ : Pic), (⟨v9.2.2.2.2.2.2.2.2.2.2.2.2.2.2.1, v9.2.2.2.2.2.2.2.2.2.2.2.2.2.2.2.1, v9.2.2.2.2.2.2.2.2.2.2.2.2.2.2.2.2.1⟩ : Pic)⟩ : Xam), v9.2.2.2.2.2.2.2.2.2.2.2.2.2.2.2.2.2.1, v9.2.2.2.2.2.2.2.2.2.2.2.2.2.2.2.2.2.2.1))
end
theorem Xab {α β : Type} (a : α) (f : α → Option β) : bnd (some a) f = f a := rfl
theorem Xei {α β : Type} {x : Option α} {a : α} {f : α → Option β} (h : x = some a) : bnd x f = f a := by subst h; rfl
theorem Xap {β : Type} (x y : β) : sel true x y = x := rfl
theorem Xal {β : Type} (x y : β) : sel false x y = y := rfl
theorem Ylf {β : Type} (b : Bool) (x y : β) : sel (!b) x y = sel b y x := by cases b <;> rfl
theorem Xdx (b x : Bool) : sel b (some x) (some false) = some (b && x) := by cases b <;> rfl
theorem Yaq (b x : Bool) : sel b (some true) (some x) = some (b || x) := by cases b <;> rfl
theorem Ylg (b x : Bool) : sel b (some x) (some true) = some (!b || x) := by cases b <;> rfl
theorem Ytx {β : Type} (b : Bool) (x y : β) : sel b (some x) (some y) = some (sel b x y) := by cases b <;> rfl
theorem Yle {β : Type} (b : Bool) (x y : β) : sel b x y = if b = true then x else y := by cases b <;> rfl
theorem Yld {β : Type} (p : Prop) [Decidable p] (x y : β) : sel (decide p) x y = if p then x else y := by
 by_cases h : p <;> simp [h, sel]
theorem Xbg {β : Type} {b : Bool} {x y : β} (h : b = true) : sel b x y = x := by subst h; rfl
theorem Xa6 {β : Type} {b : Bool} {x y : β} (h : b = false) : sel b x y = y := by subst h; rfl
theorem Xbk {β : Type} {p : Prop} [Decidable p] {x y : β} (h : p) : sel (decide p) x y = x := by simp [h, sel]
theorem Xas {β : Type} {p : Prop} [Decidable p] {x y : β} (h : ¬ p) : sel (decide p) x y = y := by simp [h, sel]
theorem Xay {β : Type} {c : Prop} [Decidable c] {k : Option β} (h : c) : req c k = k := if_pos h
theorem wk {e : Int} (h1 : -9223372036854775808 ≤ e) (h2 : e ≤ 9223372036854775807) : Xaa .i64 e = e := by
 show wrap64 e = e
 unfold wrap64; omega
theorem rqA {β : Type} {c : Prop} [Decidable c] {k : Option β} (h : c := by omega) : req c k = k := Xay h
theorem syA {β : Type} {c : Prop} [Decidable c] {x y : β} (h : c := by omega) : sel (decide c) x y = x := Xbk h
theorem snA {β : Type} {c : Prop} [Decidable c] {x y : β} (h : ¬ c := by omega) : sel (decide c) x y = y := Xas h
theorem wkA {e : Int} (h1 : -9223372036854775808 ≤ e := by omega) (h2 : e ≤ 9223372036854775807 := by omega) : Xaa .i64 e = e := wk h1 h2
theorem w8 {e : Int} (h1 : 0 ≤ e) (h2 : e ≤ 255) : Xaa .u8 e = e := by
 show IntKind.wrap .u8 e = e
 simp [IntKind.wrap, IntKind.signed, IntKind.bits]; omega
theorem Ytb : maxLen = 9223372036854775807 := rfl
theorem Xbm {a b : Int} (h : 0 ≤ a) : Int.tmod a b = a % b := Int.tmod_eq_emod_of_nonneg h
theorem Xbl {a b : Int} (h : 0 ≤ a) : Int.tdiv a b = a / b := Int.tdiv_eq_ediv_of_nonneg h
theorem Xg2 {P : Nat → Prop} (n : Nat) (h0 : P n) (hs : ∀ i, i < n → P (i + 1) → P i) : ∀ i, i ≤ n → P i := by
 intro i hi
 obtain ⟨k, rfl⟩ : ∃ k, n = i + k := ⟨n - i, by omega⟩
 clear hi
 induction k generalizing i with
 | zero => exact h0
 | succ k ih =>
  refine hs i (by omega) ?_
  exact ih (i + 1) (by rw [show i + 1 + k = i + (k + 1) by omega]; exact h0) (fun j hj => hs j (by omega))
theorem lgo {V O : Type} {f : V → Option (Lp V O)} {x y : V} {r : Option O} (h : f x = some (.go y)) (k : loop f y = r) : loop f x = r := by rw [Xg3 h]; exact k
theorem Xce {V O : Type} {f : V → Option (Lp V O)} {x : V} {o : O} (h : f x = some (.done o)) : loop f x = some o := Xcf h
theorem Xra {V O : Type} {f : V → Option (Lp V O)} (I : V → Prop) (m : V → Nat) (Q : V → O → Prop) (h : ∀ v, I v → (∃ o, f v = some (.done o) ∧ Q v o) ∨ ∃ v', f v = some (.go v') ∧ I v' ∧ m v' < m v ∧ ∀ o, Q v' o → Q v o) : ∀ v, I v → ∃ o, loop f v = some o ∧ Q v o := by
 intro v
 generalize hn : m v = n
 induction n using Nat.strongRecOn generalizing v with
 | _ n ih =>
  intro hv
  rcases h v hv with ⟨o, h1, h2⟩ | ⟨v', h1, h2, h3, h4⟩
  ·
   exact ⟨o, Xcf h1, h2⟩
  ·
   obtain ⟨o, h5, h6⟩ := ih (m v') (by omega) v' rfl h2
   exact ⟨o, by rw [Xg3 h1]; exact h5, h4 o h6⟩
theorem Xb3 {α : Type} (l : List α) (i : Nat) (h : i < l.length) (d : α) : l.getD i d = l[i] := by
 simp [List.getD_eq_getElem?_getD, List.getElem?_eq_getElem h]
theorem Xaj (a b c : Int) : Xan a b c = some (decide (b ≤ a ∧ a ≤ c)) := by
 unfold Xan
 by_cases h : b ≤ a <;> simp [bnd, sel, h]
theorem Xai (a b c : Int) : Xaq a b c = some (decide (b ≤ a ∧ a ≤ c)) := by
 unfold Xaq
 by_cases h : b ≤ a <;> simp [bnd, sel, h]
theorem Ype {α : Type} (a : List α) (x y : α) (b : List α) : (a ++ x :: b).set a.length y = a ++ y :: b := by
 induction a with
 | nil => rfl
 | cons z a ih => simp only [List.cons_append, List.length_cons, List.set_cons_succ, ih]
theorem Xnn {α : Type} (a : List α) (x d : α) (b : List α) : (a ++ x :: b).getD a.length d = x := by
 induction a with
 | nil => rfl
 | cons z a ih => simp
theorem Xqg {f : Int → Option (Lp Int (Ou Unit Bool))} (n : Nat) (h : ∀ i : Nat, i < n → f i = some (.go ((i + 1 : Nat) : Int))) (h0 : f n = some (.done (.out ()))) : loop f 0 = some (.out ()) :=
 Xg2 (P := fun i => loop f (i : Int) = some (.out ())) n (Xcf h0) (fun i hi ih => by rw [Xg3 (h i hi)]; exact ih) 0 (by omega)
theorem Yjw (y : Int) : 0 ≤ IntKind.wrap .i64 (BitVec.ofInt (IntKind.bits .i64) y &&& BitVec.ofInt (IntKind.bits .i64) 255).toNat ∧ IntKind.wrap .i64 (BitVec.ofInt (IntKind.bits .i64) y &&& BitVec.ofInt (IntKind.bits .i64) 255).toNat ≤ 255 := by
 have h : (BitVec.ofInt (IntKind.bits .i64) y &&& BitVec.ofInt (IntKind.bits .i64) 255).toNat ≤ 255 := by
  rw [BitVec.toNat_and]
  exact Nat.le_trans Nat.and_le_right (by decide)
 generalize (BitVec.ofInt (IntKind.bits .i64) y &&& BitVec.ofInt (IntKind.bits .i64) 255).toNat = n at h ⊢
 rw [← Xtt, wkA]
 omega
def Xf4 (c : Xav) : Prop := c.b_.length ≤ 1048576 ∧ 0 ≤ c.i_
theorem Xpp (b : List Int) (hb : b.length ≤ 1048576) : ∃ c, Xjm b = some c ∧ Xf4 c := by
 unfold Xjm
 obtain ⟨o, h, _⟩ := Xra (f := Xmj b) (fun v => 0 ≤ v.2) (fun v => b.length - v.2.toNat) (fun _ _ => True) (by
  intro ⟨h, i⟩ hi
  unfold Xmj
  simp only [Xdx, Xab] at hi ⊢
  by_cases h1 : i < b.length ∧ i < 4000
  ·
   rw [Xbg (by simp; exact h1), Xay ⟨hi, h1.1⟩]
   refine .inr ⟨_, rfl, ?_, ?_, fun _ _ => trivial⟩
   ·
    simp only; rw [wkA]; omega
   ·
    simp only; rw [wkA]; omega
  ·
   rw [Xa6 (by simp; omega)]
   exact .inl ⟨_, rfl, trivial⟩) (Xaa .i64 (94701 + (b.length : Int)), 0) (by simp)
 rw [h]
 exact ⟨_, rfl, hb, by simp⟩
theorem Xhp (c : Xav) (hc : Xf4 c) : ∃ x c', Xd4 c = some (x, c') ∧ 0 ≤ x ∧ x ≤ 255 ∧ Xf4 c' := by
 unfold Xd4
 rw [Xay (by decide), Xay (by decide)]
 obtain ⟨h1, h2⟩ := hc
 by_cases h : c.i_ < c.b_.length
 ·
  rw [Xbk h, Xay ⟨h2, h⟩, Xab]
  refine ⟨_, _, rfl, (Yjw _).1, (Yjw _).2, h1, ?_⟩
  simp only; rw [wkA]; omega
 ·
  rw [Xas h, Xab]
  exact ⟨_, _, rfl, (Yjw _).1, (Yjw _).2, h1, h2⟩
theorem Xau (c : Xav) (n : Int) (hc : Xf4 c) : ∃ x c', Xar c n = some (x, c') ∧ 0 ≤ x ∧ (0 < n → x < n) ∧ (n ≤ 0 → x = 0) ∧ Xf4 c' := by
 unfold Xar
 by_cases h0 : n ≤ 0
 ·
  rw [Xbk h0]; exact ⟨_, _, rfl, by omega, fun h => by omega, fun _ => rfl, hc⟩
 ·
  rw [Xas h0]
  obtain ⟨x, c1, e1, a1, b1, hc1⟩ := Xhp c hc
  by_cases h1 : n ≤ 256
  ·
   rw [Xbk h1, e1, Xab, rqA]
   refine ⟨_, _, rfl, ?_, fun _ => ?_, fun h => by omega, hc1⟩
   ·
    simp only; rw [Xbm a1]; exact Int.emod_nonneg _ (by omega)
   ·
    simp only; rw [Xbm a1]; exact Int.emod_lt_of_pos _ (by omega)
  ·
   obtain ⟨y, c2, e2, a2, b2, hc2⟩ := Xhp c1 hc1
   obtain ⟨z, c3, e3, a3, b3, hc3⟩ := Xhp c2 hc2
   obtain ⟨u, c4, e4, a4, b4, hc4⟩ := Xhp c3 hc3
   rw [Xas h1, e1, Xab]
   simp only
   rw [e2, Xab]
   simp only
   rw [e3, Xab]
   simp only
   rw [e4, Xab, rqA]
   simp only
   rw [wkA (e := x * 16777216), wkA (e := y * 65536), wkA (e := z * 256), wkA (e := x * 16777216 + y * 65536), wkA (e := x * 16777216 + y * 65536 + z * 256), wkA, Xbm (by omega)]
   exact ⟨_, _, rfl, Int.emod_nonneg _ (by omega), fun _ => Int.emod_lt_of_pos _ (by omega), fun h => by omega, hc4⟩
theorem Xci (c : Xav) (n : Int) (hc : Xf4 c) : ∃ x c', Xbi c n = some (x, c') ∧ Xf4 c' := by
 unfold Xbi
 obtain ⟨x, c', e, _, _, _, h⟩ := Xau c n hc
 rw [e, Xab]; exact ⟨_, _, rfl, h⟩
theorem Yo3 (l : List Int) : Ycx l = some (decide ((l.length : Int) > 1048576)) := rfl
theorem Xxv (b : List Int) (hb : b.length ≤ 1048576) : ∃ l, Xhn b = some l ∧ l.length = 12 ∧ ∀ x ∈ l, 0 ≤ x ∧ x < 10000 := by
 unfold Xhn
 obtain ⟨c, e, hc⟩ := Xpp b hb
 obtain ⟨x, c1, e1, _, _, hc1⟩ := Xhp c hc
 rw [e, Xab, e1, Xab]
 obtain ⟨o, h, h2⟩ := Xra (f := Xg5) (fun v => 0 ≤ v.1 ∧ v.1 ≤ 12 ∧ Xf4 ⟨v.2.1, v.2.2.1, v.2.2.2.1⟩ ∧ (v.2.2.2.2.length : Int) = v.1 ∧ ∀ x ∈ v.2.2.2.2, 0 ≤ x ∧ x < 10000) (fun v => 12 - v.1.toNat) (fun _ o => o.length = 12 ∧ ∀ x ∈ o, 0 ≤ x ∧ x < 10000) (by
  intro ⟨i, b, j, h, l⟩ ⟨h1, h2, h3, h4, h5⟩
  unfold Xg5
  simp only at h1 h2 h3 h4 h5 ⊢
  by_cases hi : i < 12
  ·
   obtain ⟨x, c', ex, x0, x1, _, hx⟩ := Xau _ 10000 h3
   rw [Xbk hi, ex, Xab, Xay (by rw [Ytb]; simp only [List.length_singleton]; omega)]
   refine .inr ⟨_, rfl, ?_, ?_, fun _ h => h⟩
   ·
    rw [wkA]
    refine ⟨by omega, by omega, hx, by simp; omega, ?_⟩
    intro y hy
    rcases List.mem_append.1 hy with hy | hy
    ·
     exact h5 y hy
    ·
     rw [List.mem_singleton.1 hy]; exact ⟨x0, x1 (by omega)⟩
   ·
    rw [wkA]; omega
  ·
   rw [Xas hi]
   exact .inl ⟨_, rfl, by omega, h5⟩) (0, c1.b_, c1.i_, c1.h_, []) ⟨by simp, by simp, hc1, by simp, by simp⟩
 rw [h]
 exact ⟨_, rfl, h2⟩
def Xde (n a b : Int) : Int := if b < a ∨ n < a then a else if n > b then b else n
theorem Xkd (n a b : Int) : Xep n a b = some (Xde n a b) := by
 unfold Xep Xde
 congr 1
 repeat' split
 all_goals omega
theorem Xny {n a b : Int} (h : a ≤ b) : a ≤ Xde n a b ∧ Xde n a b ≤ b := by
 unfold Xde
 repeat' split
 all_goals omega
theorem Xfj (n a b : Int) : Xhm n a b = some (Xde n a b) := by
 unfold Xhm Xde
 rw [Yaq, Xab]
 by_cases h : b < a ∨ n < a
 ·
  rw [if_pos h, Xbg (by simpa using h)]
 ·
  rw [if_neg h, Xa6 (by simp; omega), Yld]; split <;> rfl
theorem Ywz {α : Type} (l : List α) (k : Nat) : (l.drop k).take (l.length - k) = l.drop k := List.take_of_length_le (by rw [List.length_drop]; omega)
def Xeb (n : Int) : Bool := decide (1 ≤ n ∧ n ≤ 8)
def Xgu : List Int → Int
 | [] => 0
 | x :: r => x + Xgu r
def Xdq (l : List Int) : Bool := decide (1 ≤ l.length ∧ l.length ≤ 4) && l.all Xeb
def Xyb (l : List Int) : Int := if Xdq l = true then Xgu l else 0
theorem Xq8 : ∀ {l : List Int}, l.all Xeb = true → (l.length : Int) ≤ Xgu l ∧ Xgu l ≤ 8 * l.length
 | [], _ => by simp [Xgu]
 | x :: r, h => by
  rw [List.all_cons, Bool.and_eq_true] at h
  have := Xq8 h.2
  have hx := h.1
  unfold Xeb at hx
  simp only [decide_eq_true_eq] at hx
  rw [Xgu, List.length_cons]
  omega
theorem Yar (l : List Int) : 0 ≤ Xyb l ∧ Xyb l ≤ 32 := by
 unfold Xyb
 split
 ·
  rename_i h
  unfold Xdq at h
  rw [Bool.and_eq_true, decide_eq_true_eq] at h
  have := Xq8 h.2
  omega
 ·
  omega
theorem Xml (l : List Int) : Xht l = some (Xyb l) := by
 unfold Xht Xyb Xdq
 rw [Yaq, Xab]
 by_cases h : 1 ≤ l.length ∧ l.length ≤ 4
 ·
  rw [Xa6 (by simp; omega), decide_eq_true h, Bool.true_and]
  have key : ∀ (r a : List Int) (t : Int), l = a ++ r → 0 ≤ t → t ≤ 8 * a.length → loop (Xgz l) (t, (a.length : Int)) = some (if r.all Xeb = true then .out (t + Xgu r) else .ret 0) := by
   intro r
   induction r with
   | nil =>
    intro a t ha h0 h1
    rw [List.append_nil] at ha
    refine Xce ?_
    unfold Xgz
    simp only
    rw [Xas (by rw [ha]; omega)]
    simp [Xgu]
   | cons x r ih =>
    intro a t ha h0 h1
    have hlen : a.length < l.length := by rw [ha]; simp
    have hx : l.getD a.length 0 = x := by rw [ha]; exact Xnn a x _ r
    have hstep : Xgz l (t, (a.length : Int)) = sel (Xeb x) (some (.go (Xaa .i64 (t + x), ((a.length + 1 : Nat) : Int)))) (some (.done (.ret 0))) := by
     unfold Xgz
     simp only [Int.toNat_natCast, hx]
     rw [syA, rqA, Xai, Xab, Ylf, rqA, wkA (e := (a.length : Int) + 1)]
     rfl
    cases e : Xeb x with
    | true =>
     rw [e] at hstep
     have hx2 := e
     unfold Xeb at hx2
     simp only [decide_eq_true_eq] at hx2
     rw [wkA, Xap] at hstep
     have := ih (a ++ [x]) (t + x) (by rw [ha]; simp) (by omega) (by simp; omega)
     rw [List.length_append, List.length_singleton] at this
     rw [Xg3 hstep, this, List.all_cons, e, Bool.true_and, Xgu, Int.add_assoc]
    | false =>
     rw [e, Xal] at hstep
     rw [Xcf hstep, List.all_cons, e, Bool.false_and]; rfl
  have := key l [] 0 rfl (by omega) (by simp)
  simp only [List.length_nil, Int.zero_add] at this
  rw [show (((0 : Int), (0 : Int))) = (0, ((0 : Nat) : Int)) from rfl, this, Xab]
  cases l.all Xeb <;> rfl
 ·
  rw [Xbg (by simp; omega), decide_eq_false h, Bool.false_and]; rfl
theorem Xnq (l : List Int) (h : Xdq l = true) : Xcm l = some (Xgu l) := by
 unfold Xdq at h
 rw [Bool.and_eq_true, decide_eq_true_eq] at h
 unfold Xcm
 have key : ∀ (r a : List Int) (t : Int), l = a ++ r → 0 ≤ t → t ≤ 8 * a.length → loop (Xdw l) (t, (a.length : Int)) = some (t + Xgu r) := by
  intro r
  induction r with
  | nil =>
   intro a t ha h0 h1
   rw [List.append_nil] at ha
   refine Xce ?_
   unfold Xdw
   simp only
   rw [Xas (by rw [ha]; omega)]
   simp [Xgu]
  | cons x r ih =>
   intro a t ha h0 h1
   have hlen : a.length < l.length := by rw [ha]; simp
   have hx : l.getD a.length 0 = x := by rw [ha]; exact Xnn a x _ r
   have e : Xeb x = true := List.all_eq_true.1 h.2 x (by rw [ha]; simp)
   unfold Xeb at e
   simp only [decide_eq_true_eq] at e
   have := ih (a ++ [x]) (t + x) (by rw [ha]; simp) (by omega) (by simp; omega)
   rw [List.length_append, List.length_singleton] at this
   rw [Xgu, ← Int.add_assoc, ← this]
   refine Xg3 ?_
   unfold Xdw
   simp only [Int.toNat_natCast, hx]
   rw [syA, rqA, wkA (e := (a.length : Int) + 1), wkA]
   rfl
 have := key l [] 0 rfl (by omega) (by simp)
 simp only [List.length_nil, Int.zero_add] at this
 rw [show (((0 : Int), (0 : Int))) = (0, ((0 : Nat) : Int)) from rfl, this, Xab]
def Xlc (s : Seq) : Int := Xyb s.Cols * Xyb s.Rows
theorem Xu7 (s : Seq) : 0 ≤ Xlc s ∧ Xlc s ≤ 1024 := by
 unfold Xlc
 have h1 := Yar s.Cols
 have h2 := Yar s.Rows
 refine ⟨Int.mul_nonneg h1.1 h2.1, ?_⟩
 calc Xyb s.Cols * Xyb s.Rows ≤ 32 * Xyb s.Rows := Int.mul_le_mul_of_nonneg_right h1.2 h2.1
  _ ≤ 1024 := by omega
theorem Xqm (s : Seq) : Xgy s = some (Xlc s) := by
 have h := Xu7 s
 unfold Xgy
 rw [Xml, Xab, Xml, Xab, wk (by show _ ≤ Xlc s; omega) (by show Xlc s ≤ _; omega)]
 rfl
theorem Yry (s : Seq) (n : Nat) (hn : n = 0 ∨ n = 1) (l : List Int) (hl : ([s.Cols, s.Rows]).getD n Xl7 = l) (h4 : l.length ≤ 4) : loop (Xcr s (n : Int)) 0 = some (if l.all Xeb = true then .out () else .ret 0) := by
 have key : ∀ (r a : List Int), l = a ++ r → loop (Xcr s (n : Int)) (a.length : Int) = some (if r.all Xeb = true then .out () else .ret 0) := by
  intro r
  induction r with
  | nil =>
   intro a ha
   rw [List.append_nil] at ha
   refine Xce ?_
   unfold Xcr
   rw [Int.toNat_natCast, hl, Xas (by rw [ha]; omega)]; rfl
  | cons x r ih =>
   intro a ha
   have hlen : a.length < l.length := by rw [ha]; simp
   have hx : l.getD a.length 0 = x := by rw [ha]; exact Xnn a x _ r
   have hstep : Xcr s (n : Int) (a.length : Int) = sel (Xeb x) (some (.go ((a.length + 1 : Nat) : Int))) (some (.done (.ret 0))) := by
    unfold Xcr
    simp only [Int.toNat_natCast, hl, hx]
    rw [syA, rqA, Xaj, Xab, Ylf, wkA]
    rfl
   cases e : Xeb x with
   | true =>
    rw [e, Xap] at hstep
    have := ih (a ++ [x]) (by rw [ha]; simp)
    rw [List.length_append, List.length_singleton] at this
    rw [Xg3 hstep, this, List.all_cons, e, Bool.true_and]
   | false => rw [e, Xal] at hstep; rw [Xcf hstep, List.all_cons, e, Bool.false_and]; rfl
 exact key l [] rfl
theorem Xy0 (s : Seq) (h1 : s.Cols.length ≤ maxLen) (h2 : s.Rows.length ≤ maxLen) : Xir s = some (Xlc s) := by
 have h := Xu7 s
 unfold Xir
 have step : ∀ (n : Nat) (l : List Int), n = 0 ∨ n = 1 → ([s.Cols, s.Rows]).getD n Xl7 = l → Xdm s (n : Int) = sel (Xdq l) (some (.go ((n + 1 : Nat) : Int))) (some (.done (.ret 0))) := by
  intro n l hn hl
  unfold Xdm Xdq
  rw [Int.toNat_natCast, hl]
  simp only [List.length_cons, List.length_nil]
  rw [syA, rqA, rqA, Xaj, Xab, Ylf]
  by_cases h4 : 1 ≤ l.length ∧ l.length ≤ 4
  ·
   rw [syA, Yry s n hn l hl h4.2, Xab, decide_eq_true h4, Bool.true_and, wkA]
   cases l.all Xeb <;> rfl
  ·
   rw [snA, decide_eq_false h4, Bool.false_and, Xal]
 have s0 := step 0 s.Cols (.inl rfl) rfl
 have s1 := step 1 s.Rows (.inr rfl) rfl
 have s2 : Xdm s ((2 : Nat) : Int) = some (.done (.out ())) := by unfold Xdm; rw [Xas (by simp)]
 rw [show (0 : Int) = ((0 : Nat) : Int) from rfl]
 unfold Xlc at h ⊢
 unfold Xyb at h ⊢
 cases e0 : Xdq s.Cols with
 | false => rw [e0, Xal] at s0; rw [Xcf s0, Xab]; simp
 | true =>
  rw [e0, Xap] at s0
  rw [Xg3 s0]
  cases e1 : Xdq s.Rows with
  | false => rw [e1, Xal] at s1; rw [Xcf s1, Xab]; simp
  | true =>
   rw [e1, Xap] at s1
   rw [Xg3 s1, Xcf s2, Xab]
   simp only
   rw [e0, e1, if_pos rfl, if_pos rfl] at h
   rw [Xnq _ e0, Xab, Xnq _ e1, Xab, wkA]
   simp
def Xf1 (n : Int) : Int := if n = 1 then 16 else if n = 2 then 64 else if n = 3 then 256 else 0
theorem Xt8 (n : Int) : Xfl n = some (Xf1 n) := by
 unfold Xfl Xf1
 simp only [Yle, beq_iff_eq]
 repeat' split
 all_goals rfl
theorem Xtw (n : Int) : Xfg n = some (Xf1 n) := by
 unfold Xfg Xf1
 rw [Xaj, Xab, Ylf]
 by_cases h : 1 ≤ n ∧ n ≤ 3
 ·
  rw [Xbk h, wkA, Xay (by simp only [List.length_cons, List.length_nil]; omega), Xay (by simp only [List.length_cons, List.length_nil]; omega)]
  rcases (show n = 1 ∨ n = 2 ∨ n = 3 by omega) with rfl | rfl | rfl <;> rfl
 ·
  rw [Xas h, if_neg (by omega), if_neg (by omega), if_neg (by omega)]
def Xec (s : Seq) : Bool := decide (1 ≤ Xlc s ∧ Xlc s ≤ Xf1 s.Level) && decide (3 ≤ s.Bits ∧ s.Bits ≤ 8)
theorem Xic (s : Seq) : Xgx s = some (Xec s) := by
 unfold Xgx Xec
 simp only [Xqm, Xt8, Xai, Xab, Xdx]
theorem Xew (s : Seq) (h1 : s.Cols.length ≤ maxLen) (h2 : s.Rows.length ≤ maxLen) : Xgt s = some (Xec s) := by
 unfold Xgt Xec
 simp only [Xy0 s h1 h2, Xtw, Xaj, Xab, Xdx]
theorem Xa5 {s : Seq} (h : Xec s = true) : Xdq s.Cols = true ∧ Xdq s.Rows = true ∧ 3 ≤ s.Bits ∧ s.Bits ≤ 8 := by
 unfold Xec at h
 rw [Bool.and_eq_true, decide_eq_true_eq, decide_eq_true_eq] at h
 obtain ⟨⟨h1, _⟩, h3⟩ := h
 unfold Xlc Xyb at h1
 refine ⟨?_, ?_, h3⟩
 ·
  refine Classical.byContradiction fun e => ?_
  rw [if_neg e, Int.zero_mul] at h1; omega
 ·
  refine Classical.byContradiction fun e => ?_
  rw [if_neg e, Int.mul_zero] at h1; omega
def Xbh (s : Seq) : Int := if Xec s = true then (s.Cols.length : Int) * s.Rows.length else 0
theorem Xbc {l : List Int} (h : Xdq l = true) : 1 ≤ l.length ∧ l.length ≤ 4 := by
 unfold Xdq at h; rw [Bool.and_eq_true, decide_eq_true_eq] at h; exact h.1
theorem Xwa {s : Seq} (h : Xec s = true) : 1 ≤ (s.Cols.length : Int) * s.Rows.length ∧ (s.Cols.length : Int) * s.Rows.length ≤ 16 := by
 obtain ⟨h1, h2, _⟩ := Xa5 h
 have a := Xbc h1
 have b := Xbc h2
 have e : ∀ x y : Nat, 1 ≤ x → x ≤ 4 → 1 ≤ y → y ≤ 4 → 1 ≤ x * y ∧ x * y ≤ 16 := by
  intro x y h1 h2 h3 h4
  rcases (show x = 1 ∨ x = 2 ∨ x = 3 ∨ x = 4 by omega) with rfl | rfl | rfl | rfl <;> omega
 have := e _ _ a.1 a.2 b.1 b.2
 rw [← Int.natCast_mul]; omega
theorem Xdk (s : Seq) : Xd3 s = some (Xbh s) := by
 unfold Xd3 Xbh
 rw [Xic, Xab, Ylf]
 cases h : Xec s with
 | false => rfl
 | true => have := Xwa h; rw [Xap, wkA, if_pos rfl]
theorem Xhd (s : Seq) (h1 : s.Cols.length ≤ maxLen) (h2 : s.Rows.length ≤ maxLen) : Xfz s = some (Xbh s) := by
 unfold Xfz Xbh
 rw [Xew s h1 h2, Xab, Ylf]
 cases h : Xec s with
 | false => rfl
 | true => have := Xwa h; rw [Xap, wkA, if_pos rfl]
def Xhj (s : Seq) : Int × Int := if Xec s = true then (8 * Xgu s.Cols, 8 * Xgu s.Rows) else (0, 0)
theorem Xsj {l : List Int} (h : Xdq l = true) : 1 ≤ Xgu l ∧ Xgu l ≤ 32 := by
 unfold Xdq at h
 rw [Bool.and_eq_true, decide_eq_true_eq] at h
 have := Xq8 h.2
 omega
theorem Xpn (s : Seq) : Xly s = some (Xhj s) := by
 unfold Xly Xhj
 rw [Xic, Xab, Ylf]
 cases h : Xec s with
 | false => rfl
 | true =>
  obtain ⟨h1, h2, _⟩ := Xa5 h
  have a := Xsj h1
  have b := Xsj h2
  rw [Xap, Xml, Xab, Xml, Xab, if_pos rfl]
  unfold Xyb
  rw [if_pos h1, if_pos h2, wkA, wkA]
theorem Xuk (s : Seq) (h1 : s.Cols.length ≤ maxLen) (h2 : s.Rows.length ≤ maxLen) : Xjl s = some (Xhj s) := by
 unfold Xjl Xhj
 rw [Xew s h1 h2, Xab, Ylf]
 cases h : Xec s with
 | false => rfl
 | true =>
  obtain ⟨h1, h2, _⟩ := Xa5 h
  have a := Xsj h1
  have b := Xsj h2
  rw [Xap, Xnq _ h1, Xab, Xnq _ h2, Xab, if_pos rfl, wkA, wkA]
def Xj8 (p : Par) : Bool := decide (0 ≤ p.Qp ∧ p.Qp ≤ 40) && !(p.Large && p.Exact)
theorem Xnt (p : Par) : Xjy p = some (Xj8 p) := by
 unfold Xjy Xj8
 rw [Xai, Xab, Ylg, Xdx, Xab]
 cases p.Large <;> cases p.Exact <;> rfl
theorem Xh1 (p : Par) : Xjq p = some (Xj8 p) := by
 unfold Xjq Xj8
 rw [Xaj, Xab, Ylg, Xdx, Xab]
 cases p.Large <;> cases p.Exact <;> rfl
def Xcj (p : Pic) : Bool := decide (1 ≤ p.Wide ∧ p.Wide ≤ 256) && (decide (1 ≤ p.High ∧ p.High ≤ 256) && ((p.Dots.size : Int) == p.Wide * p.High))
theorem Xd6 {w h : Int} (h1 : 1 ≤ w ∧ w ≤ 256) (h2 : 1 ≤ h ∧ h ≤ 256) : 1 ≤ w * h ∧ w * h ≤ 65536 := by
 have a : w * 1 ≤ w * h := Int.mul_le_mul_of_nonneg_left h2.1 (by omega)
 have b : w * h ≤ 256 * h := Int.mul_le_mul_of_nonneg_right h1.2 (by omega)
 omega
theorem Xga (p : Pic) : Xjz p = some (Xcj p) := by
 unfold Xjz Xcj
 simp only [Xai, Xab, Xdx]
 by_cases h1 : 1 ≤ p.Wide ∧ p.Wide ≤ 256
 ·
  by_cases h2 : 1 ≤ p.High ∧ p.High ≤ 256
  ·
   have := Xd6 h1 h2
   rw [wkA]
  ·
   rw [decide_eq_false h2, Bool.false_and, Bool.false_and]
 ·
  rw [decide_eq_false h1, Bool.false_and, Bool.false_and]
theorem Xcq (p : Pic) : Xdl p = some (Xcj p) := by
 unfold Xdl Xcj
 simp only [Xaj, Xab, Xdx]
 by_cases h1 : 1 ≤ p.Wide ∧ p.Wide ≤ 256
 ·
  by_cases h2 : 1 ≤ p.High ∧ p.High ≤ 256
  ·
   have := Xd6 h1 h2
   rw [wkA]
  ·
   rw [decide_eq_false h2, Bool.false_and, Bool.false_and]
 ·
  rw [decide_eq_false h1, Bool.false_and, Bool.false_and]
def Xh0 (p : Pic) (s : Seq) : Bool := Xcj p && ((p.Wide == (Xhj s).1) && (p.High == (Xhj s).2))
theorem Ym0 (p : Pic) (s : Seq) (h1 : s.Cols.length ≤ maxLen) (h2 : s.Rows.length ≤ maxLen) : Xp6 p s = some (Xh0 p s) := by
 unfold Xp6 Xh0
 simp only [Xuk s h1 h2, Xcq, Xab, Xdx]
theorem Xbp (a b : List Int) : strOfNums a ++ strOfNums b = strOfNums (a ++ b) := by
 unfold strOfNums
 rw [List.map_append]
 apply ByteArray.ext
 simp
theorem Yxn : (⟨#[]⟩ : ByteArray) = strOfNums [] := rfl
def Yq8 (l : List Int) : Prop := ∀ x ∈ l, 0 ≤ x ∧ x ≤ 255
theorem Yk1 (l : List Int) (h : Yq8 l) : Xbu (strOfNums l) = l := by
 unfold Xbu
 rw [strOfNums_data, List.map_map]
 have : ∀ x ∈ l, ((fun b : UInt8 => (b.toNat : Int)) ∘ fun n : Int => UInt8.ofNat n.toNat) x = x := by
  intro x hx
  have := h x hx
  simp only [Function.comp_apply, UInt8.toNat_ofNat']
  omega
 rw [List.map_congr_left this, List.map_id']
theorem Xr7 (l : List Int) (h : Yq8 l) (i : Nat) (hi : i < l.length) : Xlf (strOfNums l) (i : Int) = l.getD i 0 := by
 unfold Xlf
 rw [dif_pos (by rw [Int.toNat_natCast, strOfNums_size]; exact hi)]
 have hx := h l[i] (List.getElem_mem hi)
 rw [Xb3 l i hi]
 show ((((l.map fun n => UInt8.ofNat n.toNat).toArray)[(i : Int).toNat]'(by simpa using hi)).toNat : Int) = _
 simp only [Int.toNat_natCast, List.getElem_toArray, List.getElem_map, UInt8.toNat_ofNat']
 omega
def Xyd : Nat → Int → List Int
 | 0, _ => []
 | w + 1, n => Xyd w (n / 2) ++ [48 + n % 2]
theorem Xcp : ∀ (w : Nat) (n : Int), (Xyd w n).length = w
 | 0, _ => rfl
 | w + 1, n => by rw [Xyd, List.length_append, Xcp w]; rfl
def Xek (l : List Int) : Prop := ∀ x ∈ l, x = 48 ∨ x = 49
theorem Xa4 {a b : List Int} (ha : Xek a) (hb : Xek b) : Xek (a ++ b) := fun x hx => (List.mem_append.1 hx).elim (ha x) (hb x)
theorem Xwh (n : Nat) : Xek (List.replicate n 48) := fun x hx => .inl (List.eq_of_mem_replicate hx)
theorem Xka {l : List Int} (h : Xek l) : Yq8 l := fun x hx => by rcases h x hx with e | e <;> omega
theorem Xqu : Xek [] := fun x hx => by simp at hx
theorem Xwn : ∀ (w : Nat) (n : Int), Xek (Xyd w n)
 | 0, _ => Xqu
 | w + 1, n => Xa4 (Xwn w (n / 2)) (fun x hx => by rw [List.mem_singleton.1 hx]; omega)
theorem Yu1 : ∀ (k : Nat) (n : Int) (s : List Int), 0 ≤ n → n ≤ 9223372036854775807 → k + s.length ≤ 100000 → loop Xiz (n, (k : Int) - 1, List.replicate k 0 ++ s) = some (Xyd k n ++ s) := by
 intro k
 induction k with
 | zero =>
  intro n s h0 h1 hl
  refine Xce ?_
  unfold Xiz
  simp only
  rw [snA]
  simp [Xyd]
 | succ k ih =>
  intro n s h0 h1 hl
  have e1 : List.replicate (k + 1) (0 : Int) ++ s = List.replicate k 0 ++ 0 :: s := by rw [List.replicate_succ', List.append_assoc]; rfl
  have e2 := Ype (List.replicate k (0 : Int)) 0 (48 + n % 2) s
  rw [List.length_replicate] at e2
  refine lgo (y := (n / 2, (k : Int) - 1, List.replicate k 0 ++ (48 + n % 2) :: s)) ?_ ?_
  ·
   unfold Xiz
   have e3 : (((k + 1 : Nat) : Int) - 1).toNat = k := by omega
   simp only [e1, e3]
   rw [syA, Xay (by decide), Xay (by simp; omega), Xay (by simp), Xay (by decide), Xbm h0, Xbl h0, wkA (e := 48 + n % 2), w8 (by omega) (by omega), e2, wkA, wkA]
   rw [show ((k + 1 : Nat) : Int) - 1 - 1 = (k : Int) - 1 by omega]
  ·
   rw [ih (n / 2) ((48 + n % 2) :: s) (by omega) (by omega) (by simp; omega), Xyd, List.append_assoc]; rfl
theorem Xmk (n : Int) (w : Nat) (h0 : 0 ≤ n) (h1 : n ≤ 9223372036854775807) (hw : w ≤ 1000) : Xhr n (w : Int) = some (strOfNums (Xyd w n)) := by
 unfold Xhr
 rw [rqA, wkA, Int.toNat_natCast]
 have := Yu1 w n [] h0 h1 (by simp; omega)
 rw [List.append_nil, List.append_nil] at this
 rw [this, Xab]
def Ygs (m : Nat) : Nat := if h : m = 0 then 0 else Ygs (m / 2) + 1
termination_by m
decreasing_by omega
def Yoe (m : Nat) : List Int := if h : m = 0 then [] else Yoe (m / 2) ++ [48 + ((m % 2 : Nat) : Int)]
termination_by m
decreasing_by omega
theorem Yjz (m : Nat) : (Yoe m).length = Ygs m := by
 induction m using Nat.strongRecOn with
 | _ m ih =>
  rw [Yoe, Ygs]
  by_cases h : m = 0
  ·
   rw [dif_pos h, dif_pos h]; rfl
  ·
   rw [dif_neg h, dif_neg h, List.length_append, ih (m / 2) (by omega)]; rfl
theorem Yot {m j : Nat} (h : m < 2 ^ j) : Ygs m ≤ j := by
 induction j generalizing m with
 | zero => rw [Ygs, dif_pos (by simp at h; omega)]; omega
 | succ j ih =>
  rw [Ygs]
  split
  ·
   omega
  ·
   have := ih (m := m / 2) (by rw [Nat.pow_succ] at h; omega)
   omega
theorem Yj7 {m : Nat} (h : 0 < m) : 1 ≤ Ygs m := by rw [Ygs, dif_neg (by omega)]; omega
theorem Yus (m : Nat) : Xek (Yoe m) := by
 induction m using Nat.strongRecOn with
 | _ m ih =>
  rw [Yoe]
  by_cases h : m = 0
  ·
   rw [dif_pos h]; exact Xqu
  ·
   rw [dif_neg h]; exact Xa4 (ih (m / 2) (by omega)) (fun x hx => by rw [List.mem_singleton.1 hx]; omega)
def ueL (n : Nat) : List Int := List.replicate (Ygs (n + 1) - 1) 48 ++ Yoe (n + 1)
theorem Xnj (n : Nat) : Xek (ueL n) := Xa4 (Xwh _) (Yus _)
theorem Xge (n : Nat) (h : n ≤ 1000000) : (ueL n).length ≤ 39 ∧ 1 ≤ (ueL n).length := by
 unfold ueL
 rw [List.length_append, List.length_replicate, Yjz]
 have := Yot (m := n + 1) (j := 20) (by omega)
 have := Yj7 (m := n + 1) (by omega)
 omega
theorem Xss (n : Nat) (x : Int) (h : n ≤ 1000000000) : Xj0 (n : Int) x = some (strOfNums (List.replicate n x)) := by
 unfold Xj0
 rw [rqA, Int.toNat_natCast]
 have key : ∀ (k a : Nat), k + a = n → loop (Xhq (n : Int) x) ((a : Int), List.replicate a x ++ List.replicate k 0) = some (List.replicate n x) := by
  intro k
  induction k with
  | zero =>
   intro a ha
   refine Xce ?_
   unfold Xhq
   simp only
   rw [snA]
   simp; omega
  | succ k ih =>
   intro a ha
   have e2 := Ype (List.replicate a x) 0 x (List.replicate k 0)
   rw [List.length_replicate] at e2
   refine lgo (y := (((a + 1 : Nat) : Int), List.replicate (a + 1) x ++ List.replicate k 0)) ?_ (ih (a + 1) (by omega))
   unfold Xhq
   simp only [List.replicate_succ (n := k), Int.toNat_natCast]
   rw [syA, Xay (by simp; omega), Xay (by simp), e2, wkA, List.replicate_succ' (n := a), List.append_assoc]
   rfl
 have := key n 0 rfl
 rw [List.replicate_zero, List.nil_append] at this
 exact Xei this
theorem Xdz (n : Nat) (h : n ≤ 1000000) : Xdn (n : Int) = some (strOfNums (ueL n)) := by
 have main : ∀ (j m : Nat) (s : List Int), m < 2 ^ j → j ≤ 63 → s.length + j ≤ 1000 → loop Xid ((m : Int), strOfNums s) = some (strOfNums (Yoe m ++ s)) := by
  intro j
  induction j with
  | zero =>
   intro m s hm _ _
   have : m = 0 := by simp at hm; omega
   subst this
   refine Xce ?_
   unfold Xid
   simp only
   rw [snA, Yoe, dif_pos rfl]; rfl
  | succ j ih =>
   intro m s hm hj hl
   by_cases h : m = 0
   ·
    subst h
    refine Xce ?_
    unfold Xid
    simp only
    rw [snA, Yoe, dif_pos rfl]; rfl
   ·
    have hlt : (m : Int) < 2 ^ (j + 1) := by exact_mod_cast hm
    have hle : (2 : Int) ^ (j + 1) ≤ 2 ^ 63 := by
     have := Nat.pow_le_pow_right (n := 2) (by omega) hj
     exact_mod_cast this
    have hbd : (m : Int) < 9223372036854775808 := Int.lt_of_lt_of_le hlt (by simpa using hle)
    refine lgo (y := (((m / 2 : Nat) : Int), strOfNums ((48 + ((m % 2 : Nat) : Int)) :: s))) ?_ ?_
    ·
     unfold Xid
     simp only
     rw [syA, Xay (by decide), Xbm (by omega), Xbl (by omega), wkA (e := 48 + (m : Int) % 2), w8 (by omega) (by omega), Xay (by simp only [strOfNums_size, List.length_singleton]; omega), Xay (by decide), wkA, Xbp]
     congr 3
    ·
     rw [ih (m / 2) _ (by rw [Nat.pow_succ] at hm; omega) (by omega) (by simp; omega)]
     conv => rhs; rw [Yoe, dif_neg h]
     rw [List.append_assoc]; rfl
 unfold Xdn
 have h1 := Yot (m := n + 1) (j := 20) (by omega)
 have h2 := Yj7 (m := n + 1) (by omega)
 rw [wkA (e := (n : Int) + 1), Yxn, show (n : Int) + 1 = ((n + 1 : Nat) : Int) by omega, main 63 (n + 1) [] (by omega) (by omega) (by simp), Xab, List.append_nil, strOfNums_size, Yjz, wkA, show (Ygs (n + 1) : Int) - 1 = ((Ygs (n + 1) - 1 : Nat) : Int) by omega, Xss _ _ (by omega), Xab,
  Xay (by simp only [strOfNums_size, List.length_replicate]; omega), Xbp]
 rfl
theorem Yuu (x : Int) (h : x = 48 ∨ x = 49) : ((x != 48) && (x != 49)) = false := by rcases h with rfl | rfl <;> rfl
theorem Yqk (l : List Int) (hl : Xek l) (hn : l.length ≤ 9223372036854775806) (f : Int → Option (Lp Int (Ou Unit Bool)))
  (h : ∀ i : Nat, i < l.length → f (i : Int) = sel (((l.getD i 0) != 48) && ((l.getD i 0) != 49)) (some (.done (.ret false))) (some (.go ((i + 1 : Nat) : Int)))) (h0 : f (l.length : Int) = some (.done (.out ()))) : loop f 0 = some (.out ()) :=
 Xqg l.length (fun i hi => by rw [h i hi, Yuu _ (by rw [Xb3 l i hi]; exact hl _ (List.getElem_mem hi)), Xal]) h0
theorem Yib (l : List Int) (hl : Xek l) (hn : l.length ≤ 9223372036854775806) : Xl0 (strOfNums l) = some true := by
 unfold Xl0
 rw [Yqk l hl hn (Xdb (strOfNums l)) (fun i hi => by
  unfold Xdb
  rw [strOfNums_size, Xr7 l (Xka hl) i hi, syA, rqA, rqA, Xdx, Xab, wkA]; rfl) (by
  unfold Xdb; rw [strOfNums_size, snA])]
 rfl
theorem Xxy (l : List Int) (hl : Xek l) (hn : l.length ≤ 400000) : Xgw (strOfNums l) = some true := by
 unfold Xgw
 rw [strOfNums_size, syA, Yib l hl (by omega), Xab, Xab]
theorem Ykh (l : List Int) (hl : Xek l) (hn : l.length ≤ 400000) : Xjr (strOfNums l) = some true := by
 unfold Xjr
 rw [strOfNums_size, snA, Yqk l hl (by omega) (Xh2 (strOfNums l)) (fun i hi => by
  unfold Xh2
  rw [strOfNums_size, Xr7 l (Xka hl) i hi, syA, rqA, rqA, Xdx, Xab, wkA]; rfl) (by
  unfold Xh2; rw [strOfNums_size, snA])]
 rfl
def Xg7 (l : List Int) : Int := l.foldl (fun x b => 2 * x + b - 48) 0
def Xpu : Nat → List Int → List Int
 | 0, _ => []
 | n + 1, l => Xg7 (l.take 8) :: Xpu n (l.drop 8)
theorem Xyj : ∀ (n : Nat) (l : List Int), (Xpu n l).length = n
 | 0, _ => rfl
 | n + 1, l => by rw [Xpu, List.length_cons, Xyj n]
def Xps (l : List Int) : List Int := Xpu (l.length / 8 + 1) (l ++ 49 :: List.replicate (8 * (l.length / 8 + 1) - l.length - 1) 48)
theorem Yxz (l : List Int) : ∀ x : Int, l.foldl (fun x b => 2 * x + b - 48) x = x * 2 ^ l.length + Xg7 l := by
 induction l with
 | nil => intro x; simp [Xg7]
 | cons b l ih =>
  intro x
  unfold Xg7
  rw [List.foldl_cons, List.foldl_cons, ih, ih (2 * 0 + b - 48), List.length_cons, Int.pow_succ]
  have e1 : (2 * x + b - 48) * 2 ^ l.length = 2 * (x * 2 ^ l.length) + (b - 48) * 2 ^ l.length := by
   rw [show 2 * x + b - 48 = 2 * x + (b - 48) by omega, Int.add_mul, Int.mul_assoc]
  have e2 : x * (2 ^ l.length * 2) = 2 * (x * 2 ^ l.length) := by rw [← Int.mul_assoc, Int.mul_comm]
  rw [e1, e2, show (2 : Int) * 0 + b - 48 = b - 48 by omega]
  omega
theorem Xrn (a b : List Int) : Xg7 (a ++ b) = Xg7 a * 2 ^ b.length + Xg7 b := by
 show (a ++ b).foldl _ 0 = _
 rw [List.foldl_append]
 exact Yxz b (Xg7 a)
theorem Yx1 (z : Nat) : Xg7 (List.replicate z 48) = 0 := by
 induction z with
 | zero => rfl
 | succ z ih => rw [List.replicate_succ', Xrn, ih]; rfl
theorem Xi5 {l : List Int} (h : Xek l) : 0 ≤ Xg7 l ∧ Xg7 l < 2 ^ l.length := by
 induction l with
 | nil => simp [Xg7]
 | cons b l ih =>
  have h1 := ih (fun x hx => h x (by simp [hx]))
  have h2 := h b (by simp)
  rw [show b :: l = [b] ++ l from rfl, Xrn, List.length_append, Int.pow_add, show Xg7 [b] = b - 48 by simp [Xg7]]
  have : (2 : Int) ^ [b].length = 2 := rfl
  rw [this]
  rcases h2 with rfl | rfl <;> omega
theorem Yuc (v : List Int) (i : Nat) (out : List Int) (c : List Int) (hc : (v.drop i).take 8 = c) (h8 : c.length = 8) (hb : Xek c) (hn : v.length ≤ 1000000) (hi : i + 8 ≤ v.length) : loop (Xd8 v ((i : Int), out)) (0, 0) = some (Xg7 c) := by
 have key : ∀ (r a : List Int), c = a ++ r → loop (Xd8 v ((i : Int), out)) (Xg7 a, (a.length : Int)) = some (Xg7 c) := by
  intro r
  induction r with
  | nil =>
   intro a ha
   rw [List.append_nil] at ha
   refine Xce ?_
   unfold Xd8
   simp only
   rw [Xas (by rw [← ha]; omega), ha]
  | cons x r ih =>
   intro a ha
   have hlen : a.length < 8 := by rw [← h8, ha]; simp
   have hx : v.getD (i + a.length) 0 = x := by
    have h1 : c.getD a.length 0 = x := by rw [ha]; exact Xnn a x _ r
    rw [← h1, ← hc]
    rw [List.getD_eq_getElem?_getD, List.getD_eq_getElem?_getD, List.getElem?_take_of_lt hlen, List.getElem?_drop]
   have hab : Xek a := fun y hy => hb y (by rw [ha]; simp [hy])
   have hr := Xi5 hab
   have hp : (2 : Int) ^ a.length ≤ 2 ^ 8 := by
    have := Nat.pow_le_pow_right (n := 2) (by omega) (show a.length ≤ 8 by omega)
    exact_mod_cast this
   have h256 : (2 : Int) ^ 8 = 256 := by decide
   have hxb : x = 48 ∨ x = 49 := hb x (by rw [ha]; simp)
   have hnext := ih (a ++ [x]) (by rw [ha]; simp)
   rw [List.length_append, List.length_singleton] at hnext
   refine lgo (y := (Xg7 (a ++ [x]), ((a.length + 1 : Nat) : Int))) ?_ hnext
   unfold Xd8
   simp only
   rw [syA, wkA (e := (i : Int) + a.length), rqA, rqA, show ((i : Int) + (a.length : Int)).toNat = i + a.length by omega, hx, wkA (e := (a.length : Int) + 1), wkA (e := x), wkA (e := 2 * Xg7 a), wkA (e := 2 * Xg7 a + x), wkA,
    Xrn, show Xg7 [x] = x - 48 by simp [Xg7], show [x].length = 1 from rfl, Int.pow_one]
   congr 4
   omega
 have := key c [] rfl
 exact this
theorem Yra (v : List Int) (hb : Xek v) (hn : v.length ≤ 1000000) : ∀ (m i : Nat) (out : List Int), i + 8 * m = v.length → out.length ≤ i → loop (Xfq v) ((i : Int), out) = some (out ++ Xpu m (v.drop i)) := by
 have hm' : maxLen = 9223372036854775807 := rfl
 intro m
 induction m with
 | zero =>
  intro i out hi _
  refine Xce ?_
  unfold Xfq
  simp only
  rw [snA]; simp [Xpu]
 | succ m ih =>
  intro i out hi ho
  have hlen : ((v.drop i).take 8).length = 8 := by rw [List.length_take, List.length_drop]; omega
  have hcb : Xek ((v.drop i).take 8) := fun x hx => hb x (List.mem_of_mem_drop (List.mem_of_mem_take hx))
  have hr := Xi5 hcb
  rw [hlen, show (2 : Int) ^ 8 = 256 by decide] at hr
  refine lgo (y := (((i + 8 : Nat) : Int), out ++ [Xg7 ((v.drop i).take 8)])) ?_ ?_
  ·
   unfold Xfq
   simp only
   rw [syA, Yuc v i out _ rfl hlen hcb hn (by omega), Xab, w8 (by omega) (by omega), Xay (by simp only [List.length_singleton]; omega), wkA]
   rfl
  ·
   rw [ih (i + 8) _ (by omega) (by simp; omega), Xpu, List.drop_drop, List.append_assoc]; rfl
theorem Ycg (l : List Int) (hl : Xek l) (hn : l.length ≤ 400000) : Xk4 (strOfNums l) = some (strOfNums (Xps l)) := by
 have hm' : maxLen = 9223372036854775807 := rfl
 unfold Xk4
 rw [strOfNums_size, Yk1 l (Xka hl), rqA, Xay (by simp only [List.length_singleton]; omega)]
 have key : ∀ (z : Nat) (s : List Int), s.length ≤ 500000 → z < 8 → (s.length + z) % 8 = 0 → loop Xgn s = some (s ++ List.replicate z 48) := by
  intro z
  induction z with
  | zero =>
   intro s hs _ h8
   refine Xce ?_
   unfold Xgn
   rw [Xay (by decide), Xbm (by omega), Xa6 (by simp only [bne_eq_false_iff_eq]; omega)]; simp
  | succ z ih =>
   intro s hs hz h8
   refine lgo (y := s ++ [48]) ?_ ?_
   ·
    unfold Xgn
    rw [Xay (by decide), Xbm (by omega), Xbg (by simp only [bne_iff_ne, ne_eq]; omega), Xay (by simp only [List.length_singleton]; omega)]
   ·
    rw [ih (s ++ [48]) (by simp; omega) (by omega) (by simp; omega), List.append_assoc, List.replicate_succ]; rfl
 have hz : (l ++ [49] ++ List.replicate (8 * (l.length / 8 + 1) - l.length - 1) 48 : List Int).length = 8 * (l.length / 8 + 1) := by simp; omega
 have hvb : Xek (l ++ [49] ++ List.replicate (8 * (l.length / 8 + 1) - l.length - 1) 48) := Xa4 (Xa4 hl (fun x hx => .inr (List.mem_singleton.1 hx))) (Xwh _)
 rw [key (8 * (l.length / 8 + 1) - l.length - 1) (l ++ [49]) (by simp; omega) (by omega) (by simp; omega), Xab]
 have := Yra _ hvb (by omega) (l.length / 8 + 1) 0 [] (by rw [hz]; omega) (by simp)
 rw [List.nil_append, List.drop_zero] at this
 rw [show (0 : Int) = ((0 : Nat) : Int) from rfl, this, Xab]
 unfold Xps
 rw [List.append_assoc, List.singleton_append]
theorem Xjb (l : List Int) : (Xps l).length = l.length / 8 + 1 := Xyj _ _
def Xmw (k : Int) : Bool := k == 1 || (k == 5 || (k == 7 || k == 8))
theorem Xun (k : Int) : Xn8 k = some (Xmw k) := by
 unfold Xn8 Xmw
 simp only [Yaq, Xab]
theorem Xsz (k : Int) : Xj4 k = some (Xmw k) := by
 unfold Xj4 Xmw
 simp only [Yaq, Xab]
theorem Ye3 {k : Int} (h : Xmw k = true) : 1 ≤ k ∧ k ≤ 8 := by
 unfold Xmw at h
 simp only [Bool.or_eq_true, beq_iff_eq] at h
 omega
theorem Xmi (k : Int) (l : List Int) (hk : Xmw k = true) (hl : Xek l) (hn : l.length ≤ 400000) : Xgc k (strOfNums l) = some (strOfNums (k :: Xps l), true) := by
 have := Ye3 hk
 have hp := Xjb l
 unfold Xgc
 rw [Xsz, Xab, hk, Xap, Xxy l hl hn, Xab, Xab, Bool.not_true, Xal, Ycg l hl hn, Xab, w8 (by omega) (by omega), Xay (by simp only [strOfNums_size, List.length_singleton]; omega), Xbp]; rfl
def Xpl (b : Bool) : List Int := if b = true then [49] else [48]
theorem Yfm (b : Bool) : Xek (Xpl b) := by unfold Xpl; split <;> (intro x hx; rw [List.mem_singleton.1 hx]; simp)
theorem Xm0 (b : Bool) : (Xpl b).length = 1 := by unfold Xpl; split <;> rfl
theorem Xom (b : Bool) : Xj2 b = some (strOfNums (Xpl b)) := by cases b <;> rfl
def Ybz (p : Par) : List Int := Xyd 6 p.Qp ++ Xpl p.Large ++ Xpl p.Exact ++ Xpl p.Confined
theorem Xxm (p : Par) : Xek (Ybz p) := Xa4 (Xa4 (Xa4 (Xwn _ _) (Yfm _)) (Yfm _)) (Yfm _)
theorem Xth (p : Par) : (Ybz p).length = 9 := by unfold Ybz; simp only [List.length_append, Xcp, Xm0]
theorem Xti {p : Par} (h : Xj8 p = true) : 0 ≤ p.Qp ∧ p.Qp ≤ 40 := by
 unfold Xj8 at h; rw [Bool.and_eq_true, decide_eq_true_eq] at h; exact h.1
theorem Yih (p : Par) (h : Xj8 p = true) : Xon p = some (strOfNums (Ybz p)) := by
 have := Xti h
 unfold Xon
 rw [show (6 : Int) = ((6 : Nat) : Int) from rfl, Xmk _ 6 (by omega) (by omega) (by omega), Xab, Xom, Xab, Xay (by simp only [strOfNums_size, Xcp, Xm0]; omega), Xom, Xab, Xbp, Xay (by simp only [strOfNums_size, List.length_append, Xcp, Xm0]; omega), Xom, Xab, Xbp, Xay (by simp only [strOfNums_size, List.length_append, Xcp, Xm0]; omega), Xbp]
 rfl
def Yqy : List Int → List Int
 | [] => []
 | x :: r => ueL x.toNat ++ Yqy r
theorem Yqz : ∀ l : List Int, Xek (Yqy l)
 | [] => Xqu
 | x :: r => Xa4 (Xnj _) (Yqz r)
theorem Yq0 : ∀ {l : List Int}, l.all Xeb = true → (Yqy l).length ≤ 39 * l.length
 | [], _ => by simp [Yqy]
 | x :: r, h => by
  rw [List.all_cons, Bool.and_eq_true] at h
  have h1 := Yq0 h.2
  have h2 : 1 ≤ x ∧ x ≤ 8 := by simpa [Xeb] using h.1
  have := Xge x.toNat (by omega)
  rw [Yqy, List.length_append, List.length_cons]
  omega
def Xq9 (l : List Int) : List Int := ueL l.length ++ Yqy l
def Xru (s : Seq) : List Int := ueL s.Level.toNat ++ Xyd 4 s.Bits ++ Xq9 s.Cols ++ Xq9 s.Rows
theorem Ync (l : List Int) : Xek (Xq9 l) := Xa4 (Xnj _) (Yqz _)
theorem Xto (s : Seq) : Xek (Xru s) := Xa4 (Xa4 (Xa4 (Xnj _) (Xwn _ _)) (Ync _)) (Ync _)
theorem Xxk {l : List Int} (h : Xdq l = true) : (Xq9 l).length ≤ 195 := by
 have h1 := Xbc h
 unfold Xdq at h
 rw [Bool.and_eq_true] at h
 have := Yq0 h.2
 have := Xge l.length (by omega)
 unfold Xq9; rw [List.length_append]; omega
theorem Xvw {s : Seq} (h : Xec s = true) : 1 ≤ s.Level ∧ s.Level ≤ 3 := by
 unfold Xec at h
 rw [Bool.and_eq_true, decide_eq_true_eq] at h
 have := h.1
 unfold Xf1 at this
 repeat' split at this
 all_goals omega
theorem Ylh {s : Seq} (h : Xec s = true) : (Xru s).length ≤ 433 := by
 obtain ⟨h1, h2, _⟩ := Xa5 h
 have h3 := Xvw h
 have := Xxk h1
 have := Xxk h2
 have := Xge s.Level.toNat (by omega)
 unfold Xru; simp only [List.length_append, Xcp]; omega
theorem Yoa (l : List Int) (ha : l.all Xeb = true) (h4 : l.length ≤ 4) (f : (ByteArray × Int) → Option (Lp (ByteArray × Int) ByteArray))
  (h : ∀ (i : Nat) (s : List Int) (x : Int), i < l.length → s.length ≤ 1000 → l.getD i 0 = x → f (strOfNums s, (i : Int)) = some (.go (strOfNums (s ++ ueL x.toNat), ((i + 1 : Nat) : Int)))) (h0 : ∀ s, f (s, (l.length : Int)) = some (.done s)) (s : List Int) (hs : s.length ≤ 500) : loop f (strOfNums s, 0) = some (strOfNums (s ++ Yqy l)) := by
 have key : ∀ (r a : List Int) (s : List Int), l = a ++ r → s.length + 39 * r.length ≤ 800 → loop f (strOfNums s, (a.length : Int)) = some (strOfNums (s ++ Yqy r)) := by
  intro r
  induction r with
  | nil => intro a s ha _; rw [List.append_nil] at ha; rw [← ha, Xcf (h0 _), Yqy, List.append_nil]
  | cons x r ih =>
   intro a s hl hsl
   have hlen : a.length < l.length := by rw [hl]; simp
   have hx : l.getD a.length 0 = x := by rw [hl]; exact Xnn a x _ r
   have hxs : 1 ≤ x ∧ x ≤ 8 := by simpa [Xeb] using List.all_eq_true.1 ha x (by rw [hl]; simp)
   have := Xge x.toNat (by omega)
   rw [List.length_cons] at hsl
   have hn := ih (a ++ [x]) (s ++ ueL x.toNat) (by rw [hl]; simp) (by rw [List.length_append]; omega)
   rw [List.length_append, List.length_singleton] at hn
   rw [Xg3 (h a.length s x hlen (by omega) hx), hn, Yqy, List.append_assoc]
 exact key l [] s rfl (by omega)
theorem Xsw (l : List Int) (h : Xdq l = true) : Xj3 l = some (strOfNums (Xq9 l)) := by
 have h1 := Xbc h
 have ha : l.all Xeb = true := by unfold Xdq at h; rw [Bool.and_eq_true] at h; exact h.2
 have := Xge l.length (by omega)
 unfold Xj3
 rw [Xdz _ (by omega), Xab, Yoa l ha h1.2 (Xhs l) (by
  intro i s x hi hs hx
  have hxs : 1 ≤ x ∧ x ≤ 8 := by rw [Xb3 l i hi] at hx; simpa [Xeb, hx] using List.all_eq_true.1 ha _ (List.getElem_mem hi)
  have := Xge x.toNat (by omega)
  unfold Xhs
  simp only [Int.toNat_natCast, hx]
  rw [syA, rqA, show x = ((x.toNat : Nat) : Int) by omega, Xdz _ (by omega), Xab, Xay (by simp only [strOfNums_size]; omega), wkA, Xbp]
  rfl) (by intro s; unfold Xhs; simp only; rw [snA]) _ (by omega), Xab]
 rfl
theorem Xu1 (s : Seq) (h : Xec s = true) : Xl1 s = some (strOfNums (Xru s)) := by
 obtain ⟨h1, h2, h3⟩ := Xa5 h
 have h4 := Xvw h
 have := Xxk h1
 have := Xxk h2
 have := Xge s.Level.toNat (by omega)
 unfold Xl1
 rw [show s.Level = ((s.Level.toNat : Nat) : Int) by omega, Xdz _ (by omega), Xab, show (4 : Int) = ((4 : Nat) : Int) from rfl, Xmk _ 4 (by omega) (by omega) (by omega), Xab, Xay (by simp only [strOfNums_size, Xcp]; omega), Xsw _ h1, Xab, Xbp, Xay (by simp only [strOfNums_size, List.length_append, Xcp]; omega), Xsw _ h2, Xab, Xbp, Xay (by simp only [strOfNums_size, List.length_append, Xcp]; omega), Xbp]
 rfl
def Yov (n : Int) : Nat := if n > 0 then (2 * n - 1).toNat else (-2 * n).toNat
theorem Yhx (n : Int) (h : -500000 ≤ n ∧ n ≤ 500000) : Xog n = some ((Yov n : Int), true) := by
 unfold Xog Yov
 rw [Xai, Xab, Ylf, Xbk h, Yld, wkA (e := 2 * n), wkA, wkA]
 split
 ·
  rw [Int.toNat_of_nonneg (by omega)]
 ·
  rw [Int.toNat_of_nonneg (by omega)]
theorem Yj8 (n : Int) (h : -500000 ≤ n ∧ n ≤ 500000) : Yov n ≤ 1000000 := by unfold Yov; split <;> omega
def seL (n : Int) : List Int := ueL (Yov n)
theorem Xrf (n : Int) (h : -500000 ≤ n ∧ n ≤ 500000) : (seL n).length ≤ 39 := (Xge _ (Yj8 n h)).1
theorem Xnv (n : Int) (h : -500000 ≤ n ∧ n ≤ 500000) : Xj1 n = some (strOfNums (seL n)) := by
 unfold Xj1
 rw [Yhx n h, Xab, Xdz _ (Yj8 n h), Xab]; rfl
def Yhq (x : Int) : Bool := decide (-5000 ≤ x ∧ x ≤ 5000)
theorem Ycz {x : Int} : Yhq x = true ↔ -5000 ≤ x ∧ x ≤ 5000 := by simp [Yhq]
def nz : List Int → Nat
 | [] => 0
 | x :: r => if x = 0 then nz r else nz r + 1
theorem Ytg : ∀ l : List Int, nz l ≤ l.length
 | [] => by simp [nz]
 | x :: r => by rw [nz, List.length_cons]; have := Ytg r; split <;> omega
def Xnr : Nat → List Int → List Int
 | _, [] => []
 | g, x :: r => if x = 0 then Xnr (g + 1) r else ueL g ++ seL x ++ Xnr 0 r
def Xlg (l : List Int) : List Int := ueL (nz l) ++ Xnr 0 l
theorem Yfk : ∀ (l : List Int) (g : Nat), Xek (Xnr g l)
 | [], _ => Xqu
 | x :: r, g => by
  rw [Xnr]
  split
  ·
   exact Yfk r _
  ·
   exact Xa4 (Xa4 (Xnj _) (Xnj _)) (Yfk r _)
theorem Xxr : ∀ (l : List Int) (g : Nat), l.all Yhq = true → g + l.length ≤ 1000 → (Xnr g l).length ≤ 78 * l.length
 | [], _, _, _ => by simp [Xnr]
 | x :: r, g, h, hg => by
  rw [List.all_cons, Bool.and_eq_true, Ycz] at h
  rw [List.length_cons] at hg ⊢
  rw [Xnr]
  split
  ·
   have := Xxr r (g + 1) h.2 (by omega); omega
  ·
   have := Xxr r 0 h.2 (by omega)
   have a := Xge g (by omega)
   have b := Xrf x (by omega)
   simp only [List.length_append]; omega
theorem Xsl (l : List Int) : Xek (Xlg l) := Xa4 (Xnj _) (Yfk _ _)
theorem Xku (l : List Int) (h : l.all Yhq = true) (hl : l.length ≤ 64) : (Xlg l).length ≤ 39 + 78 * l.length := by
 have := Xxr l 0 h (by omega)
 have := Ytg l
 have := Xge (nz l) (by omega)
 unfold Xlg; rw [List.length_append]; omega
theorem Xhv (l : List Int) (h : l.all Yhq = true) (hl : l.length ≤ 64) : Xe0 l = some (strOfNums (Xlg l)) := by
 unfold Xe0
 have key : ∀ (r a : List Int) (n g : Nat) (s : List Int), l = a ++ r → n ≤ a.length → g ≤ a.length → s.length ≤ 78 * a.length → loop (Xfv l) ((n : Int), (g : Int), strOfNums s, (a.length : Int)) = some (((n + nz r : Nat) : Int), strOfNums (s ++ Xnr g r)) := by
  intro r
  induction r with
  | nil =>
   intro a n g s ha _ _ _
   rw [List.append_nil] at ha
   refine Xce ?_
   unfold Xfv
   simp only
   rw [Xas (by rw [ha]; omega), nz, Xnr, List.append_nil]; rfl
  | cons x r ih =>
   intro a n g s ha hn hg hs
   have hlen : a.length < l.length := by rw [ha]; simp
   have hx : l.getD a.length 0 = x := by rw [ha]; exact Xnn a x _ r
   have hxi : -5000 ≤ x ∧ x ≤ 5000 := Ycz.1 (List.all_eq_true.1 h x (by rw [ha]; simp))
   by_cases e : x = 0
   ·
    have hnext := ih (a ++ [x]) n (g + 1) s (by rw [ha]; simp) (by simp; omega) (by simp; omega) (by simp; omega)
    rw [List.length_append, List.length_singleton] at hnext
    rw [nz, Xnr, if_pos e, if_pos e, ← hnext]
    refine Xg3 ?_
    unfold Xfv
    simp only [Int.toNat_natCast, hx]
    rw [syA, rqA, Xbg (by simpa using e), Xab, wkA, wkA]
    rfl
   ·
    have u1 := Xge g (by omega)
    have u2 := Xrf x (by omega)
    have hnext := ih (a ++ [x]) (n + 1) 0 (s ++ ueL g ++ seL x) (by rw [ha]; simp) (by simp; omega) (by omega) (by simp only [List.length_append, List.length_singleton]; omega)
    rw [List.length_append, List.length_singleton] at hnext
    rw [nz, Xnr, if_neg e, if_neg e, show n + (nz r + 1) = n + 1 + nz r by omega, ← List.append_assoc, ← List.append_assoc, ← hnext]
    refine Xg3 ?_
    unfold Xfv
    simp only [Int.toNat_natCast, hx]
    rw [syA, rqA, Xa6 (by simpa using e), Xdz g (by omega), Xab, Xay (by simp only [strOfNums_size]; omega), rqA, Xnv x (by omega), Xab, Xbp, Xay (by simp only [strOfNums_size, List.length_append]; omega), Xbp, Xab, wkA, wkA]
    rfl
 have := key l [] 0 0 [] rfl (by omega) (by omega) (by simp)
 refine (Xei this).trans ?_
 have hz := Ytg l
 have u := Xge (nz l) (by omega)
 have b := Xxr l 0 h (by omega)
 simp only [Nat.zero_add, List.nil_append]
 rw [Xdz _ (by omega), Xab, Xay (by simp only [strOfNums_size]; omega), Xbp]
 rfl
def Ygu (l : List Int) : Bool := decide (l.length = 64) && l.all Yhq
theorem Yjv (p : Int → Bool) (l : List Int) (f : Int → Option (Lp Int (Ou Unit Bool))) (h : ∀ i : Nat, i < l.length → f (i : Int) = sel (!(p (l.getD i 0))) (some (.done (.ret false))) (some (.go ((i + 1 : Nat) : Int)))) (h0 : f (l.length : Int) = some (.done (.out ()))) :
  loop f 0 = some (if l.all p = true then .out () else .ret false) := by
 have key : ∀ (r a : List Int), l = a ++ r → loop f (a.length : Int) = some (if r.all p = true then .out () else .ret false) := by
  intro r
  induction r with
  | nil => intro a ha; rw [List.append_nil] at ha; rw [← ha, Xcf h0]; rfl
  | cons x r ih =>
   intro a ha
   have hlen : a.length < l.length := by rw [ha]; simp
   have hx : l.getD a.length 0 = x := by rw [ha]; exact Xnn a x _ r
   have hs := h a.length hlen
   rw [hx] at hs
   cases e : p x with
   | true =>
    rw [e] at hs
    have := ih (a ++ [x]) (by rw [ha]; simp)
    rw [List.length_append, List.length_singleton] at this
    rw [Xg3 hs, this, List.all_cons, e, Bool.true_and]
   | false => rw [e] at hs; rw [Xcf hs, List.all_cons, e, Bool.false_and]; rfl
 exact key l [] rfl
theorem Yii (l : List Int) : Xe7 l 64 5000 = some (Ygu l) := by
 unfold Xe7 Ygu
 by_cases h : l.length = 64
 ·
  rw [Xa6 (by simp only [bne_eq_false_iff_eq]; omega), Yjv Yhq l (Xe8 l 64 5000) (by
   intro i hi
   unfold Xe8
   rw [syA, rqA, wkA (e := 0 - 5000), Xai, Xab, wkA, Int.toNat_natCast]
   rfl) (by unfold Xe8; rw [snA]), Xab, decide_eq_true h, Bool.true_and]
  cases l.all Yhq <;> rfl
 ·
  rw [Xbg (by simp only [bne_iff_ne, ne_eq]; omega), decide_eq_false h, Bool.false_and]
theorem Xnp (l : List Int) (n lo hi : Int) (hl : l.length ≤ 9223372036854775806) : Xd7 l n lo hi = some (l.all (fun x => decide (lo ≤ x ∧ x ≤ hi)) && ((l.length : Int) == n)) := by
 unfold Xd7
 rw [Yjv (fun x => decide (lo ≤ x ∧ x ≤ hi)) l (Xkl l lo hi) (by
   intro i hi
   unfold Xkl
   rw [syA, rqA, Xaj, Xab, wkA, Int.toNat_natCast]
   rfl) (by unfold Xkl; rw [snA]), Xab]
 cases l.all (fun x => decide (lo ≤ x ∧ x ≤ hi)) <;> rfl
theorem Xp4 (l : List Int) (hl : l.length ≤ 9223372036854775806) : Xe3 l = some (Ygu l) := by
 unfold Xe3 Ygu
 rw [Xnp l _ _ _ hl, Xab]
 show some (l.all Yhq && ((l.length : Int) == 64)) = _
 have : ((l.length : Int) == 64) = decide (l.length = 64) := by rw [Bool.eq_iff_iff]; simp only [beq_iff_eq, decide_eq_true_eq]; omega
 rw [this, Bool.and_comm]
theorem Xjv {l : List Int} (h : Ygu l = true) : l.length = 64 ∧ l.all Yhq = true := by
 unfold Ygu at h; rw [Bool.and_eq_true, decide_eq_true_eq] at h; exact h
def Yl0 (l : List Int) (c : Xfc) : List Int := if (c.Large || c.Exact) = true then Xlg l else Xlg (l.take 16) ++ Xlg ((l.drop 16).take 16) ++ Xlg ((l.drop 32).take 16) ++ Xlg (l.drop 48)
theorem Xi8 {l : List Int} (h : l.all Yhq = true) (n : Nat) : (l.take n).all Yhq = true := List.all_eq_true.2 fun x hx => List.all_eq_true.1 h x (List.mem_of_mem_take hx)
theorem Xi7 {l : List Int} (h : l.all Yhq = true) (n : Nat) : (l.drop n).all Yhq = true := List.all_eq_true.2 fun x hx => List.all_eq_true.1 h x (List.mem_of_mem_drop hx)
theorem Yp8 (l : List Int) (c : Xfc) : Xek (Yl0 l c) := by
 unfold Yl0
 split
 ·
  exact Xsl l
 ·
  exact Xa4 (Xa4 (Xa4 (Xsl _) (Xsl _)) (Xsl _)) (Xsl _)
theorem Ycy {l : List Int} {c : Xfc} (h : Ygu l = true) : (Yl0 l c).length ≤ 5148 := by
 obtain ⟨h1, h2⟩ := Xjv h
 unfold Yl0
 split
 ·
  have := Xku l h2 (by omega); omega
 ·
  have a := Xku (l.take 16) (Xi8 h2 _) (by rw [List.length_take]; omega)
  have b := Xku ((l.drop 16).take 16) (Xi8 (Xi7 h2 _) _) (by rw [List.length_take, List.length_drop]; omega)
  have c := Xku ((l.drop 32).take 16) (Xi8 (Xi7 h2 _) _) (by rw [List.length_take, List.length_drop]; omega)
  have d := Xku (l.drop 48) (Xi7 h2 _) (by rw [List.length_drop]; omega)
  rw [List.length_take] at a
  rw [List.length_take, List.length_drop] at b c
  rw [List.length_drop] at d
  simp only [List.length_append]; omega
theorem Xu5 (l : List Int) (c : Xfc) (h : Ygu l = true) : Xl3 l c = some (strOfNums (Yl0 l c)) := by
 obtain ⟨h1, h2⟩ := Xjv h
 unfold Xl3 Yl0
 rw [Yaq, Xab]
 by_cases e : (c.Large || c.Exact) = true
 ·
  rw [Xbg e, if_pos e, Xhv l h2 (by omega), Xab]
 ·
  rw [Xa6 (by simpa using e), if_neg e]
  have a := Xku (l.take 16) (Xi8 h2 _) (by rw [List.length_take]; omega)
  have b := Xku ((l.drop 16).take 16) (Xi8 (Xi7 h2 _) _) (by rw [List.length_take, List.length_drop]; omega)
  have c := Xku ((l.drop 32).take 16) (Xi8 (Xi7 h2 _) _) (by rw [List.length_take, List.length_drop]; omega)
  have d := Xku (l.drop 48) (Xi7 h2 _) (by rw [List.length_drop]; omega)
  have s1 := Xhv (l.take 16) (Xi8 h2 _) (by rw [List.length_take]; omega)
  have s2 := Xhv ((l.drop 16).take 16) (Xi8 (Xi7 h2 _) _) (by rw [List.length_take, List.length_drop]; omega)
  have s3 := Xhv ((l.drop 32).take 16) (Xi8 (Xi7 h2 _) _) (by rw [List.length_take, List.length_drop]; omega)
  have s4 := Xhv (l.drop 48) (Xi7 h2 _) (by rw [List.length_drop]; omega)
  rw [List.length_take] at a
  rw [List.length_take, List.length_drop] at b c
  rw [List.length_drop] at d
  rw [show ((16 : Int).toNat - (0 : Int).toNat) = 16 from rfl, show (0 : Int).toNat = 0 from rfl, List.drop_zero, show ((32 : Int).toNat - (16 : Int).toNat) = 16 from rfl, show (16 : Int).toNat = 16 from rfl, show ((48 : Int).toNat - (32 : Int).toNat) = 16 from rfl, show (32 : Int).toNat = 32 from rfl, show (48 : Int).toNat = 48 from rfl, Int.toNat_natCast, Ywz]
  rw [rqA, s1, Xab, rqA, s2, Xab, Xay (by simp only [strOfNums_size]; omega), rqA, s3, Xab, Xbp, Xay (by simp only [strOfNums_size, List.length_append]; omega), rqA, s4, Xab, Xbp, Xay (by simp only [strOfNums_size, List.length_append]; omega), Xbp]
def Xgf (c : Xfc) : Bool := decide (0 ≤ c.Qp ∧ c.Qp ≤ 40) && !(c.Large && c.Exact)
theorem Xe5 (c : Xfc) : Xlu c = some (Xgf c) := by
 unfold Xlu Xgf
 rw [Xai, Xab, Ylg, Xdx, Xab]
 cases c.Large <;> cases c.Exact <;> rfl
theorem Xc8 (c : Xfc) : Xg9 c = some (Xgf c) := by
 unfold Xg9 Xgf
 rw [Xaj, Xab, Ylg, Xdx, Xab]
 cases c.Large <;> cases c.Exact <;> rfl
def Xm7 (s : Xao) : Bool :=
 if s.Kind = 0 then decide (s.Mode = 0 ∧ s.Dx = 0 ∧ s.Dy = 0 ∧ s.Levels.length = 0)
 else if s.Kind = 1 then decide (s.Mode = 0) && (decide (-16 ≤ s.Dx ∧ s.Dx ≤ 16) && (decide (-16 ≤ s.Dy ∧ s.Dy ≤ 16) && Ygu s.Levels))
 else if s.Kind = 2 then decide (0 ≤ s.Mode ∧ s.Mode ≤ 3) && (decide (s.Dx = 0) && (decide (s.Dy = 0) && Ygu s.Levels))
 else false
theorem Yjy (a b : Int) : (a == b) = decide (a = b) := by rw [Bool.eq_iff_iff]; simp
theorem Xjd (s : Xao) : Xgb s = some (Xm7 s) := by
 unfold Xgb Xm7
 simp only [Xai, Yii, Xab, Xdx, Yjy]
 simp only [Yld]
 by_cases h0 : s.Kind = 0
 ·
  rw [if_pos h0, if_pos h0]; congr 1; rw [Bool.eq_iff_iff]; simp
 ·
  rw [if_neg h0, if_neg h0]
  by_cases h1 : s.Kind = 1
  ·
   rw [if_pos h1, if_pos h1]
  ·
   rw [if_neg h1, if_neg h1]
   by_cases h2 : s.Kind = 2
   ·
    rw [decide_eq_true h2, Bool.true_and, if_pos h2]
   ·
    rw [decide_eq_false h2, Bool.false_and, if_neg h2]
theorem Xem (s : Xao) (hl : s.Levels.length ≤ 9223372036854775806) : Xf7 s = some (Xm7 s) := by
 unfold Xf7 Xm7
 simp only [Xaj, Xp4 _ hl, Xab, Xdx, Yjy]
 simp only [Yld]
 by_cases h0 : s.Kind = 0
 ·
  rw [if_pos h0, if_pos h0]; congr 1; rw [Bool.eq_iff_iff]; simp
 ·
  rw [if_neg h0, if_neg h0]
  by_cases h1 : s.Kind = 1
  ·
   rw [if_pos h1, if_pos h1]
  ·
   rw [if_neg h1, if_neg h1]
   by_cases h2 : s.Kind = 2
   ·
    rw [decide_eq_true h2, Bool.true_and, if_pos h2]
   ·
    rw [decide_eq_false h2, Bool.false_and, if_neg h2]
def Xhy (s : Xao) (c : Xfc) : Bool := !c.Key || s.Kind == 2
def sqL (s : Xao) (c : Xfc) : List Int :=
 (if c.Key = true then [] else ueL s.Kind.toNat) ++
 (if s.Kind = 1 then seL s.Dx ++ seL s.Dy ++ Yl0 s.Levels c else if s.Kind = 2 then ueL s.Mode.toNat ++ Yl0 s.Levels c else [])
theorem Xqr {s : Xao} (h : Xm7 s = true) : 0 ≤ s.Kind ∧ s.Kind ≤ 2 := by
 unfold Xm7 at h
 repeat' split at h
 all_goals first | omega | simp at h
theorem Xrj {s : Xao} (h : Xm7 s = true) (h1 : s.Kind = 1) : (-16 ≤ s.Dx ∧ s.Dx ≤ 16) ∧ (-16 ≤ s.Dy ∧ s.Dy ≤ 16) ∧ Ygu s.Levels = true := by
 unfold Xm7 at h
 rw [if_neg (by omega), if_pos h1] at h
 simp only [Bool.and_eq_true, decide_eq_true_eq] at h
 exact ⟨h.2.1, h.2.2.1, h.2.2.2⟩
theorem Xtq {s : Xao} (h : Xm7 s = true) (h1 : s.Kind = 2) : (0 ≤ s.Mode ∧ s.Mode ≤ 3) ∧ Ygu s.Levels = true := by
 unfold Xm7 at h
 rw [if_neg (by omega), if_neg (by omega), if_pos h1] at h
 simp only [Bool.and_eq_true, decide_eq_true_eq] at h
 exact ⟨h.1, h.2.2.2⟩
theorem Yt2 (s : Xao) (c : Xfc) : Xek (sqL s c) := by
 unfold sqL
 refine Xa4 ?_ ?_
 ·
  split
  ·
   exact Xqu
  ·
   exact Xnj _
 ·
  split
  ·
   exact Xa4 (Xa4 (Xnj _) (Xnj _)) (Yp8 _ _)
  ·
   split
   ·
    exact Xa4 (Xnj _) (Yp8 _ _)
   ·
    exact Xqu
theorem Yt3 {s : Xao} {c : Xfc} (h : Xm7 s = true) : (sqL s c).length ≤ 5265 := by
 have hk := Xqr h
 have u := Xge s.Kind.toNat (by omega)
 have e1 : (if c.Key = true then [] else ueL s.Kind.toNat).length ≤ 39 := by split; simp; exact u.1
 unfold sqL
 rw [List.length_append]
 by_cases h1 : s.Kind = 1
 ·
  obtain ⟨a, b, d⟩ := Xrj h h1
  have x := Xrf s.Dx (by omega)
  have y := Xrf s.Dy (by omega)
  have z := Ycy (c := c) d
  rw [if_pos h1]; simp only [List.length_append]; omega
 ·
  by_cases h2 : s.Kind = 2
  ·
   obtain ⟨a, d⟩ := Xtq h h2
   have x := Xge s.Mode.toNat (by omega)
   have z := Ycy (c := c) d
   rw [if_neg h1, if_pos h2]; simp only [List.length_append]; omega
  ·
   rw [if_neg h1, if_neg h2]; simp only [List.length_nil]; omega
theorem Yim (s : Xao) (c : Xfc) (h : Xm7 s = true) : Xos s c = some (strOfNums (sqL s c)) := by
 have hk := Xqr h
 have u := Xge s.Kind.toNat (by omega)
 unfold Xos
 have e1 : (sel (!c.Key) (bnd (Xdn s.Kind) fun q2 => some q2) (some ⟨#[]⟩)) = some (strOfNums (if c.Key = true then [] else ueL s.Kind.toNat)) := by
  rw [show s.Kind = ((s.Kind.toNat : Nat) : Int) by omega, Xdz _ (by omega), Xab, Int.toNat_natCast]
  cases c.Key <;> rfl
 rw [e1, Xab]
 have e2 : (if c.Key = true then [] else ueL s.Kind.toNat).length ≤ 39 := by split; simp; exact u.1
 unfold sqL
 generalize (if c.Key = true then [] else ueL s.Kind.toNat) = k at e2 ⊢
 by_cases h1 : s.Kind = 1
 ·
  obtain ⟨a, b, d⟩ := Xrj h h1
  have x := Xrf s.Dx (by omega)
  have y := Xrf s.Dy (by omega)
  have z := Ycy (c := c) d
  rw [if_pos h1, Xbg (by simpa using h1), Xnv _ (by omega), Xab, Xay (by simp only [strOfNums_size]; omega), Xnv _ (by omega), Xab, Xbp, Xay (by simp only [strOfNums_size, List.length_append]; omega), Xu5 _ c d, Xab, Xbp, Xay (by simp only [strOfNums_size, List.length_append]; omega), Xbp]
  simp only [List.append_assoc]
 ·
  rw [if_neg h1, Xa6 (by simpa using h1)]
  by_cases h2 : s.Kind = 2
  ·
   obtain ⟨a, d⟩ := Xtq h h2
   have x := Xge s.Mode.toNat (by omega)
   have z := Ycy (c := c) d
   rw [if_pos h2, Xbg (by simpa using h2), show s.Mode = ((s.Mode.toNat : Nat) : Int) by omega, Xdz _ (by omega), Xab, Xay (by simp only [strOfNums_size]; omega), Xu5 _ c d, Xab, Xbp, Xay (by simp only [strOfNums_size, List.length_append]; omega), Xbp, Int.toNat_natCast]
   simp only [List.append_assoc]
  ·
   rw [if_neg h2, Xa6 (by simpa using h2), List.append_nil]
def Xj7 : List Xao → Xfc → List Int
 | [], _ => []
 | s :: r, c => sqL s c ++ Xj7 r c
def Ygm (l : List Xao) (c : Xfc) : Bool := l.all fun s => Xm7 s && (Xgf c && Xhy s c)
theorem Xz1 : ∀ (l : List Xao) (c : Xfc), Xek (Xj7 l c)
 | [], _ => Xqu
 | s :: r, c => Xa4 (Yt2 s c) (Xz1 r c)
theorem Xz2 : ∀ {l : List Xao} {c : Xfc}, Ygm l c = true → (Xj7 l c).length ≤ 5265 * l.length
 | [], _, _ => by simp [Xj7]
 | s :: r, c, h => by
  unfold Ygm at h
  rw [List.all_cons, Bool.and_eq_true, Bool.and_eq_true] at h
  have h1 := Yt3 (c := c) h.1.1
  have h2 := Xz2 (l := r) (c := c) h.2
  rw [Xj7, List.length_append, List.length_cons]; omega
theorem Xoy (b : ByteArray) (i : Int) : 0 ≤ Xlf b i ∧ Xlf b i ≤ 255 := by
 unfold Xlf
 split
 ·
  rename_i h
  have := (b[i.toNat]'h).toNat_lt
  omega
 ·
  omega
theorem Xbr {p : Pic} (h : Xcj p = true) : (1 ≤ p.Wide ∧ p.Wide ≤ 256) ∧ (1 ≤ p.High ∧ p.High ≤ 256) ∧ (p.Dots.size : Int) = p.Wide * p.High := by
 unfold Xcj at h
 simp only [Bool.and_eq_true, decide_eq_true_eq, beq_iff_eq] at h
 exact ⟨h.1, h.2.1, h.2.2⟩
theorem Xtj {p : Pic} (h1 : 1 ≤ p.Wide ∧ p.Wide ≤ 256) (h2 : 1 ≤ p.High ∧ p.High ≤ 256) (h3 : (p.Dots.size : Int) = p.Wide * p.High) : Xcj p = true := by
 unfold Xcj
 simp only [Bool.and_eq_true, decide_eq_true_eq, beq_iff_eq]
 exact ⟨h1, h2, h3⟩
def Yj5 (p : Pic) (x y : Int) : Int := Xlf p.Dots (Xde y 0 (p.High - 1) * p.Wide + Xde x 0 (p.Wide - 1))
theorem Xqw (p : Pic) (x y : Int) : 0 ≤ Yj5 p x y ∧ Yj5 p x y ≤ 255 := Xoy _ _
theorem Ymj {p : Pic} (ok : Xcj p = true) (x y : Int) : 0 ≤ Xde y 0 (p.High - 1) * p.Wide + Xde x 0 (p.Wide - 1) ∧ Xde y 0 (p.High - 1) * p.Wide + Xde x 0 (p.Wide - 1) < p.Dots.size ∧ 0 ≤ Xde y 0 (p.High - 1) * p.Wide ∧ Xde y 0 (p.High - 1) * p.Wide ≤ 65536 := by
 obtain ⟨h1, h2, h3⟩ := Xbr ok
 have b1 := Xny (n := y) (a := 0) (b := p.High - 1) (by omega)
 have b2 := Xny (n := x) (a := 0) (b := p.Wide - 1) (by omega)
 have m1 := Int.mul_nonneg b1.1 (show 0 ≤ p.Wide by omega)
 have m2 := Int.mul_le_mul_of_nonneg_right b1.2 (show 0 ≤ p.Wide by omega)
 have m3 : (p.High - 1) * p.Wide = p.Wide * p.High - p.Wide := by rw [Int.sub_mul, Int.one_mul, Int.mul_comm]
 have m4 := (Xd6 h1 h2).2
 omega
theorem Yem {p : Pic} (ok : Xcj p = true) (x y : Int) : Xeu p x y = some (Yj5 p x y) := by
 obtain ⟨h1, h2, h3⟩ := Xbr ok
 unfold Xeu Yj5
 rw [Xkd, Xab, Xkd, Xab, wkA (e := p.High - 1), wkA (e := p.Wide - 1)]
 obtain ⟨p1, p2, p3, p4⟩ := Ymj ok x y
 have b2 := Xny (n := x) (a := 0) (b := p.Wide - 1) (by omega)
 have br := Xoy p.Dots (Xde y 0 (p.High - 1) * p.Wide + Xde x 0 (p.Wide - 1))
 rw [wkA (e := Xde y 0 (p.High - 1) * p.Wide), wkA (e := Xde y 0 (p.High - 1) * p.Wide + Xde x 0 (p.Wide - 1)), Xay ⟨p1, p2⟩, wkA]
theorem Xky {p : Pic} (ok : Xcj p = true) (x y : Int) : Xh9 p x y = some (Yj5 p x y) := by
 obtain ⟨h1, h2, h3⟩ := Xbr ok
 unfold Xh9 Yj5
 rw [Xga, Xab, ok, Bool.not_true, Xal, Xfj, Xab, Xfj, Xab, wkA (e := p.High - 1), wkA (e := p.Wide - 1)]
 obtain ⟨p1, p2, p3, p4⟩ := Ymj ok x y
 have b2 := Xny (n := x) (a := 0) (b := p.Wide - 1) (by omega)
 have br := Xoy p.Dots (Xde y 0 (p.High - 1) * p.Wide + Xde x 0 (p.Wide - 1))
 rw [wkA (e := Xde y 0 (p.High - 1) * p.Wide), wkA (e := Xde y 0 (p.High - 1) * p.Wide + Xde x 0 (p.Wide - 1)), Xay ⟨p1, p2⟩, wkA]
def Yq7 (p : Pic) (x y : Int) (i : Nat) : Int := Yj5 p (x + ((i % 8 : Nat) : Int)) (y + ((i / 8 : Nat) : Int))
def Yly (p : Pic) (x y : Int) (n : Nat) : List Int := (List.range n).map (Yq7 p x y)
theorem Ymd (p : Pic) (x y : Int) (n : Nat) : Yly p x y (n + 1) = Yly p x y n ++ [Yq7 p x y n] := by simp [Yly, List.range_succ]
theorem Xvc (p : Pic) (x y : Int) (n : Nat) : (Yly p x y n).length = n := by simp [Yly]
def Yuy (x : Int) : Bool := decide (0 ≤ x ∧ x ≤ 255)
def Xn2 (l : List Int) : Bool := decide (l.length = 64) && l.all Yuy
theorem Xr9 {l : List Int} (h : Xn2 l = true) : l.length = 64 ∧ ∀ i : Nat, i < 64 → 0 ≤ l.getD i 0 ∧ l.getD i 0 ≤ 255 := by
 simp only [Xn2, Bool.and_eq_true, decide_eq_true_eq] at h
 refine ⟨h.1, fun i hi => ?_⟩
 have := List.all_eq_true.1 h.2 (l.getD i 0) (by rw [Xb3 l i (by omega)]; exact List.getElem_mem _)
 simpa [Yuy] using this
theorem Ydg (p : Pic) (x y : Int) : Xn2 (Yly p x y 64) = true := by
 simp only [Xn2, Xvc, decide_true, Bool.true_and, List.all_eq_true]
 intro z hz
 obtain ⟨i, _, rfl⟩ := List.mem_map.1 hz
 simp only [Yuy, decide_eq_true_eq]
 exact Xqw _ _ _
theorem Yfp {p : Pic} (ok : Xcj p = true) (x y : Int) (hx : -1000 ≤ x ∧ x ≤ 1000) (hy : -1000 ≤ y ∧ y ≤ 1000) : Xsm p x y = some (Yly p x y 64) := by
 have hm : maxLen = 9223372036854775807 := rfl
 unfold Xsm
 rw [Xga, Xab, ok, Xap, Xai, Xab, syA, Xai, Xab, Xab, decide_eq_true (by omega), Bool.not_true, Xal]
 have key : ∀ i : Nat, i ≤ 64 → loop (Xkv p x y) ((i : Int), Yly p x y i) = some (Yly p x y 64) := by
  refine Xg2 _ ?_ ?_
  ·
   exact Xce (by unfold Xkv; rw [Xas (by simp)])
  ·
   intro i hi ih
   refine lgo (y := (((i + 1 : Nat) : Int), Yly p x y (i + 1))) ?_ ih
   unfold Xkv
   simp only
   rw [syA, rqA, rqA, Xbm (by omega), Xbl (by omega), wkA (e := (i : Int) / 8), wkA (e := x + (i : Int) % 8), wkA (e := y + (i : Int) / 8), Xky ok, Xab, Xay (by rw [Xvc]; simp only [List.length_singleton]; omega), wkA (e := (i : Int) + 1)]
   have e2 : Yj5 p (x + (i : Int) % 8) (y + (i : Int) / 8) = Yq7 p x y i := by unfold Yq7; congr 1
   rw [e2, ← Ymd]
   rfl
 have := key 0 (by omega)
 exact (Xei this).trans rfl
theorem Xw9 {p : Pic} (ok : Xcj p = true) (x y : Int) (hx : -1000 ≤ x ∧ x ≤ 1000) (hy : -1000 ≤ y ∧ y ≤ 1000) : Xgs p x y = some (Yly p x y 64) := by
 have hm : maxLen = 9223372036854775807 := rfl
 unfold Xgs
 rw [rqA]
 have key : ∀ r : Nat, r ≤ 8 → loop (Xes p x y) ((r : Int), Yly p x y (8 * r)) = some (Yly p x y 64) := by
  refine Xg2 _ ?_ ?_
  ·
   exact Xce (by unfold Xes; rw [Xas (by simp)])
  ·
   intro r hr ih
   refine lgo (y := (((r + 1 : Nat) : Int), Yly p x y (8 * (r + 1)))) ?_ ih
   unfold Xes
   simp only
   have inner : ∀ c : Nat, c ≤ 8 → loop (Xet p x y ((r : Int), Yly p x y (8 * r))) ((c : Int), Yly p x y (8 * r + c)) = some (Yly p x y (8 * (r + 1))) := by
    refine Xg2 _ ?_ ?_
    ·
     exact Xce (by unfold Xet; rw [Xas (by simp)]; rfl)
    ·
     intro c hc ih2
     refine lgo (y := (((c + 1 : Nat) : Int), Yly p x y (8 * r + (c + 1)))) ?_ ih2
     unfold Xet
     simp only
     rw [syA, wkA (e := x + (c : Int)), wkA (e := y + (r : Int)), Yem ok, Xab, Xay (by rw [Xvc]; simp only [List.length_singleton]; omega), wkA (e := (c : Int) + 1)]
     have e2 : Yj5 p (x + (c : Int)) (y + (r : Int)) = Yq7 p x y (8 * r + c) := by
      unfold Yq7
      rw [show (8 * r + c) % 8 = c by omega, show (8 * r + c) / 8 = r by omega]
     rw [e2, ← Ymd]
     rfl
   have i0 := inner 0 (by omega)
   rw [syA]
   refine (Xei i0).trans ?_
   rw [wkA (e := (r : Int) + 1)]
   rfl
 have := key 0 (by omega)
 exact (Xei this).trans rfl
theorem Yek (l : List Int) (hl : l.length ≤ 9223372036854775806) : Xd7 l 64 0 255 = some (Xn2 l) := by
 rw [Xnp l _ _ _ hl]
 have : ((l.length : Int) == 64) = decide (l.length = 64) := by rw [Bool.eq_iff_iff]; simp only [beq_iff_eq, decide_eq_true_eq]; omega
 rw [this, Bool.and_comm]
 rfl
def Xmm (p : Pic) (x y : Int) : Bool := decide (0 ≤ x ∧ x ≤ p.Wide - 8 ∧ 0 ≤ y ∧ y ≤ p.High - 8)
theorem Ybj {p : Pic} (ok : Xcj p = true) (x y : Int) (hx : x.tmod 8 = 0) (hy : y.tmod 8 = 0) (h : Xmm p x y = true) : Xcz p x y = some true := by
 obtain ⟨k1, k2, k3⟩ := Xbr ok
 unfold Xmm at h
 rw [decide_eq_true_eq] at h
 unfold Xcz
 rw [rqA, hx, rqA, hy, wkA (e := p.Wide - 8), wkA (e := p.High - 8), Xaj, Xab, Xaj, Xab, decide_eq_true (by omega), decide_eq_true (by omega)]
 rfl
theorem Xtr (s : ByteArray) : strOfNums (Xbu s) = s := by
 apply ByteArray.ext
 apply Array.ext'
 simp only [strOfNums, Xbu, List.map_map]
 conv => rhs; rw [← List.map_id s.data.toList]
 refine List.map_congr_left fun c _ => ?_
 simp
theorem Xz3 {a b : ByteArray} : a.toList = b.toList ↔ a = b := by
 constructor
 ·
  intro h
  rw [ByteArray.toList_eq, ByteArray.toList_eq] at h
  exact ByteArray.ext (Array.ext' h)
 ·
  intro h; rw [h]
def inB (B : Int) (l : List Int) : Prop := ∀ x ∈ l, -B ≤ x ∧ x ≤ B
theorem Ykr {B C : Int} {l : List Int} (h : inB B l) (hc : B ≤ C) : inB C l := fun x hx => by have := h x hx; omega
theorem Xy9 {B : Int} {a b : List Int} (ha : inB B a) (hb : inB B b) : inB B (a ++ b) := fun x hx => (List.mem_append.1 hx).elim (ha x) (hb x)
theorem Yoy (B : Int) : inB B [] := fun x hx => by simp at hx
theorem Ysy {B x : Int} (h : -B ≤ x ∧ x ≤ B) : inB B [x] := fun y hy => by rw [List.mem_singleton.1 hy]; exact h
theorem Yo0 {B : Int} {l : List Int} (h : inB B l) (i : Nat) {y : Int} (hy : -B ≤ y ∧ y ≤ B) : inB B (l.set i y) := fun x hx => by
 rcases List.mem_or_eq_of_mem_set hx with hx | hx
 ·
  exact h x hx
 ·
  rw [hx]; exact hy
theorem Yoz (n : Nat) {B : Int} (h : 0 ≤ B) : inB B (List.replicate n 0) := fun x hx => by rw [List.eq_of_mem_replicate hx]; omega
theorem Xsh {B : Int} {l : List Int} (h : inB B l) {i : Nat} (hi : i < l.length) : -B ≤ l.getD i 0 ∧ l.getD i 0 ≤ B := h _ (by rw [Xb3 l i hi]; exact List.getElem_mem _)
theorem Yp1 {B : Int} {l : List Int} (h : inB B l) (n : Nat) : inB B (l.take n) := fun x hx => h x (List.mem_of_mem_take hx)
theorem Yp0 {B : Int} {l : List Int} (h : inB B l) (n : Nat) : inB B (l.drop n) := fun x hx => h x (List.mem_of_mem_drop hx)
theorem Xfb {S : Type} {f : Int × S → Option (Lp (Int × S) S)} (n : Nat) (I : Nat → S → Prop) (hs : ∀ (i : Nat) (l : S), i < n → I i l → ∃ l', f ((i : Int), l) = some (.go (((i + 1 : Nat) : Int), l')) ∧ I (i + 1) l') (he : ∀ l, f ((n : Int), l) = some (.done l)) (l0 : S) (h0 : I 0 l0) : ∃ o, loop f (0, l0) = some o ∧ I n o := by
 have key : ∀ i : Nat, i ≤ n → ∀ l, I i l → ∃ o, loop f ((i : Int), l) = some o ∧ I n o := by
  refine Xg2 _ ?_ ?_
  ·
   intro l h; exact ⟨l, Xce (he l), h⟩
  ·
   intro i hi ih l h
   obtain ⟨l', e, h'⟩ := hs i l hi h
   obtain ⟨o, e2, h2⟩ := ih l' h'
   exact ⟨o, lgo e e2, h2⟩
 exact key 0 (by omega) l0 h0
theorem Xox {S : Type} {f : S × Int → Option (Lp (S × Int) S)} (n : Nat) (I : Nat → S → Prop) (hs : ∀ (i : Nat) (l : S), i < n → I i l → ∃ l', f (l, (i : Int)) = some (.go (l', ((i + 1 : Nat) : Int))) ∧ I (i + 1) l') (he : ∀ l, f (l, (n : Int)) = some (.done l)) (l0 : S) (h0 : I 0 l0) : ∃ o, loop f (l0, 0) = some o ∧ I n o := by
 have key : ∀ i : Nat, i ≤ n → ∀ l, I i l → ∃ o, loop f (l, (i : Int)) = some o ∧ I n o := by
  refine Xg2 _ ?_ ?_
  ·
   intro l h; exact ⟨l, Xce (he l), h⟩
  ·
   intro i hi ih l h
   obtain ⟨l', e, h'⟩ := hs i l hi h
   obtain ⟨o, e2, h2⟩ := ih l' h'
   exact ⟨o, lgo e e2, h2⟩
 exact key 0 (by omega) l0 h0
theorem Xf5 (l : List Int) (i j : Nat) (y : Int) (hi : i < l.length) : (l.set i y).getD j 0 = if i = j then y else l.getD j 0 := by
 rw [List.getD_eq_getElem?_getD, List.getElem?_set, List.getD_eq_getElem?_getD]
 by_cases h : i = j
 ·
  subst h; rw [if_pos rfl, if_pos rfl, if_pos hi]; rfl
 ·
  rw [if_neg h, if_neg h]
theorem Xtf {f : Int × List Int → Option (Lp (Int × List Int) (List Int))} (n : Nat) (P Q : Int → Prop) (hs : ∀ (i : Nat) (l : List Int), i < n → l.length = n → P (l.getD i 0) → ∃ y, f ((i : Int), l) = some (.go (((i + 1 : Nat) : Int), l.set i y)) ∧ Q y) (he : ∀ l, f ((n : Int), l) = some (.done l)) (l0 : List Int) (h0 : l0.length = n) (hb : ∀ x ∈ l0, P x) : ∃ o, loop f (0, l0) = some o ∧ o.length = n ∧ ∀ x ∈ o, Q x := by
 obtain ⟨o, e, h1, h2, _⟩ := Xfb (f := f) n (fun i l => l.length = n ∧ (∀ j, j < i → Q (l.getD j 0)) ∧ ∀ j, i ≤ j → j < n → P (l.getD j 0)) (by
  intro i l hi ⟨g1, g2, g3⟩
  obtain ⟨y, e, hy⟩ := hs i l hi g1 (g3 i (Nat.le_refl _) hi)
  refine ⟨_, e, by rw [List.length_set]; exact g1, fun j hj => ?_, fun j hj hj2 => ?_⟩
  ·
   rw [Xf5 l i j y (by omega)]
   by_cases h : i = j
   ·
    rw [if_pos h]; exact hy
   ·
    rw [if_neg h]; exact g2 j (by omega)
  ·
   rw [Xf5 l i j y (by omega), if_neg (by omega)]; exact g3 j (by omega) hj2) he l0 ⟨h0, fun j hj => by omega, fun j _ hj => hb _ (by rw [Xb3 l0 j (by omega)]; exact List.getElem_mem _)⟩
 refine ⟨o, e, h1, fun x hx => ?_⟩
 obtain ⟨j, hj, rfl⟩ := List.getElem_of_mem hx
 have := h2 j (by omega)
 rwa [Xb3 o j hj] at this
theorem Xju (l : List Int) (n B : Int) (hn : (l.length : Int) = n) (hn2 : n ≤ 1000000) (hB : 0 ≤ B ∧ B ≤ 100000000) (h : inB B l) : Xe7 l n B = some true := by
 unfold Xe7
 rw [Xa6 (by simp only [bne_eq_false_iff_eq]; exact hn), Xqg l.length (f := Xe8 l n B) (by
  intro i hi
  have := Xsh h hi
  unfold Xe8
  rw [syA, rqA, wkA (e := 0 - B), Xai, Xab, Int.toNat_natCast, decide_eq_true (by omega), Bool.not_true, Xal, wkA]
  rfl) (by unfold Xe8; rw [snA]), Xab]
def Xxs (n i : Int) (v17 : Int × Int) : Option (Lp (Int × Int) (Ou Unit Int)) :=
 sel (decide (v17.2 ≤ (Xaa .i64 ((Xaa .i64 (2 * n)) - 2)))) (
 bnd (it (Xsr n i v17) 20 (v17.1, 0)) fun o47 => match o47 with
 | .out v43 => (
 some (.go (v43, Xaa .i64 (v17.2 + 1))))
 | .ret r => some (.done (.ret r))) (
 some (.done (.out ())))
theorem Ynz {n i : Int} {v : Int × Int} {x : Lp (Int × Int) (Ou Unit Int)} (h : Xxs n i v = some x) : Xoi n i v = some x := by
 unfold Xxs at h
 unfold Xoi
 rcases Xrg h with ⟨hb, h⟩ | ⟨hb, h⟩
 ·
  rw [hb, Xap]
  obtain ⟨a, h1, h2⟩ := Xb4 h
  rw [Xil.2 ⟨20, h1⟩, Xab]
  exact h2
 ·
  rw [hb, Xal]; exact h
theorem Yu8 {V O : Type} {f g : V → Option (Lp V O)} (hf : ∀ v y, f v = some y → g v = some y) {o : O} : ∀ (k : Nat) (v : V), it f k v = some o → it g k v = some o
 | 0, v, h => by cases h
 | k + 1, v, h => by
  rw [it] at h ⊢
  cases e : f v with
  | none => rw [e] at h; cases h
  | some s =>
   rw [e] at h
   rw [hf v s e]
   cases s with
   | go y => exact Yu8 hf k y h
   | done o' => exact h
def Xhg (n i : Int) : Int := match it (Xxs n i) 20 (0, 0) with | some (.ret q) => q | _ => -1
theorem Yvl : ∀ i : Fin 16, (0 ≤ Xhg 4 (i.val : Int) ∧ Xhg 4 (i.val : Int) < 16) := by decide +kernel
theorem Yvm : ∀ i : Fin 64, (0 ≤ Xhg 8 (i.val : Int) ∧ Xhg 8 (i.val : Int) < 64) := by decide +kernel
theorem Xo4 (n : Int) (hn : n = 4 ∨ n = 8) (i : Nat) (hi : (i : Int) < n * n) : 0 ≤ Xhg n i ∧ Xhg n i < n * n := by
 rcases hn with rfl | rfl
 ·
  exact Yvl ⟨i, by omega⟩
 ·
  exact Yvm ⟨i, by omega⟩
theorem Xpm (n : Int) (hn : n = 4 ∨ n = 8) (i : Nat) (hi : (i : Int) < n * n) : Xv2 n i = some (Xhg n i) := by
 have hp := Xo4 n hn i hi
 unfold Xv2
 have hw : Xaa .i64 (n * n) = n * n := by rcases hn with rfl | rfl <;> exact wkA
 have hc : (sel (n != 4) (sel (n != 8) (some true) (sel (decide ((i : Int) < 0)) (some true) (some (decide ((i : Int) ≥ (Xaa .i64 (n * n))))))) (sel (decide ((i : Int) < 0)) (some true) (some (decide ((i : Int) ≥ (Xaa .i64 (n * n))))))) = some false := by
  rw [hw, Xas (show ¬ (i : Int) < 0 by omega), decide_eq_false (show ¬ (i : Int) ≥ n * n by omega)]
  rcases hn with rfl | rfl <;> rfl
 rw [hc, Xab, Xal]
 unfold Xhg at hp ⊢
 cases e : it (Xxs n i) 20 (0, 0) with
 | none => rw [e] at hp; simp only at hp; omega
 | some s =>
  rw [e] at hp
  have h := Yu8 (fun v y => Ynz (n := n) (i := i)) 20 _ e
  rw [Xil.2 ⟨20, h⟩, Xab]
  cases s with
  | out u => simp only at hp; omega
  | ret q => rfl
theorem Xfo (n : Int) (hn : n = 4 ∨ n = 8) (l : List Int) (B : Int) (hB : 0 ≤ B) (hl : (l.length : Int) = n * n) (hb : inB B l) : ∃ o, Xe6 n l = some (o, true) ∧ o.length = l.length ∧ inB B o := by
 have hm : maxLen = 9223372036854775807 := rfl
 have hw : Xaa .i64 (n * n) = n * n := by rcases hn with rfl | rfl <;> exact wkA
 have hl2 : l.length ≤ 64 := by rcases hn with rfl | rfl <;> omega
 unfold Xe6
 have hc : (sel (n != 4) (sel (n != 8) (some true) (some ((l.length : Int) != (Xaa .i64 (n * n))))) (some ((l.length : Int) != (Xaa .i64 (n * n))))) = some false := by
  rw [hw, hl, bne_self_eq_false]
  rcases hn with rfl | rfl <;> rfl
 rw [hc, Xab, Xal, rqA, Int.toNat_natCast]
 obtain ⟨o, e, h1, h2⟩ := Xfb (f := Xc2 n l) l.length (fun i s => s.length = l.length ∧ inB B s) (by
  intro i s hi ⟨g1, g2⟩
  have hp := Xo4 n hn i (by omega)
  have ha := Xsh hb hi
  unfold Xc2
  simp only
  rw [hw, syA, Xpm n hn i (by omega), Xab, rqA, rqA, rqA, wkA, Int.toNat_natCast]
  exact ⟨_, rfl, by rw [List.length_set]; exact g1, Yo0 g2 _ ha⟩) (by intro s; unfold Xc2; simp only; rw [hw, snA]) (List.replicate l.length 0) ⟨List.length_replicate, Yoz _ hB⟩
 exact ⟨o, (Xei e).trans rfl, h1, h2⟩
def Xiv (u v : Int) : Int := match it Xmf 10 (1, (IntKind.wrap .i64 (BitVec.ofInt (IntKind.bits .i64) u &&& BitVec.ofInt (IntKind.bits .i64) v).toNat)) with | some q => q | none => 7
theorem Yty : ∀ u v : Fin 8, (-1 ≤ Xiv (u.val : Int) (v.val : Int) ∧ Xiv (u.val : Int) (v.val : Int) ≤ 1) := by decide +kernel
theorem Xuz (u v : Nat) (hu : u < 8) (hv : v < 8) : ∃ s, Xlx u v = some s ∧ -1 ≤ s ∧ s ≤ 1 := by
 have h := Yty ⟨u, hu⟩ ⟨v, hv⟩
 simp only at h
 unfold Xlx
 rw [Xai, Xab, decide_eq_true (by omega), Xap, Xai, Xab, decide_eq_true (by omega), Bool.not_true, Xab, Xal]
 unfold Xiv at h
 cases e : it Xmf 10 (1, (IntKind.wrap .i64 (BitVec.ofInt (IntKind.bits .i64) (u : Int) &&& BitVec.ofInt (IntKind.bits .i64) (v : Int)).toNat)) with
 | none => rw [e] at h; simp only at h; omega
 | some q =>
  rw [e] at h
  rw [Xil.2 ⟨10, e⟩, Xab]
  exact ⟨q, rfl, h⟩
def Xrk (qp : Int) : Int := if qp.tmod 6 = 0 then 10 else if qp.tmod 6 = 1 then 11 else if qp.tmod 6 = 2 then 13 else if qp.tmod 6 = 3 then 14 else if qp.tmod 6 = 4 then 16 else 18
def Xou (qp : Int) : Int := match it (Xmg qp) 10 (Xrk qp, 0) with | some q => q | none => 0
theorem Yt5 : ∀ q : Fin 41, (10 ≤ Xou (q.val : Int) ∧ Xou (q.val : Int) ≤ 1152) := by decide +kernel
theorem Yh7 (qp : Int) (h0 : 0 ≤ qp ∧ qp ≤ 40) : ∃ s, Xlz qp = some s ∧ 10 ≤ s ∧ s ≤ 1152 := by
 have h := Yt5 ⟨qp.toNat, by omega⟩
 simp only at h
 rw [show ((qp.toNat : Nat) : Int) = qp by omega] at h
 unfold Xlz
 rw [Xai, Xab, decide_eq_true (by omega), Bool.not_true, Xal, rqA]
 have hb : (sel ((qp.tmod 6) == 0) (some (10 : Int)) (sel ((qp.tmod 6) == 1) (some 11) (sel ((qp.tmod 6) == 2) (some 13) (sel ((qp.tmod 6) == 3) (some 14) (sel ((qp.tmod 6) == 4) (some 16) (some 18)))))) = some (Xrk qp) := by
  unfold Xrk
  simp only [Yle, beq_iff_eq]
  repeat' split
  all_goals rfl
 rw [hb, Xab]
 unfold Xou at h
 cases e : it (Xmg qp) 10 (Xrk qp, 0) with
 | none => rw [e] at h; simp only at h; omega
 | some q =>
  rw [e] at h
  rw [Xil.2 ⟨10, e⟩, Xab]
  exact ⟨q, rfl, h⟩
theorem Xux (p : Int) (h : 0 ≤ p ∧ p ≤ 15) : ∃ k, Xri p = some k ∧ 0 ≤ k ∧ k ≤ 2 := by
 unfold Xri
 rw [Xai, Xab, decide_eq_true h, Bool.not_true, Xal, rqA, rqA, rqA, rqA, Xdx, Xab]
 cases ((Xaa .i64 (p.tdiv 4)).tmod 2 == 0 && (p.tmod 4).tmod 2 == 0) with
 | true => exact ⟨0, rfl, by omega, by omega⟩
 | false =>
  rw [Xal, Xdx, Xab]
  cases ((Xaa .i64 (p.tdiv 4)).tmod 2 == 1 && (p.tmod 4).tmod 2 == 1) with
  | true => exact ⟨1, rfl, by omega, by omega⟩
  | false => exact ⟨2, rfl, by omega, by omega⟩
theorem Xb2 (k a b c : Int) : ∃ x, Xca k a b c = some x ∧ (x = a ∨ x = b ∨ x = c) := by
 unfold Xca
 cases (k == 0) with
 | true => exact ⟨a, rfl, Or.inl rfl⟩
 | false =>
  cases (k == 1) with
  | true => exact ⟨b, rfl, Or.inr (Or.inl rfl)⟩
  | false => exact ⟨c, rfl, Or.inr (Or.inr rfl)⟩
theorem Yrq (qp : Int) (h0 : 0 ≤ qp ∧ qp ≤ 40) (x : Int) (hx : 0 ≤ x ∧ x ≤ 29) : ∃ o, loop (Xfn qp) (x, 0) = some o ∧ 0 ≤ o ∧ o ≤ 1856 := by
 obtain ⟨o, e, h1, h2⟩ := Xox (f := Xfn qp) (qp / 6).toNat (fun i s => 0 ≤ s ∧ s ≤ 29 * 2 ^ i) (by
  intro i s hi ⟨g1, g2⟩
  have h6 : (2 : Int) ^ i ≤ 64 := by
   have : i ≤ 6 := by omega
   obtain rfl | rfl | rfl | rfl | rfl | rfl | rfl : i = 0 ∨ i = 1 ∨ i = 2 ∨ i = 3 ∨ i = 4 ∨ i = 5 ∨ i = 6 := by omega
   all_goals decide
  have h7 : (2 : Int) ^ (i + 1) = 2 * 2 ^ i := by rw [Int.pow_succ, Int.mul_comm]
  unfold Xfn
  simp only
  rw [rqA, Xbl (by omega), wkA (e := qp / 6), syA, wkA (e := 2 * s), wkA (e := (i : Int) + 1)]
  exact ⟨_, rfl, by omega, by rw [h7]; omega⟩) (by intro s; unfold Xfn; simp only; rw [rqA, Xbl (by omega), wkA (e := qp / 6), snA]) x ⟨hx.1, by simp; omega⟩
 have h6 : (2 : Int) ^ (qp / 6).toNat ≤ 64 := by
  generalize hi : (qp / 6).toNat = i
  obtain rfl | rfl | rfl | rfl | rfl | rfl | rfl : i = 0 ∨ i = 1 ∨ i = 2 ∨ i = 3 ∨ i = 4 ∨ i = 5 ∨ i = 6 := by omega
  all_goals decide
 exact ⟨o, e, h1, by omega⟩
theorem Yfy (qp p : Int) (h0 : 0 ≤ qp ∧ qp ≤ 40) (hp : 0 ≤ p ∧ p ≤ 15) : ∃ s, Xm3 qp p = some s ∧ 0 ≤ s ∧ s ≤ 1856 := by
 unfold Xm3
 obtain ⟨k, e, k0, k1⟩ := Xux p hp
 rw [e, Xab, Xai, Xab, decide_eq_true h0, Xap, decide_eq_false (by omega), Xab, Xal, rqA]
 obtain ⟨a1, e1, b1⟩ := Xb2 k 10 16 13
 obtain ⟨a2, e2, b2⟩ := Xb2 k 11 18 14
 obtain ⟨a3, e3, b3⟩ := Xb2 k 13 20 16
 obtain ⟨a4, e4, b4⟩ := Xb2 k 14 23 18
 obtain ⟨a5, e5, b5⟩ := Xb2 k 16 25 20
 obtain ⟨a6, e6, b6⟩ := Xb2 k 18 29 23
 rw [e1, e2, e3, e4, e5, e6]
 simp only [Xab, Ytx]
 obtain ⟨o, eo, o1, o2⟩ := Yrq qp h0 (sel (qp.tmod 6 == 0) a1 (sel (qp.tmod 6 == 1) a2 (sel (qp.tmod 6 == 2) a3 (sel (qp.tmod 6 == 3) a4 (sel (qp.tmod 6 == 4) a5 (sel (qp.tmod 6 == 5) a6 0)))))) (by
  simp only [Yle]
  repeat' split
  all_goals omega)
 exact ⟨o, (Xei eo).trans rfl, o1, o2⟩
theorem Yqh {a s B : Int} (ha : -B ≤ a ∧ a ≤ B) (hs : -1 ≤ s ∧ s ≤ 1) : (-B ≤ a * s ∧ a * s ≤ B) ∧ (-B ≤ s * a ∧ s * a ≤ B) := by
 obtain rfl | rfl | rfl : s = -1 ∨ s = 0 ∨ s = 1 := by omega
 all_goals omega
theorem Yik (p : List Int) (B : Int) (hB : 0 ≤ B ∧ B ≤ 1000000000000) (hl : p.length = 64) (hb : inB B p) (i v : Nat) (hi : i < 8) (hv : v < 8) : ∃ o, Xoq p i v = some o ∧ -(8 * B) ≤ o ∧ o ≤ 8 * B := by
 unfold Xoq
 obtain ⟨o, e, h1, h2⟩ := Xox (f := Xe9 p i v) 8 (fun k s => -(B * k) ≤ s ∧ s ≤ B * k) (by
  intro k s hk ⟨g1, g2⟩
  obtain ⟨q, eq, q0, q1⟩ := Xuz v k hv hk
  have ha := Xsh hb (i := 8 * i + k) (by omega)
  have hm := (Yqh ha ⟨q0, q1⟩).1
  have hk8 : B * k ≤ B * 8 := Int.mul_le_mul_of_nonneg_left (by omega) hB.1
  have hk0 : B * ((k + 1 : Nat) : Int) = B * k + B := by rw [Int.natCast_add, Int.mul_add]; simp
  unfold Xe9
  simp only
  rw [syA, wkA (e := 8 * (i : Int)), wkA (e := 8 * (i : Int) + (k : Int)), rqA, eq, Xab, show (8 * (i : Int) + (k : Int)).toNat = 8 * i + k by omega, wkA (e := p.getD (8 * i + k) 0 * q), wkA (e := s + p.getD (8 * i + k) 0 * q), wkA (e := (k : Int) + 1)]
  exact ⟨_, rfl, by rw [hk0]; omega, by rw [hk0]; omega⟩) (by intro s; unfold Xe9; rw [Xas (by simp)]) 0 (by simp)
 exact ⟨o, (Xei e).trans rfl, by omega, by omega⟩
theorem Yge (p : List Int) (B : Int) (hB : 0 ≤ B ∧ B ≤ 10000000000) (hl : p.length = 64) (hb : inB B p) : ∃ o, Xm5 p = some o ∧ o.length = 64 ∧ inB (64 * B) o := by
 have hm : maxLen = 9223372036854775807 := rfl
 unfold Xm5
 obtain ⟨h, eh, hh1, hh2⟩ := Xfb (f := Xds p) 8 (fun i s => s.length = 8 * i ∧ inB (8 * B) s) (by
  intro i s hi ⟨g1, g2⟩
  obtain ⟨t, et, t1, t2⟩ := Xfb (f := Xdt p ((i : Int), s)) 8 (fun v s => s.length = 8 * i + v ∧ inB (8 * B) s) (by
   intro v s hv ⟨g1, g2⟩
   obtain ⟨r, er, r1, r2⟩ := Yik p B ⟨hB.1, by omega⟩ hl hb i v hi hv
   unfold Xdt
   simp only
   rw [syA, er, Xab, Xay (by simp only [List.length_singleton]; omega), wkA (e := (v : Int) + 1)]
   exact ⟨_, rfl, by simp; omega, Xy9 g2 (Ysy ⟨by omega, r2⟩)⟩) (by intro s; unfold Xdt; rw [Xas (by simp)]) s ⟨by omega, g2⟩
  unfold Xds
  simp only
  rw [syA, et, Xab, wkA (e := (i : Int) + 1)]
  exact ⟨_, rfl, by omega, t2⟩) (by intro s; unfold Xds; rw [Xas (by simp)]) [] ⟨rfl, Yoy _⟩
 rw [eh, Xab]
 obtain ⟨o, eo, o1, o2⟩ := Xfb (f := Xc3 h) 8 (fun i s => s.length = 8 * i ∧ inB (64 * B) s) (by
  intro i s hi ⟨g1, g2⟩
  obtain ⟨t, et, t1, t2⟩ := Xfb (f := Xc4 h ((i : Int), s)) 8 (fun v s => s.length = 8 * i + v ∧ inB (64 * B) s) (by
   intro v r hv ⟨g1, g2⟩
   obtain ⟨a, ea, a1, a2⟩ := Xox (f := Xc5 h ((i : Int), s) ((v : Int), r)) 8 (fun k s => -(8 * B * k) ≤ s ∧ s ≤ 8 * B * k) (by
    intro k c hk ⟨g1, g2⟩
    obtain ⟨q, eq, q0, q1⟩ := Xuz i k hi hk
    have ha := Xsh hh2 (i := 8 * k + v) (by omega)
    have hm := (Yqh ha ⟨q0, q1⟩).2
    have hk8 : 8 * B * k ≤ 8 * B * 8 := Int.mul_le_mul_of_nonneg_left (by omega) (by omega)
    have hk0 : 8 * B * ((k + 1 : Nat) : Int) = 8 * B * k + 8 * B := by rw [Int.natCast_add, Int.mul_add]; simp
    unfold Xc5
    simp only
    rw [syA, eq, Xab, wkA (e := 8 * (k : Int)), wkA (e := 8 * (k : Int) + (v : Int)), rqA, rqA, show (8 * (k : Int) + (v : Int)).toNat = 8 * k + v by omega, wkA (e := q * h.getD (8 * k + v) 0), wkA (e := c + q * h.getD (8 * k + v) 0), wkA (e := (k : Int) + 1)]
    exact ⟨_, rfl, by rw [hk0]; omega, by rw [hk0]; omega⟩) (by intro s; unfold Xc5; rw [Xas (by simp)]) 0 (by simp)
   unfold Xc4
   simp only
   rw [syA, ea, Xab, Xay (by simp only [List.length_singleton]; omega), wkA (e := (v : Int) + 1)]
   exact ⟨_, rfl, by simp; omega, Xy9 g2 (Ysy ⟨by omega, by omega⟩)⟩) (by intro s; unfold Xc4; rw [Xas (by simp)]) s ⟨by omega, g2⟩
  unfold Xc3
  simp only
  rw [syA, et, Xab, wkA (e := (i : Int) + 1)]
  exact ⟨_, rfl, by omega, t2⟩) (by intro s; unfold Xc3; rw [Xas (by simp)]) [] ⟨rfl, Yoy _⟩
 exact ⟨o, (Xei eo).trans rfl, by omega, o2⟩
theorem Xk8 (a b : Int) (ha : -1000000000000 ≤ a ∧ a ≤ 1000000000000) (hb : b = 2 ∨ b = 64) : ∃ d, Xd5 a b = some d ∧ b * d ≤ a ∧ a < b * d + b := by
 unfold Xd5
 have h1 : b * (a.tdiv b) + a.tmod b = a := Int.mul_tdiv_add_tmod a b
 have h2 : -b < a.tmod b ∧ a.tmod b < b := by
  have hb0 : 0 < b := by omega
  refine ⟨?_, Int.tmod_lt_of_pos a hb0⟩
  have := Int.lt_tmod_of_pos a hb0
  omega
 rw [rqA, rqA]
 generalize a.tmod b = m at h1 h2
 generalize a.tdiv b = t at h1 h2
 have ht : -1000000000001 ≤ t ∧ t ≤ 1000000000001 := by rcases hb with rfl | rfl <;> omega
 by_cases h : m < 0
 ·
  rw [Xbk h, Xab, wkA (e := t), wkA (e := t - 1)]
  refine ⟨_, rfl, ?_⟩
  rcases hb with rfl | rfl <;> omega
 ·
  rw [Xas h, Xab, wkA (e := t)]
  refine ⟨_, rfl, ?_⟩
  rcases hb with rfl | rfl <;> omega
theorem Xzk (p : List Int) (hl : p.length = 64) (hb : inB 5760000 p) : ∃ o, Xiw p = some o ∧ o.length = 64 ∧ inB 10000000 o := by
 unfold Xiw
 obtain ⟨o, e, h1, h2⟩ := Yge p 5760000 (by omega) hl hb
 rw [Xju p 64 10000000 (by omega) (by omega) (by omega) (Ykr hb (by omega)), Xab, Bool.not_true, Xal, e, Xab]
 obtain ⟨r, er, r1, r2⟩ := Xtf (f := Xia) 64 (fun x => -368640000 ≤ x ∧ x ≤ 368640000) (fun x => -10000000 ≤ x ∧ x ≤ 10000000) (by
  intro i l hi hll hx
  obtain ⟨d, ed, d1, d2⟩ := Xk8 (l.getD i 0 + 32) 64 (by omega) (Or.inr rfl)
  unfold Xia
  simp only [Int.toNat_natCast]
  rw [syA, rqA, rqA, wkA (e := l.getD i 0 + 32), ed, Xab, rqA, rqA, wkA (e := (i : Int) + 1)]
  exact ⟨d, rfl, by omega, by omega⟩) (by intro s; unfold Xia; rw [Xas (by simp)]) o h1 (fun x hx => by have := h2 x hx; omega)
 exact ⟨r, (Xei er).trans rfl, r1, r2⟩
theorem Xs1 (p : List Int) (B : Int) (hB : 0 ≤ B) (hl : p.length = 16) (hb : inB B p) : ∃ o, Xj5 p = some o ∧ o.length = 16 ∧ inB B o := by
 unfold Xj5
 rw [rqA]
 obtain ⟨o, e, h1, h2⟩ := Xfb (f := Xeg p) 16 (fun i s => s.length = 16 ∧ inB B s) (by
  intro i s hi ⟨g1, g2⟩
  have ha := Xsh hb (i := i) (by omega)
  unfold Xeg
  simp only
  rw [syA, rqA, rqA, rqA, Xbm (by omega), Xbl (by omega), wkA (e := (i : Int) / 4), wkA (e := (i : Int) % 4 * 4), wkA (e := (i : Int) % 4 * 4 + (i : Int) / 4), rqA, rqA, wkA (e := (i : Int) + 1), Int.toNat_natCast]
  exact ⟨_, rfl, by rw [List.length_set]; exact g1, Yo0 g2 _ ha⟩) (by intro s; unfold Xeg; rw [Xas (by simp)]) (List.replicate (16 : Int).toNat 0) ⟨by simp, Yoz _ hB⟩
 exact ⟨o, (Xei e).trans rfl, h1, h2⟩
theorem Yu7 {B a b c d : Int} (h1 : -B ≤ a ∧ a ≤ B) (h2 : -B ≤ b ∧ b ≤ B) (h3 : -B ≤ c ∧ c ≤ B) (h4 : -B ≤ d ∧ d ≤ B) : inB B [a, b, c, d] := fun x hx => by
 simp only [List.mem_cons, List.not_mem_nil, or_false] at hx
 rcases hx with rfl | rfl | rfl | rfl
 ·
  exact h1
 ·
  exact h2
 ·
  exact h3
 ·
  exact h4
theorem Xr0 (p : List Int) (B : Int) (hB : 0 ≤ B ∧ B ≤ 1000000000) (hl : p.length = 16) (hb : inB B p) : ∃ o, Xif p = some o ∧ o.length = 16 ∧ inB (4 * B + 2) o := by
 have hm : maxLen = 9223372036854775807 := rfl
 unfold Xif
 obtain ⟨o, e, h1, h2⟩ := Xfb (f := Xdr p) 4 (fun i s => s.length = 4 * i ∧ inB (4 * B + 2) s) (by
  intro i s hi ⟨g1, g2⟩
  have a0 := Xsh hb (i := 4 * i) (by omega)
  have a1 := Xsh hb (i := 4 * i + 1) (by omega)
  have a2 := Xsh hb (i := 4 * i + 2) (by omega)
  have a3 := Xsh hb (i := 4 * i + 3) (by omega)
  obtain ⟨f, ef, f1, f2⟩ := Xk8 (p.getD (4 * i + 1) 0) 2 (by omega) (Or.inl rfl)
  obtain ⟨g, eg, g1', g2'⟩ := Xk8 (p.getD (4 * i + 3) 0) 2 (by omega) (Or.inl rfl)
  unfold Xdr
  simp only
  rw [syA, wkA (e := 4 * (i : Int)), wkA (e := 4 * (i : Int) + 1), wkA (e := 4 * (i : Int) + 2), wkA (e := 4 * (i : Int) + 3), rqA, rqA, rqA, rqA, show (4 * (i : Int)).toNat = 4 * i by omega, show (4 * (i : Int) + 1).toNat = 4 * i + 1 by omega, show (4 * (i : Int) + 2).toNat = 4 * i + 2 by omega, show (4 * (i : Int) + 3).toNat = 4 * i + 3 by omega, ef, Xab, eg, Xab]
  generalize p.getD (4 * i) 0 = a at *
  generalize p.getD (4 * i + 1) 0 = b at *
  generalize p.getD (4 * i + 2) 0 = c at *
  generalize p.getD (4 * i + 3) 0 = d at *
  rw [wkA (e := (i : Int) + 1), wkA (e := a + c), wkA (e := a - c), wkA (e := b + g), wkA (e := f - d), wkA (e := a + c + (b + g)), wkA (e := a - c + (f - d)), wkA (e := a - c - (f - d)), wkA (e := a + c - (b + g)), Xay (by simp only [List.length_cons, List.length_nil]; omega)]
  exact ⟨_, rfl, by simp; omega, Xy9 g2 (Yu7 (by omega) (by omega) (by omega) (by omega))⟩) (by intro s; unfold Xdr; rw [Xas (by simp)]) [] ⟨rfl, Yoy _⟩
 exact ⟨o, (Xei e).trans rfl, h1, h2⟩
theorem Xrw (p : List Int) (hl : p.length = 16) (hb : inB 10000000 p) : ∃ o, Xk0 p = some o ∧ o.length = 16 ∧ inB 10000000 o := by
 unfold Xk0
 obtain ⟨a, ea, a1, a2⟩ := Xr0 p 10000000 (by omega) hl hb
 obtain ⟨b, eb, b1, b2⟩ := Xs1 a _ (by omega) a1 a2
 obtain ⟨c, ec, c1, c2⟩ := Xr0 b _ (by omega) b1 b2
 obtain ⟨d, ed, d1, d2⟩ := Xs1 c _ (by omega) c1 c2
 rw [Xju p 16 10000000 (by omega) (by omega) (by omega) hb, Xab, Bool.not_true, Xal, ea, Xab, eb, Xab, ec, Xab, ed, Xab]
 obtain ⟨r, er, r1, r2⟩ := Xtf (f := Xjc) 16 (fun x => -160000010 ≤ x ∧ x ≤ 160000010) (fun x => -10000000 ≤ x ∧ x ≤ 10000000) (by
  intro i l hi hll hx
  obtain ⟨d, ed, d1, d2⟩ := Xk8 (l.getD i 0 + 32) 64 (by omega) (Or.inr rfl)
  unfold Xjc
  simp only [Int.toNat_natCast]
  rw [syA, rqA, rqA, wkA (e := l.getD i 0 + 32), ed, Xab, rqA, rqA, wkA (e := (i : Int) + 1)]
  exact ⟨d, rfl, by omega, by omega⟩) (by intro s; unfold Xjc; rw [Xas (by simp)]) d d1 (fun x hx => by have := d2 x hx; omega)
 exact ⟨r, (Xei er).trans rfl, r1, r2⟩
theorem Xqk (l qp p : Int) (hl : -5000 ≤ l ∧ l ≤ 5000) (h0 : 0 ≤ qp ∧ qp ≤ 40) (hp : 0 ≤ p ∧ p ≤ 15) : ∃ o, Xiy l qp p = some o ∧ -10000000 ≤ o ∧ o ≤ 10000000 := by
 unfold Xiy
 obtain ⟨s, es, q0, q1⟩ := Yfy qp p h0 hp
 rw [Xai, Xab, decide_eq_true hl, Bool.not_true, Xal, es, Xab]
 have m1 : l * s ≤ 5000 * s := Int.mul_le_mul_of_nonneg_right hl.2 q0
 have m2 : -5000 * s ≤ l * s := Int.mul_le_mul_of_nonneg_right hl.1 q0
 rw [wkA]
 exact ⟨_, rfl, by omega, by omega⟩
theorem Xqj (l qp : Int) (hl : -5000 ≤ l ∧ l ≤ 5000) (h0 : 0 ≤ qp ∧ qp ≤ 40) : ∃ o, Xix l qp = some o ∧ -5760000 ≤ o ∧ o ≤ 5760000 := by
 unfold Xix
 obtain ⟨s, es, q0, q1⟩ := Yh7 qp h0
 rw [Xai, Xab, decide_eq_true hl, Bool.not_true, Xal, es, Xab]
 have m1 : l * s ≤ 5000 * s := Int.mul_le_mul_of_nonneg_right hl.2 (by omega)
 have m2 : -5000 * s ≤ l * s := Int.mul_le_mul_of_nonneg_right hl.1 (by omega)
 rw [wkA]
 exact ⟨_, rfl, by omega, by omega⟩
theorem Ys8 {l : List Int} (h : Ygu l = true) : l.length = 64 ∧ inB 5000 l := by
 obtain ⟨h1, h2⟩ := Xjv h
 refine ⟨h1, fun x hx => ?_⟩
 have := List.all_eq_true.1 h2 x hx
 unfold Yhq at this
 rwa [decide_eq_true_eq] at this
theorem Ymh {c : Xfc} (h : Xgf c = true) : 0 ≤ c.Qp ∧ c.Qp ≤ 40 := by
 unfold Xgf at h
 rw [Bool.and_eq_true, decide_eq_true_eq] at h
 exact h.1
theorem Xo5 (p : List Int) (c : Xfc) (hc : Xgf c = true) (hp : Ygu p = true) : ∃ o, Xfm p c = some (o, true) ∧ o.length = 64 ∧ inB 10000000 o := by
 have hm : maxLen = 9223372036854775807 := rfl
 have hq := Ymh hc
 obtain ⟨hl, hb⟩ := Ys8 hp
 unfold Xfm
 rw [Xe5, Xab, hc, Xap, Xju p 64 5000 (by omega) (by omega) (by omega) hb, Xab, Bool.not_true, Xab, Xal]
 cases hE : c.Exact with
 | true =>
  obtain ⟨o, e, h1, h2⟩ := Xfo 8 (Or.inr rfl) p 5000 (by omega) (by omega) hb
  rw [Xap, e, Xab]
  exact ⟨o, rfl, by omega, Ykr h2 (by omega)⟩
 | false =>
  rw [Xal]
  cases hL : c.Large with
  | true =>
   obtain ⟨w, ew, w1, w2⟩ := Xfo 8 (Or.inr rfl) p 5000 (by omega) (by omega) hb
   obtain ⟨l, el, l1, l2⟩ := Xtf (f := Xbx c) 64 (fun x => -5000 ≤ x ∧ x ≤ 5000) (fun x => -5760000 ≤ x ∧ x ≤ 5760000) (by
    intro i l hi hll hx
    obtain ⟨d, ed, d1, d2⟩ := Xqj (l.getD i 0) c.Qp hx hq
    unfold Xbx
    simp only [Int.toNat_natCast]
    rw [syA, rqA, rqA, ed, Xab, rqA, rqA, wkA (e := (i : Int) + 1)]
    exact ⟨d, rfl, d1, d2⟩) (by intro s; unfold Xbx; rw [Xas (by simp)]) w (by omega) w2
   obtain ⟨o, e, h1, h2⟩ := Xzk l l1 l2
   rw [Xap, ew, Xab, el, Xab, e, Xab]
   exact ⟨o, rfl, h1, h2⟩
  | false =>
   obtain ⟨o, eo, o1, o2⟩ := Xfb (f := Xc1 p c) 4 (fun k s => s.length = 64 ∧ inB 10000000 s) (by
    intro k s hk ⟨g1, g2⟩
    have hcut : ((p.drop (16 * k)).take 16).length = 16 := by rw [List.length_take, List.length_drop]; omega
    obtain ⟨a, ea, a1, a2⟩ := Xfo 4 (Or.inl rfl) ((p.drop (16 * k)).take 16) 5000 (by omega) (by omega) (Yp1 (Yp0 hb _) _)
    obtain ⟨l, el, l1, l2⟩ := Xtf (f := Xbs c) 16 (fun x => -5000 ≤ x ∧ x ≤ 5000) (fun x => -10000000 ≤ x ∧ x ≤ 10000000) (by
     intro i l hi hll hx
     obtain ⟨d, ed, d1, d2⟩ := Xqk (l.getD i 0) c.Qp i hx hq (by omega)
     unfold Xbs
     simp only [Int.toNat_natCast]
     rw [syA, rqA, rqA, ed, Xab, rqA, rqA, wkA (e := (i : Int) + 1)]
     exact ⟨d, rfl, d1, d2⟩) (by intro s; unfold Xbs; rw [Xas (by simp)]) a (by omega) a2
    obtain ⟨b, eb, b1, b2⟩ := Xrw l l1 l2
    obtain ⟨r, er, r1, r2⟩ := Xfb (f := Xbz ((k : Int), s) b) 16 (fun i s => s.length = 64 ∧ inB 10000000 s) (by
     intro i s hi ⟨g1, g2⟩
     have ha := Xsh b2 (i := i) (by omega)
     unfold Xbz
     simp only
     rw [syA, rqA, rqA, rqA, rqA, rqA, rqA, Xbl (a := (k : Int)) (by omega), Xbl (a := (i : Int)) (by omega), Xbm (a := (k : Int)) (by omega), Xbm (a := (i : Int)) (by omega), wkA (e := (k : Int) / 2), wkA (e := (k : Int) / 2 * 4), wkA (e := (i : Int) / 4), wkA (e := (k : Int) / 2 * 4 + (i : Int) / 4), wkA (e := 8 * ((k : Int) / 2 * 4 + (i : Int) / 4)), wkA (e := (k : Int) % 2 * 4), wkA (e := 8 * ((k : Int) / 2 * 4 + (i : Int) / 4) + (k : Int) % 2 * 4), wkA (e := 8 * ((k : Int) / 2 * 4 + (i : Int) / 4) + (k : Int) % 2 * 4 + (i : Int) % 4), rqA, rqA, wkA (e := (i : Int) + 1), Int.toNat_natCast]
     exact ⟨_, rfl, by rw [List.length_set]; exact g1, Yo0 g2 _ ha⟩) (by intro s; unfold Xbz; rw [Xas (by simp)]) s ⟨g1, g2⟩
    unfold Xc1
    simp only
    rw [syA, wkA (e := 16 * (k : Int)), wkA (e := 16 * (k : Int) + 16), rqA, show (16 * (k : Int)).toNat = 16 * k by omega, show (16 * (k : Int) + 16).toNat - 16 * k = 16 by omega, ea, Xab, el, Xab, eb, Xab, er, Xab, wkA (e := (k : Int) + 1)]
    exact ⟨_, rfl, r1, r2⟩) (by intro s; unfold Xc1; rw [Xas (by simp)]) (List.replicate (64 : Int).toNat 0) ⟨by simp, Yoz _ (by omega)⟩
   rw [Xal, rqA, eo, Xab]
   exact ⟨o, rfl, o1, o2⟩
theorem Xr1 (l : List Int) (h : Xn2 l = true) : Xs2 l = some true := by
 obtain ⟨h1, h2⟩ := Xr9 h
 unfold Xs2
 rw [Xa6 (by simp only [bne_eq_false_iff_eq]; omega), Xqg l.length (f := Xk9 l) (by
  intro i hi
  have := h2 i (by omega)
  unfold Xk9
  rw [syA, rqA, Xai, Xab, Int.toNat_natCast, decide_eq_true this, Bool.not_true, Xal, wkA]
  rfl) (by unfold Xk9; rw [snA]), Xab]
theorem Ymk {l : List Int} (h1 : l.length = 64) (h2 : ∀ x ∈ l, 0 ≤ x ∧ x ≤ 255) : Xn2 l = true := by
 unfold Xn2
 rw [Bool.and_eq_true, decide_eq_true_eq, List.all_eq_true]
 exact ⟨h1, fun x hx => by unfold Yuy; rw [decide_eq_true_eq]; exact h2 x hx⟩
theorem Xuw (g b : List Int) (hg : Xn2 g = true) (hl : b.length = 64) (hb : inB 10000000 b) : ∃ o, Xlw g b = some o ∧ Xn2 o = true := by
 have hm : maxLen = 9223372036854775807 := rfl
 obtain ⟨g1, g2⟩ := Xr9 hg
 unfold Xlw
 rw [Xr1 g hg, Xab, Xap, Xju b 64 10000000 (by omega) (by omega) (by omega) hb, Xab, Bool.not_true, Xab, Xal]
 obtain ⟨o, e, h1, h2⟩ := Xfb (f := Xgv g b) 64 (fun i s => s.length = i ∧ ∀ x ∈ s, 0 ≤ x ∧ x ≤ 255) (by
  intro i s hi ⟨k1, k2⟩
  have ha := Xsh hb (i := i) (by omega)
  have hd := g2 i hi
  have br := Xny (n := g.getD i 0 + b.getD i 0) (a := 0) (b := 255) (by omega)
  unfold Xgv
  simp only [Int.toNat_natCast]
  rw [syA, rqA, rqA, wkA (e := g.getD i 0 + b.getD i 0), Xfj, Xab, Xay (by simp only [List.length_singleton]; omega), wkA (e := (i : Int) + 1)]
  refine ⟨_, rfl, by simp; omega, fun x hx => ?_⟩
  rcases List.mem_append.1 hx with hx | hx
  ·
   exact k2 x hx
  ·
   rw [List.mem_singleton.1 hx]; exact br) (by intro s; unfold Xgv; rw [Xas (by simp)]) [] ⟨rfl, fun x hx => by simp at hx⟩
 exact ⟨o, (Xei e).trans rfl, Ymk h1 h2⟩
def Yac (e : Xm9) : Prop := (e.Above.length = 0 ∨ e.Above.length = 8) ∧ (e.Left.length = 0 ∨ e.Left.length = 8) ∧ (∀ x ∈ e.Above, 0 ≤ x ∧ x ≤ 255) ∧ (∀ x ∈ e.Left, 0 ≤ x ∧ x ≤ 255) ∧ -1 ≤ e.Corner ∧ e.Corner ≤ 255
theorem Ycr {p : Pic} (ok : Xcj p = true) (x y : Int) : Xdc p x y 8 8 = some (Xmm p x y) := by
 obtain ⟨k1, k2, k3⟩ := Xbr ok
 unfold Xdc Xmm
 rw [Xga, Xab, ok, Xap, Xai, Xab, Xai, Xab, wkA (e := p.Wide - 8), wkA (e := p.High - 8), Xai, Xab, Xai, Xab]
 simp only [Xdx, Xab]
 congr 1
 rw [Bool.eq_iff_iff]
 simp only [Bool.and_eq_true, decide_eq_true_eq]
 omega
theorem Xni {p : Pic} (ok : Xcj p = true) {x y : Int} (hx : x.tmod 8 = 0) (hy : y.tmod 8 = 0) (h : Xmm p x y = true) : Xo6 p x y = some true := by
 unfold Xo6
 rw [rqA, hx, rqA, hy, Ycr ok, Xab, h]
 rfl
theorem Yfq {p : Pic} (ok : Xcj p = true) {x y : Int} (hx : x.tmod 8 = 0) (hy : y.tmod 8 = 0) (h : Xmm p x y = true) : ∃ e, Xm1 p x y = some (e, true) ∧ Yac e := by
 have hm : maxLen = 9223372036854775807 := rfl
 obtain ⟨k1, k2, k3⟩ := Xbr ok
 have h' := h
 unfold Xmm at h'
 rw [decide_eq_true_eq] at h'
 unfold Xm1
 rw [Xni ok hx hy h, Xab, Bool.not_true, Xal]
 obtain ⟨o, e, o1, o2, o3, o4, o5, o6⟩ := Xfb (f := Xfk p x y) 8 (fun i s => (y > 0 → s.1.length = i) ∧ (¬ y > 0 → s.1.length = 0) ∧ (x > 0 → s.2.length = i) ∧ (¬ x > 0 → s.2.length = 0) ∧ (∀ z ∈ s.1, 0 ≤ z ∧ z ≤ 255) ∧ (∀ z ∈ s.2, 0 ≤ z ∧ z ≤ 255)) (by
  intro i s hi ⟨g1, g2, g3, g4, g5, g6⟩
  obtain ⟨a, b⟩ := s
  simp only at g1 g2 g3 g4 g5 g6
  have d1 := Xqw p (x + i) (y - 1)
  have d2 := Xqw p (x - 1) (y + i)
  have st1 : ∃ a', (sel (decide (y > 0)) (bnd (Xh9 p (Xaa .i64 (x + (i : Int))) (Xaa .i64 (y - 1))) fun q16 => req ((a.length + ([q16]).length) * 8 ≤ 140737488355328 ∧ a.length + ([q16]).length ≤ maxLen) <| some (a ++ ([q16]))) (some a)) = some a' ∧ (y > 0 → a'.length = i + 1) ∧ (¬ y > 0 → a'.length = 0) ∧ (∀ z ∈ a', 0 ≤ z ∧ z ≤ 255) := by
   by_cases c : y > 0
   ·
    rw [Xbk c, wkA (e := x + (i : Int)), wkA (e := y - 1), Xky ok, Xab, Xay (by simp only [List.length_singleton]; have := g1 c; omega)]
    refine ⟨_, rfl, fun _ => by simp; exact g1 c, fun hn => absurd c hn, fun z hz => ?_⟩
    rcases List.mem_append.1 hz with hz | hz
    ·
     exact g5 z hz
    ·
     rw [List.mem_singleton.1 hz]; exact d1
   ·
    rw [Xas c]
    exact ⟨_, rfl, fun hn => absurd hn c, fun _ => g2 c, g5⟩
  obtain ⟨a', ea, a1, a2, a3⟩ := st1
  have st2 : ∃ b', (sel (decide (x > 0)) (bnd (Xh9 p (Xaa .i64 (x - 1)) (Xaa .i64 (y + (i : Int)))) fun q17 => req ((b.length + ([q17]).length) * 8 ≤ 140737488355328 ∧ b.length + ([q17]).length ≤ maxLen) <| some (a', (b ++ ([q17])))) (some (a', b))) = some (a', b') ∧ (x > 0 → b'.length = i + 1) ∧ (¬ x > 0 → b'.length = 0) ∧ (∀ z ∈ b', 0 ≤ z ∧ z ≤ 255) := by
   by_cases c : x > 0
   ·
    rw [Xbk c, wkA (e := y + (i : Int)), wkA (e := x - 1), Xky ok, Xab, Xay (by simp only [List.length_singleton]; have := g3 c; omega)]
    refine ⟨_, rfl, fun _ => by simp; exact g3 c, fun hn => absurd c hn, fun z hz => ?_⟩
    rcases List.mem_append.1 hz with hz | hz
    ·
     exact g6 z hz
    ·
     rw [List.mem_singleton.1 hz]; exact d2
   ·
    rw [Xas c]
    exact ⟨_, rfl, fun hn => absurd hn c, fun _ => g4 c, g6⟩
  obtain ⟨b', eb, b1, b2, b3⟩ := st2
  unfold Xfk
  simp only
  rw [syA, ea, Xab, eb, Xab, wkA (e := (i : Int) + 1)]
  exact ⟨(a', b'), rfl, a1, a2, b1, b2, a3, b3⟩) (by intro s; unfold Xfk; rw [Xas (by simp)]) ([], []) ⟨fun _ => rfl, fun _ => rfl, fun _ => rfl, fun _ => rfl, fun z hz => by simp at hz, fun z hz => by simp at hz⟩
 rw [e, Xab, Xdx, Xab]
 have d3 := Xqw p (x - 1) (y - 1)
 have ha : o.1.length = 0 ∨ o.1.length = 8 := by
  by_cases c : y > 0
  ·
   exact Or.inr (o1 c)
  ·
   exact Or.inl (o2 c)
 have hb : o.2.length = 0 ∨ o.2.length = 8 := by
  by_cases c : x > 0
  ·
   exact Or.inr (o3 c)
  ·
   exact Or.inl (o4 c)
 cases hc : (decide (x > 0) && decide (y > 0)) with
 | true =>
  rw [Xap, wkA (e := x - 1), wkA (e := y - 1), Xky ok, Xab, Xab]
  exact ⟨_, rfl, ha, hb, o5, o6, by simp only; omega, by simp only; omega⟩
 | false =>
  rw [Xal, Xab]
  exact ⟨_, rfl, ha, hb, o5, o6, by simp only; omega, by simp only; omega⟩
theorem Xr2 (l : List Int) (hl : l.length = 0 ∨ l.length = 8) (h : ∀ x ∈ l, 0 ≤ x ∧ x ≤ 255) : Xo7 l = some true := by
 unfold Xo7
 have hc : (sel ((l.length : Int) != 0) (some ((l.length : Int) != 8)) (some false)) = some false := by
  rcases hl with e | e
  ·
   rw [e]; rfl
  ·
   rw [e]; rfl
 rw [hc, Xab, Xal, Xqg l.length (f := Xla l) (by
  intro i hi
  have := h (l.getD i 0) (by rw [Xb3 l i hi]; exact List.getElem_mem _)
  unfold Xla
  rw [syA, rqA, Xai, Xab, Int.toNat_natCast, decide_eq_true this, Bool.not_true, Xal, wkA]
  rfl) (by unfold Xla; rw [snA]), Xab]
theorem Xrv {e : Xm9} (h : Yac e) : Xsn e = some true := by
 obtain ⟨h1, h2, h3, h4, h5, h6⟩ := h
 unfold Xsn
 rw [Xr2 _ h1 h3, Xab, Xap, Xr2 _ h2 h4, Xab, Xap, Xai, Xab, decide_eq_true ⟨h5, h6⟩, Xab]
theorem Xqq (l : List Int) (k : Nat) (hk : k < 8) (hl : l.length = 0 ∨ l.length = 8) (h : ∀ x ∈ l, 0 ≤ x ∧ x ≤ 255) : ∃ x, Xfa l k = some x ∧ 0 ≤ x ∧ x ≤ 255 := by
 unfold Xfa
 rcases hl with e | e
 ·
  rw [Xbg (by rw [e]; rfl)]; exact ⟨_, rfl, by omega, by omega⟩
 ·
  rw [Xa6 (by rw [e]; rfl), rqA, Int.toNat_natCast]
  exact ⟨_, rfl, h _ (by rw [Xb3 l k (by omega)]; exact List.getElem_mem _)⟩
end Go.Proofs.YtnhflbeahbcklaaGreat.A.Pure
