/- The pure statement of the law FnStreams, part 1: over numbers, texts and lists alone, what the law computes is true. Conditions: the sizes of what a machine holds. -/
import Derived.Test.YtnhflbeahbcklabGreatDFnStreams
namespace Go.Proofs.YtnhflbeahbcklabGreat.A.Pure
open Go Go.Proofs Go.Proofs.YtnhflbeahbcklabGreatAL Go.RowKit
set_option linter.unusedVariables false
set_option linter.unusedSimpArgs false
set_option maxHeartbeats 1000000
noncomputable section
def Xht (p0 : Pic) : Option Bool :=
 bnd (
 sel (p0.Wide == 0) (
 sel (p0.High == 0) (
 some ((p0.Dots.size : Int) == 0)) (
 some false)) (
 some false)) fun v1 =>
 some v1
def Xl3 (p0 : Seq) : Option (Int × Int) :=
 bnd (Xh8 p0) fun q1 =>
 sel (!q1) (
 some (0, 0)) (
 bnd (Xhp p0.Cols) fun q2 =>
 bnd (Xhp p0.Rows) fun q3 =>
 some (Xaa .i64 (8 * q2), Xaa .i64 (8 * q3)))
def Xj4 (p0 : Pic) : Option Bool :=
 bnd (
 bnd (Xat p0.Wide 1 256) fun q2 =>
 sel q2 (
 bnd (Xat p0.High 1 256) fun q3 =>
 sel q3 (
 some ((p0.Dots.size : Int) == (Xaa .i64 (p0.Wide * p0.High)))) (
 some false)) (
 some false)) fun v1 =>
 some v1
def Xn1 (p0 : Pic) (p1 : Seq) : Option Bool :=
 bnd (Xl3 p1) fun q1 =>
 bnd (
 bnd (Xj4 p0) fun q3 =>
 sel q3 (
 sel (p0.Wide == q1.1) (
 some (p0.High == q1.2)) (
 some false)) (
 some false)) fun v2 =>
 some v2
def Xzz (p0 : Xar) : Option Bool :=
 sel (!p0.HasSeq) (
 bnd (
 sel p0.HasPar (
 some false) (
 sel p0.HasRef (
 some false) (
 sel (p0.Seq.Level == 0) (
 sel (p0.Seq.Bits == 0) (
 sel ((p0.Seq.Cols.length : Int) == 0) (
 sel ((p0.Seq.Rows.length : Int) == 0) (
 sel (((p0.Par.Qp == 0) && ((p0.Par.Large == false) && ((p0.Par.Exact == false) && (p0.Par.Confined == false)))) == true) (
 sel (p0.Frame == (-1)) (
 sel (p0.Got == 0) (
 bnd (Xht p0.Now) fun q2 =>
 sel q2 (
 bnd (Xht p0.Ref) fun q3 =>
 some q3) (
 some false)) (
 some false)) (
 some false)) (
 some false)) (
 some false)) (
 some false)) (
 some false)) (
 some false)))) fun v1 =>
 some v1) (
 bnd (
 bnd (Xh8 p0.Seq) fun q5 =>
 sel q5 (
 sel p0.HasPar (
 bnd (Xj3 p0.Par) fun q6 =>
 sel q6 (
 some false) (
 some true)) (
 some (((p0.Par.Qp == 0) && ((p0.Par.Large == false) && ((p0.Par.Exact == false) && (p0.Par.Confined == false)))) == false))) (
 some true)) fun v4 =>
 sel v4 (
 some false) (
 bnd (
 sel (decide (p0.Frame < (-1))) (
 some true) (
 req (0 ≤ (Xaa .u64 (p0.Seq.Bits))) <|
 sel (decide (p0.Frame ≥ (Xaa .i64 (1 * 2 ^ min (Xaa .u64 (p0.Seq.Bits)).toNat (IntKind.bits .i64))))) (
 some true) (
 sel (decide (p0.Got < 0)) (
 some true) (
 bnd (Xe1 p0.Seq) fun q8 =>
 sel (decide (p0.Got ≥ q8)) (
 some true) (
 sel p0.HasPar (
 some false) (
 sel (decide (p0.Got > 0)) (
 some true) (
 some p0.HasRef))))))) fun v7 =>
 sel v7 (
 some false) (
 bnd (
 sel (decide (p0.Got > 0)) (
 sel (p0.Frame == (-1)) (
 some true) (
 bnd (Xn1 p0.Now p0.Seq) fun q10 =>
 sel q10 (
 sel (p0.Got == 0) (
 bnd (Xht p0.Now) fun q11 =>
 some (!q11)) (
 some false)) (
 some true))) (
 sel (p0.Got == 0) (
 bnd (Xht p0.Now) fun q12 =>
 some (!q12)) (
 some false))) fun v9 =>
 sel v9 (
 some false) (
 bnd (
 sel p0.HasRef (
 bnd (Xn1 p0.Ref p0.Seq) fun q14 =>
 sel q14 (
 some true) (
 some false)) (
 bnd (Xht p0.Ref) fun q15 =>
 some q15)) fun v13 =>
 some v13))))
def Xgk (p0 : ByteArray) (v4 : (Int × (List Int))) : Option (Lp (Int × (List Int)) (List Int)) :=
 sel (decide (v4.1 < (p0.size : Int))) (
 req (0 ≤ v4.1 ∧ v4.1 < p0.size) <|
 bnd (Xhn (Xaa .i64 ((Xcd p0 v4.1))) 8) fun q8 =>
 req ((v4.2.length + (Xal q8).length) * 1 ≤ 140737488355328 ∧ v4.2.length + (Xal q8).length ≤ maxLen) <|
 some (.go (Xaa .i64 (v4.1 + 1), (v4.2 ++ (Xal q8))))) (
 some (.done v4.2))
def Xgl (v7 : (List Int)) (v12 : Int) : Option (Lp Int Int) :=
 bnd (
 sel (decide (v12 > 0)) (
 req (0 ≤ (Xaa .i64 (v12 - 1)) ∧ (Xaa .i64 (v12 - 1)) < v7.length) <|
 req ((Xaa .i64 (v12 - 1)).toNat < v7.length) <|
 some ((v7.getD ((Xaa .i64 (v12 - 1)).toNat) 0) == 48)) (
 some false)) fun v16 =>
 sel v16 (
 some (.go (Xaa .i64 (v12 - 1)))) (
 some (.done v12))
def Xnw (p0 : ByteArray) : Option (ByteArray × Bool) :=
 bnd (
 sel ((p0.size : Int) == 0) (
 some true) (
 sel (decide ((p0.size : Int) > 50001)) (
 some true) (
 req (0 ≤ (Xaa .i64 ((p0.size : Int) - 1)) ∧ (Xaa .i64 ((p0.size : Int) - 1)) < p0.size) <|
 some ((Xcd p0 (Xaa .i64 ((p0.size : Int) - 1))) == 0)))) fun v1 =>
 sel v1 (
 some (⟨#[]⟩, false)) (
 bnd (loop (Xgk p0) (0, ([] : List Int))) fun v7 =>
 bnd (loop (Xgl v7) (v7.length : Int)) fun v15 =>
 sel (decide ((Xaa .i64 (v15 - 1)) > 400000)) (
 some (⟨#[]⟩, false)) (
 req (0 ≤ (0 : Int) ∧ (0 : Int) ≤ (Xaa .i64 (v15 - 1)) ∧ (Xaa .i64 (v15 - 1)) ≤ (v7.length : Int)) <|
 req ((0 : Int).toNat + ((Xaa .i64 (v15 - 1)).toNat - (0 : Int).toNat) ≤ v7.length) <|
 some ((strOfNums ((v7.drop ((0 : Int).toNat)).take ((Xaa .i64 (v15 - 1)).toNat - (0 : Int).toNat))), true)))
def Xon (p0 : ByteArray) : Option (Int × ByteArray × Bool) :=
 bnd (
 sel (decide ((p0.size : Int) < 1)) (
 some true) (
 req (0 ≤ (0 : Int) ∧ (0 : Int) < p0.size) <|
 bnd (Xj9 (Xaa .i64 ((Xcd p0 (0 : Int))))) fun q2 =>
 some (!q2))) fun v1 =>
 sel v1 (
 some (0, ⟨#[]⟩, false)) (
 req (0 ≤ (1 : Int) ∧ (1 : Int) ≤ (p0.size : Int) ∧ (p0.size : Int) ≤ (p0.size : Int)) <|
 bnd (Xnw (p0.extract (1 : Int).toNat (p0.size : Int).toNat)) fun q3 =>
 sel (!q3.2) (
 some (0, ⟨#[]⟩, false)) (
 req (0 ≤ (0 : Int) ∧ (0 : Int) < p0.size) <|
 some (Xaa .i64 ((Xcd p0 (0 : Int))), q3.1, true)))
def Xk9 (p0 : ByteArray) (p1 : Int) (p2 : Int) (v2 : (Int × Int)) : Option (Lp (Int × Int) Int) :=
 sel (decide (v2.2 < (Xaa .i64 (p1 + p2)))) (
 req (0 ≤ v2.2 ∧ v2.2 < p0.size) <|
 some (.go (Xaa .i64 ((Xaa .i64 ((Xaa .i64 (2 * v2.1)) + (Xaa .i64 ((Xcd p0 v2.2))))) - 48), Xaa .i64 (v2.2 + 1)))) (
 some (.done v2.1))
def Xc0 (p0 : ByteArray) (p1 : Int) (p2 : Int) : Option (Int × Int × Bool) :=
 sel (decide (p2 > (Xaa .i64 ((p0.size : Int) - p1)))) (
 some (0, 0, false)) (
 bnd (loop (Xk9 p0 p1 p2) (0, p1)) fun v4 =>
 some (v4, Xaa .i64 (p1 + p2), true))
def Xfv (p0 : ByteArray) (p1 : Int) (v3 : Int) : Option (Lp Int Int) :=
 bnd (
 sel (decide ((Xaa .i64 (p1 + v3)) < (p0.size : Int))) (
 req (0 ≤ (Xaa .i64 (p1 + v3)) ∧ (Xaa .i64 (p1 + v3)) < p0.size) <|
 sel ((Xcd p0 (Xaa .i64 (p1 + v3))) == 48) (
 some (decide (v3 < 21))) (
 some false)) (
 some false)) fun v7 =>
 sel v7 (
 some (.go (Xaa .i64 (v3 + 1)))) (
 some (.done v3))
def Xbo (p0 : ByteArray) (p1 : Int) : Option (Int × Int × Bool) :=
 bnd (loop (Xfv p0 p1) 0) fun v6 =>
 bnd (Xc0 p0 (Xaa .i64 (p1 + v6)) (Xaa .i64 (v6 + 1))) fun q9 =>
 bnd (
 sel q9.2.2 (
 req (0 ≤ (Xaa .u64 (v6))) <|
 sel (decide (q9.1 < (Xaa .i64 (1 * 2 ^ min (Xaa .u64 (v6)).toNat (IntKind.bits .i64))))) (
 some true) (
 some (decide ((Xaa .i64 (q9.1 - 1)) > 1000000)))) (
 some true)) fun v10 =>
 sel v10 (
 some (0, 0, false)) (
 some (Xaa .i64 (q9.1 - 1), q9.2.1, true))
def Xb1 (p0 : ByteArray) (q1 : (Int × Int × Bool)) (v5 : (Int × Int × (List Int))) : Option (Lp (Int × Int × (List Int)) (Ou (Int × (List Int)) ((List Int) × Int × Bool))) :=
 sel (decide (v5.2.1 < q1.1)) (
 bnd (Xbo p0 v5.1) fun q9 =>
 sel (!q9.2.2) (
 some (.done (.ret (([] : List Int), 0, false)))) (
 req ((v5.2.2.length + ([q9.1]).length) * 8 ≤ 140737488355328 ∧ v5.2.2.length + ([q9.1]).length ≤ maxLen) <|
 some (.go (q9.2.1, Xaa .i64 (v5.2.1 + 1), (v5.2.2 ++ ([q9.1])))))) (
 some (.done (.out (v5.1, v5.2.2))))
def Xgo (p0 : ByteArray) (p1 : Int) : Option ((List Int) × Int × Bool) :=
 bnd (Xbo p0 p1) fun q1 =>
 bnd (
 sel q1.2.2 (
 some (decide (q1.1 > 4))) (
 some true)) fun v2 =>
 sel v2 (
 some (([] : List Int), 0, false)) (
 bnd (loop (Xb1 p0 q1) (q1.2.1, 0, ([] : List Int))) fun o10 => match o10 with
| .out v8 => (
 some (v8.2, v8.1, true))
| .ret r => some r)
def Xfx (p0 : ByteArray) (p1 : Int) : Option (Seq × Int × Bool) :=
 bnd (Xbo p0 p1) fun q1 =>
 sel (!q1.2.2) (
 some ((⟨0, 0, [], []⟩ : Seq), 0, false)) (
 bnd (Xc0 p0 q1.2.1 4) fun q2 =>
 sel (!q2.2.2) (
 some ((⟨0, 0, [], []⟩ : Seq), 0, false)) (
 bnd (Xgo p0 q2.2.1) fun q3 =>
 sel (!q3.2.2) (
 some ((⟨0, 0, [], []⟩ : Seq), 0, false)) (
 bnd (Xgo p0 q3.2.1) fun q4 =>
 bnd (
 sel q4.2.2 (
 bnd (Xh8 (⟨q1.1, q2.1, q3.1, q4.1⟩ : Seq)) fun q6 =>
 some (!q6)) (
 some true)) fun v5 =>
 sel v5 (
 some ((⟨0, 0, [], []⟩ : Seq), 0, false)) (
 some ((⟨q1.1, q2.1, q3.1, q4.1⟩ : Seq), q4.2.1, true)))))
def Xfw (p0 : ByteArray) (p1 : Int) : Option (Par × Int × Bool) :=
 bnd (Xc0 p0 p1 6) fun q1 =>
 bnd (
 sel q1.2.2 (
 some (decide ((Xaa .i64 ((p0.size : Int) - q1.2.1)) < 3))) (
 some true)) fun v2 =>
 sel v2 (
 some ((⟨0, false, false, false⟩ : Par), 0, false)) (
 req (0 ≤ q1.2.1 ∧ q1.2.1 < p0.size) <|
 req (0 ≤ (Xaa .i64 (q1.2.1 + 1)) ∧ (Xaa .i64 (q1.2.1 + 1)) < p0.size) <|
 req (0 ≤ (Xaa .i64 (q1.2.1 + 2)) ∧ (Xaa .i64 (q1.2.1 + 2)) < p0.size) <|
 bnd (Xj3 (⟨q1.1, ((Xcd p0 q1.2.1) == 49), ((Xcd p0 (Xaa .i64 (q1.2.1 + 1))) == 49), ((Xcd p0 (Xaa .i64 (q1.2.1 + 2))) == 49)⟩ : Par)) fun q3 =>
 sel (!q3) (
 some ((⟨0, false, false, false⟩ : Par), 0, false)) (
 some ((⟨q1.1, ((Xcd p0 q1.2.1) == 49), ((Xcd p0 (Xaa .i64 (q1.2.1 + 1))) == 49), ((Xcd p0 (Xaa .i64 (q1.2.1 + 2))) == 49)⟩ : Par), Xaa .i64 (q1.2.1 + 3), true)))
def Xv3 (p0 : Int) : Option (Int × Bool) :=
 bnd (Xat p0 0 1000000) fun q1 =>
 sel (!q1) (
 some (0, false)) (
 req ((2 : Int) ≠ 0) <|
 sel ((p0.tmod 2) == 1) (
 req ((2 : Int) ≠ 0) <|
 some (Xaa .i64 ((Xaa .i64 (p0 + 1)).tdiv 2), true)) (
 req ((2 : Int) ≠ 0) <|
 some (Xaa .i64 (0 - (Xaa .i64 (p0.tdiv 2))), true)))
def Xco (p0 : ByteArray) (p1 : Int) : Option (Int × Int × Bool) :=
 bnd (Xbo p0 p1) fun q1 =>
 sel (!q1.2.2) (
 some (0, 0, false)) (
 bnd (Xv3 q1.1) fun q2 =>
 some (q2.1, q1.2.1, true))
def Xh7 (p0 : Seq) (p1 : Par) (p2 : ByteArray) : Option (Xrz × Int × Bool) :=
 bnd (
 bnd (Xgx p2) fun q2 =>
 sel q2 (
 bnd (Xh8 p0) fun q3 =>
 sel q3 (
 bnd (Xj3 p1) fun q4 =>
 some (!q4)) (
 some true)) (
 some true)) fun v1 =>
 sel v1 (
 some ((⟨0, 0, 0⟩ : Xrz), 0, false)) (
 bnd (Xbo p2 0) fun q5 =>
 sel (!q5.2.2) (
 some ((⟨0, 0, 0⟩ : Xrz), 0, false)) (
 bnd (Xc0 p2 q5.2.1 p0.Bits) fun q6 =>
 sel (!q6.2.2) (
 some ((⟨0, 0, 0⟩ : Xrz), 0, false)) (
 bnd (Xco p2 q6.2.1) fun q7 =>
 bnd (
 sel q7.2.2 (
 bnd (Xl0 p0 p1 (⟨q5.1, q6.1, Xaa .i64 (p1.Qp + q7.1)⟩ : Xrz)) fun q9 =>
 some (!q9)) (
 some true)) fun v8 =>
 sel v8 (
 some ((⟨0, 0, 0⟩ : Xrz), 0, false)) (
 some ((⟨q5.1, q6.1, Xaa .i64 (p1.Qp + q7.1)⟩ : Xrz), q7.2.1, true)))))
def Xlz (p0 : Xfg) : Option Bool :=
 bnd (
 bnd (Xat p0.Qp 0 40) fun q2 =>
 sel q2 (
 sel p0.Large (
 some (!p0.Exact)) (
 some true)) (
 some false)) fun v1 =>
 some v1
def Xcx (p0 : ByteArray) (p2 : Int) (q1 : (Int × Int × Bool)) (v9 : (Int × Int × Int × (List Int))) : Option (Lp (Int × Int × Int × (List Int)) (Ou (Int × (List Int)) ((List Int) × Int × Bool))) :=
 sel (decide (v9.2.2.1 < q1.1)) (
 bnd (Xbo p0 v9.1) fun q17 =>
 bnd (
 sel q17.2.2 (
 some (decide (q17.1 > (Xaa .i64 ((Xaa .i64 (p2 - 1)) - v9.2.1))))) (
 some true)) fun v18 =>
 sel v18 (
 some (.done (.ret (([] : List Int), 0, false)))) (
 bnd (Xco p0 q17.2.1) fun q19 =>
 bnd (
 sel q19.2.2 (
 sel (q19.1 == 0) (
 some true) (
 bnd (Xat q19.1 (-5000) 5000) fun q21 =>
 some (!q21))) (
 some true)) fun v20 =>
 sel v20 (
 some (.done (.ret (([] : List Int), 0, false)))) (
 req (0 ≤ (Xaa .i64 (v9.2.1 + q17.1)) ∧ (Xaa .i64 (v9.2.1 + q17.1)) < v9.2.2.2.length) <|
 req ((Xaa .i64 (v9.2.1 + q17.1)).toNat < v9.2.2.2.length) <|
 some (.go (q19.2.1, Xaa .i64 ((Xaa .i64 (v9.2.1 + q17.1)) + 1), Xaa .i64 (v9.2.2.1 + 1), (v9.2.2.2.set ((Xaa .i64 (v9.2.1 + q17.1)).toNat) q19.1)))))) (
 some (.done (.out (v9.1, v9.2.2.2))))
def Xm8 (p0 : ByteArray) (p1 : Int) (p2 : Int) : Option ((List Int) × Int × Bool) :=
 req (0 ≤ p2 ∧ p2 ≤ p2 ∧ p2 * 8 ≤ 281474976710656) <|
 bnd (Xbo p0 p1) fun q1 =>
 bnd (
 sel q1.2.2 (
 some (decide (q1.1 > p2))) (
 some true)) fun v2 =>
 sel v2 (
 some (([] : List Int), 0, false)) (
 bnd (loop (Xcx p0 p2 q1) (q1.2.1, 0, 0, (List.replicate p2.toNat (0 : Int)))) fun o22 => match o22 with
| .out v16 => (
 some (v16.2, v16.1, true))
| .ret r => some r)
def Xek (p0 : ByteArray) (v5 : (Int × Int × (List Int))) : Option (Lp (Int × Int × (List Int)) (Ou (Int × (List Int)) ((List Int) × Int × Bool))) :=
 sel (decide (v5.2.1 < 4)) (
 bnd (Xm8 p0 v5.1 16) fun q9 =>
 sel (!q9.2.2) (
 some (.done (.ret (([] : List Int), 0, false)))) (
 req ((v5.2.2.length + q9.1.length) * 8 ≤ 140737488355328 ∧ v5.2.2.length + q9.1.length ≤ maxLen) <|
 some (.go (q9.2.1, Xaa .i64 (v5.2.1 + 1), (v5.2.2 ++ q9.1))))) (
 some (.done (.out (v5.1, v5.2.2))))
def Xkb (p0 : ByteArray) (p1 : Int) (p2 : Xfg) : Option ((List Int) × Int × Bool) :=
 bnd (
 sel p2.Large (
 some true) (
 some p2.Exact)) fun v1 =>
 sel v1 (
 bnd (Xm8 p0 p1 64) fun q2 =>
 some (q2.1, q2.2.1, q2.2.2)) (
 bnd (loop (Xek p0) (p1, 0, ([] : List Int))) fun o10 => match o10 with
| .out v8 => (
 some (v8.2, v8.1, true))
| .ret r => some r)
def Xfc (p0 : (List Int)) (p1 : Int) (p2 : Int) (v3 : Int) : Option (Lp Int (Ou Unit Bool)) :=
 sel (decide (v3 < p1)) (
 req (0 ≤ v3 ∧ v3 < p0.length) <|
 bnd (Xat (p0.getD v3.toNat 0) (Xaa .i64 (0 - p2)) p2) fun q7 =>
 sel (!q7) (
 some (.done (.ret false))) (
 some (.go (Xaa .i64 (v3 + 1))))) (
 some (.done (.out ())))
def Xfb (p0 : (List Int)) (p1 : Int) (p2 : Int) : Option Bool :=
 sel ((p0.length : Int) != p1) (
 some false) (
 bnd (loop (Xfc p0 p1 p2) 0) fun o8 => match o8 with
| .out v6 => (
 some true)
| .ret r => some r)
def Xgc (p0 : Xao) : Option Bool :=
 sel (p0.Kind == 0) (
 bnd (
 sel (p0.Mode == 0) (
 sel (p0.Dx == 0) (
 sel (p0.Dy == 0) (
 some ((p0.Levels.length : Int) == 0)) (
 some false)) (
 some false)) (
 some false)) fun v1 =>
 some v1) (
 sel (p0.Kind == 1) (
 bnd (
 sel (p0.Mode == 0) (
 bnd (Xat p0.Dx (-16) 16) fun q3 =>
 sel q3 (
 bnd (Xat p0.Dy (-16) 16) fun q4 =>
 sel q4 (
 bnd (Xfb p0.Levels 64 5000) fun q5 =>
 some q5) (
 some false)) (
 some false)) (
 some false)) fun v2 =>
 some v2) (
 sel (p0.Kind == 2) (
 bnd (
 bnd (Xat p0.Mode 0 3) fun q7 =>
 sel q7 (
 sel (p0.Dx == 0) (
 sel (p0.Dy == 0) (
 bnd (Xfb p0.Levels 64 5000) fun q8 =>
 some q8) (
 some false)) (
 some false)) (
 some false)) fun v6 =>
 some v6) (
 some false)))
def Xpe (p0 : ByteArray) (p1 : Int) (p2 : Xfg) : Option (Xao × Int × Bool) :=
 Yn7 (fun (v1 : (Int × Int)) =>
 Yn7 (fun (v4 : (Int × Bool × Int × Int × Int)) =>
 sel (!v4.2.1) (
 some ((⟨0, 0, 0, 0, []⟩ : Xao), 0, false)) (
 bnd (Xkb p0 v4.1 p2) fun q8 =>
 bnd (
 sel q8.2.2 (
 bnd (Xgc (⟨v1.2, v4.2.2.1, v4.2.2.2.1, v4.2.2.2.2, q8.1⟩ : Xao)) fun q10 =>
 some (!q10)) (
 some true)) fun v9 =>
 sel v9 (
 some ((⟨0, 0, 0, 0, []⟩ : Xao), 0, false)) (
 some ((⟨v1.2, v4.2.2.1, v4.2.2.2.1, v4.2.2.2.2, q8.1⟩ : Xao), q8.2.1, true)))) fun j2 =>
 sel (v1.2 == 0) (
 some ((⟨v1.2, 0, 0, 0, []⟩ : Xao), v1.1, true)) (
 sel (v1.2 == 1) (
 bnd (Xco p0 v1.1) fun q5 =>
 sel (!q5.2.2) (
 some ((⟨0, 0, 0, 0, []⟩ : Xao), 0, false)) (
 bnd (Xco p0 q5.2.1) fun q6 =>
 j2 (q6.2.1, q6.2.2, 0, q5.1, q6.1))) (
 bnd (Xbo p0 v1.1) fun q7 =>
 j2 (q7.2.1, q7.2.2, q7.1, 0, 0)))) fun j1 =>
 sel (!p2.Key) (
 bnd (Xbo p0 p1) fun q2 =>
 bnd (
 sel q2.2.2 (
 some (decide (q2.1 > 2))) (
 some true)) fun v3 =>
 sel v3 (
 some ((⟨0, 0, 0, 0, []⟩ : Xao), 0, false)) (
 j1 (q2.2.1, q2.1))) (
 j1 (p1, 2))
def Xcl (p0 : ByteArray) (p2 : Int) (p3 : Xfg) (v8 : (Int × Int × (List Xao))) : Option (Lp (Int × Int × (List Xao)) (Ou (Int × (List Xao)) ((List Xao) × Bool))) :=
 sel (decide (v8.2.1 < p2)) (
 bnd (Xpe p0 v8.1 p3) fun q12 =>
 sel (!q12.2.2) (
 some (.done (.ret (([] : List Xao), false)))) (
 req ((v8.2.2.length + ([q12.1]).length) * 56 ≤ 140737488355328 ∧ v8.2.2.length + ([q12.1]).length ≤ maxLen) <|
 some (.go (q12.2.1, Xaa .i64 (v8.2.1 + 1), (v8.2.2 ++ ([q12.1])))))) (
 some (.done (.out (v8.1, v8.2.2))))
def Xk4 (p0 : ByteArray) (p1 : Int) (p2 : Int) (p3 : Xfg) : Option ((List Xao) × Bool) :=
 bnd (
 bnd (Xgx p0) fun q2 =>
 sel q2 (
 bnd (Xat p1 0 (p0.size : Int)) fun q3 =>
 sel q3 (
 bnd (Xlz p3) fun q4 =>
 sel q4 (
 bnd (Xat p2 1 64) fun q5 =>
 some (!q5)) (
 some true)) (
 some true)) (
 some true)) fun v1 =>
 sel v1 (
 some (([] : List Xao), false)) (
 bnd (loop (Xcl p0 p2 p3) (p1, 0, ([] : List Xao))) fun o13 => match o13 with
| .out v11 => (
 sel (v11.1 != (p0.size : Int)) (
 some (([] : List Xao), false)) (
 some (v11.2, true)))
| .ret r => some r)
def Xpf (p0 : Int) : Option Bool :=
 bnd (
 req ((8 : Int) ≠ 0) <|
 sel ((p0.tmod 8) == 0) (
 bnd (Xat p0 8 64) fun q2 =>
 some q2) (
 some false)) fun v1 =>
 some v1
def Xid (p0 : (List Xao)) (p1 : Xfg) (v7 : Int) : Option (Lp Int (Ou Unit Bool)) :=
 sel (decide (v7 < (p0.length : Int))) (
 bnd (
 req (0 ≤ v7 ∧ v7 < p0.length) <|
 bnd (Xgc (⟨(p0.getD v7.toNat Xbt).Kind, (p0.getD v7.toNat Xbt).Mode, (p0.getD v7.toNat Xbt).Dx, (p0.getD v7.toNat Xbt).Dy, (p0.getD v7.toNat Xbt).Levels⟩ : Xao)) fun q13 =>
 sel q13 (
 sel p1.Key (
 req (0 ≤ v7 ∧ v7 < p0.length) <|
 some (((p0.getD v7.toNat Xbt).Kind) != 2)) (
 some false)) (
 some true)) fun v12 =>
 sel v12 (
 some (.done (.ret false))) (
 some (.go (Xaa .i64 (v7 + 1))))) (
 some (.done (.out ())))
def Yac (p0 : (List Xao)) (p1 : Xfg) : Option Bool :=
 bnd (
 bnd (Xlz p1) fun q2 =>
 sel q2 (
 bnd (Xat (p0.length : Int) 1 64) fun q3 =>
 some (!q3)) (
 some true)) fun v1 =>
 sel v1 (
 some false) (
 bnd (loop (Xid p0 p1) 0) fun o14 => match o14 with
| .out v11 => (
 some true)
| .ret r => some r)
def Xdg (p0 : Pic) (p1 : Int) (p2 : Int) (p3 : Int) (p4 : Int) : Option Bool :=
 bnd (
 bnd (Xj4 p0) fun q2 =>
 sel q2 (
 bnd (Xat p3 1 p0.Wide) fun q3 =>
 sel q3 (
 bnd (Xat p4 1 p0.High) fun q4 =>
 sel q4 (
 bnd (Xat p1 0 (Xaa .i64 (p0.Wide - p3))) fun q5 =>
 sel q5 (
 bnd (Xat p2 0 (Xaa .i64 (p0.High - p4))) fun q6 =>
 some q6) (
 some false)) (
 some false)) (
 some false)) (
 some false)) fun v1 =>
 some v1
def Xk1 (p0 : Pic) (p1 : Xph) (v3 : (Int × (List Int))) : Option (Lp (Int × (List Int)) (List Int)) :=
 sel (decide (v3.1 < (Xaa .i64 (p1.Top + p1.High)))) (
 req (0 ≤ (Xaa .i64 ((Xaa .i64 (v3.1 * p0.Wide)) + p1.Left)) ∧ (Xaa .i64 ((Xaa .i64 (v3.1 * p0.Wide)) + p1.Left)) ≤ (Xaa .i64 ((Xaa .i64 ((Xaa .i64 (v3.1 * p0.Wide)) + p1.Left)) + p1.Wide)) ∧ (Xaa .i64 ((Xaa .i64 ((Xaa .i64 (v3.1 * p0.Wide)) + p1.Left)) + p1.Wide)) ≤ (p0.Dots.size : Int)) <|
 req ((v3.2.length + (Xal (p0.Dots.extract (Xaa .i64 ((Xaa .i64 (v3.1 * p0.Wide)) + p1.Left)).toNat (Xaa .i64 ((Xaa .i64 ((Xaa .i64 (v3.1 * p0.Wide)) + p1.Left)) + p1.Wide)).toNat)).length) * 1 ≤ 140737488355328 ∧ v3.2.length + (Xal (p0.Dots.extract (Xaa .i64 ((Xaa .i64 (v3.1 * p0.Wide)) + p1.Left)).toNat (Xaa .i64 ((Xaa .i64 ((Xaa .i64 (v3.1 * p0.Wide)) + p1.Left)) + p1.Wide)).toNat)).length ≤ maxLen) <|
 some (.go (Xaa .i64 (v3.1 + 1), (v3.2 ++ (Xal (p0.Dots.extract (Xaa .i64 ((Xaa .i64 (v3.1 * p0.Wide)) + p1.Left)).toNat (Xaa .i64 ((Xaa .i64 ((Xaa .i64 (v3.1 * p0.Wide)) + p1.Left)) + p1.Wide)).toNat)))))) (
 some (.done v3.2))
def Xts (p0 : Pic) (p1 : Xph) : Option (Pic × Bool) :=
 bnd (Xdg p0 p1.Left p1.Top p1.Wide p1.High) fun q1 =>
 sel (!q1) (
 some ((⟨0, 0, ⟨#[]⟩⟩ : Pic), false)) (
 bnd (loop (Xk1 p0 p1) (p1.Top, ([] : List Int))) fun v5 =>
 some ((⟨p1.Wide, p1.High, (strOfNums v5)⟩ : Pic), true))
def Xqn (p0 : Int) (p1 : Int) : Option Pic :=
 bnd (
 bnd (Xat p0 1 256) fun q2 =>
 sel q2 (
 bnd (Xat p1 1 256) fun q3 =>
 some (!q3)) (
 some true)) fun v1 =>
 sel v1 (
 some (⟨0, 0, ⟨#[]⟩⟩ : Pic)) (
 bnd (Xj5 (Xaa .i64 (p0 * p1)) 128) fun q4 =>
 some (⟨p0, p1, q4⟩ : Pic))
def Xpc (p0 : Pic) (p1 : Int) (p2 : Int) : Option Bool :=
 bnd (
 req ((8 : Int) ≠ 0) <|
 sel ((p1.tmod 8) == 0) (
 req ((8 : Int) ≠ 0) <|
 sel ((p2.tmod 8) == 0) (
 bnd (Xdg p0 p1 p2 8 8) fun q2 =>
 some q2) (
 some false)) (
 some false)) fun v1 =>
 some v1
def Xhj (p0 : Int) (p1 : Int) (p2 : Int) : Option Int :=
 bnd (
 sel (decide (p2 < p1)) (
 some true) (
 some (decide (p0 < p1)))) fun v1 =>
 sel v1 (
 some p1) (
 sel (decide (p0 > p2)) (
 some p2) (
 some p0))
def Xh5 (p0 : Pic) (p1 : Int) (p2 : Int) : Option Int :=
 bnd (Xj4 p0) fun q1 =>
 sel (!q1) (
 some (-1)) (
 bnd (Xhj p2 0 (Xaa .i64 (p0.High - 1))) fun q2 =>
 bnd (Xhj p1 0 (Xaa .i64 (p0.Wide - 1))) fun q3 =>
 req (0 ≤ (Xaa .i64 ((Xaa .i64 (q2 * p0.Wide)) + q3)) ∧ (Xaa .i64 ((Xaa .i64 (q2 * p0.Wide)) + q3)) < p0.Dots.size) <|
 some (Xaa .i64 ((Xcd p0.Dots (Xaa .i64 ((Xaa .i64 (q2 * p0.Wide)) + q3))))))
def Xfo (p0 : Pic) (p1 : Int) (p2 : Int) (v7 : (Int × (List Int) × (List Int))) : Option (Lp (Int × (List Int) × (List Int)) ((List Int) × (List Int))) :=
 sel (decide (v7.1 < 8)) (
 bnd (
 bnd (
 sel (decide (p2 > 0)) (
 bnd (Xh5 p0 (Xaa .i64 (p1 + v7.1)) (Xaa .i64 (p2 - 1))) fun q16 =>
 req ((v7.2.1.length + ([q16]).length) * 8 ≤ 140737488355328 ∧ v7.2.1.length + ([q16]).length ≤ maxLen) <|
 some (v7.2.1 ++ ([q16]))) (
 some v7.2.1)) fun v15 =>
 sel (decide (p1 > 0)) (
 bnd (Xh5 p0 (Xaa .i64 (p1 - 1)) (Xaa .i64 (p2 + v7.1))) fun q17 =>
 req ((v7.2.2.length + ([q17]).length) * 8 ≤ 140737488355328 ∧ v7.2.2.length + ([q17]).length ≤ maxLen) <|
 some (v15, (v7.2.2 ++ ([q17])))) (
 some (v15, v7.2.2))) fun v14 =>
 some (.go (Xaa .i64 (v7.1 + 1), v14.1, v14.2))) (
 some (.done (v7.2.1, v7.2.2)))
def Xm3 (p0 : Pic) (p1 : Int) (p2 : Int) : Option (Xnc × Bool) :=
 bnd (Xpc p0 p1 p2) fun q1 =>
 sel (!q1) (
 some ((⟨[], [], 0⟩ : Xnc), false)) (
 bnd (loop (Xfo p0 p1 p2) (0, [], [])) fun v13 =>
 bnd (
 bnd (
 sel (decide (p1 > 0)) (
 some (decide (p2 > 0))) (
 some false)) fun v20 =>
 sel v20 (
 bnd (Xh5 p0 (Xaa .i64 (p1 - 1)) (Xaa .i64 (p2 - 1))) fun q21 =>
 some q21) (
 some (-1))) fun v19 =>
 some ((⟨v13.1, v13.2, v19⟩ : Xnc), true))
def Xsv (p0 : Int) (p1 : Int) (v17 : (Int × Int)) (v38 : (Int × Int)) : Option (Lp (Int × Int) (Ou Int Int)) :=
 sel (decide (v38.2 < p0)) (
 Yn7 (fun (v44 : Int) =>
 some (.go (v44, Xaa .i64 (v38.2 + 1)))) fun j36 =>
 bnd (
 req ((2 : Int) ≠ 0) <|
 sel ((v17.2.tmod 2) == 0) (
 some (Xaa .i64 ((Xaa .i64 (p0 - 1)) - v38.2))) (
 some v38.2)) fun v45 =>
 bnd (Xat (Xaa .i64 (v17.2 - v45)) 0 (Xaa .i64 (p0 - 1))) fun q46 =>
 sel (!q46) (
 j36 v38.1) (
 sel (v38.1 == p1) (
 some (.done (.ret (Xaa .i64 ((Xaa .i64 ((Xaa .i64 (p0 * v45)) + v17.2)) - v45))))) (
 j36 (Xaa .i64 (v38.1 + 1))))) (
 some (.done (.out v38.1)))
def Xol (p0 : Int) (p1 : Int) (v17 : (Int × Int)) : Option (Lp (Int × Int) (Ou Unit Int)) :=
 sel (decide (v17.2 ≤ (Xaa .i64 ((Xaa .i64 (2 * p0)) - 2)))) (
 bnd (loop (Xsv p0 p1 v17) (v17.1, 0)) fun o47 => match o47 with
| .out v43 => (
 some (.go (v43, Xaa .i64 (v17.2 + 1))))
| .ret r => some (.done (.ret r))) (
 some (.done (.out ())))
def Xv4 (p0 : Int) (p1 : Int) : Option Int :=
 bnd (
 sel (p0 != 4) (
 sel (p0 != 8) (
 some true) (
 sel (decide (p1 < 0)) (
 some true) (
 some (decide (p1 ≥ (Xaa .i64 (p0 * p0))))))) (
 sel (decide (p1 < 0)) (
 some true) (
 some (decide (p1 ≥ (Xaa .i64 (p0 * p0))))))) fun v1 =>
 sel v1 (
 some (-1)) (
 bnd (loop (Xol p0 p1) (0, 0)) fun o48 => match o48 with
| .out v33 => (
 some (-1))
| .ret r => some r)
def Xc7 (p0 : Int) (p1 : (List Int)) (v4 : (Int × (List Int))) : Option (Lp (Int × (List Int)) (List Int)) :=
 sel (decide (v4.1 < (Xaa .i64 (p0 * p0)))) (
 bnd (Xv4 p0 v4.1) fun q8 =>
 req (0 ≤ v4.1 ∧ v4.1 < p1.length) <|
 req (0 ≤ q8 ∧ q8 < v4.2.length) <|
 req (q8.toNat < v4.2.length) <|
 some (.go (Xaa .i64 (v4.1 + 1), (v4.2.set q8.toNat (p1.getD v4.1.toNat 0))))) (
 some (.done v4.2))
def Xfa (p0 : Int) (p1 : (List Int)) : Option ((List Int) × Bool) :=
 bnd (
 sel (p0 != 4) (
 sel (p0 != 8) (
 some true) (
 some ((p1.length : Int) != (Xaa .i64 (p0 * p0))))) (
 some ((p1.length : Int) != (Xaa .i64 (p0 * p0))))) fun v1 =>
 sel v1 (
 some (([] : List Int), false)) (
 req (0 ≤ (p1.length : Int) ∧ (p1.length : Int) ≤ (p1.length : Int) ∧ (p1.length : Int) * 8 ≤ 281474976710656) <|
 bnd (loop (Xc7 p0 p1) (0, (List.replicate (p1.length : Int).toNat (0 : Int)))) fun v7 =>
 some (v7, true))
def Xmm (p0 : Int) (v4 : (Int × Int)) : Option (Lp (Int × Int) Int) :=
 req ((6 : Int) ≠ 0) <|
 sel (decide (v4.2 < (Xaa .i64 (p0.tdiv 6)))) (
 some (.go (Xaa .i64 (2 * v4.1), Xaa .i64 (v4.2 + 1)))) (
 some (.done v4.1))
def Xl4 (p0 : Int) : Option Int :=
 bnd (Xat p0 0 40) fun q1 =>
 sel (!q1) (
 some 0) (
 bnd (
 req ((6 : Int) ≠ 0) <|
 sel ((p0.tmod 6) == 0) (
 some 10) (
 sel ((p0.tmod 6) == 1) (
 some 11) (
 sel ((p0.tmod 6) == 2) (
 some 13) (
 sel ((p0.tmod 6) == 3) (
 some 14) (
 sel ((p0.tmod 6) == 4) (
 some 16) (
 some 18)))))) fun v2 =>
 bnd (loop (Xmm p0) (v2, 0)) fun v6 =>
 some v6)
def Xiz (p0 : Int) (p1 : Int) : Option Int :=
 bnd (Xat p0 (-5000) 5000) fun q1 =>
 sel (!q1) (
 some 0) (
 bnd (Xl4 p1) fun q2 =>
 some (Xaa .i64 (p0 * q2)))
def Xml (v6 : (Int × Int)) : Option (Lp (Int × Int) Int) :=
 sel (decide (v6.2 > 0)) (
 bnd (
 req ((2 : Int) ≠ 0) <|
 sel ((v6.2.tmod 2) == 1) (
 some (Xaa .i64 (0 - v6.1))) (
 some v6.1)) fun v10 =>
 req ((2 : Int) ≠ 0) <|
 some (.go (v10, Xaa .i64 (v6.2.tdiv 2)))) (
 some (.done v6.1))
def Xl2 (p0 : Int) (p1 : Int) : Option Int :=
 bnd (
 bnd (Xat p0 0 7) fun q2 =>
 sel q2 (
 bnd (Xat p1 0 7) fun q3 =>
 some (!q3)) (
 some true)) fun v1 =>
 sel v1 (
 some 0) (
 bnd (loop (Xml) (1, (IntKind.wrap .i64 (BitVec.ofInt (IntKind.bits .i64) p0 &&& BitVec.ofInt (IntKind.bits .i64) p1).toNat))) fun v9 =>
 some v9)
def Xfd (p0 : (List Int)) (p1 : Int) (p2 : Int) (v3 : (Int × Int)) : Option (Lp (Int × Int) Int) :=
 sel (decide (v3.2 < 8)) (
 req (0 ≤ (Xaa .i64 ((Xaa .i64 (8 * p1)) + v3.2)) ∧ (Xaa .i64 ((Xaa .i64 (8 * p1)) + v3.2)) < p0.length) <|
 bnd (Xl2 p2 v3.2) fun q7 =>
 some (.go (Xaa .i64 (v3.1 + (Xaa .i64 ((p0.getD (Xaa .i64 ((Xaa .i64 (8 * p1)) + v3.2)).toNat 0) * q7))), Xaa .i64 (v3.2 + 1)))) (
 some (.done v3.1))
def Xou (p0 : (List Int)) (p1 : Int) (p2 : Int) : Option Int :=
 bnd (loop (Xfd p0 p1 p2) (0, 0)) fun v6 =>
 some v6
def Xdv (p0 : (List Int)) (v10 : (Int × (List Int))) (v23 : (Int × (List Int))) : Option (Lp (Int × (List Int)) (List Int)) :=
 sel (decide (v23.1 < 8)) (
 bnd (Xou p0 v10.1 v23.1) fun q27 =>
 req ((v23.2.length + ([q27]).length) * 8 ≤ 140737488355328 ∧ v23.2.length + ([q27]).length ≤ maxLen) <|
 some (.go (Xaa .i64 (v23.1 + 1), (v23.2 ++ ([q27]))))) (
 some (.done v23.2))
def Xdu (p0 : (List Int)) (v10 : (Int × (List Int))) : Option (Lp (Int × (List Int)) (List Int)) :=
 sel (decide (v10.1 < 8)) (
 bnd (loop (Xdv p0 v10) (0, v10.2)) fun v26 =>
 some (.go (Xaa .i64 (v10.1 + 1), v26))) (
 some (.done v10.2))
def Xda (v20 : (List Int)) (v60 : (Int × (List Int))) (v101 : (Int × (List Int))) (v114 : (Int × Int)) : Option (Lp (Int × Int) Int) :=
 sel (decide (v114.2 < 8)) (
 bnd (Xl2 v60.1 v114.2) fun q118 =>
 req (0 ≤ (Xaa .i64 ((Xaa .i64 (8 * v114.2)) + v101.1)) ∧ (Xaa .i64 ((Xaa .i64 (8 * v114.2)) + v101.1)) < v20.length) <|
 req ((Xaa .i64 ((Xaa .i64 (8 * v114.2)) + v101.1)).toNat < v20.length) <|
 some (.go (Xaa .i64 (v114.1 + (Xaa .i64 (q118 * (v20.getD ((Xaa .i64 ((Xaa .i64 (8 * v114.2)) + v101.1)).toNat) 0)))), Xaa .i64 (v114.2 + 1)))) (
 some (.done v114.1))
def Xc9 (v20 : (List Int)) (v60 : (Int × (List Int))) (v101 : (Int × (List Int))) : Option (Lp (Int × (List Int)) (List Int)) :=
 sel (decide (v101.1 < 8)) (
 bnd (loop (Xda v20 v60 v101) (0, 0)) fun v117 =>
 req ((v101.2.length + ([v117]).length) * 8 ≤ 140737488355328 ∧ v101.2.length + ([v117]).length ≤ maxLen) <|
 some (.go (Xaa .i64 (v101.1 + 1), (v101.2 ++ ([v117]))))) (
 some (.done v101.2))
def Xc8 (v20 : (List Int)) (v60 : (Int × (List Int))) : Option (Lp (Int × (List Int)) (List Int)) :=
 sel (decide (v60.1 < 8)) (
 bnd (loop (Xc9 v20 v60) (0, v60.2)) fun v111 =>
 some (.go (Xaa .i64 (v60.1 + 1), v111))) (
 some (.done v60.2))
def Xm7 (p0 : (List Int)) : Option (List Int) :=
 bnd (loop (Xdu p0) (0, ([] : List Int))) fun v20 =>
 bnd (loop (Xc8 v20) (0, ([] : List Int))) fun v91 =>
 some v91
def Xd6 (p0 : Int) (p1 : Int) : Option Int :=
 req (p1 ≠ 0) <|
 bnd (
 req (p1 ≠ 0) <|
 sel (decide ((p0.tmod p1) < 0)) (
 some (Xaa .i64 ((Xaa .i64 (p0.tdiv p1)) - 1))) (
 some (Xaa .i64 (p0.tdiv p1)))) fun v1 =>
 some v1
def Xh6 (v5 : (Int × (List Int))) : Option (Lp (Int × (List Int)) (List Int)) :=
 sel (decide (v5.1 < 64)) (
 req (0 ≤ v5.1 ∧ v5.1 < v5.2.length) <|
 req (v5.1.toNat < v5.2.length) <|
 bnd (Xd6 (Xaa .i64 ((v5.2.getD v5.1.toNat 0) + 32)) 64) fun q9 =>
 req (0 ≤ v5.1 ∧ v5.1 < v5.2.length) <|
 req (v5.1.toNat < v5.2.length) <|
 some (.go (Xaa .i64 (v5.1 + 1), (v5.2.set v5.1.toNat q9)))) (
 some (.done v5.2))
def Xiy (p0 : (List Int)) : Option (List Int) :=
 bnd (Xfb p0 64 10000000) fun q1 =>
 sel (!q1) (
 some ([] : List Int)) (
 bnd (Xm7 p0) fun q2 =>
 bnd (loop (Xh6) (0, q2)) fun v8 =>
 some v8)
def Xri (p0 : Int) : Option Int :=
 bnd (Xat p0 0 15) fun q1 =>
 sel (!q1) (
 some (-1)) (
 req ((4 : Int) ≠ 0) <|
 req ((2 : Int) ≠ 0) <|
 req ((4 : Int) ≠ 0) <|
 req ((2 : Int) ≠ 0) <|
 bnd (
 sel (((Xaa .i64 (p0.tdiv 4)).tmod 2) == 0) (
 some (((p0.tmod 4).tmod 2) == 0)) (
 some false)) fun v2 =>
 sel v2 (
 some 0) (
 bnd (
 sel (((Xaa .i64 (p0.tdiv 4)).tmod 2) == 1) (
 some (((p0.tmod 4).tmod 2) == 1)) (
 some false)) fun v3 =>
 sel v3 (
 some 1) (
 some 2)))
def Xce (p0 : Int) (p1 : Int) (p2 : Int) (p3 : Int) : Option Int :=
 sel (p0 == 0) (
 some p1) (
 sel (p0 == 1) (
 some p2) (
 some p3))
def Xfr (p0 : Int) (v12 : (Int × Int)) : Option (Lp (Int × Int) Int) :=
 req ((6 : Int) ≠ 0) <|
 sel (decide (v12.2 < (Xaa .i64 (p0.tdiv 6)))) (
 some (.go (Xaa .i64 (2 * v12.1), Xaa .i64 (v12.2 + 1)))) (
 some (.done v12.1))
def Xm5 (p0 : Int) (p1 : Int) : Option Int :=
 bnd (Xri p1) fun q1 =>
 bnd (
 bnd (Xat p0 0 40) fun q3 =>
 sel q3 (
 some (decide (q1 < 0))) (
 some true)) fun v2 =>
 sel v2 (
 some 0) (
 bnd (
 req ((6 : Int) ≠ 0) <|
 sel ((p0.tmod 6) == 0) (
 bnd (Xce q1 10 16 13) fun q5 =>
 some q5) (
 sel ((p0.tmod 6) == 1) (
 bnd (Xce q1 11 18 14) fun q6 =>
 some q6) (
 sel ((p0.tmod 6) == 2) (
 bnd (Xce q1 13 20 16) fun q7 =>
 some q7) (
 sel ((p0.tmod 6) == 3) (
 bnd (Xce q1 14 23 18) fun q8 =>
 some q8) (
 sel ((p0.tmod 6) == 4) (
 bnd (Xce q1 16 25 20) fun q9 =>
 some q9) (
 sel ((p0.tmod 6) == 5) (
 bnd (Xce q1 18 29 23) fun q10 =>
 some q10) (
 some 0))))))) fun v4 =>
 bnd (loop (Xfr p0) (v4, 0)) fun v14 =>
 some v14)
def Xi0 (p0 : Int) (p1 : Int) (p2 : Int) : Option Int :=
 bnd (Xat p0 (-5000) 5000) fun q1 =>
 sel (!q1) (
 some 0) (
 bnd (Xm5 p1 p2) fun q2 =>
 some (Xaa .i64 (p0 * q2)))
def Xdt (p0 : (List Int)) (v4 : (Int × (List Int))) : Option (Lp (Int × (List Int)) (List Int)) :=
 sel (decide (v4.1 < 4)) (
 req (0 ≤ (Xaa .i64 (4 * v4.1)) ∧ (Xaa .i64 (4 * v4.1)) < p0.length) <|
 req (0 ≤ (Xaa .i64 ((Xaa .i64 (4 * v4.1)) + 1)) ∧ (Xaa .i64 ((Xaa .i64 (4 * v4.1)) + 1)) < p0.length) <|
 req (0 ≤ (Xaa .i64 ((Xaa .i64 (4 * v4.1)) + 2)) ∧ (Xaa .i64 ((Xaa .i64 (4 * v4.1)) + 2)) < p0.length) <|
 req (0 ≤ (Xaa .i64 ((Xaa .i64 (4 * v4.1)) + 3)) ∧ (Xaa .i64 ((Xaa .i64 (4 * v4.1)) + 3)) < p0.length) <|
 bnd (Xd6 (p0.getD (Xaa .i64 ((Xaa .i64 (4 * v4.1)) + 1)).toNat 0) 2) fun q9 =>
 bnd (Xd6 (p0.getD (Xaa .i64 ((Xaa .i64 (4 * v4.1)) + 3)).toNat 0) 2) fun q10 =>
 req ((v4.2.length + ([Xaa .i64 ((Xaa .i64 ((p0.getD (Xaa .i64 (4 * v4.1)).toNat 0) + (p0.getD (Xaa .i64 ((Xaa .i64 (4 * v4.1)) + 2)).toNat 0))) + (Xaa .i64 ((p0.getD (Xaa .i64 ((Xaa .i64 (4 * v4.1)) + 1)).toNat 0) + q10))), Xaa .i64 ((Xaa .i64 ((p0.getD (Xaa .i64 (4 * v4.1)).toNat 0) - (p0.getD (Xaa .i64 ((Xaa .i64 (4 * v4.1)) + 2)).toNat 0))) + (Xaa .i64 (q9 - (p0.getD (Xaa .i64 ((Xaa .i64 (4 * v4.1)) + 3)).toNat 0)))), Xaa .i64 ((Xaa .i64 ((p0.getD (Xaa .i64 (4 * v4.1)).toNat 0) - (p0.getD (Xaa .i64 ((Xaa .i64 (4 * v4.1)) + 2)).toNat 0))) - (Xaa .i64 (q9 - (p0.getD (Xaa .i64 ((Xaa .i64 (4 * v4.1)) + 3)).toNat 0)))), Xaa .i64 ((Xaa .i64 ((p0.getD (Xaa .i64 (4 * v4.1)).toNat 0) + (p0.getD (Xaa .i64 ((Xaa .i64 (4 * v4.1)) + 2)).toNat 0))) - (Xaa .i64 ((p0.getD (Xaa .i64 ((Xaa .i64 (4 * v4.1)) + 1)).toNat 0) + q10)))]).length) * 8 ≤ 140737488355328 ∧ v4.2.length + ([Xaa .i64 ((Xaa .i64 ((p0.getD (Xaa .i64 (4 * v4.1)).toNat 0) + (p0.getD (Xaa .i64 ((Xaa .i64 (4 * v4.1)) + 2)).toNat 0))) + (Xaa .i64 ((p0.getD (Xaa .i64 ((Xaa .i64 (4 * v4.1)) + 1)).toNat 0) + q10))), Xaa .i64 ((Xaa .i64 ((p0.getD (Xaa .i64 (4 * v4.1)).toNat 0) - (p0.getD (Xaa .i64 ((Xaa .i64 (4 * v4.1)) + 2)).toNat 0))) + (Xaa .i64 (q9 - (p0.getD (Xaa .i64 ((Xaa .i64 (4 * v4.1)) + 3)).toNat 0)))), Xaa .i64 ((Xaa .i64 ((p0.getD (Xaa .i64 (4 * v4.1)).toNat 0) - (p0.getD (Xaa .i64 ((Xaa .i64 (4 * v4.1)) + 2)).toNat 0))) - (Xaa .i64 (q9 - (p0.getD (Xaa .i64 ((Xaa .i64 (4 * v4.1)) + 3)).toNat 0)))), Xaa .i64 ((Xaa .i64 ((p0.getD (Xaa .i64 (4 * v4.1)).toNat 0) + (p0.getD (Xaa .i64 ((Xaa .i64 (4 * v4.1)) + 2)).toNat 0))) - (Xaa .i64 ((p0.getD (Xaa .i64 ((Xaa .i64 (4 * v4.1)) + 1)).toNat 0) + q10)))]).length ≤ maxLen) <|
 some (.go (Xaa .i64 (v4.1 + 1), (v4.2 ++ ([Xaa .i64 ((Xaa .i64 ((p0.getD (Xaa .i64 (4 * v4.1)).toNat 0) + (p0.getD (Xaa .i64 ((Xaa .i64 (4 * v4.1)) + 2)).toNat 0))) + (Xaa .i64 ((p0.getD (Xaa .i64 ((Xaa .i64 (4 * v4.1)) + 1)).toNat 0) + q10))), Xaa .i64 ((Xaa .i64 ((p0.getD (Xaa .i64 (4 * v4.1)).toNat 0) - (p0.getD (Xaa .i64 ((Xaa .i64 (4 * v4.1)) + 2)).toNat 0))) + (Xaa .i64 (q9 - (p0.getD (Xaa .i64 ((Xaa .i64 (4 * v4.1)) + 3)).toNat 0)))), Xaa .i64 ((Xaa .i64 ((p0.getD (Xaa .i64 (4 * v4.1)).toNat 0) - (p0.getD (Xaa .i64 ((Xaa .i64 (4 * v4.1)) + 2)).toNat 0))) - (Xaa .i64 (q9 - (p0.getD (Xaa .i64 ((Xaa .i64 (4 * v4.1)) + 3)).toNat 0)))), Xaa .i64 ((Xaa .i64 ((p0.getD (Xaa .i64 (4 * v4.1)).toNat 0) + (p0.getD (Xaa .i64 ((Xaa .i64 (4 * v4.1)) + 2)).toNat 0))) - (Xaa .i64 ((p0.getD (Xaa .i64 ((Xaa .i64 (4 * v4.1)) + 1)).toNat 0) + q10)))]))))) (
 some (.done v4.2))
def Xib (p0 : (List Int)) : Option (List Int) :=
 bnd (loop (Xdt p0) (0, ([] : List Int))) fun v8 =>
 some v8
def Xej (p0 : (List Int)) (v2 : (Int × (List Int))) : Option (Lp (Int × (List Int)) (List Int)) :=
 sel (decide (v2.1 < 16)) (
 req ((4 : Int) ≠ 0) <|
 req ((4 : Int) ≠ 0) <|
 req (0 ≤ v2.1 ∧ v2.1 < p0.length) <|
 req (0 ≤ (Xaa .i64 ((Xaa .i64 ((v2.1.tmod 4) * 4)) + (Xaa .i64 (v2.1.tdiv 4)))) ∧ (Xaa .i64 ((Xaa .i64 ((v2.1.tmod 4) * 4)) + (Xaa .i64 (v2.1.tdiv 4)))) < v2.2.length) <|
 req ((Xaa .i64 ((Xaa .i64 ((v2.1.tmod 4) * 4)) + (Xaa .i64 (v2.1.tdiv 4)))).toNat < v2.2.length) <|
 some (.go (Xaa .i64 (v2.1 + 1), (v2.2.set ((Xaa .i64 ((Xaa .i64 ((v2.1.tmod 4) * 4)) + (Xaa .i64 (v2.1.tdiv 4)))).toNat) (p0.getD v2.1.toNat 0))))) (
 some (.done v2.2))
def Xka (p0 : (List Int)) : Option (List Int) :=
 req (0 ≤ (16 : Int) ∧ (16 : Int) ≤ (16 : Int) ∧ (16 : Int) * 8 ≤ 281474976710656) <|
 bnd (loop (Xej p0) (0, (List.replicate (16 : Int).toNat (0 : Int)))) fun v4 =>
 some v4
def Xjg (v8 : (Int × (List Int))) : Option (Lp (Int × (List Int)) (List Int)) :=
 sel (decide (v8.1 < 16)) (
 req (0 ≤ v8.1 ∧ v8.1 < v8.2.length) <|
 req (v8.1.toNat < v8.2.length) <|
 bnd (Xd6 (Xaa .i64 ((v8.2.getD v8.1.toNat 0) + 32)) 64) fun q12 =>
 req (0 ≤ v8.1 ∧ v8.1 < v8.2.length) <|
 req (v8.1.toNat < v8.2.length) <|
 some (.go (Xaa .i64 (v8.1 + 1), (v8.2.set v8.1.toNat q12)))) (
 some (.done v8.2))
def Xk3 (p0 : (List Int)) : Option (List Int) :=
 bnd (Xfb p0 16 10000000) fun q1 =>
 sel (!q1) (
 some ([] : List Int)) (
 bnd (Xib p0) fun q2 =>
 bnd (Xka q2) fun q3 =>
 bnd (Xib q3) fun q4 =>
 bnd (Xka q4) fun q5 =>
 bnd (loop (Xjg) (0, q5)) fun v11 =>
 some v11)
def Xbz (p1 : Xfg) (v8 : (Int × (List Int))) : Option (Lp (Int × (List Int)) (List Int)) :=
 sel (decide (v8.1 < 64)) (
 req (0 ≤ v8.1 ∧ v8.1 < v8.2.length) <|
 req (v8.1.toNat < v8.2.length) <|
 bnd (Xiz (v8.2.getD v8.1.toNat 0) p1.Qp) fun q12 =>
 req (0 ≤ v8.1 ∧ v8.1 < v8.2.length) <|
 req (v8.1.toNat < v8.2.length) <|
 some (.go (Xaa .i64 (v8.1 + 1), (v8.2.set v8.1.toNat q12)))) (
 some (.done v8.2))
def Xbv (p1 : Xfg) (v52 : (Int × (List Int))) : Option (Lp (Int × (List Int)) (List Int)) :=
 sel (decide (v52.1 < 16)) (
 req (0 ≤ v52.1 ∧ v52.1 < v52.2.length) <|
 req (v52.1.toNat < v52.2.length) <|
 bnd (Xi0 (v52.2.getD v52.1.toNat 0) p1.Qp v52.1) fun q56 =>
 req (0 ≤ v52.1 ∧ v52.1 < v52.2.length) <|
 req (v52.1.toNat < v52.2.length) <|
 some (.go (Xaa .i64 (v52.1 + 1), (v52.2.set v52.1.toNat q56)))) (
 some (.done v52.2))
def Xb0 (v31 : (Int × (List Int))) (q58 : (List Int)) (v60 : (Int × (List Int))) : Option (Lp (Int × (List Int)) (List Int)) :=
 sel (decide (v60.1 < 16)) (
 req ((2 : Int) ≠ 0) <|
 req ((4 : Int) ≠ 0) <|
 req ((2 : Int) ≠ 0) <|
 req ((4 : Int) ≠ 0) <|
 req (0 ≤ v60.1 ∧ v60.1 < q58.length) <|
 req (v60.1.toNat < q58.length) <|
 req (0 ≤ (Xaa .i64 ((Xaa .i64 ((Xaa .i64 (8 * (Xaa .i64 ((Xaa .i64 ((Xaa .i64 (v31.1.tdiv 2)) * 4)) + (Xaa .i64 (v60.1.tdiv 4)))))) + (Xaa .i64 ((v31.1.tmod 2) * 4)))) + (v60.1.tmod 4))) ∧ (Xaa .i64 ((Xaa .i64 ((Xaa .i64 (8 * (Xaa .i64 ((Xaa .i64 ((Xaa .i64 (v31.1.tdiv 2)) * 4)) + (Xaa .i64 (v60.1.tdiv 4)))))) + (Xaa .i64 ((v31.1.tmod 2) * 4)))) + (v60.1.tmod 4))) < v60.2.length) <|
 req ((Xaa .i64 ((Xaa .i64 ((Xaa .i64 (8 * (Xaa .i64 ((Xaa .i64 ((Xaa .i64 (v31.1.tdiv 2)) * 4)) + (Xaa .i64 (v60.1.tdiv 4)))))) + (Xaa .i64 ((v31.1.tmod 2) * 4)))) + (v60.1.tmod 4))).toNat < v60.2.length) <|
 some (.go (Xaa .i64 (v60.1 + 1), (v60.2.set ((Xaa .i64 ((Xaa .i64 ((Xaa .i64 (8 * (Xaa .i64 ((Xaa .i64 ((Xaa .i64 (v31.1.tdiv 2)) * 4)) + (Xaa .i64 (v60.1.tdiv 4)))))) + (Xaa .i64 ((v31.1.tmod 2) * 4)))) + (v60.1.tmod 4))).toNat) (q58.getD v60.1.toNat 0))))) (
 some (.done v60.2))
def Xc6 (p0 : (List Int)) (p1 : Xfg) (v31 : (Int × (List Int))) : Option (Lp (Int × (List Int)) (List Int)) :=
 sel (decide (v31.1 < 4)) (
 req (0 ≤ (Xaa .i64 (16 * v31.1)) ∧ (Xaa .i64 (16 * v31.1)) ≤ (Xaa .i64 ((Xaa .i64 (16 * v31.1)) + 16)) ∧ (Xaa .i64 ((Xaa .i64 (16 * v31.1)) + 16)) ≤ (p0.length : Int)) <|
 bnd (Xfa 4 ((p0.drop (Xaa .i64 (16 * v31.1)).toNat).take ((Xaa .i64 ((Xaa .i64 (16 * v31.1)) + 16)).toNat - (Xaa .i64 (16 * v31.1)).toNat))) fun q49 =>
 bnd (loop (Xbv p1) (0, q49.1)) fun v55 =>
 bnd (Xk3 v55) fun q58 =>
 bnd (loop (Xb0 v31 q58) (0, v31.2)) fun v62 =>
 some (.go (Xaa .i64 (v31.1 + 1), v62))) (
 some (.done v31.2))
def Xfq (p0 : (List Int)) (p1 : Xfg) : Option ((List Int) × Bool) :=
 bnd (
 bnd (Xlz p1) fun q2 =>
 sel q2 (
 bnd (Xfb p0 64 5000) fun q3 =>
 some (!q3)) (
 some true)) fun v1 =>
 sel v1 (
 some (([] : List Int), false)) (
 sel p1.Exact (
 bnd (Xfa 8 p0) fun q4 =>
 some (q4.1, q4.2)) (
 sel p1.Large (
 bnd (Xfa 8 p0) fun q5 =>
 bnd (loop (Xbz p1) (0, q5.1)) fun v11 =>
 bnd (Xiy v11) fun q14 =>
 some (q14, true)) (
 req (0 ≤ (64 : Int) ∧ (64 : Int) ≤ (64 : Int) ∧ (64 : Int) * 8 ≤ 281474976710656) <|
 bnd (loop (Xc6 p0 p1) (0, (List.replicate (64 : Int).toNat (0 : Int)))) fun v48 =>
 some (v48, true))))
def Xlc (p0 : (List Int)) (v4 : Int) : Option (Lp Int (Ou Unit Bool)) :=
 sel (decide (v4 < (p0.length : Int))) (
 req (0 ≤ v4 ∧ v4 < p0.length) <|
 bnd (Xat (p0.getD v4.toNat 0) 0 255) fun q8 =>
 sel (!q8) (
 some (.done (.ret false))) (
 some (.go (Xaa .i64 (v4 + 1))))) (
 some (.done (.out ())))
def Xpd (p0 : (List Int)) : Option Bool :=
 bnd (
 sel ((p0.length : Int) != 0) (
 some ((p0.length : Int) != 8)) (
 some false)) fun v1 =>
 sel v1 (
 some false) (
 bnd (loop (Xlc p0) 0) fun o9 => match o9 with
| .out v7 => (
 some true)
| .ret r => some r)
def Xsq (p0 : Xnc) : Option Bool :=
 bnd (
 bnd (Xpd p0.Above) fun q2 =>
 sel q2 (
 bnd (Xpd p0.Left) fun q3 =>
 sel q3 (
 bnd (Xat p0.Corner (-1) 255) fun q4 =>
 some q4) (
 some false)) (
 some false)) fun v1 =>
 some v1
def Xfe (p0 : (List Int)) (p1 : Int) : Option Int :=
 sel ((p0.length : Int) == 0) (
 some 128) (
 req (0 ≤ p1 ∧ p1 < p0.length) <|
 some (p0.getD p1.toNat 0))
def Xi4 (p0 : Xnc) (v2 : (Int × Int)) : Option (Lp (Int × Int) Int) :=
 sel (decide (v2.2 < (p0.Above.length : Int))) (
 req (0 ≤ v2.2 ∧ v2.2 < p0.Above.length) <|
 some (.go (Xaa .i64 (v2.1 + (p0.Above.getD v2.2.toNat 0)), Xaa .i64 (v2.2 + 1)))) (
 some (.done v2.1))
def Xi5 (p0 : Xnc) (v7 : (Int × Int)) : Option (Lp (Int × Int) Int) :=
 sel (decide (v7.2 < (p0.Left.length : Int))) (
 req (0 ≤ v7.2 ∧ v7.2 < p0.Left.length) <|
 some (.go (Xaa .i64 (v7.1 + (p0.Left.getD v7.2.toNat 0)), Xaa .i64 (v7.2 + 1)))) (
 some (.done v7.1))
def Xov (p0 : Xnc) : Option Int :=
 sel ((Xaa .i64 ((p0.Above.length : Int) + (p0.Left.length : Int))) == 0) (
 some 128) (
 req ((2 : Int) ≠ 0) <|
 bnd (loop (Xi4 p0) (Xaa .i64 ((Xaa .i64 ((p0.Above.length : Int) + (p0.Left.length : Int))).tdiv 2), 0)) fun v4 =>
 bnd (loop (Xi5 p0) (v4, 0)) fun v9 =>
 req ((Xaa .i64 ((p0.Above.length : Int) + (p0.Left.length : Int))) ≠ 0) <|
 some (Xaa .i64 (v9.tdiv (Xaa .i64 ((p0.Above.length : Int) + (p0.Left.length : Int))))))
def Xef (p0 : Int) (p1 : Xnc) (v4 : Int) (v11 : (Int × (List Int))) : Option (Lp (Int × (List Int)) (List Int)) :=
 sel (decide (v11.1 < 64)) (
 bnd (
 req ((8 : Int) ≠ 0) <|
 bnd (Xfe p1.Above (v11.1.tmod 8)) fun q20 =>
 req ((8 : Int) ≠ 0) <|
 bnd (Xfe p1.Left (Xaa .i64 (v11.1.tdiv 8))) fun q21 =>
 sel (p0 == 0) (
 bnd (Xov p1) fun q22 =>
 req ((v11.2.length + ([q22]).length) * 8 ≤ 140737488355328 ∧ v11.2.length + ([q22]).length ≤ maxLen) <|
 some (v11.2 ++ ([q22]))) (
 sel (p0 == 1) (
 req ((v11.2.length + ([q20]).length) * 8 ≤ 140737488355328 ∧ v11.2.length + ([q20]).length ≤ maxLen) <|
 some (v11.2 ++ ([q20]))) (
 sel (p0 == 2) (
 req ((v11.2.length + ([q21]).length) * 8 ≤ 140737488355328 ∧ v11.2.length + ([q21]).length ≤ maxLen) <|
 some (v11.2 ++ ([q21]))) (
 bnd (Xhj (Xaa .i64 ((Xaa .i64 (q21 + q20)) - v4)) 0 255) fun q23 =>
 req ((v11.2.length + ([q23]).length) * 8 ≤ 140737488355328 ∧ v11.2.length + ([q23]).length ≤ maxLen) <|
 some (v11.2 ++ ([q23])))))) fun v19 =>
 some (.go (Xaa .i64 (v11.1 + 1), v19))) (
 some (.done v11.2))
def Xj2 (p0 : Int) (p1 : Xnc) : Option (List Int) :=
 bnd (
 bnd (Xsq p1) fun q2 =>
 sel q2 (
 bnd (Xat p0 0 3) fun q3 =>
 some (!q3)) (
 some true)) fun v1 =>
 sel v1 (
 some ([] : List Int)) (
 bnd (
 sel (decide (p1.Corner < 0)) (
 some 128) (
 some p1.Corner)) fun v4 =>
 bnd (loop (Xef p0 p1 v4) (0, ([] : List Int))) fun v18 =>
 some v18)
def Xlb (p0 : (List Int)) (v3 : Int) : Option (Lp Int (Ou Unit Bool)) :=
 sel (decide (v3 < 64)) (
 req (0 ≤ v3 ∧ v3 < p0.length) <|
 bnd (Xat (p0.getD v3.toNat 0) 0 255) fun q7 =>
 sel (!q7) (
 some (.done (.ret false))) (
 some (.go (Xaa .i64 (v3 + 1))))) (
 some (.done (.out ())))
def Xs6 (p0 : (List Int)) : Option Bool :=
 sel ((p0.length : Int) != 64) (
 some false) (
 bnd (loop (Xlb p0) 0) fun o8 => match o8 with
| .out v6 => (
 some true)
| .ret r => some r)
def Xgw (p0 : (List Int)) (p1 : (List Int)) (v6 : (Int × (List Int))) : Option (Lp (Int × (List Int)) (List Int)) :=
 sel (decide (v6.1 < 64)) (
 req (0 ≤ v6.1 ∧ v6.1 < p0.length) <|
 req (0 ≤ v6.1 ∧ v6.1 < p1.length) <|
 bnd (Xhj (Xaa .i64 ((p0.getD v6.1.toNat 0) + (p1.getD v6.1.toNat 0))) 0 255) fun q10 =>
 req ((v6.2.length + ([q10]).length) * 8 ≤ 140737488355328 ∧ v6.2.length + ([q10]).length ≤ maxLen) <|
 some (.go (Xaa .i64 (v6.1 + 1), (v6.2 ++ ([q10]))))) (
 some (.done v6.2))
def Xl1 (p0 : (List Int)) (p1 : (List Int)) : Option (List Int) :=
 bnd (
 bnd (Xs6 p0) fun q2 =>
 sel q2 (
 bnd (Xfb p1 64 10000000) fun q3 =>
 some (!q3)) (
 some true)) fun v1 =>
 sel v1 (
 some ([] : List Int)) (
 bnd (loop (Xgw p0 p1) (0, ([] : List Int))) fun v9 =>
 some v9)
def Xk0 (p0 : Pic) (p1 : Int) (p2 : Int) (v7 : (Int × (List Int))) : Option (Lp (Int × (List Int)) (List Int)) :=
 sel (decide (v7.1 < 64)) (
 req ((8 : Int) ≠ 0) <|
 req ((8 : Int) ≠ 0) <|
 bnd (Xh5 p0 (Xaa .i64 (p1 + (v7.1.tmod 8))) (Xaa .i64 (p2 + (Xaa .i64 (v7.1.tdiv 8))))) fun q11 =>
 req ((v7.2.length + ([q11]).length) * 8 ≤ 140737488355328 ∧ v7.2.length + ([q11]).length ≤ maxLen) <|
 some (.go (Xaa .i64 (v7.1 + 1), (v7.2 ++ ([q11]))))) (
 some (.done v7.2))
def Xsp (p0 : Pic) (p1 : Int) (p2 : Int) : Option (List Int) :=
 bnd (
 bnd (Xj4 p0) fun q2 =>
 sel q2 (
 bnd (Xat p1 (-1000) 1000) fun q3 =>
 sel q3 (
 bnd (Xat p2 (-1000) 1000) fun q4 =>
 some (!q4)) (
 some true)) (
 some true)) fun v1 =>
 sel v1 (
 some ([] : List Int)) (
 bnd (loop (Xk0 p0 p1 p2) (0, ([] : List Int))) fun v10 =>
 some v10)
def Xeh (p0 : Pic) (p1 : Pic) (p2 : Int) (p3 : Int) (p4 : Xfg) (p5 : Int) (p6 : Int) (p7 : Xao) : Option ((List Int) × Bool) :=
 bnd (
 bnd (Xpc p0 p5 p6) fun q2 =>
 sel q2 (
 bnd (Xat p2 0 256) fun q3 =>
 sel q3 (
 bnd (Xat p3 0 256) fun q4 =>
 sel q4 (
 bnd (Xgc p7) fun q5 =>
 sel q5 (
 bnd (Xlz p4) fun q6 =>
 some (!q6)) (
 some true)) (
 some true)) (
 some true)) (
 some true)) fun v1 =>
 sel v1 (
 some (([] : List Int), false)) (
 sel (p7.Kind == 2) (
 bnd (Xm3 p0 p5 p6) fun q7 =>
 bnd (Xfq p7.Levels p4) fun q8 =>
 bnd (Xj2 p7.Mode q7.1) fun q9 =>
 bnd (Xl1 q9 q8.1) fun q10 =>
 some (q10, true)) (
 bnd (
 sel p4.Key (
 some true) (
 bnd (Xj4 p1) fun q12 =>
 some (!q12))) fun v11 =>
 sel v11 (
 some (([] : List Int), false)) (
 bnd (Xsp p1 (Xaa .i64 ((Xaa .i64 (p2 + p5)) + p7.Dx)) (Xaa .i64 ((Xaa .i64 (p3 + p6)) + p7.Dy))) fun q13 =>
 sel (p7.Kind == 0) (
 some (q13, true)) (
 bnd (Xfq p7.Levels p4) fun q14 =>
 bnd (Xl1 q13 q14.1) fun q15 =>
 some (q15, true)))))
def Xg0 (p0 : Pic) (p1 : Int) (p2 : Int) (p3 : (List Int)) (v2 : (Int × (List Int))) : Option (Lp (Int × (List Int)) (List Int)) :=
 sel (decide (v2.1 < 64)) (
 req ((8 : Int) ≠ 0) <|
 req ((8 : Int) ≠ 0) <|
 req (0 ≤ v2.1 ∧ v2.1 < p3.length) <|
 req (0 ≤ (Xaa .i64 ((Xaa .i64 ((Xaa .i64 ((Xaa .i64 (p2 + (Xaa .i64 (v2.1.tdiv 8)))) * p0.Wide)) + p1)) + (v2.1.tmod 8))) ∧ (Xaa .i64 ((Xaa .i64 ((Xaa .i64 ((Xaa .i64 (p2 + (Xaa .i64 (v2.1.tdiv 8)))) * p0.Wide)) + p1)) + (v2.1.tmod 8))) < v2.2.length) <|
 req ((Xaa .i64 ((Xaa .i64 ((Xaa .i64 ((Xaa .i64 (p2 + (Xaa .i64 (v2.1.tdiv 8)))) * p0.Wide)) + p1)) + (v2.1.tmod 8))).toNat < v2.2.length) <|
 some (.go (Xaa .i64 (v2.1 + 1), (v2.2.set ((Xaa .i64 ((Xaa .i64 ((Xaa .i64 ((Xaa .i64 (p2 + (Xaa .i64 (v2.1.tdiv 8)))) * p0.Wide)) + p1)) + (v2.1.tmod 8))).toNat) (Xaa .u8 ((p3.getD v2.1.toNat 0))))))) (
 some (.done v2.2))
def Xl8 (p0 : Pic) (p1 : Int) (p2 : Int) (p3 : (List Int)) : Option Pic :=
 req (p0.Dots.size ≤ maxLen) <|
 bnd (loop (Xg0 p0 p1 p2 p3) (0, (Xal p0.Dots))) fun v4 =>
 some (⟨p0.Wide, p0.High, (strOfNums v4)⟩ : Pic)
def Xbr (p1 : Xph) (p2 : Xfg) (p4 : (List Xao)) (v9 : (Int × Int × Int × Int × ByteArray)) (v16 : (Int × Int × Int × ByteArray)) : Option (Lp (Int × Int × Int × ByteArray) (Int × Int × ByteArray)) :=
 sel (decide (v16.1 < (p4.length : Int))) (
 req ((8 : Int) ≠ 0) <|
 req ((Xaa .i64 (p1.Wide.tdiv 8)) ≠ 0) <|
 req ((8 : Int) ≠ 0) <|
 req ((Xaa .i64 (p1.Wide.tdiv 8)) ≠ 0) <|
 req (0 ≤ v16.1 ∧ v16.1 < p4.length) <|
 bnd (Xeh (⟨v16.2.1, v16.2.2.1, v16.2.2.2⟩ : Pic) (⟨v9.2.2.1, v9.2.2.2.1, v9.2.2.2.2⟩ : Pic) v9.1 v9.2.1 p2 (Xaa .i64 (8 * (v16.1.tmod (Xaa .i64 (p1.Wide.tdiv 8))))) (Xaa .i64 (8 * (Xaa .i64 (v16.1.tdiv (Xaa .i64 (p1.Wide.tdiv 8)))))) (⟨(p4.getD v16.1.toNat Xbt).Kind, (p4.getD v16.1.toNat Xbt).Mode, (p4.getD v16.1.toNat Xbt).Dx, (p4.getD v16.1.toNat Xbt).Dy, (p4.getD v16.1.toNat Xbt).Levels⟩ : Xao)) fun q21 =>
 bnd (Xl8 (⟨v16.2.1, v16.2.2.1, v16.2.2.2⟩ : Pic) (Xaa .i64 (8 * (v16.1.tmod (Xaa .i64 (p1.Wide.tdiv 8))))) (Xaa .i64 (8 * (Xaa .i64 (v16.1.tdiv (Xaa .i64 (p1.Wide.tdiv 8)))))) q21.1) fun q22 =>
 some (.go (Xaa .i64 (v16.1 + 1), q22.Wide, q22.High, q22.Dots))) (
 some (.done (v16.2.1, v16.2.2.1, v16.2.2.2)))
def Xk6 (p0 : Pic) (p1 : Xph) (p2 : Xfg) (p3 : Bool) (p4 : (List Xao)) : Option (Pic × Bool) :=
 bnd (
 bnd (Xpf p1.Wide) fun q2 =>
 sel q2 (
 bnd (Xpf p1.High) fun q3 =>
 sel q3 (
 bnd (Xat p1.Left 0 256) fun q4 =>
 sel q4 (
 bnd (Xat p1.Top 0 256) fun q5 =>
 sel q5 (
 bnd (Yac p4 p2) fun q6 =>
 sel q6 (
 req ((8 : Int) ≠ 0) <|
 req ((8 : Int) ≠ 0) <|
 some ((p4.length : Int) != (Xaa .i64 ((Xaa .i64 (p1.Wide.tdiv 8)) * (Xaa .i64 (p1.High.tdiv 8)))))) (
 some true)) (
 some true)) (
 some true)) (
 some true)) (
 some true)) fun v1 =>
 sel v1 (
 some ((⟨0, 0, ⟨#[]⟩⟩ : Pic), false)) (
 bnd (
 sel p2.Key (
 some false) (
 bnd (Xdg p0 p1.Left p1.Top p1.Wide p1.High) fun q8 =>
 some (!q8))) fun v7 =>
 sel v7 (
 some ((⟨0, 0, ⟨#[]⟩⟩ : Pic), false)) (
 bnd (
 bnd (
 sel p2.Key (
 some false) (
 some p3)) fun v10 =>
 sel v10 (
 bnd (Xts p0 p1) fun q11 =>
 some (0, 0, q11.1.Wide, q11.1.High, q11.1.Dots)) (
 some (p1.Left, p1.Top, p0.Wide, p0.High, p0.Dots))) fun v9 =>
 bnd (Xqn p1.Wide p1.High) fun q12 =>
 bnd (loop (Xbr p1 p2 p4 v9) (0, q12.Wide, q12.High, q12.Dots)) fun v20 =>
 some ((⟨v20.1, v20.2.1, v20.2.2⟩ : Pic), true)))
def Xb8 (p0 : Pic) (p1 : Pic) (p2 : Int) (p3 : Int) (v10 : (Int × (List Int))) (v19 : (Int × (List Int))) : Option (Lp (Int × (List Int)) (List Int)) :=
 sel (decide (v19.1 < p1.Wide)) (
 req (0 ≤ (Xaa .i64 ((Xaa .i64 (v10.1 * p1.Wide)) + v19.1)) ∧ (Xaa .i64 ((Xaa .i64 (v10.1 * p1.Wide)) + v19.1)) < p1.Dots.size) <|
 req (0 ≤ (Xaa .i64 ((Xaa .i64 ((Xaa .i64 ((Xaa .i64 (p3 + v10.1)) * p0.Wide)) + p2)) + v19.1)) ∧ (Xaa .i64 ((Xaa .i64 ((Xaa .i64 ((Xaa .i64 (p3 + v10.1)) * p0.Wide)) + p2)) + v19.1)) < v19.2.length) <|
 req ((Xaa .i64 ((Xaa .i64 ((Xaa .i64 ((Xaa .i64 (p3 + v10.1)) * p0.Wide)) + p2)) + v19.1)).toNat < v19.2.length) <|
 some (.go (Xaa .i64 (v19.1 + 1), (v19.2.set ((Xaa .i64 ((Xaa .i64 ((Xaa .i64 ((Xaa .i64 (p3 + v10.1)) * p0.Wide)) + p2)) + v19.1)).toNat) (Xcd p1.Dots (Xaa .i64 ((Xaa .i64 (v10.1 * p1.Wide)) + v19.1))))))) (
 some (.done v19.2))
def Xeg (p0 : Pic) (p1 : Pic) (p2 : Int) (p3 : Int) (v10 : (Int × (List Int))) : Option (Lp (Int × (List Int)) (List Int)) :=
 sel (decide (v10.1 < p1.High)) (
 bnd (loop (Xb8 p0 p1 p2 p3 v10) (0, v10.2)) fun v21 =>
 some (.go (Xaa .i64 (v10.1 + 1), v21))) (
 some (.done v10.2))
def Xok (p0 : Pic) (p1 : Pic) (p2 : Int) (p3 : Int) : Option (Pic × Bool) :=
 bnd (
 bnd (Xj4 p1) fun q2 =>
 sel q2 (
 bnd (Xdg p0 p2 p3 p1.Wide p1.High) fun q3 =>
 some (!q3)) (
 some true)) fun v1 =>
 sel v1 (
 some (p0, false)) (
 req (p0.Dots.size ≤ maxLen) <|
 bnd (loop (Xeg p0 p1 p2 p3) (0, (Xal p0.Dots))) fun v17 =>
 some ((⟨p0.Wide, p0.High, (strOfNums v17)⟩ : Pic), true))
def Xld (p0 : Xar) (p1 : Int) (p2 : ByteArray) : Option (Xar × Int × Pic) :=
 sel (!p0.HasPar) (
 some (p0, 4, (⟨0, 0, ⟨#[]⟩⟩ : Pic))) (
 bnd (Xh7 p0.Seq p0.Par p2) fun q1 =>
 sel (!q1.2.2) (
 some (p0, 5, (⟨0, 0, ⟨#[]⟩⟩ : Pic))) (
 sel (q1.1.Tile != p0.Got) (
 some (p0, 6, (⟨0, 0, ⟨#[]⟩⟩ : Pic))) (
 bnd (
 sel (p0.Frame != (-1)) (
 some (p0.Frame != q1.1.Frame)) (
 some false)) fun v2 =>
 sel v2 (
 some (p0, 7, (⟨0, 0, ⟨#[]⟩⟩ : Pic))) (
 bnd (
 sel (p1 == 1) (
 some (!p0.HasRef)) (
 some false)) fun v3 =>
 sel v3 (
 some (p0, 8, (⟨0, 0, ⟨#[]⟩⟩ : Pic))) (
 bnd (Xcb p0.Seq q1.1.Tile) fun q4 =>
 bnd (Xk4 p2 q1.2.1 q4 (⟨(p1 == 5), q1.1.Qp, p0.Par.Large, p0.Par.Exact⟩ : Xfg)) fun q5 =>
 sel (!q5.2) (
 some (p0, 9, (⟨0, 0, ⟨#[]⟩⟩ : Pic))) (
 bnd (Xde p0.Seq q1.1.Tile) fun q6 =>
 bnd (Xk6 p0.Ref q6.1 (⟨(p1 == 5), q1.1.Qp, p0.Par.Large, p0.Par.Exact⟩ : Xfg) p0.Par.Confined q5.1) fun q7 =>
 bnd (
 sel (p0.Got == 0) (
 bnd (Xl3 p0.Seq) fun q9 =>
 bnd (Xqn q9.1 q9.2) fun q10 =>
 some (q10.Wide, q10.High, q10.Dots)) (
 some (p0.Now.Wide, p0.Now.High, p0.Now.Dots))) fun v8 =>
 bnd (Xok (⟨v8.1, v8.2.1, v8.2.2⟩ : Pic) q7.1 q6.1.Left q6.1.Top) fun q11 =>
 bnd (Xe1 p0.Seq) fun q12 =>
 sel (decide ((Xaa .i64 (p0.Got + 1)) < q12)) (
 some ((⟨p0.HasSeq, p0.HasPar, p0.HasRef, p0.Seq, p0.Par, q1.1.Frame, Xaa .i64 (p0.Got + 1), q11.1, p0.Ref⟩ : Xar), 0, (⟨0, 0, ⟨#[]⟩⟩ : Pic))) (
 req (0 ≤ (Xaa .u64 (p0.Seq.Bits))) <|
 req ((Xaa .i64 (1 * 2 ^ min (Xaa .u64 (p0.Seq.Bits)).toNat (IntKind.bits .i64))) ≠ 0) <|
 some ((⟨p0.HasSeq, p0.HasPar, true, p0.Seq, p0.Par, ((Xaa .i64 (q1.1.Frame + 1)).tmod (Xaa .i64 (1 * 2 ^ min (Xaa .u64 (p0.Seq.Bits)).toNat (IntKind.bits .i64)))), 0, (⟨0, 0, ⟨#[]⟩⟩ : Pic), q11.1⟩ : Xar), 0, q11.1))))))))
def Xkc (p0 : Xar) (p1 : ByteArray) : Option (Xar × Int × Pic) :=
 bnd (Xzz p0) fun q1 =>
 sel (!q1) (
 some (p0, 1, (⟨0, 0, ⟨#[]⟩⟩ : Pic))) (
 bnd (Xon p1) fun q2 =>
 sel (!q2.2.2) (
 some (p0, 2, (⟨0, 0, ⟨#[]⟩⟩ : Pic))) (
 sel (q2.1 == 7) (
 bnd (Xfx q2.2.1 0) fun q3 =>
 bnd (
 sel q3.2.2 (
 some (q3.2.1 != (q2.2.1.size : Int))) (
 some true)) fun v4 =>
 sel v4 (
 some (p0, 3, (⟨0, 0, ⟨#[]⟩⟩ : Pic))) (
 some ((⟨true, false, false, q3.1, (⟨0, false, false, false⟩ : Par), (-1), 0, (⟨0, 0, ⟨#[]⟩⟩ : Pic), (⟨0, 0, ⟨#[]⟩⟩ : Pic)⟩ : Xar), 0, (⟨0, 0, ⟨#[]⟩⟩ : Pic)))) (
 sel (q2.1 == 8) (
 bnd (Xfw q2.2.1 0) fun q5 =>
 bnd (
 sel q5.2.2 (
 some (q5.2.1 != (q2.2.1.size : Int))) (
 some true)) fun v6 =>
 sel v6 (
 some (p0, 3, (⟨0, 0, ⟨#[]⟩⟩ : Pic))) (
 bnd (
 sel p0.HasSeq (
 some (decide (p0.Got > 0))) (
 some true)) fun v7 =>
 sel v7 (
 some (p0, 4, (⟨0, 0, ⟨#[]⟩⟩ : Pic))) (
 some ((⟨p0.HasSeq, true, p0.HasRef, p0.Seq, q5.1, p0.Frame, p0.Got, p0.Now, p0.Ref⟩ : Xar), 0, (⟨0, 0, ⟨#[]⟩⟩ : Pic))))) (
 bnd (Xld p0 q2.1 q2.2.1) fun q8 =>
 some (q8.1, q8.2.1, q8.2.2)))))
def Xm6 (p0 : Seq) : Option Seq :=
 req ((([] : List Int).length + p0.Cols.length) * 8 ≤ 140737488355328 ∧ ([] : List Int).length + p0.Cols.length ≤ maxLen) <|
 req ((([] : List Int).length + p0.Rows.length) * 8 ≤ 140737488355328 ∧ ([] : List Int).length + p0.Rows.length ≤ maxLen) <|
 some (⟨p0.Level, p0.Bits, (([] : List Int) ++ p0.Cols), (([] : List Int) ++ p0.Rows)⟩ : Seq)
def Xdn (p0 : Xar) (p1 : ByteArray) : Option (Xar × Int × Pic) :=
 bnd (Xkc p0 p1) fun q1 =>
 bnd (Xm6 q1.1.Seq) fun q2 =>
 some ((⟨q1.1.HasSeq, q1.1.HasPar, q1.1.HasRef, q2, q1.1.Par, q1.1.Frame, q1.1.Got, q1.1.Now, q1.1.Ref⟩ : Xar), q1.2.1, q1.2.2)
def Xg3 (p0 : ByteArray) (v4 : (Int × (List Int))) : Option (Lp (Int × (List Int)) (List Int)) :=
 sel (decide (v4.1 < (p0.size : Int))) (
 bnd (
 bnd (
 sel (decide ((v4.2.length : Int) ≥ 2)) (
 req (0 ≤ (Xaa .i64 ((v4.2.length : Int) - 1)) ∧ (Xaa .i64 ((v4.2.length : Int) - 1)) < v4.2.length) <|
 req ((Xaa .i64 ((v4.2.length : Int) - 1)).toNat < v4.2.length) <|
 sel ((v4.2.getD ((Xaa .i64 ((v4.2.length : Int) - 1)).toNat) 0) == 0) (
 req (0 ≤ (Xaa .i64 ((v4.2.length : Int) - 2)) ∧ (Xaa .i64 ((v4.2.length : Int) - 2)) < v4.2.length) <|
 req ((Xaa .i64 ((v4.2.length : Int) - 2)).toNat < v4.2.length) <|
 sel ((v4.2.getD ((Xaa .i64 ((v4.2.length : Int) - 2)).toNat) 0) == 0) (
 req (0 ≤ v4.1 ∧ v4.1 < p0.size) <|
 some (decide ((Xcd p0 v4.1) < 4))) (
 some false)) (
 some false)) (
 some false)) fun v10 =>
 sel v10 (
 req ((v4.2.length + ([3]).length) * 1 ≤ 140737488355328 ∧ v4.2.length + ([3]).length ≤ maxLen) <|
 some (v4.2 ++ ([3]))) (
 some v4.2)) fun v9 =>
 req (0 ≤ v4.1 ∧ v4.1 < p0.size) <|
 req ((v9.length + ([(Xcd p0 v4.1)]).length) * 1 ≤ 140737488355328 ∧ v9.length + ([(Xcd p0 v4.1)]).length ≤ maxLen) <|
 some (.go (Xaa .i64 (v4.1 + 1), (v9 ++ ([(Xcd p0 v4.1)]))))) (
 some (.done v4.2))
def Xop (p0 : ByteArray) : Option ByteArray :=
 bnd (loop (Xg3 p0) (0, ([] : List Int))) fun v8 =>
 some (strOfNums v8)
def Xsr (p0 : ByteArray) : Option (ByteArray × Bool) :=
 bnd (
 sel ((p0.size : Int) == 0) (
 some true) (
 sel (decide ((p0.size : Int) > 60000)) (
 some true) (
 req (0 ≤ (Xaa .i64 ((p0.size : Int) - 1)) ∧ (Xaa .i64 ((p0.size : Int) - 1)) < p0.size) <|
 some ((Xcd p0 (Xaa .i64 ((p0.size : Int) - 1))) == 0)))) fun v1 =>
 sel v1 (
 some (⟨#[]⟩, false)) (
 bnd (Xop p0) fun q2 =>
 some (q2, true))
def Xfs (p0 : ByteArray) (v4 : (Int × (List Int))) : Option (Lp (Int × (List Int)) (List Int)) :=
 sel (decide (v4.1 < (p0.size : Int))) (
 bnd (
 bnd (
 sel (decide (v4.1 ≥ 2)) (
 req (0 ≤ v4.1 ∧ v4.1 < p0.size) <|
 sel ((Xcd p0 v4.1) == 3) (
 req (0 ≤ (Xaa .i64 (v4.1 - 1)) ∧ (Xaa .i64 (v4.1 - 1)) < p0.size) <|
 sel ((Xcd p0 (Xaa .i64 (v4.1 - 1))) == 0) (
 req (0 ≤ (Xaa .i64 (v4.1 - 2)) ∧ (Xaa .i64 (v4.1 - 2)) < p0.size) <|
 some ((Xcd p0 (Xaa .i64 (v4.1 - 2))) == 0)) (
 some false)) (
 some false)) (
 some false)) fun v10 =>
 sel v10 (
 some v4.2) (
 req (0 ≤ v4.1 ∧ v4.1 < p0.size) <|
 req ((v4.2.length + ([(Xcd p0 v4.1)]).length) * 1 ≤ 140737488355328 ∧ v4.2.length + ([(Xcd p0 v4.1)]).length ≤ maxLen) <|
 some (v4.2 ++ ([(Xcd p0 v4.1)])))) fun v9 =>
 some (.go (Xaa .i64 (v4.1 + 1), v9))) (
 some (.done v4.2))
def Xmn (p0 : ByteArray) : Option (ByteArray × Bool) :=
 sel (decide ((p0.size : Int) > 120000)) (
 some (⟨#[]⟩, false)) (
 bnd (loop (Xfs p0) (0, ([] : List Int))) fun v8 =>
 bnd (Xsr (strOfNums v8)) fun q12 =>
 bnd (
 sel q12.2 (
 some (!(q12.1.toList == p0.toList))) (
 some true)) fun v13 =>
 sel v13 (
 some (⟨#[]⟩, false)) (
 some ((strOfNums v8), true)))
def Xcc (p0 : ByteArray) (v17 : (Int × Int × (List ByteArray))) (v42 : Int) : Option (Lp Int Int) :=
 bnd (
 sel (decide (v42 > v17.1)) (
 req (0 ≤ (Xaa .i64 (v42 - 1)) ∧ (Xaa .i64 (v42 - 1)) < p0.size) <|
 some ((Xcd p0 (Xaa .i64 (v42 - 1))) == 0)) (
 some false)) fun v46 =>
 sel v46 (
 some (.go (Xaa .i64 (v42 - 1)))) (
 some (.done v42))
def Xb4 (p0 : ByteArray) (v17 : (Int × Int × (List ByteArray))) : Option (Lp (Int × Int × (List ByteArray)) (List ByteArray)) :=
 sel (decide (v17.2.1 ≤ (p0.size : Int))) (
 bnd (
 bnd (
 sel (decide ((Xaa .i64 (v17.2.1 + 2)) < (p0.size : Int))) (
 req (0 ≤ v17.2.1 ∧ v17.2.1 < p0.size) <|
 sel ((Xcd p0 v17.2.1) == 0) (
 req (0 ≤ (Xaa .i64 (v17.2.1 + 1)) ∧ (Xaa .i64 (v17.2.1 + 1)) < p0.size) <|
 sel ((Xcd p0 (Xaa .i64 (v17.2.1 + 1))) == 0) (
 req (0 ≤ (Xaa .i64 (v17.2.1 + 2)) ∧ (Xaa .i64 (v17.2.1 + 2)) < p0.size) <|
 some ((Xcd p0 (Xaa .i64 (v17.2.1 + 2))) == 1)) (
 some false)) (
 some false)) (
 some false)) fun v36 =>
 bnd (
 sel v36 (
 some false) (
 some (decide (v17.2.1 < (p0.size : Int))))) fun v37 =>
 sel v37 (
 some (v17.1, v17.2.2)) (
 bnd (
 bnd (
 sel (decide (v17.1 ≥ 0)) (
 some (decide (v17.1 ≤ v17.2.1))) (
 some false)) fun v39 =>
 sel v39 (
 bnd (loop (Xcc p0 v17) v17.2.1) fun v45 =>
 req (0 ≤ v17.1 ∧ v17.1 ≤ v45 ∧ v45 ≤ (p0.size : Int)) <|
 bnd (Xmn (p0.extract v17.1.toNat v45.toNat)) fun q48 =>
 bnd (
 sel q48.2 (
 some (decide ((v17.2.2.length : Int) < 400))) (
 some false)) fun v49 =>
 sel v49 (
 req ((v17.2.2.length + ([q48.1]).length) * 16 ≤ 140737488355328 ∧ v17.2.2.length + ([q48.1]).length ≤ maxLen) <|
 some (v17.2.2 ++ ([q48.1]))) (
 some v17.2.2)) (
 some v17.2.2)) fun v38 =>
 some (Xaa .i64 (v17.2.1 + 3), v38))) fun v35 =>
 some (.go (v35.1, Xaa .i64 (v17.2.1 + 1), v35.2))) (
 some (.done v17.2.2))
def Xpb (p0 : ByteArray) : Option (List ByteArray) :=
 sel (decide ((p0.size : Int) > 60000)) (
 some ([] : List ByteArray)) (
 bnd (loop (Xb4 p0) ((-1), 0, ([] : List ByteArray))) fun v34 =>
 some v34)
def Xdd (p1 : (List ByteArray)) (v5 : (Int × Bool × Bool × Bool × Int × Int × Int × Bool × Bool × Bool × Int × Int × Int × Int × ByteArray × Int × Int × ByteArray × (List Pic) × (List Int) × (List Int) × (List Int))) : Option (Lp (Int × Bool × Bool × Bool × Int × Int × Int × Bool × Bool × Bool × Int × Int × Int × Int × ByteArray × Int × Int × ByteArray × (List Pic) × (List Int) × (List Int) × (List Int)) (Bool × Bool × Bool × Int × Int × Int × Bool × Bool × Bool × Int × Int × Int × Int × ByteArray × Int × Int × ByteArray × (List Pic) × (List Int) × (List Int) × (List Int))) :=
 sel (decide (v5.1 < (p1.length : Int))) (
 bnd (
 req (0 ≤ v5.1 ∧ v5.1 < p1.length) <|
 bnd (Xdn (⟨v5.2.1, v5.2.2.1, v5.2.2.2.1, (⟨v5.2.2.2.2.1, v5.2.2.2.2.2.1, v5.2.2.2.2.2.2.2.2.2.2.2.2.2.2.2.2.2.2.2.2.1, v5.2.2.2.2.2.2.2.2.2.2.2.2.2.2.2.2.2.2.2.2.2⟩ : Seq), (⟨v5.2.2.2.2.2.2.1, v5.2.2.2.2.2.2.2.1, v5.2.2.2.2.2.2.2.2.1, v5.2.2.2.2.2.2.2.2.2.1⟩ : Par), v5.2.2.2.2.2.2.2.2.2.2.1, v5.2.2.2.2.2.2.2.2.2.2.2.1, (⟨v5.2.2.2.2.2.2.2.2.2.2.2.2.1, v5.2.2.2.2.2.2.2.2.2.2.2.2.2.1, v5.2.2.2.2.2.2.2.2.2.2.2.2.2.2.1⟩ : Pic), (⟨v5.2.2.2.2.2.2.2.2.2.2.2.2.2.2.2.1, v5.2.2.2.2.2.2.2.2.2.2.2.2.2.2.2.2.1, v5.2.2.2.2.2.2.2.2.2.2.2.2.2.2.2.2.2.1⟩ : Pic)⟩ : Xar) (p1.getD v5.1.toNat Xgr)) fun q11 =>
 req ((v5.2.2.2.2.2.2.2.2.2.2.2.2.2.2.2.2.2.2.2.1.length + ([q11.2.1]).length) * 8 ≤ 140737488355328 ∧ v5.2.2.2.2.2.2.2.2.2.2.2.2.2.2.2.2.2.2.2.1.length + ([q11.2.1]).length ≤ maxLen) <|
 sel (decide (q11.2.2.Wide > 0)) (
 req ((v5.2.2.2.2.2.2.2.2.2.2.2.2.2.2.2.2.2.2.1.length + ([q11.2.2]).length) * 32 ≤ 140737488355328 ∧ v5.2.2.2.2.2.2.2.2.2.2.2.2.2.2.2.2.2.2.1.length + ([q11.2.2]).length ≤ maxLen) <|
 some (q11.1.HasSeq, q11.1.HasPar, q11.1.HasRef, q11.1.Seq.Level, q11.1.Seq.Bits, q11.1.Par.Qp, q11.1.Par.Large, q11.1.Par.Exact, q11.1.Par.Confined, q11.1.Frame, q11.1.Got, q11.1.Now.Wide, q11.1.Now.High, q11.1.Now.Dots, q11.1.Ref.Wide, q11.1.Ref.High, q11.1.Ref.Dots, (v5.2.2.2.2.2.2.2.2.2.2.2.2.2.2.2.2.2.2.1 ++ ([q11.2.2])), (v5.2.2.2.2.2.2.2.2.2.2.2.2.2.2.2.2.2.2.2.1 ++ ([q11.2.1])), q11.1.Seq.Cols, q11.1.Seq.Rows)) (
 some (q11.1.HasSeq, q11.1.HasPar, q11.1.HasRef, q11.1.Seq.Level, q11.1.Seq.Bits, q11.1.Par.Qp, q11.1.Par.Large, q11.1.Par.Exact, q11.1.Par.Confined, q11.1.Frame, q11.1.Got, q11.1.Now.Wide, q11.1.Now.High, q11.1.Now.Dots, q11.1.Ref.Wide, q11.1.Ref.High, q11.1.Ref.Dots, v5.2.2.2.2.2.2.2.2.2.2.2.2.2.2.2.2.2.2.1, (v5.2.2.2.2.2.2.2.2.2.2.2.2.2.2.2.2.2.2.2.1 ++ ([q11.2.1])), q11.1.Seq.Cols, q11.1.Seq.Rows))) fun v10 =>
 some (.go (Xaa .i64 (v5.1 + 1), v10.1, v10.2.1, v10.2.2.1, v10.2.2.2.1, v10.2.2.2.2.1, v10.2.2.2.2.2.1, v10.2.2.2.2.2.2.1, v10.2.2.2.2.2.2.2.1, v10.2.2.2.2.2.2.2.2.1, v10.2.2.2.2.2.2.2.2.2.1, v10.2.2.2.2.2.2.2.2.2.2.1, v10.2.2.2.2.2.2.2.2.2.2.2.1, v10.2.2.2.2.2.2.2.2.2.2.2.2.1, v10.2.2.2.2.2.2.2.2.2.2.2.2.2.1, v10.2.2.2.2.2.2.2.2.2.2.2.2.2.2.1, v10.2.2.2.2.2.2.2.2.2.2.2.2.2.2.2.1, v10.2.2.2.2.2.2.2.2.2.2.2.2.2.2.2.2.1, v10.2.2.2.2.2.2.2.2.2.2.2.2.2.2.2.2.2.1, v10.2.2.2.2.2.2.2.2.2.2.2.2.2.2.2.2.2.2.1, v10.2.2.2.2.2.2.2.2.2.2.2.2.2.2.2.2.2.2.2.1, v10.2.2.2.2.2.2.2.2.2.2.2.2.2.2.2.2.2.2.2.2))) (
 some (.done (v5.2.1, v5.2.2.1, v5.2.2.2.1, v5.2.2.2.2.1, v5.2.2.2.2.2.1, v5.2.2.2.2.2.2.1, v5.2.2.2.2.2.2.2.1, v5.2.2.2.2.2.2.2.2.1, v5.2.2.2.2.2.2.2.2.2.1, v5.2.2.2.2.2.2.2.2.2.2.1, v5.2.2.2.2.2.2.2.2.2.2.2.1, v5.2.2.2.2.2.2.2.2.2.2.2.2.1, v5.2.2.2.2.2.2.2.2.2.2.2.2.2.1, v5.2.2.2.2.2.2.2.2.2.2.2.2.2.2.1, v5.2.2.2.2.2.2.2.2.2.2.2.2.2.2.2.1, v5.2.2.2.2.2.2.2.2.2.2.2.2.2.2.2.2.1, v5.2.2.2.2.2.2.2.2.2.2.2.2.2.2.2.2.2.1, v5.2.2.2.2.2.2.2.2.2.2.2.2.2.2.2.2.2.2.1, v5.2.2.2.2.2.2.2.2.2.2.2.2.2.2.2.2.2.2.2.1, v5.2.2.2.2.2.2.2.2.2.2.2.2.2.2.2.2.2.2.2.2.1, v5.2.2.2.2.2.2.2.2.2.2.2.2.2.2.2.2.2.2.2.2.2)))
def Xoi (p0 : Xar) (p1 : (List ByteArray)) : Option (Xar × (List Pic) × (List Int)) :=
 bnd (Xm6 p0.Seq) fun q1 =>
 sel (decide ((p1.length : Int) > 400)) (
 some ((⟨p0.HasSeq, p0.HasPar, p0.HasRef, q1, p0.Par, p0.Frame, p0.Got, p0.Now, p0.Ref⟩ : Xar), ([] : List Pic), ([] : List Int))) (
 bnd (loop (Xdd p1) (0, p0.HasSeq, p0.HasPar, p0.HasRef, q1.Level, q1.Bits, p0.Par.Qp, p0.Par.Large, p0.Par.Exact, p0.Par.Confined, p0.Frame, p0.Got, p0.Now.Wide, p0.Now.High, p0.Now.Dots, p0.Ref.Wide, p0.Ref.High, p0.Ref.Dots, ([] : List Pic), ([] : List Int), q1.Cols, q1.Rows)) fun v9 =>
 some ((⟨v9.1, v9.2.1, v9.2.2.1, (⟨v9.2.2.2.1, v9.2.2.2.2.1, v9.2.2.2.2.2.2.2.2.2.2.2.2.2.2.2.2.2.2.2.1, v9.2.2.2.2.2.2.2.2.2.2.2.2.2.2.2.2.2.2.2.2⟩ : Seq), (⟨v9.2.2.2.2.2.1, v9.2.2.2.2.2.2.1, v9.2.2.2.2.2.2.2.1, v9.2.2.2.2.2.2.2.2.1⟩ : Par), v9.2.2.2.2.2.2.2.2.2.1, v9.2.2.2.2.2.2.2.2.2.2.1, (⟨v9.2.2.2.2.2.2.2.2.2.2.2.1, v9.2.2.2.2.2.2.2.2.2.2.2.2.1, v9.2.2.2.2.2.2.2.2.2.2.2.2.2.1⟩ : Pic), (⟨v9.2.2.2.2.2.2.2.2.2.2.2.2.2.2.1, v9.2.2.2.2.2.2.2.2.2.2.2.2.2.2.2.1, v9.2.2.2.2.2.2.2.2.2.2.2.2.2.2.2.2.1⟩ : Pic)⟩ : Xar), v9.2.2.2.2.2.2.2.2.2.2.2.2.2.2.2.2.2.1, v9.2.2.2.2.2.2.2.2.2.2.2.2.2.2.2.2.2.2.1))
end
theorem Xab {α β : Type} (a : α) (f : α → Option β) : bnd (some a) f = f a := rfl
theorem Xc3 {α β : Type} {x : Option α} {a : α} {f : α → Option β} (h : x = some a) : bnd x f = f a := by subst h; rfl
theorem Xaq {β : Type} (x y : β) : sel true x y = x := rfl
theorem Xam {β : Type} (x y : β) : sel false x y = y := rfl
theorem Ygb {β : Type} (b : Bool) (x y : β) : sel (!b) x y = sel b y x := by cases b <;> rfl
theorem Xcm (b x : Bool) : sel b (some x) (some false) = some (b && x) := by cases b <;> rfl
theorem Ya6 (b x : Bool) : sel b (some true) (some x) = some (b || x) := by cases b <;> rfl
theorem Yl9 (b x : Bool) : sel b (some x) (some true) = some (!b || x) := by cases b <;> rfl
theorem Yxo (b x : Bool) : sel b (some false) (some x) = some (!b && x) := by cases b <;> rfl
theorem Yvp {β : Type} (b : Bool) (x y : β) : sel b (some x) (some y) = some (sel b x y) := by cases b <;> rfl
theorem Yl8 {β : Type} (b : Bool) (x y : β) : sel b x y = if b = true then x else y := by cases b <;> rfl
theorem Yin {β : Type} (p : Prop) [Decidable p] (x y : β) : sel (decide p) x y = if p then x else y := by
 by_cases h : p <;> simp [h, sel]
theorem Xbb {β : Type} {b : Bool} {x y : β} (h : b = true) : sel b x y = x := by subst h; rfl
theorem Xaz {β : Type} {b : Bool} {x y : β} (h : b = false) : sel b x y = y := by subst h; rfl
theorem Xa9 {β : Type} {p : Prop} [Decidable p] {x y : β} (h : p) : sel (decide p) x y = x := by simp [h, sel]
theorem Xas {β : Type} {p : Prop} [Decidable p] {x y : β} (h : ¬ p) : sel (decide p) x y = y := by simp [h, sel]
theorem Xav {β : Type} {c : Prop} [Decidable c] {k : Option β} (h : c) : req c k = k := if_pos h
theorem wk {e : Int} (h1 : -9223372036854775808 ≤ e) (h2 : e ≤ 9223372036854775807) : Xaa .i64 e = e := by
 show wrap64 e = e
 unfold wrap64; omega
theorem rqA {β : Type} {c : Prop} [Decidable c] {k : Option β} (h : c := by omega) : req c k = k := Xav h
theorem syA {β : Type} {c : Prop} [Decidable c] {x y : β} (h : c := by omega) : sel (decide c) x y = x := Xa9 h
theorem snA {β : Type} {c : Prop} [Decidable c] {x y : β} (h : ¬ c := by omega) : sel (decide c) x y = y := Xas h
theorem wkA {e : Int} (h1 : -9223372036854775808 ≤ e := by omega) (h2 : e ≤ 9223372036854775807 := by omega) : Xaa .i64 e = e := wk h1 h2
theorem w8 {e : Int} (h1 : 0 ≤ e) (h2 : e ≤ 255) : Xaa .u8 e = e := by
 show IntKind.wrap .u8 e = e
 simp [IntKind.wrap, IntKind.signed, IntKind.bits]; omega
theorem Xbq {a b : Int} (h : 0 ≤ a) : Int.tmod a b = a % b := Int.tmod_eq_emod_of_nonneg h
theorem Xbp {a b : Int} (h : 0 ≤ a) : Int.tdiv a b = a / b := Int.tdiv_eq_ediv_of_nonneg h
theorem Xc1 {P : Nat → Prop} (n : Nat) (h0 : P n) (hs : ∀ i, i < n → P (i + 1) → P i) : ∀ i, i ≤ n → P i := by
 intro i hi
 obtain ⟨k, rfl⟩ : ∃ k, n = i + k := ⟨n - i, by omega⟩
 clear hi
 induction k generalizing i with
 | zero => exact h0
 | succ k ih =>
  refine hs i (by omega) ?_
  exact ih (i + 1) (by rw [show i + 1 + k = i + (k + 1) by omega]; exact h0) (fun j hj => hs j (by omega))
theorem lgo {V O : Type} {f : V → Option (Lp V O)} {x y : V} {r : Option O} (h : f x = some (.go y)) (k : loop f y = r) : loop f x = r := by rw [Xg1 h]; exact k
theorem Xbx {V O : Type} {f : V → Option (Lp V O)} {x : V} {o : O} (h : f x = some (.done o)) : loop f x = some o := Xci h
theorem Xth {V O : Type} {f : V → Option (Lp V O)} (I : V → Prop) (m : V → Nat) (Q : V → O → Prop) (h : ∀ v, I v → (∃ o, f v = some (.done o) ∧ Q v o) ∨ ∃ v', f v = some (.go v') ∧ I v' ∧ m v' < m v ∧ ∀ o, Q v' o → Q v o) : ∀ v, I v → ∃ o, loop f v = some o ∧ Q v o := by
 intro v
 generalize hn : m v = n
 induction n using Nat.strongRecOn generalizing v with
 | _ n ih =>
  intro hv
  rcases h v hv with ⟨o, h1, h2⟩ | ⟨v', h1, h2, h3, h4⟩
  ·
   exact ⟨o, Xci h1, h2⟩
  ·
   obtain ⟨o, h5, h6⟩ := ih (m v') (by omega) v' rfl h2
   exact ⟨o, by rw [Xg1 h1]; exact h5, h4 o h6⟩
theorem Xb2 {α : Type} (l : List α) (i : Nat) (h : i < l.length) (d : α) : l.getD i d = l[i] := by
 simp [List.getD_eq_getElem?_getD, List.getElem?_eq_getElem h]
theorem Xaj (a b c : Int) : Xan a b c = some (decide (b ≤ a ∧ a ≤ c)) := by
 unfold Xan
 by_cases h : b ≤ a <;> simp [bnd, sel, h]
theorem Xai (a b c : Int) : Xat a b c = some (decide (b ≤ a ∧ a ≤ c)) := by
 unfold Xat
 by_cases h : b ≤ a <;> simp [bnd, sel, h]
theorem Yqf {α : Type} (a : List α) (x y : α) (b : List α) : (a ++ x :: b).set a.length y = a ++ y :: b := by
 induction a with
 | nil => rfl
 | cons z a ih => simp only [List.cons_append, List.length_cons, List.set_cons_succ, ih]
theorem Xnr {α : Type} (a : List α) (x d : α) (b : List α) : (a ++ x :: b).getD a.length d = x := by
 induction a with
 | nil => rfl
 | cons z a ih => simp
theorem Xqm {f : Int → Option (Lp Int (Ou Unit Bool))} (n : Nat) (h : ∀ i : Nat, i < n → f i = some (.go ((i + 1 : Nat) : Int))) (h0 : f n = some (.done (.out ()))) : loop f 0 = some (.out ()) :=
 Xc1 (P := fun i => loop f (i : Int) = some (.out ())) n (Xci h0) (fun i hi ih => by rw [Xg1 (h i hi)]; exact ih) 0 (by omega)
theorem Ykq (y : Int) : 0 ≤ IntKind.wrap .i64 (BitVec.ofInt (IntKind.bits .i64) y &&& BitVec.ofInt (IntKind.bits .i64) 255).toNat ∧ IntKind.wrap .i64 (BitVec.ofInt (IntKind.bits .i64) y &&& BitVec.ofInt (IntKind.bits .i64) 255).toNat ≤ 255 := by
 have h : (BitVec.ofInt (IntKind.bits .i64) y &&& BitVec.ofInt (IntKind.bits .i64) 255).toNat ≤ 255 := by
  rw [BitVec.toNat_and]
  exact Nat.le_trans Nat.and_le_right (by decide)
 generalize (BitVec.ofInt (IntKind.bits .i64) y &&& BitVec.ofInt (IntKind.bits .i64) 255).toNat = n at h ⊢
 rw [← Xty, wkA]
 omega
def Xik (c : Xa6) : Prop := c.b_.length ≤ 1048576 ∧ 0 ≤ c.i_
theorem Yi4 (b : List Int) (hb : b.length ≤ 1048576) : ∃ c, Xoo b = some c ∧ Xik c := by
 unfold Xoo
 obtain ⟨o, h, _⟩ := Xth (f := Xmo b) (fun v => 0 ≤ v.2) (fun v => b.length - v.2.toNat) (fun _ _ => True) (by
  intro ⟨h, i⟩ hi
  unfold Xmo
  simp only [Xcm, Xab] at hi ⊢
  by_cases h1 : i < b.length ∧ i < 4000
  ·
   rw [Xbb (by simp; exact h1), Xav ⟨hi, h1.1⟩]
   refine .inr ⟨_, rfl, ?_, ?_, fun _ _ => trivial⟩
   ·
    simp only; rw [wkA]; omega
   ·
    simp only; rw [wkA]; omega
  ·
   rw [Xaz (by simp; omega)]
   exact .inl ⟨_, rfl, trivial⟩) (Xaa .i64 (94701 + (b.length : Int)), 0) (by simp)
 rw [h]
 exact ⟨_, rfl, hb, by simp⟩
theorem Xk7 (c : Xa6) (hc : Xik c) : ∃ x c', Xe2 c = some (x, c') ∧ 0 ≤ x ∧ x ≤ 255 ∧ Xik c' := by
 unfold Xe2
 rw [Xav (by decide), Xav (by decide)]
 obtain ⟨h1, h2⟩ := hc
 by_cases h : c.i_ < c.b_.length
 ·
  rw [Xa9 h, Xav ⟨h2, h⟩, Xab]
  refine ⟨_, _, rfl, (Ykq _).1, (Ykq _).2, h1, ?_⟩
  simp only; rw [wkA]; omega
 ·
  rw [Xas h, Xab]
  exact ⟨_, _, rfl, (Ykq _).1, (Ykq _).2, h1, h2⟩
theorem Xbg (c : Xa6) (n : Int) (hc : Xik c) : ∃ x c', Xa1 c n = some (x, c') ∧ 0 ≤ x ∧ (0 < n → x < n) ∧ (n ≤ 0 → x = 0) ∧ Xik c' := by
 unfold Xa1
 by_cases h0 : n ≤ 0
 ·
  rw [Xa9 h0]; exact ⟨_, _, rfl, by omega, fun h => by omega, fun _ => rfl, hc⟩
 ·
  rw [Xas h0]
  obtain ⟨x, c1, e1, a1, b1, hc1⟩ := Xk7 c hc
  by_cases h1 : n ≤ 256
  ·
   rw [Xa9 h1, e1, Xab, rqA]
   refine ⟨_, _, rfl, ?_, fun _ => ?_, fun h => by omega, hc1⟩
   ·
    simp only; rw [Xbq a1]; exact Int.emod_nonneg _ (by omega)
   ·
    simp only; rw [Xbq a1]; exact Int.emod_lt_of_pos _ (by omega)
  ·
   obtain ⟨y, c2, e2, a2, b2, hc2⟩ := Xk7 c1 hc1
   obtain ⟨z, c3, e3, a3, b3, hc3⟩ := Xk7 c2 hc2
   obtain ⟨u, c4, e4, a4, b4, hc4⟩ := Xk7 c3 hc3
   rw [Xas h1, e1, Xab]
   simp only
   rw [e2, Xab]
   simp only
   rw [e3, Xab]
   simp only
   rw [e4, Xab, rqA]
   simp only
   rw [wkA (e := x * 16777216), wkA (e := y * 65536), wkA (e := z * 256), wkA (e := x * 16777216 + y * 65536), wkA (e := x * 16777216 + y * 65536 + z * 256), wkA, Xbq (by omega)]
   exact ⟨_, _, rfl, Int.emod_nonneg _ (by omega), fun _ => Int.emod_lt_of_pos _ (by omega), fun h => by omega, hc4⟩
theorem Xcw (c : Xa6) (n : Int) (hc : Xik c) : ∃ x c', Xbn c n = some (x, c') ∧ Xik c' := by
 unfold Xbn
 obtain ⟨x, c', e, _, _, _, h⟩ := Xbg c n hc
 rw [e, Xab]; exact ⟨_, _, rfl, h⟩
theorem Yp3 (l : List Int) : Yda l = some (decide ((l.length : Int) > 1048576)) := rfl
def Xdi (n a b : Int) : Int := if b < a ∨ n < a then a else if n > b then b else n
theorem Xki (n a b : Int) : Xep n a b = some (Xdi n a b) := by
 unfold Xep Xdi
 congr 1
 repeat' split
 all_goals omega
theorem Xn3 {n a b : Int} (h : a ≤ b) : a ≤ Xdi n a b ∧ Xdi n a b ≤ b := by
 unfold Xdi
 repeat' split
 all_goals omega
theorem Xfn (n a b : Int) : Xhj n a b = some (Xdi n a b) := by
 unfold Xhj Xdi
 rw [Ya6, Xab]
 by_cases h : b < a ∨ n < a
 ·
  rw [if_pos h, Xbb (by simpa using h)]
 ·
  rw [if_neg h, Xaz (by simp; omega), Yin]; split <;> rfl
theorem Yza {α : Type} (l : List α) (k : Nat) : (l.drop k).take (l.length - k) = l.drop k := List.take_of_length_le (by rw [List.length_drop]; omega)
def Xe0 (n : Int) : Bool := decide (1 ≤ n ∧ n ≤ 8)
def Xli : List Int → Int
 | [] => 0
 | x :: r => x + Xli r
def Xee (l : List Int) : Bool := decide (1 ≤ l.length ∧ l.length ≤ 4) && l.all Xe0
def Yag (l : List Int) : Int := if Xee l = true then Xli l else 0
theorem Xq9 : ∀ {l : List Int}, l.all Xe0 = true → (l.length : Int) ≤ Xli l ∧ Xli l ≤ 8 * l.length
 | [], _ => by simp [Xli]
 | x :: r, h => by
  rw [List.all_cons, Bool.and_eq_true] at h
  have := Xq9 h.2
  have hx := h.1
  unfold Xe0 at hx
  simp only [decide_eq_true_eq] at hx
  rw [Xli, List.length_cons]
  omega
theorem Ya7 (l : List Int) : 0 ≤ Yag l ∧ Yag l ≤ 32 := by
 unfold Yag
 split
 ·
  rename_i h
  unfold Xee at h
  rw [Bool.and_eq_true, decide_eq_true_eq] at h
  have := Xq9 h.2
  omega
 ·
  omega
theorem Xmq (l : List Int) : Xhp l = some (Yag l) := by
 unfold Xhp Yag Xee
 rw [Ya6, Xab]
 by_cases h : 1 ≤ l.length ∧ l.length ≤ 4
 ·
  rw [Xaz (by simp; omega), decide_eq_true h, Bool.true_and]
  have key : ∀ (r a : List Int) (t : Int), l = a ++ r → 0 ≤ t → t ≤ 8 * a.length → loop (Xgy l) (t, (a.length : Int)) = some (if r.all Xe0 = true then .out (t + Xli r) else .ret 0) := by
   intro r
   induction r with
   | nil =>
    intro a t ha h0 h1
    rw [List.append_nil] at ha
    refine Xbx ?_
    unfold Xgy
    simp only
    rw [Xas (by rw [ha]; omega)]
    simp [Xli]
   | cons x r ih =>
    intro a t ha h0 h1
    have hlen : a.length < l.length := by rw [ha]; simp
    have hx : l.getD a.length 0 = x := by rw [ha]; exact Xnr a x _ r
    have hstep : Xgy l (t, (a.length : Int)) = sel (Xe0 x) (some (.go (Xaa .i64 (t + x), ((a.length + 1 : Nat) : Int)))) (some (.done (.ret 0))) := by
     unfold Xgy
     simp only [Int.toNat_natCast, hx]
     rw [syA, rqA, Xai, Xab, Ygb, rqA, wkA (e := (a.length : Int) + 1)]
     rfl
    cases e : Xe0 x with
    | true =>
     rw [e] at hstep
     have hx2 := e
     unfold Xe0 at hx2
     simp only [decide_eq_true_eq] at hx2
     rw [wkA, Xaq] at hstep
     have := ih (a ++ [x]) (t + x) (by rw [ha]; simp) (by omega) (by simp; omega)
     rw [List.length_append, List.length_singleton] at this
     rw [Xg1 hstep, this, List.all_cons, e, Bool.true_and, Xli, Int.add_assoc]
    | false =>
     rw [e, Xam] at hstep
     rw [Xci hstep, List.all_cons, e, Bool.false_and]; rfl
  have := key l [] 0 rfl (by omega) (by simp)
  simp only [List.length_nil, Int.zero_add] at this
  rw [show (((0 : Int), (0 : Int))) = (0, ((0 : Nat) : Int)) from rfl, this, Xab]
  cases l.all Xe0 <;> rfl
 ·
  rw [Xbb (by simp; omega), decide_eq_false h, Bool.false_and]; rfl
theorem Xnu (l : List Int) (h : Xee l = true) : Xcn l = some (Xli l) := by
 unfold Xee at h
 rw [Bool.and_eq_true, decide_eq_true_eq] at h
 unfold Xcn
 have key : ∀ (r a : List Int) (t : Int), l = a ++ r → 0 ≤ t → t ≤ 8 * a.length → loop (Xd1 l) (t, (a.length : Int)) = some (t + Xli r) := by
  intro r
  induction r with
  | nil =>
   intro a t ha h0 h1
   rw [List.append_nil] at ha
   refine Xbx ?_
   unfold Xd1
   simp only
   rw [Xas (by rw [ha]; omega)]
   simp [Xli]
  | cons x r ih =>
   intro a t ha h0 h1
   have hlen : a.length < l.length := by rw [ha]; simp
   have hx : l.getD a.length 0 = x := by rw [ha]; exact Xnr a x _ r
   have e : Xe0 x = true := List.all_eq_true.1 h.2 x (by rw [ha]; simp)
   unfold Xe0 at e
   simp only [decide_eq_true_eq] at e
   have := ih (a ++ [x]) (t + x) (by rw [ha]; simp) (by omega) (by simp; omega)
   rw [List.length_append, List.length_singleton] at this
   rw [Xli, ← Int.add_assoc, ← this]
   refine Xg1 ?_
   unfold Xd1
   simp only [Int.toNat_natCast, hx]
   rw [syA, rqA, wkA (e := (a.length : Int) + 1), wkA]
   rfl
 have := key l [] 0 rfl (by omega) (by simp)
 simp only [List.length_nil, Int.zero_add] at this
 rw [show (((0 : Int), (0 : Int))) = (0, ((0 : Nat) : Int)) from rfl, this, Xab]
def Xoy (s : Seq) : Int := Yag s.Cols * Yag s.Rows
theorem Xva (s : Seq) : 0 ≤ Xoy s ∧ Xoy s ≤ 1024 := by
 unfold Xoy
 have h1 := Ya7 s.Cols
 have h2 := Ya7 s.Rows
 refine ⟨Int.mul_nonneg h1.1 h2.1, ?_⟩
 calc Yag s.Cols * Yag s.Rows ≤ 32 * Yag s.Rows := Int.mul_le_mul_of_nonneg_right h1.2 h2.1
  _ ≤ 1024 := by omega
theorem Xz2 (s : Seq) : Xi1 s = some (Xoy s) := by
 have h := Xva s
 unfold Xi1
 rw [Xmq, Xab, Xmq, Xab, wk (by show _ ≤ Xoy s; omega) (by show Xoy s ≤ _; omega)]
 rfl
theorem Yte (s : Seq) (n : Nat) (hn : n = 0 ∨ n = 1) (l : List Int) (hl : ([s.Cols, s.Rows]).getD n Xmc = l) (h4 : l.length ≤ 4) : loop (Xcr s (n : Int)) 0 = some (if l.all Xe0 = true then .out () else .ret 0) := by
 have key : ∀ (r a : List Int), l = a ++ r → loop (Xcr s (n : Int)) (a.length : Int) = some (if r.all Xe0 = true then .out () else .ret 0) := by
  intro r
  induction r with
  | nil =>
   intro a ha
   rw [List.append_nil] at ha
   refine Xbx ?_
   unfold Xcr
   rw [Int.toNat_natCast, hl, Xas (by rw [ha]; omega)]; rfl
  | cons x r ih =>
   intro a ha
   have hlen : a.length < l.length := by rw [ha]; simp
   have hx : l.getD a.length 0 = x := by rw [ha]; exact Xnr a x _ r
   have hstep : Xcr s (n : Int) (a.length : Int) = sel (Xe0 x) (some (.go ((a.length + 1 : Nat) : Int))) (some (.done (.ret 0))) := by
    unfold Xcr
    simp only [Int.toNat_natCast, hl, hx]
    rw [syA, rqA, Xaj, Xab, Ygb, wkA]
    rfl
   cases e : Xe0 x with
   | true =>
    rw [e, Xaq] at hstep
    have := ih (a ++ [x]) (by rw [ha]; simp)
    rw [List.length_append, List.length_singleton] at this
    rw [Xg1 hstep, this, List.all_cons, e, Bool.true_and]
   | false => rw [e, Xam] at hstep; rw [Xci hstep, List.all_cons, e, Bool.false_and]; rfl
 exact key l [] rfl
theorem Xzg (s : Seq) (h1 : s.Cols.length ≤ maxLen) (h2 : s.Rows.length ≤ maxLen) : Xir s = some (Xoy s) := by
 have h := Xva s
 unfold Xir
 have step : ∀ (n : Nat) (l : List Int), n = 0 ∨ n = 1 → ([s.Cols, s.Rows]).getD n Xmc = l → Xdp s (n : Int) = sel (Xee l) (some (.go ((n + 1 : Nat) : Int))) (some (.done (.ret 0))) := by
  intro n l hn hl
  unfold Xdp Xee
  rw [Int.toNat_natCast, hl]
  simp only [List.length_cons, List.length_nil]
  rw [syA, rqA, rqA, Xaj, Xab, Ygb]
  by_cases h4 : 1 ≤ l.length ∧ l.length ≤ 4
  ·
   rw [syA, Yte s n hn l hl h4.2, Xab, decide_eq_true h4, Bool.true_and, wkA]
   cases l.all Xe0 <;> rfl
  ·
   rw [snA, decide_eq_false h4, Bool.false_and, Xam]
 have s0 := step 0 s.Cols (.inl rfl) rfl
 have s1 := step 1 s.Rows (.inr rfl) rfl
 have s2 : Xdp s ((2 : Nat) : Int) = some (.done (.out ())) := by unfold Xdp; rw [Xas (by simp)]
 rw [show (0 : Int) = ((0 : Nat) : Int) from rfl]
 unfold Xoy at h ⊢
 unfold Yag at h ⊢
 cases e0 : Xee s.Cols with
 | false => rw [e0, Xam] at s0; rw [Xci s0, Xab]; simp
 | true =>
  rw [e0, Xaq] at s0
  rw [Xg1 s0]
  cases e1 : Xee s.Rows with
  | false => rw [e1, Xam] at s1; rw [Xci s1, Xab]; simp
  | true =>
   rw [e1, Xaq] at s1
   rw [Xg1 s1, Xci s2, Xab]
   simp only
   rw [e0, e1, if_pos rfl, if_pos rfl] at h
   rw [Xnu _ e0, Xab, Xnu _ e1, Xab, wkA]
   simp
def Xj0 (n : Int) : Int := if n = 1 then 16 else if n = 2 then 64 else if n = 3 then 256 else 0
theorem Xub (n : Int) : Xfp n = some (Xj0 n) := by
 unfold Xfp Xj0
 simp only [Yl8, beq_iff_eq]
 repeat' split
 all_goals rfl
theorem Xt1 (n : Int) : Xfk n = some (Xj0 n) := by
 unfold Xfk Xj0
 rw [Xaj, Xab, Ygb]
 by_cases h : 1 ≤ n ∧ n ≤ 3
 ·
  rw [Xa9 h, wkA, Xav (by simp only [List.length_cons, List.length_nil]; omega), Xav (by simp only [List.length_cons, List.length_nil]; omega)]
  rcases (show n = 1 ∨ n = 2 ∨ n = 3 by omega) with rfl | rfl | rfl <;> rfl
 ·
  rw [Xas h, if_neg (by omega), if_neg (by omega), if_neg (by omega)]
def Xf2 (s : Seq) : Bool := decide (1 ≤ Xoy s ∧ Xoy s ≤ Xj0 s.Level) && decide (3 ≤ s.Bits ∧ s.Bits ≤ 8)
theorem Xk5 (s : Seq) : Xh8 s = some (Xf2 s) := by
 unfold Xh8 Xf2
 simp only [Xz2, Xub, Xai, Xab, Xcm]
theorem Xew (s : Seq) (h1 : s.Cols.length ≤ maxLen) (h2 : s.Rows.length ≤ maxLen) : Xgv s = some (Xf2 s) := by
 unfold Xgv Xf2
 simp only [Xzg s h1 h2, Xt1, Xaj, Xab, Xcm]
theorem Xbc {s : Seq} (h : Xf2 s = true) : Xee s.Cols = true ∧ Xee s.Rows = true ∧ 3 ≤ s.Bits ∧ s.Bits ≤ 8 := by
 unfold Xf2 at h
 rw [Bool.and_eq_true, decide_eq_true_eq, decide_eq_true_eq] at h
 obtain ⟨⟨h1, _⟩, h3⟩ := h
 unfold Xoy Yag at h1
 refine ⟨?_, ?_, h3⟩
 ·
  refine Classical.byContradiction fun e => ?_
  rw [if_neg e, Int.zero_mul] at h1; omega
 ·
  refine Classical.byContradiction fun e => ?_
  rw [if_neg e, Int.mul_zero] at h1; omega
def Xbk (s : Seq) : Int := if Xf2 s = true then (s.Cols.length : Int) * s.Rows.length else 0
theorem Xbi {l : List Int} (h : Xee l = true) : 1 ≤ l.length ∧ l.length ≤ 4 := by
 unfold Xee at h; rw [Bool.and_eq_true, decide_eq_true_eq] at h; exact h.1
theorem Xwb {s : Seq} (h : Xf2 s = true) : 1 ≤ (s.Cols.length : Int) * s.Rows.length ∧ (s.Cols.length : Int) * s.Rows.length ≤ 16 := by
 obtain ⟨h1, h2, _⟩ := Xbc h
 have a := Xbi h1
 have b := Xbi h2
 have e : ∀ x y : Nat, 1 ≤ x → x ≤ 4 → 1 ≤ y → y ≤ 4 → 1 ≤ x * y ∧ x * y ≤ 16 := by
  intro x y h1 h2 h3 h4
  rcases (show x = 1 ∨ x = 2 ∨ x = 3 ∨ x = 4 by omega) with rfl | rfl | rfl | rfl <;> omega
 have := e _ _ a.1 a.2 b.1 b.2
 rw [← Int.natCast_mul]; omega
theorem Xei (s : Seq) : Xe1 s = some (Xbk s) := by
 unfold Xe1 Xbk
 rw [Xk5, Xab, Ygb]
 cases h : Xf2 s with
 | false => rfl
 | true => have := Xwb h; rw [Xaq, wkA, if_pos rfl]
theorem Xhc (s : Seq) (h1 : s.Cols.length ≤ maxLen) (h2 : s.Rows.length ≤ maxLen) : Xf3 s = some (Xbk s) := by
 unfold Xf3 Xbk
 rw [Xew s h1 h2, Xab, Ygb]
 cases h : Xf2 s with
 | false => rfl
 | true => have := Xwb h; rw [Xaq, wkA, if_pos rfl]
def Xhh (s : Seq) : Int × Int := if Xf2 s = true then (8 * Xli s.Cols, 8 * Xli s.Rows) else (0, 0)
theorem Xsl {l : List Int} (h : Xee l = true) : 1 ≤ Xli l ∧ Xli l ≤ 32 := by
 unfold Xee at h
 rw [Bool.and_eq_true, decide_eq_true_eq] at h
 have := Xq9 h.2
 omega
theorem Xpu (s : Seq) : Xl3 s = some (Xhh s) := by
 unfold Xl3 Xhh
 rw [Xk5, Xab, Ygb]
 cases h : Xf2 s with
 | false => rfl
 | true =>
  obtain ⟨h1, h2, _⟩ := Xbc h
  have a := Xsl h1
  have b := Xsl h2
  rw [Xaq, Xmq, Xab, Xmq, Xab, if_pos rfl]
  unfold Yag
  rw [if_pos h1, if_pos h2, wkA, wkA]
theorem Xup (s : Seq) (h1 : s.Cols.length ≤ maxLen) (h2 : s.Rows.length ≤ maxLen) : Xjo s = some (Xhh s) := by
 unfold Xjo Xhh
 rw [Xew s h1 h2, Xab, Ygb]
 cases h : Xf2 s with
 | false => rfl
 | true =>
  obtain ⟨h1, h2, _⟩ := Xbc h
  have a := Xsl h1
  have b := Xsl h2
  rw [Xaq, Xnu _ h1, Xab, Xnu _ h2, Xab, if_pos rfl, wkA, wkA]
def Xky (p : Par) : Bool := decide (0 ≤ p.Qp ∧ p.Qp ≤ 40) && !(p.Large && p.Exact)
theorem Xny (p : Par) : Xj3 p = some (Xky p) := by
 unfold Xj3 Xky
 rw [Xai, Xab, Yl9, Xcm, Xab]
 cases p.Large <;> cases p.Exact <;> rfl
theorem Xhx (p : Par) : Xju p = some (Xky p) := by
 unfold Xju Xky
 rw [Xaj, Xab, Yl9, Xcm, Xab]
 cases p.Large <;> cases p.Exact <;> rfl
def Xck (p : Pic) : Bool := decide (1 ≤ p.Wide ∧ p.Wide ≤ 256) && (decide (1 ≤ p.High ∧ p.High ≤ 256) && ((p.Dots.size : Int) == p.Wide * p.High))
theorem Xd7 {w h : Int} (h1 : 1 ≤ w ∧ w ≤ 256) (h2 : 1 ≤ h ∧ h ≤ 256) : 1 ≤ w * h ∧ w * h ≤ 65536 := by
 have a : w * 1 ≤ w * h := Int.mul_le_mul_of_nonneg_left h2.1 (by omega)
 have b : w * h ≤ 256 * h := Int.mul_le_mul_of_nonneg_right h1.2 (by omega)
 omega
theorem Xgb (p : Pic) : Xj4 p = some (Xck p) := by
 unfold Xj4 Xck
 simp only [Xai, Xab, Xcm]
 by_cases h1 : 1 ≤ p.Wide ∧ p.Wide ≤ 256
 ·
  by_cases h2 : 1 ≤ p.High ∧ p.High ≤ 256
  ·
   have := Xd7 h1 h2
   rw [wkA]
  ·
   rw [decide_eq_false h2, Bool.false_and, Bool.false_and]
 ·
  rw [decide_eq_false h1, Bool.false_and, Bool.false_and]
theorem Xcq (p : Pic) : Xdo p = some (Xck p) := by
 unfold Xdo Xck
 simp only [Xaj, Xab, Xcm]
 by_cases h1 : 1 ≤ p.Wide ∧ p.Wide ≤ 256
 ·
  by_cases h2 : 1 ≤ p.High ∧ p.High ≤ 256
  ·
   have := Xd7 h1 h2
   rw [wkA]
  ·
   rw [decide_eq_false h2, Bool.false_and, Bool.false_and]
 ·
  rw [decide_eq_false h1, Bool.false_and, Bool.false_and]
def Xhw (p : Pic) (s : Seq) : Bool := Xck p && ((p.Wide == (Xhh s).1) && (p.High == (Xhh s).2))
theorem Yny (p : Pic) (s : Seq) (h1 : s.Cols.length ≤ maxLen) (h2 : s.Rows.length ≤ maxLen) : Xqc p s = some (Xhw p s) := by
 unfold Xqc Xhw
 simp only [Xup s h1 h2, Xcq, Xab, Xcm]
theorem Yvs (b : ByteArray) : (b.toList == (⟨#[]⟩ : ByteArray).toList) = decide (b.size = 0) := by
 rw [ByteArray.toList_eq, ByteArray.toList_eq, Bool.eq_iff_iff]
 obtain ⟨⟨l⟩⟩ := b
 show (l == []) = true ↔ decide (l.length = 0) = true
 cases l <;> simp
theorem Xbs (a b : List Int) : strOfNums a ++ strOfNums b = strOfNums (a ++ b) := by
 unfold strOfNums
 rw [List.map_append]
 apply ByteArray.ext
 simp
theorem Yzz : (⟨#[]⟩ : ByteArray) = strOfNums [] := rfl
def Ysi (l : List Int) : Prop := ∀ x ∈ l, 0 ≤ x ∧ x ≤ 255
theorem Yde (l : List Int) (h : Ysi l) : Xal (strOfNums l) = l := by
 unfold Xal
 rw [strOfNums_data, List.map_map]
 have : ∀ x ∈ l, ((fun b : UInt8 => (b.toNat : Int)) ∘ fun n : Int => UInt8.ofNat n.toNat) x = x := by
  intro x hx
  have := h x hx
  simp only [Function.comp_apply, UInt8.toNat_ofNat']
  omega
 rw [List.map_congr_left this, List.map_id']
theorem Xr2 (l : List Int) (h : Ysi l) (i : Nat) (hi : i < l.length) : Xcd (strOfNums l) (i : Int) = l.getD i 0 := by
 unfold Xcd
 rw [dif_pos (by rw [Int.toNat_natCast, strOfNums_size]; exact hi)]
 have hx := h l[i] (List.getElem_mem hi)
 rw [Xb2 l i hi]
 show ((((l.map fun n => UInt8.ofNat n.toNat).toArray)[(i : Int).toNat]'(by simpa using hi)).toNat : Int) = _
 simp only [Int.toNat_natCast, List.getElem_toArray, List.getElem_map, UInt8.toNat_ofNat']
 omega
def Xys : Nat → Int → List Int
 | 0, _ => []
 | w + 1, n => Xys w (n / 2) ++ [48 + n % 2]
theorem Xcp : ∀ (w : Nat) (n : Int), (Xys w n).length = w
 | 0, _ => rfl
 | w + 1, n => by rw [Xys, List.length_append, Xcp w]; rfl
def Xeo (l : List Int) : Prop := ∀ x ∈ l, x = 48 ∨ x = 49
theorem Xa5 {a b : List Int} (ha : Xeo a) (hb : Xeo b) : Xeo (a ++ b) := fun x hx => (List.mem_append.1 hx).elim (ha x) (hb x)
theorem Xwn (n : Nat) : Xeo (List.replicate n 48) := fun x hx => .inl (List.eq_of_mem_replicate hx)
theorem Xkg {l : List Int} (h : Xeo l) : Ysi l := fun x hx => by rcases h x hx with e | e <;> omega
theorem Xqv : Xeo [] := fun x hx => by simp at hx
theorem Xwv : ∀ (w : Nat) (n : Int), Xeo (Xys w n)
 | 0, _ => Xqv
 | w + 1, n => Xa5 (Xwv w (n / 2)) (fun x hx => by rw [List.mem_singleton.1 hx]; omega)
theorem Yw2 : ∀ (k : Nat) (n : Int) (s : List Int), 0 ≤ n → n ≤ 9223372036854775807 → k + s.length ≤ 100000 → loop Xi2 (n, (k : Int) - 1, List.replicate k 0 ++ s) = some (Xys k n ++ s) := by
 intro k
 induction k with
 | zero =>
  intro n s h0 h1 hl
  refine Xbx ?_
  unfold Xi2
  simp only
  rw [snA]
  simp [Xys]
 | succ k ih =>
  intro n s h0 h1 hl
  have e1 : List.replicate (k + 1) (0 : Int) ++ s = List.replicate k 0 ++ 0 :: s := by rw [List.replicate_succ', List.append_assoc]; rfl
  have e2 := Yqf (List.replicate k (0 : Int)) 0 (48 + n % 2) s
  rw [List.length_replicate] at e2
  refine lgo (y := (n / 2, (k : Int) - 1, List.replicate k 0 ++ (48 + n % 2) :: s)) ?_ ?_
  ·
   unfold Xi2
   have e3 : (((k + 1 : Nat) : Int) - 1).toNat = k := by omega
   simp only [e1, e3]
   rw [syA, Xav (by decide), Xav (by simp; omega), Xav (by simp), Xav (by decide), Xbq h0, Xbp h0, wkA (e := 48 + n % 2), w8 (by omega) (by omega), e2, wkA, wkA]
   rw [show ((k + 1 : Nat) : Int) - 1 - 1 = (k : Int) - 1 by omega]
  ·
   rw [ih (n / 2) ((48 + n % 2) :: s) (by omega) (by omega) (by simp; omega), Xys, List.append_assoc]; rfl
theorem Xmp (n : Int) (w : Nat) (h0 : 0 ≤ n) (h1 : n ≤ 9223372036854775807) (hw : w ≤ 1000) : Xhn n (w : Int) = some (strOfNums (Xys w n)) := by
 unfold Xhn
 rw [rqA, wkA, Int.toNat_natCast]
 have := Yw2 w n [] h0 h1 (by simp; omega)
 rw [List.append_nil, List.append_nil] at this
 rw [this, Xab]
def Yhh (m : Nat) : Nat := if h : m = 0 then 0 else Yhh (m / 2) + 1
termination_by m
decreasing_by omega
def Ypf (m : Nat) : List Int := if h : m = 0 then [] else Ypf (m / 2) ++ [48 + ((m % 2 : Nat) : Int)]
termination_by m
decreasing_by omega
theorem Ykt (m : Nat) : (Ypf m).length = Yhh m := by
 induction m using Nat.strongRecOn with
 | _ m ih =>
  rw [Ypf, Yhh]
  by_cases h : m = 0
  ·
   rw [dif_pos h, dif_pos h]; rfl
  ·
   rw [dif_neg h, dif_neg h, List.length_append, ih (m / 2) (by omega)]; rfl
theorem Yps {m j : Nat} (h : m < 2 ^ j) : Yhh m ≤ j := by
 induction j generalizing m with
 | zero => rw [Yhh, dif_pos (by simp at h; omega)]; omega
 | succ j ih =>
  rw [Yhh]
  split
  ·
   omega
  ·
   have := ih (m := m / 2) (by rw [Nat.pow_succ] at h; omega)
   omega
theorem Yk2 {m : Nat} (h : 0 < m) : 1 ≤ Yhh m := by rw [Yhh, dif_neg (by omega)]; omega
theorem Ywq (m : Nat) : Xeo (Ypf m) := by
 induction m using Nat.strongRecOn with
 | _ m ih =>
  rw [Ypf]
  by_cases h : m = 0
  ·
   rw [dif_pos h]; exact Xqv
  ·
   rw [dif_neg h]; exact Xa5 (ih (m / 2) (by omega)) (fun x hx => by rw [List.mem_singleton.1 hx]; omega)
def ueL (n : Nat) : List Int := List.replicate (Yhh (n + 1) - 1) 48 ++ Ypf (n + 1)
theorem Xnm (n : Nat) : Xeo (ueL n) := Xa5 (Xwn _) (Ywq _)
theorem Xgd (n : Nat) (h : n ≤ 1000000) : (ueL n).length ≤ 39 ∧ 1 ≤ (ueL n).length := by
 unfold ueL
 rw [List.length_append, List.length_replicate, Ykt]
 have := Yps (m := n + 1) (j := 20) (by omega)
 have := Yk2 (m := n + 1) (by omega)
 omega
theorem Xsw (n : Nat) (x : Int) (h : n ≤ 1000000000) : Xj5 (n : Int) x = some (strOfNums (List.replicate n x)) := by
 unfold Xj5
 rw [rqA, Int.toNat_natCast]
 have key : ∀ (k a : Nat), k + a = n → loop (Xhm (n : Int) x) ((a : Int), List.replicate a x ++ List.replicate k 0) = some (List.replicate n x) := by
  intro k
  induction k with
  | zero =>
   intro a ha
   refine Xbx ?_
   unfold Xhm
   simp only
   rw [snA]
   simp; omega
  | succ k ih =>
   intro a ha
   have e2 := Yqf (List.replicate a x) 0 x (List.replicate k 0)
   rw [List.length_replicate] at e2
   refine lgo (y := (((a + 1 : Nat) : Int), List.replicate (a + 1) x ++ List.replicate k 0)) ?_ (ih (a + 1) (by omega))
   unfold Xhm
   simp only [List.replicate_succ (n := k), Int.toNat_natCast]
   rw [syA, Xav (by simp; omega), Xav (by simp), e2, wkA, List.replicate_succ' (n := a), List.append_assoc]
   rfl
 have := key n 0 rfl
 rw [List.replicate_zero, List.nil_append] at this
 exact Xc3 this
theorem Xd3 (n : Nat) (h : n ≤ 1000000) : Xdq (n : Int) = some (strOfNums (ueL n)) := by
 have main : ∀ (j m : Nat) (s : List Int), m < 2 ^ j → j ≤ 63 → s.length + j ≤ 1000 → loop Xia ((m : Int), strOfNums s) = some (strOfNums (Ypf m ++ s)) := by
  intro j
  induction j with
  | zero =>
   intro m s hm _ _
   have : m = 0 := by simp at hm; omega
   subst this
   refine Xbx ?_
   unfold Xia
   simp only
   rw [snA, Ypf, dif_pos rfl]; rfl
  | succ j ih =>
   intro m s hm hj hl
   by_cases h : m = 0
   ·
    subst h
    refine Xbx ?_
    unfold Xia
    simp only
    rw [snA, Ypf, dif_pos rfl]; rfl
   ·
    have hlt : (m : Int) < 2 ^ (j + 1) := by exact_mod_cast hm
    have hle : (2 : Int) ^ (j + 1) ≤ 2 ^ 63 := by
     have := Nat.pow_le_pow_right (n := 2) (by omega) hj
     exact_mod_cast this
    have hbd : (m : Int) < 9223372036854775808 := Int.lt_of_lt_of_le hlt (by simpa using hle)
    refine lgo (y := (((m / 2 : Nat) : Int), strOfNums ((48 + ((m % 2 : Nat) : Int)) :: s))) ?_ ?_
    ·
     unfold Xia
     simp only
     rw [syA, Xav (by decide), Xbq (by omega), Xbp (by omega), wkA (e := 48 + (m : Int) % 2), w8 (by omega) (by omega), Xav (by simp only [strOfNums_size, List.length_singleton]; omega), Xav (by decide), wkA, Xbs]
     congr 3
    ·
     rw [ih (m / 2) _ (by rw [Nat.pow_succ] at hm; omega) (by omega) (by simp; omega)]
     conv => rhs; rw [Ypf, dif_neg h]
     rw [List.append_assoc]; rfl
 unfold Xdq
 have h1 := Yps (m := n + 1) (j := 20) (by omega)
 have h2 := Yk2 (m := n + 1) (by omega)
 rw [wkA (e := (n : Int) + 1), Yzz, show (n : Int) + 1 = ((n + 1 : Nat) : Int) by omega, main 63 (n + 1) [] (by omega) (by omega) (by simp), Xab, List.append_nil, strOfNums_size, Ykt, wkA, show (Yhh (n + 1) : Int) - 1 = ((Yhh (n + 1) - 1 : Nat) : Int) by omega, Xsw _ _ (by omega), Xab,
  Xav (by simp only [strOfNums_size, List.length_replicate]; omega), Xbs]
 rfl
theorem Yws (x : Int) (h : x = 48 ∨ x = 49) : ((x != 48) && (x != 49)) = false := by rcases h with rfl | rfl <;> rfl
theorem Yrs (l : List Int) (hl : Xeo l) (hn : l.length ≤ 9223372036854775806) (f : Int → Option (Lp Int (Ou Unit Bool)))
  (h : ∀ i : Nat, i < l.length → f (i : Int) = sel (((l.getD i 0) != 48) && ((l.getD i 0) != 49)) (some (.done (.ret false))) (some (.go ((i + 1 : Nat) : Int)))) (h0 : f (l.length : Int) = some (.done (.out ()))) : loop f 0 = some (.out ()) :=
 Xqm l.length (fun i hi => by rw [h i hi, Yws _ (by rw [Xb2 l i hi]; exact hl _ (List.getElem_mem hi)), Xam]) h0
theorem Yi6 (l : List Int) (hl : Xeo l) (hn : l.length ≤ 9223372036854775806) : Xl5 (strOfNums l) = some true := by
 unfold Xl5
 rw [Yrs l hl hn (Xdf (strOfNums l)) (fun i hi => by
  unfold Xdf
  rw [strOfNums_size, Xr2 l (Xkg hl) i hi, syA, rqA, rqA, Xcm, Xab, wkA]; rfl) (by
  unfold Xdf; rw [strOfNums_size, snA])]
 rfl
theorem Xyf (l : List Int) (hl : Xeo l) (hn : l.length ≤ 400000) : Xgx (strOfNums l) = some true := by
 unfold Xgx
 rw [strOfNums_size, syA, Yi6 l hl (by omega), Xab, Xab]
theorem Ylc (l : List Int) (hl : Xeo l) (hn : l.length ≤ 400000) : Xjv (strOfNums l) = some true := by
 unfold Xjv
 rw [strOfNums_size, snA, Yrs l hl (by omega) (Xhy (strOfNums l)) (fun i hi => by
  unfold Xhy
  rw [strOfNums_size, Xr2 l (Xkg hl) i hi, syA, rqA, rqA, Xcm, Xab, wkA]; rfl) (by
  unfold Xhy; rw [strOfNums_size, snA])]
 rfl
def Xg5 (l : List Int) : Int := l.foldl (fun x b => 2 * x + b - 48) 0
def Xp0 : Nat → List Int → List Int
 | 0, _ => []
 | n + 1, l => Xg5 (l.take 8) :: Xp0 n (l.drop 8)
theorem Xyx : ∀ (n : Nat) (l : List Int), (Xp0 n l).length = n
 | 0, _ => rfl
 | n + 1, l => by rw [Xp0, List.length_cons, Xyx n]
def Xpy (l : List Int) : List Int := Xp0 (l.length / 8 + 1) (l ++ 49 :: List.replicate (8 * (l.length / 8 + 1) - l.length - 1) 48)
theorem Zac (l : List Int) : ∀ x : Int, l.foldl (fun x b => 2 * x + b - 48) x = x * 2 ^ l.length + Xg5 l := by
 induction l with
 | nil => intro x; simp [Xg5]
 | cons b l ih =>
  intro x
  unfold Xg5
  rw [List.foldl_cons, List.foldl_cons, ih, ih (2 * 0 + b - 48), List.length_cons, Int.pow_succ]
  have e1 : (2 * x + b - 48) * 2 ^ l.length = 2 * (x * 2 ^ l.length) + (b - 48) * 2 ^ l.length := by
   rw [show 2 * x + b - 48 = 2 * x + (b - 48) by omega, Int.add_mul, Int.mul_assoc]
  have e2 : x * (2 ^ l.length * 2) = 2 * (x * 2 ^ l.length) := by rw [← Int.mul_assoc, Int.mul_comm]
  rw [e1, e2, show (2 : Int) * 0 + b - 48 = b - 48 by omega]
  omega
theorem Xrm (a b : List Int) : Xg5 (a ++ b) = Xg5 a * 2 ^ b.length + Xg5 b := by
 show (a ++ b).foldl _ 0 = _
 rw [List.foldl_append]
 exact Zac b (Xg5 a)
theorem Zae (z : Nat) : Xg5 (List.replicate z 48) = 0 := by
 induction z with
 | zero => rfl
 | succ z ih => rw [List.replicate_succ', Xrm, ih]; rfl
theorem Xi8 {l : List Int} (h : Xeo l) : 0 ≤ Xg5 l ∧ Xg5 l < 2 ^ l.length := by
 induction l with
 | nil => simp [Xg5]
 | cons b l ih =>
  have h1 := ih (fun x hx => h x (by simp [hx]))
  have h2 := h b (by simp)
  rw [show b :: l = [b] ++ l from rfl, Xrm, List.length_append, Int.pow_add, show Xg5 [b] = b - 48 by simp [Xg5]]
  have : (2 : Int) ^ [b].length = 2 := rfl
  rw [this]
  rcases h2 with rfl | rfl <;> omega
theorem Yv8 (v : List Int) (i : Nat) (out : List Int) (c : List Int) (hc : (v.drop i).take 8 = c) (h8 : c.length = 8) (hb : Xeo c) (hn : v.length ≤ 1000000) (hi : i + 8 ≤ v.length) : loop (Xeb v ((i : Int), out)) (0, 0) = some (Xg5 c) := by
 have key : ∀ (r a : List Int), c = a ++ r → loop (Xeb v ((i : Int), out)) (Xg5 a, (a.length : Int)) = some (Xg5 c) := by
  intro r
  induction r with
  | nil =>
   intro a ha
   rw [List.append_nil] at ha
   refine Xbx ?_
   unfold Xeb
   simp only
   rw [Xas (by rw [← ha]; omega), ha]
  | cons x r ih =>
   intro a ha
   have hlen : a.length < 8 := by rw [← h8, ha]; simp
   have hx : v.getD (i + a.length) 0 = x := by
    have h1 : c.getD a.length 0 = x := by rw [ha]; exact Xnr a x _ r
    rw [← h1, ← hc]
    rw [List.getD_eq_getElem?_getD, List.getD_eq_getElem?_getD, List.getElem?_take_of_lt hlen, List.getElem?_drop]
   have hab : Xeo a := fun y hy => hb y (by rw [ha]; simp [hy])
   have hr := Xi8 hab
   have hp : (2 : Int) ^ a.length ≤ 2 ^ 8 := by
    have := Nat.pow_le_pow_right (n := 2) (by omega) (show a.length ≤ 8 by omega)
    exact_mod_cast this
   have h256 : (2 : Int) ^ 8 = 256 := by decide
   have hxb : x = 48 ∨ x = 49 := hb x (by rw [ha]; simp)
   have hnext := ih (a ++ [x]) (by rw [ha]; simp)
   rw [List.length_append, List.length_singleton] at hnext
   refine lgo (y := (Xg5 (a ++ [x]), ((a.length + 1 : Nat) : Int))) ?_ hnext
   unfold Xeb
   simp only
   rw [syA, wkA (e := (i : Int) + a.length), rqA, rqA, show ((i : Int) + (a.length : Int)).toNat = i + a.length by omega, hx, wkA (e := (a.length : Int) + 1), wkA (e := x), wkA (e := 2 * Xg5 a), wkA (e := 2 * Xg5 a + x), wkA,
    Xrm, show Xg5 [x] = x - 48 by simp [Xg5], show [x].length = 1 from rfl, Int.pow_one]
   congr 4
   omega
 have := key c [] rfl
 exact this
theorem Ysk (v : List Int) (hb : Xeo v) (hn : v.length ≤ 1000000) : ∀ (m i : Nat) (out : List Int), i + 8 * m = v.length → out.length ≤ i → loop (Xfu v) ((i : Int), out) = some (out ++ Xp0 m (v.drop i)) := by
 have hm' : maxLen = 9223372036854775807 := rfl
 intro m
 induction m with
 | zero =>
  intro i out hi _
  refine Xbx ?_
  unfold Xfu
  simp only
  rw [snA]; simp [Xp0]
 | succ m ih =>
  intro i out hi ho
  have hlen : ((v.drop i).take 8).length = 8 := by rw [List.length_take, List.length_drop]; omega
  have hcb : Xeo ((v.drop i).take 8) := fun x hx => hb x (List.mem_of_mem_drop (List.mem_of_mem_take hx))
  have hr := Xi8 hcb
  rw [hlen, show (2 : Int) ^ 8 = 256 by decide] at hr
  refine lgo (y := (((i + 8 : Nat) : Int), out ++ [Xg5 ((v.drop i).take 8)])) ?_ ?_
  ·
   unfold Xfu
   simp only
   rw [syA, Yv8 v i out _ rfl hlen hcb hn (by omega), Xab, w8 (by omega) (by omega), Xav (by simp only [List.length_singleton]; omega), wkA]
   rfl
  ·
   rw [ih (i + 8) _ (by omega) (by simp; omega), Xp0, List.drop_drop, List.append_assoc]; rfl
theorem Ycu (l : List Int) (hl : Xeo l) (hn : l.length ≤ 400000) : Xk8 (strOfNums l) = some (strOfNums (Xpy l)) := by
 have hm' : maxLen = 9223372036854775807 := rfl
 unfold Xk8
 rw [strOfNums_size, Yde l (Xkg hl), rqA, Xav (by simp only [List.length_singleton]; omega)]
 have key : ∀ (z : Nat) (s : List Int), s.length ≤ 500000 → z < 8 → (s.length + z) % 8 = 0 → loop Xgm s = some (s ++ List.replicate z 48) := by
  intro z
  induction z with
  | zero =>
   intro s hs _ h8
   refine Xbx ?_
   unfold Xgm
   rw [Xav (by decide), Xbq (by omega), Xaz (by simp only [bne_eq_false_iff_eq]; omega)]; simp
  | succ z ih =>
   intro s hs hz h8
   refine lgo (y := s ++ [48]) ?_ ?_
   ·
    unfold Xgm
    rw [Xav (by decide), Xbq (by omega), Xbb (by simp only [bne_iff_ne, ne_eq]; omega), Xav (by simp only [List.length_singleton]; omega)]
   ·
    rw [ih (s ++ [48]) (by simp; omega) (by omega) (by simp; omega), List.append_assoc, List.replicate_succ]; rfl
 have hz : (l ++ [49] ++ List.replicate (8 * (l.length / 8 + 1) - l.length - 1) 48 : List Int).length = 8 * (l.length / 8 + 1) := by simp; omega
 have hvb : Xeo (l ++ [49] ++ List.replicate (8 * (l.length / 8 + 1) - l.length - 1) 48) := Xa5 (Xa5 hl (fun x hx => .inr (List.mem_singleton.1 hx))) (Xwn _)
 rw [key (8 * (l.length / 8 + 1) - l.length - 1) (l ++ [49]) (by simp; omega) (by omega) (by simp; omega), Xab]
 have := Ysk _ hvb (by omega) (l.length / 8 + 1) 0 [] (by rw [hz]; omega) (by simp)
 rw [List.nil_append, List.drop_zero] at this
 rw [show (0 : Int) = ((0 : Nat) : Int) from rfl, this, Xab]
 unfold Xpy
 rw [List.append_assoc, List.singleton_append]
theorem Xjf (l : List Int) : (Xpy l).length = l.length / 8 + 1 := Xyx _ _
def Xno (k : Int) : Bool := k == 1 || (k == 5 || (k == 7 || k == 8))
theorem Xus (k : Int) : Xoc k = some (Xno k) := by
 unfold Xoc Xno
 simp only [Ya6, Xab]
theorem Xs3 (k : Int) : Xj9 k = some (Xno k) := by
 unfold Xj9 Xno
 simp only [Ya6, Xab]
theorem Yfq {k : Int} (h : Xno k = true) : 1 ≤ k ∧ k ≤ 8 := by
 unfold Xno at h
 simp only [Bool.or_eq_true, beq_iff_eq] at h
 omega
theorem Xpw (k : Int) (l : List Int) (hk : Xno k = true) (hl : Xeo l) (hn : l.length ≤ 400000) : Xjp k (strOfNums l) = some (strOfNums (k :: Xpy l), true) := by
 have := Yfq hk
 have hp := Xjf l
 unfold Xjp
 rw [Xs3, Xab, hk, Xaq, Xyf l hl hn, Xab, Xab, Bool.not_true, Xam, Ycu l hl hn, Xab, w8 (by omega) (by omega), Xav (by simp only [strOfNums_size, List.length_singleton]; omega), Xbs]; rfl
def Xps (b : Bool) : List Int := if b = true then [49] else [48]
theorem Ygc (b : Bool) : Xeo (Xps b) := by unfold Xps; split <;> (intro x hx; rw [List.mem_singleton.1 hx]; simp)
theorem Xm2 (b : Bool) : (Xps b).length = 1 := by unfold Xps; split <;> rfl
theorem Xor (b : Bool) : Xj7 b = some (strOfNums (Xps b)) := by cases b <;> rfl
def Ycg (p : Par) : List Int := Xys 6 p.Qp ++ Xps p.Large ++ Xps p.Exact ++ Xps p.Confined
theorem Xx2 (p : Par) : Xeo (Ycg p) := Xa5 (Xa5 (Xa5 (Xwv _ _) (Ygc _)) (Ygc _)) (Ygc _)
theorem Xtk (p : Par) : (Ycg p).length = 9 := by unfold Ycg; simp only [List.length_append, Xcp, Xm2]
theorem Xtl {p : Par} (h : Xky p = true) : 0 ≤ p.Qp ∧ p.Qp ≤ 40 := by
 unfold Xky at h; rw [Bool.and_eq_true, decide_eq_true_eq] at h; exact h.1
theorem Yjc (p : Par) (h : Xky p = true) : Xos p = some (strOfNums (Ycg p)) := by
 have := Xtl h
 unfold Xos
 rw [show (6 : Int) = ((6 : Nat) : Int) from rfl, Xmp _ 6 (by omega) (by omega) (by omega), Xab, Xor, Xab, Xav (by simp only [strOfNums_size, Xcp, Xm2]; omega), Xor, Xab, Xbs, Xav (by simp only [strOfNums_size, List.length_append, Xcp, Xm2]; omega), Xor, Xab, Xbs, Xav (by simp only [strOfNums_size, List.length_append, Xcp, Xm2]; omega), Xbs]
 rfl
def Yr6 : List Int → List Int
 | [] => []
 | x :: r => ueL x.toNat ++ Yr6 r
theorem Yr7 : ∀ l : List Int, Xeo (Yr6 l)
 | [] => Xqv
 | x :: r => Xa5 (Xnm _) (Yr7 r)
theorem Yr8 : ∀ {l : List Int}, l.all Xe0 = true → (Yr6 l).length ≤ 39 * l.length
 | [], _ => by simp [Yr6]
 | x :: r, h => by
  rw [List.all_cons, Bool.and_eq_true] at h
  have h1 := Yr8 h.2
  have h2 : 1 ≤ x ∧ x ≤ 8 := by simpa [Xe0] using h.1
  have := Xgd x.toNat (by omega)
  rw [Yr6, List.length_append, List.length_cons]
  omega
def Xra (l : List Int) : List Int := ueL l.length ++ Yr6 l
def Xwe (s : Seq) : List Int := ueL s.Level.toNat ++ Xys 4 s.Bits ++ Xra s.Cols ++ Xra s.Rows
theorem Yob (l : List Int) : Xeo (Xra l) := Xa5 (Xnm _) (Yr7 _)
theorem Xyb (s : Seq) : Xeo (Xwe s) := Xa5 (Xa5 (Xa5 (Xnm _) (Xwv _ _)) (Yob _)) (Yob _)
theorem Xxz {l : List Int} (h : Xee l = true) : (Xra l).length ≤ 195 := by
 have h1 := Xbi h
 unfold Xee at h
 rw [Bool.and_eq_true] at h
 have := Yr8 h.2
 have := Xgd l.length (by omega)
 unfold Xra; rw [List.length_append]; omega
theorem Xv0 {s : Seq} (h : Xf2 s = true) : 1 ≤ s.Level ∧ s.Level ≤ 3 := by
 unfold Xf2 at h
 rw [Bool.and_eq_true, decide_eq_true_eq] at h
 have := h.1
 unfold Xj0 at this
 repeat' split at this
 all_goals omega
theorem Yry {s : Seq} (h : Xf2 s = true) : (Xwe s).length ≤ 433 := by
 obtain ⟨h1, h2, _⟩ := Xbc h
 have h3 := Xv0 h
 have := Xxz h1
 have := Xxz h2
 have := Xgd s.Level.toNat (by omega)
 unfold Xwe; simp only [List.length_append, Xcp]; omega
theorem Yo9 (l : List Int) (ha : l.all Xe0 = true) (h4 : l.length ≤ 4) (f : (ByteArray × Int) → Option (Lp (ByteArray × Int) ByteArray))
  (h : ∀ (i : Nat) (s : List Int) (x : Int), i < l.length → s.length ≤ 1000 → l.getD i 0 = x → f (strOfNums s, (i : Int)) = some (.go (strOfNums (s ++ ueL x.toNat), ((i + 1 : Nat) : Int)))) (h0 : ∀ s, f (s, (l.length : Int)) = some (.done s)) (s : List Int) (hs : s.length ≤ 500) : loop f (strOfNums s, 0) = some (strOfNums (s ++ Yr6 l)) := by
 have key : ∀ (r a : List Int) (s : List Int), l = a ++ r → s.length + 39 * r.length ≤ 800 → loop f (strOfNums s, (a.length : Int)) = some (strOfNums (s ++ Yr6 r)) := by
  intro r
  induction r with
  | nil => intro a s ha _; rw [List.append_nil] at ha; rw [← ha, Xci (h0 _), Yr6, List.append_nil]
  | cons x r ih =>
   intro a s hl hsl
   have hlen : a.length < l.length := by rw [hl]; simp
   have hx : l.getD a.length 0 = x := by rw [hl]; exact Xnr a x _ r
   have hxs : 1 ≤ x ∧ x ≤ 8 := by simpa [Xe0] using List.all_eq_true.1 ha x (by rw [hl]; simp)
   have := Xgd x.toNat (by omega)
   rw [List.length_cons] at hsl
   have hn := ih (a ++ [x]) (s ++ ueL x.toNat) (by rw [hl]; simp) (by rw [List.length_append]; omega)
   rw [List.length_append, List.length_singleton] at hn
   rw [Xg1 (h a.length s x hlen (by omega) hx), hn, Yr6, List.append_assoc]
 exact key l [] s rfl (by omega)
theorem Xs0 (l : List Int) (h : Xee l = true) : Xj8 l = some (strOfNums (Xra l)) := by
 have h1 := Xbi h
 have ha : l.all Xe0 = true := by unfold Xee at h; rw [Bool.and_eq_true] at h; exact h.2
 have := Xgd l.length (by omega)
 unfold Xj8
 rw [Xd3 _ (by omega), Xab, Yo9 l ha h1.2 (Xho l) (by
  intro i s x hi hs hx
  have hxs : 1 ≤ x ∧ x ≤ 8 := by rw [Xb2 l i hi] at hx; simpa [Xe0, hx] using List.all_eq_true.1 ha _ (List.getElem_mem hi)
  have := Xgd x.toNat (by omega)
  unfold Xho
  simp only [Int.toNat_natCast, hx]
  rw [syA, rqA, show x = ((x.toNat : Nat) : Int) by omega, Xd3 _ (by omega), Xab, Xav (by simp only [strOfNums_size]; omega), wkA, Xbs]
  rfl) (by intro s; unfold Xho; simp only; rw [snA]) _ (by omega), Xab]
 rfl
theorem Yje (s : Seq) (h : Xf2 s = true) : Xot s = some (strOfNums (Xwe s)) := by
 obtain ⟨h1, h2, h3⟩ := Xbc h
 have h4 := Xv0 h
 have := Xxz h1
 have := Xxz h2
 have := Xgd s.Level.toNat (by omega)
 unfold Xot
 rw [show s.Level = ((s.Level.toNat : Nat) : Int) by omega, Xd3 _ (by omega), Xab, show (4 : Int) = ((4 : Nat) : Int) from rfl, Xmp _ 4 (by omega) (by omega) (by omega), Xab, Xav (by simp only [strOfNums_size, Xcp]; omega), Xs0 _ h1, Xab, Xbs, Xav (by simp only [strOfNums_size, List.length_append, Xcp]; omega), Xs0 _ h2, Xab, Xbs, Xav (by simp only [strOfNums_size, List.length_append, Xcp]; omega), Xbs]
 rfl
def Ypu (n : Int) : Nat := if n > 0 then (2 * n - 1).toNat else (-2 * n).toNat
theorem Yir (n : Int) (h : -500000 ≤ n ∧ n ≤ 500000) : Xoj n = some ((Ypu n : Int), true) := by
 unfold Xoj Ypu
 rw [Xai, Xab, Ygb, Xa9 h, Yin, wkA (e := 2 * n), wkA, wkA]
 split
 ·
  rw [Int.toNat_of_nonneg (by omega)]
 ·
  rw [Int.toNat_of_nonneg (by omega)]
theorem Yk3 (n : Int) (h : -500000 ≤ n ∧ n ≤ 500000) : Ypu n ≤ 1000000 := by unfold Ypu; split <;> omega
def seL (n : Int) : List Int := ueL (Ypu n)
theorem Xrf (n : Int) (h : -500000 ≤ n ∧ n ≤ 500000) : (seL n).length ≤ 39 := (Xgd _ (Yk3 n h)).1
theorem Xn0 (n : Int) (h : -500000 ≤ n ∧ n ≤ 500000) : Xj6 n = some (strOfNums (seL n)) := by
 unfold Xj6
 rw [Yir n h, Xab, Xd3 _ (Yk3 n h), Xab]; rfl
def Yij (x : Int) : Bool := decide (-5000 ≤ x ∧ x ≤ 5000)
theorem Ydc {x : Int} : Yij x = true ↔ -5000 ≤ x ∧ x ≤ 5000 := by simp [Yij]
def nz : List Int → Nat
 | [] => 0
 | x :: r => if x = 0 then nz r else nz r + 1
theorem Yu7 : ∀ l : List Int, nz l ≤ l.length
 | [] => by simp [nz]
 | x :: r => by rw [nz, List.length_cons]; have := Yu7 r; split <;> omega
def Xnv : Nat → List Int → List Int
 | _, [] => []
 | g, x :: r => if x = 0 then Xnv (g + 1) r else ueL g ++ seL x ++ Xnv 0 r
def Xlg (l : List Int) : List Int := ueL (nz l) ++ Xnv 0 l
theorem Yf9 : ∀ (l : List Int) (g : Nat), Xeo (Xnv g l)
 | [], _ => Xqv
 | x :: r, g => by
  rw [Xnv]
  split
  ·
   exact Yf9 r _
  ·
   exact Xa5 (Xa5 (Xnm _) (Xnm _)) (Yf9 r _)
theorem Xx9 : ∀ (l : List Int) (g : Nat), l.all Yij = true → g + l.length ≤ 1000 → (Xnv g l).length ≤ 78 * l.length
 | [], _, _, _ => by simp [Xnv]
 | x :: r, g, h, hg => by
  rw [List.all_cons, Bool.and_eq_true, Ydc] at h
  rw [List.length_cons] at hg ⊢
  rw [Xnv]
  split
  ·
   have := Xx9 r (g + 1) h.2 (by omega); omega
  ·
   have := Xx9 r 0 h.2 (by omega)
   have a := Xgd g (by omega)
   have b := Xrf x (by omega)
   simp only [List.length_append]; omega
theorem Xso (l : List Int) : Xeo (Xlg l) := Xa5 (Xnm _) (Yf9 _ _)
theorem Xkz (l : List Int) (h : l.all Yij = true) (hl : l.length ≤ 64) : (Xlg l).length ≤ 39 + 78 * l.length := by
 have := Xx9 l 0 h (by omega)
 have := Yu7 l
 have := Xgd (nz l) (by omega)
 unfold Xlg; rw [List.length_append]; omega
theorem Xhr (l : List Int) (h : l.all Yij = true) (hl : l.length ≤ 64) : Xe3 l = some (strOfNums (Xlg l)) := by
 unfold Xe3
 have key : ∀ (r a : List Int) (n g : Nat) (s : List Int), l = a ++ r → n ≤ a.length → g ≤ a.length → s.length ≤ 78 * a.length → loop (Xfz l) ((n : Int), (g : Int), strOfNums s, (a.length : Int)) = some (((n + nz r : Nat) : Int), strOfNums (s ++ Xnv g r)) := by
  intro r
  induction r with
  | nil =>
   intro a n g s ha _ _ _
   rw [List.append_nil] at ha
   refine Xbx ?_
   unfold Xfz
   simp only
   rw [Xas (by rw [ha]; omega), nz, Xnv, List.append_nil]; rfl
  | cons x r ih =>
   intro a n g s ha hn hg hs
   have hlen : a.length < l.length := by rw [ha]; simp
   have hx : l.getD a.length 0 = x := by rw [ha]; exact Xnr a x _ r
   have hxi : -5000 ≤ x ∧ x ≤ 5000 := Ydc.1 (List.all_eq_true.1 h x (by rw [ha]; simp))
   by_cases e : x = 0
   ·
    have hnext := ih (a ++ [x]) n (g + 1) s (by rw [ha]; simp) (by simp; omega) (by simp; omega) (by simp; omega)
    rw [List.length_append, List.length_singleton] at hnext
    rw [nz, Xnv, if_pos e, if_pos e, ← hnext]
    refine Xg1 ?_
    unfold Xfz
    simp only [Int.toNat_natCast, hx]
    rw [syA, rqA, Xbb (by simpa using e), Xab, wkA, wkA]
    rfl
   ·
    have u1 := Xgd g (by omega)
    have u2 := Xrf x (by omega)
    have hnext := ih (a ++ [x]) (n + 1) 0 (s ++ ueL g ++ seL x) (by rw [ha]; simp) (by simp; omega) (by omega) (by simp only [List.length_append, List.length_singleton]; omega)
    rw [List.length_append, List.length_singleton] at hnext
    rw [nz, Xnv, if_neg e, if_neg e, show n + (nz r + 1) = n + 1 + nz r by omega, ← List.append_assoc, ← List.append_assoc, ← hnext]
    refine Xg1 ?_
    unfold Xfz
    simp only [Int.toNat_natCast, hx]
    rw [syA, rqA, Xaz (by simpa using e), Xd3 g (by omega), Xab, Xav (by simp only [strOfNums_size]; omega), rqA, Xn0 x (by omega), Xab, Xbs, Xav (by simp only [strOfNums_size, List.length_append]; omega), Xbs, Xab, wkA, wkA]
    rfl
 have := key l [] 0 0 [] rfl (by omega) (by omega) (by simp)
 refine (Xc3 this).trans ?_
 have hz := Yu7 l
 have u := Xgd (nz l) (by omega)
 have b := Xx9 l 0 h (by omega)
 simp only [Nat.zero_add, List.nil_append]
 rw [Xd3 _ (by omega), Xab, Xav (by simp only [strOfNums_size]; omega), Xbs]
 rfl
def Yhi (l : List Int) : Bool := decide (l.length = 64) && l.all Yij
theorem Ykp (p : Int → Bool) (l : List Int) (f : Int → Option (Lp Int (Ou Unit Bool))) (h : ∀ i : Nat, i < l.length → f (i : Int) = sel (!(p (l.getD i 0))) (some (.done (.ret false))) (some (.go ((i + 1 : Nat) : Int)))) (h0 : f (l.length : Int) = some (.done (.out ()))) :
  loop f 0 = some (if l.all p = true then .out () else .ret false) := by
 have key : ∀ (r a : List Int), l = a ++ r → loop f (a.length : Int) = some (if r.all p = true then .out () else .ret false) := by
  intro r
  induction r with
  | nil => intro a ha; rw [List.append_nil] at ha; rw [← ha, Xci h0]; rfl
  | cons x r ih =>
   intro a ha
   have hlen : a.length < l.length := by rw [ha]; simp
   have hx : l.getD a.length 0 = x := by rw [ha]; exact Xnr a x _ r
   have hs := h a.length hlen
   rw [hx] at hs
   cases e : p x with
   | true =>
    rw [e] at hs
    have := ih (a ++ [x]) (by rw [ha]; simp)
    rw [List.length_append, List.length_singleton] at this
    rw [Xg1 hs, this, List.all_cons, e, Bool.true_and]
   | false => rw [e] at hs; rw [Xci hs, List.all_cons, e, Bool.false_and]; rfl
 exact key l [] rfl
theorem Yjf (l : List Int) : Xfb l 64 5000 = some (Yhi l) := by
 unfold Xfb Yhi
 by_cases h : l.length = 64
 ·
  rw [Xaz (by simp only [bne_eq_false_iff_eq]; omega), Ykp Yij l (Xfc l 64 5000) (by
   intro i hi
   unfold Xfc
   rw [syA, rqA, wkA (e := 0 - 5000), Xai, Xab, wkA, Int.toNat_natCast]
   rfl) (by unfold Xfc; rw [snA]), Xab, decide_eq_true h, Bool.true_and]
  cases l.all Yij <;> rfl
 ·
  rw [Xbb (by simp only [bne_iff_ne, ne_eq]; omega), decide_eq_false h, Bool.false_and]
theorem Xnt (l : List Int) (n lo hi : Int) (hl : l.length ≤ 9223372036854775806) : Xd9 l n lo hi = some (l.all (fun x => decide (lo ≤ x ∧ x ≤ hi)) && ((l.length : Int) == n)) := by
 unfold Xd9
 rw [Ykp (fun x => decide (lo ≤ x ∧ x ≤ hi)) l (Xkq l lo hi) (by
   intro i hi
   unfold Xkq
   rw [syA, rqA, Xaj, Xab, wkA, Int.toNat_natCast]
   rfl) (by unfold Xkq; rw [snA]), Xab]
 cases l.all (fun x => decide (lo ≤ x ∧ x ≤ hi)) <;> rfl
theorem Xqa (l : List Int) (hl : l.length ≤ 9223372036854775806) : Xe6 l = some (Yhi l) := by
 unfold Xe6 Yhi
 rw [Xnt l _ _ _ hl, Xab]
 show some (l.all Yij && ((l.length : Int) == 64)) = _
 have : ((l.length : Int) == 64) = decide (l.length = 64) := by rw [Bool.eq_iff_iff]; simp only [beq_iff_eq, decide_eq_true_eq]; omega
 rw [this, Bool.and_comm]
theorem Xj1 {l : List Int} (h : Yhi l = true) : l.length = 64 ∧ l.all Yij = true := by
 unfold Yhi at h; rw [Bool.and_eq_true, decide_eq_true_eq] at h; exact h
def Ymt (l : List Int) (c : Xfg) : List Int := if (c.Large || c.Exact) = true then Xlg l else Xlg (l.take 16) ++ Xlg ((l.drop 16).take 16) ++ Xlg ((l.drop 32).take 16) ++ Xlg (l.drop 48)
theorem Xjb {l : List Int} (h : l.all Yij = true) (n : Nat) : (l.take n).all Yij = true := List.all_eq_true.2 fun x hx => List.all_eq_true.1 h x (List.mem_of_mem_take hx)
theorem Xja {l : List Int} (h : l.all Yij = true) (n : Nat) : (l.drop n).all Yij = true := List.all_eq_true.2 fun x hx => List.all_eq_true.1 h x (List.mem_of_mem_drop hx)
theorem Yrf (l : List Int) (c : Xfg) : Xeo (Ymt l c) := by
 unfold Ymt
 split
 ·
  exact Xso l
 ·
  exact Xa5 (Xa5 (Xa5 (Xso _) (Xso _)) (Xso _)) (Xso _)
theorem Ydb {l : List Int} {c : Xfg} (h : Yhi l = true) : (Ymt l c).length ≤ 5148 := by
 obtain ⟨h1, h2⟩ := Xj1 h
 unfold Ymt
 split
 ·
  have := Xkz l h2 (by omega); omega
 ·
  have a := Xkz (l.take 16) (Xjb h2 _) (by rw [List.length_take]; omega)
  have b := Xkz ((l.drop 16).take 16) (Xjb (Xja h2 _) _) (by rw [List.length_take, List.length_drop]; omega)
  have c := Xkz ((l.drop 32).take 16) (Xjb (Xja h2 _) _) (by rw [List.length_take, List.length_drop]; omega)
  have d := Xkz (l.drop 48) (Xja h2 _) (by rw [List.length_drop]; omega)
  rw [List.length_take] at a
  rw [List.length_take, List.length_drop] at b c
  rw [List.length_drop] at d
  simp only [List.length_append]; omega
theorem Xu8 (l : List Int) (c : Xfg) (h : Yhi l = true) : Xl7 l c = some (strOfNums (Ymt l c)) := by
 obtain ⟨h1, h2⟩ := Xj1 h
 unfold Xl7 Ymt
 rw [Ya6, Xab]
 by_cases e : (c.Large || c.Exact) = true
 ·
  rw [Xbb e, if_pos e, Xhr l h2 (by omega), Xab]
 ·
  rw [Xaz (by simpa using e), if_neg e]
  have a := Xkz (l.take 16) (Xjb h2 _) (by rw [List.length_take]; omega)
  have b := Xkz ((l.drop 16).take 16) (Xjb (Xja h2 _) _) (by rw [List.length_take, List.length_drop]; omega)
  have c := Xkz ((l.drop 32).take 16) (Xjb (Xja h2 _) _) (by rw [List.length_take, List.length_drop]; omega)
  have d := Xkz (l.drop 48) (Xja h2 _) (by rw [List.length_drop]; omega)
  have s1 := Xhr (l.take 16) (Xjb h2 _) (by rw [List.length_take]; omega)
  have s2 := Xhr ((l.drop 16).take 16) (Xjb (Xja h2 _) _) (by rw [List.length_take, List.length_drop]; omega)
  have s3 := Xhr ((l.drop 32).take 16) (Xjb (Xja h2 _) _) (by rw [List.length_take, List.length_drop]; omega)
  have s4 := Xhr (l.drop 48) (Xja h2 _) (by rw [List.length_drop]; omega)
  rw [List.length_take] at a
  rw [List.length_take, List.length_drop] at b c
  rw [List.length_drop] at d
  rw [show ((16 : Int).toNat - (0 : Int).toNat) = 16 from rfl, show (0 : Int).toNat = 0 from rfl, List.drop_zero, show ((32 : Int).toNat - (16 : Int).toNat) = 16 from rfl, show (16 : Int).toNat = 16 from rfl, show ((48 : Int).toNat - (32 : Int).toNat) = 16 from rfl, show (32 : Int).toNat = 32 from rfl, show (48 : Int).toNat = 48 from rfl, Int.toNat_natCast, Yza]
  rw [rqA, s1, Xab, rqA, s2, Xab, Xav (by simp only [strOfNums_size]; omega), rqA, s3, Xab, Xbs, Xav (by simp only [strOfNums_size, List.length_append]; omega), rqA, s4, Xab, Xbs, Xav (by simp only [strOfNums_size, List.length_append]; omega), Xbs]
def Xge (c : Xfg) : Bool := decide (0 ≤ c.Qp ∧ c.Qp ≤ 40) && !(c.Large && c.Exact)
theorem Xe9 (c : Xfg) : Xlz c = some (Xge c) := by
 unfold Xlz Xge
 rw [Xai, Xab, Yl9, Xcm, Xab]
 cases c.Large <;> cases c.Exact <;> rfl
theorem Xdc (c : Xfg) : Xg9 c = some (Xge c) := by
 unfold Xg9 Xge
 rw [Xaj, Xab, Yl9, Xcm, Xab]
 cases c.Large <;> cases c.Exact <;> rfl
def Xm9 (s : Xao) : Bool :=
 if s.Kind = 0 then decide (s.Mode = 0 ∧ s.Dx = 0 ∧ s.Dy = 0 ∧ s.Levels.length = 0)
 else if s.Kind = 1 then decide (s.Mode = 0) && (decide (-16 ≤ s.Dx ∧ s.Dx ≤ 16) && (decide (-16 ≤ s.Dy ∧ s.Dy ≤ 16) && Yhi s.Levels))
 else if s.Kind = 2 then decide (0 ≤ s.Mode ∧ s.Mode ≤ 3) && (decide (s.Dx = 0) && (decide (s.Dy = 0) && Yhi s.Levels))
 else false
theorem Ydw (a b : Int) : (a == b) = decide (a = b) := by rw [Bool.eq_iff_iff]; simp
theorem Xjh (s : Xao) : Xgc s = some (Xm9 s) := by
 unfold Xgc Xm9
 simp only [Xai, Yjf, Xab, Xcm, Ydw]
 simp only [Yin]
 by_cases h0 : s.Kind = 0
 ·
  rw [if_pos h0, if_pos h0]; congr 1; rw [Bool.eq_iff_iff]; simp
 ·
  rw [if_neg h0, if_neg h0]
  by_cases h1 : s.Kind = 1
  ·
   rw [if_pos h1, if_pos h1]
  ·
   rw [if_neg h1, if_neg h1]
   by_cases h2 : s.Kind = 2
   ·
    rw [decide_eq_true h2, Bool.true_and, if_pos h2]
   ·
    rw [decide_eq_false h2, Bool.false_and, if_neg h2]
theorem Xen (s : Xao) (hl : s.Levels.length ≤ 9223372036854775806) : Xf9 s = some (Xm9 s) := by
 unfold Xf9 Xm9
 simp only [Xaj, Xqa _ hl, Xab, Xcm, Ydw]
 simp only [Yin]
 by_cases h0 : s.Kind = 0
 ·
  rw [if_pos h0, if_pos h0]; congr 1; rw [Bool.eq_iff_iff]; simp
 ·
  rw [if_neg h0, if_neg h0]
  by_cases h1 : s.Kind = 1
  ·
   rw [if_pos h1, if_pos h1]
  ·
   rw [if_neg h1, if_neg h1]
   by_cases h2 : s.Kind = 2
   ·
    rw [decide_eq_true h2, Bool.true_and, if_pos h2]
   ·
    rw [decide_eq_false h2, Bool.false_and, if_neg h2]
def Xhu (s : Xao) (c : Xfg) : Bool := !c.Key || s.Kind == 2
def sqL (s : Xao) (c : Xfg) : List Int :=
 (if c.Key = true then [] else ueL s.Kind.toNat) ++
 (if s.Kind = 1 then seL s.Dx ++ seL s.Dy ++ Ymt s.Levels c else if s.Kind = 2 then ueL s.Mode.toNat ++ Ymt s.Levels c else [])
theorem Xqu {s : Xao} (h : Xm9 s = true) : 0 ≤ s.Kind ∧ s.Kind ≤ 2 := by
 unfold Xm9 at h
 repeat' split at h
 all_goals first | omega | simp at h
theorem Xrj {s : Xao} (h : Xm9 s = true) (h1 : s.Kind = 1) : (-16 ≤ s.Dx ∧ s.Dx ≤ 16) ∧ (-16 ≤ s.Dy ∧ s.Dy ≤ 16) ∧ Yhi s.Levels = true := by
 unfold Xm9 at h
 rw [if_neg (by omega), if_pos h1] at h
 simp only [Bool.and_eq_true, decide_eq_true_eq] at h
 exact ⟨h.2.1, h.2.2.1, h.2.2.2⟩
theorem Xtt {s : Xao} (h : Xm9 s = true) (h1 : s.Kind = 2) : (0 ≤ s.Mode ∧ s.Mode ≤ 3) ∧ Yhi s.Levels = true := by
 unfold Xm9 at h
 rw [if_neg (by omega), if_neg (by omega), if_pos h1] at h
 simp only [Bool.and_eq_true, decide_eq_true_eq] at h
 exact ⟨h.1, h.2.2.2⟩
theorem Yvx (s : Xao) (c : Xfg) : Xeo (sqL s c) := by
 unfold sqL
 refine Xa5 ?_ ?_
 ·
  split
  ·
   exact Xqv
  ·
   exact Xnm _
 ·
  split
  ·
   exact Xa5 (Xa5 (Xnm _) (Xnm _)) (Yrf _ _)
  ·
   split
   ·
    exact Xa5 (Xnm _) (Yrf _ _)
   ·
    exact Xqv
theorem Yvy {s : Xao} {c : Xfg} (h : Xm9 s = true) : (sqL s c).length ≤ 5265 := by
 have hk := Xqu h
 have u := Xgd s.Kind.toNat (by omega)
 have e1 : (if c.Key = true then [] else ueL s.Kind.toNat).length ≤ 39 := by split; simp; exact u.1
 unfold sqL
 rw [List.length_append]
 by_cases h1 : s.Kind = 1
 ·
  obtain ⟨a, b, d⟩ := Xrj h h1
  have x := Xrf s.Dx (by omega)
  have y := Xrf s.Dy (by omega)
  have z := Ydb (c := c) d
  rw [if_pos h1]; simp only [List.length_append]; omega
 ·
  by_cases h2 : s.Kind = 2
  ·
   obtain ⟨a, d⟩ := Xtt h h2
   have x := Xgd s.Mode.toNat (by omega)
   have z := Ydb (c := c) d
   rw [if_neg h1, if_pos h2]; simp only [List.length_append]; omega
  ·
   rw [if_neg h1, if_neg h2]; simp only [List.length_nil]; omega
theorem Yjj (s : Xao) (c : Xfg) (h : Xm9 s = true) : Xow s c = some (strOfNums (sqL s c)) := by
 have hk := Xqu h
 have u := Xgd s.Kind.toNat (by omega)
 unfold Xow
 have e1 : (sel (!c.Key) (bnd (Xdq s.Kind) fun q2 => some q2) (some ⟨#[]⟩)) = some (strOfNums (if c.Key = true then [] else ueL s.Kind.toNat)) := by
  rw [show s.Kind = ((s.Kind.toNat : Nat) : Int) by omega, Xd3 _ (by omega), Xab, Int.toNat_natCast]
  cases c.Key <;> rfl
 rw [e1, Xab]
 have e2 : (if c.Key = true then [] else ueL s.Kind.toNat).length ≤ 39 := by split; simp; exact u.1
 unfold sqL
 generalize (if c.Key = true then [] else ueL s.Kind.toNat) = k at e2 ⊢
 by_cases h1 : s.Kind = 1
 ·
  obtain ⟨a, b, d⟩ := Xrj h h1
  have x := Xrf s.Dx (by omega)
  have y := Xrf s.Dy (by omega)
  have z := Ydb (c := c) d
  rw [if_pos h1, Xbb (by simpa using h1), Xn0 _ (by omega), Xab, Xav (by simp only [strOfNums_size]; omega), Xn0 _ (by omega), Xab, Xbs, Xav (by simp only [strOfNums_size, List.length_append]; omega), Xu8 _ c d, Xab, Xbs, Xav (by simp only [strOfNums_size, List.length_append]; omega), Xbs]
  simp only [List.append_assoc]
 ·
  rw [if_neg h1, Xaz (by simpa using h1)]
  by_cases h2 : s.Kind = 2
  ·
   obtain ⟨a, d⟩ := Xtt h h2
   have x := Xgd s.Mode.toNat (by omega)
   have z := Ydb (c := c) d
   rw [if_pos h2, Xbb (by simpa using h2), show s.Mode = ((s.Mode.toNat : Nat) : Int) by omega, Xd3 _ (by omega), Xab, Xav (by simp only [strOfNums_size]; omega), Xu8 _ c d, Xab, Xbs, Xav (by simp only [strOfNums_size, List.length_append]; omega), Xbs, Int.toNat_natCast]
   simp only [List.append_assoc]
  ·
   rw [if_neg h2, Xaz (by simpa using h2), List.append_nil]
def Xke : List Xao → Xfg → List Int
 | [], _ => []
 | s :: r, c => sqL s c ++ Xke r c
def Yhb (l : List Xao) (c : Xfg) : Bool := l.all fun s => Xm9 s && (Xge c && Xhu s c)
theorem Yah : ∀ (l : List Xao) (c : Xfg), Xeo (Xke l c)
 | [], _ => Xqv
 | s :: r, c => Xa5 (Yvx s c) (Yah r c)
theorem Yai : ∀ {l : List Xao} {c : Xfg}, Yhb l c = true → (Xke l c).length ≤ 5265 * l.length
 | [], _, _ => by simp [Xke]
 | s :: r, c, h => by
  unfold Yhb at h
  rw [List.all_cons, Bool.and_eq_true, Bool.and_eq_true] at h
  have h1 := Yvy (c := c) h.1.1
  have h2 := Yai (l := r) (c := c) h.2
  rw [Xke, List.length_append, List.length_cons]; omega
theorem Xo2 (b : ByteArray) (i : Int) : 0 ≤ Xcd b i ∧ Xcd b i ≤ 255 := by
 unfold Xcd
 split
 ·
  rename_i h
  have := (b[i.toNat]'h).toNat_lt
  omega
 ·
  omega
theorem Xbu {p : Pic} (h : Xck p = true) : (1 ≤ p.Wide ∧ p.Wide ≤ 256) ∧ (1 ≤ p.High ∧ p.High ≤ 256) ∧ (p.Dots.size : Int) = p.Wide * p.High := by
 unfold Xck at h
 simp only [Bool.and_eq_true, decide_eq_true_eq, beq_iff_eq] at h
 exact ⟨h.1, h.2.1, h.2.2⟩
theorem Xtm {p : Pic} (h1 : 1 ≤ p.Wide ∧ p.Wide ≤ 256) (h2 : 1 ≤ p.High ∧ p.High ≤ 256) (h3 : (p.Dots.size : Int) = p.Wide * p.High) : Xck p = true := by
 unfold Xck
 simp only [Bool.and_eq_true, decide_eq_true_eq, beq_iff_eq]
 exact ⟨h1, h2, h3⟩
def Ykz (p : Pic) (x y : Int) : Int := Xcd p.Dots (Xdi y 0 (p.High - 1) * p.Wide + Xdi x 0 (p.Wide - 1))
theorem Xqx (p : Pic) (x y : Int) : 0 ≤ Ykz p x y ∧ Ykz p x y ≤ 255 := Xo2 _ _
theorem Ynh {p : Pic} (ok : Xck p = true) (x y : Int) : 0 ≤ Xdi y 0 (p.High - 1) * p.Wide + Xdi x 0 (p.Wide - 1) ∧ Xdi y 0 (p.High - 1) * p.Wide + Xdi x 0 (p.Wide - 1) < p.Dots.size ∧ 0 ≤ Xdi y 0 (p.High - 1) * p.Wide ∧ Xdi y 0 (p.High - 1) * p.Wide ≤ 65536 := by
 obtain ⟨h1, h2, h3⟩ := Xbu ok
 have b1 := Xn3 (n := y) (a := 0) (b := p.High - 1) (by omega)
 have b2 := Xn3 (n := x) (a := 0) (b := p.Wide - 1) (by omega)
 have m1 := Int.mul_nonneg b1.1 (show 0 ≤ p.Wide by omega)
 have m2 := Int.mul_le_mul_of_nonneg_right b1.2 (show 0 ≤ p.Wide by omega)
 have m3 : (p.High - 1) * p.Wide = p.Wide * p.High - p.Wide := by rw [Int.sub_mul, Int.one_mul, Int.mul_comm]
 have m4 := (Xd7 h1 h2).2
 omega
theorem Ye7 {p : Pic} (ok : Xck p = true) (x y : Int) : Xeu p x y = some (Ykz p x y) := by
 obtain ⟨h1, h2, h3⟩ := Xbu ok
 unfold Xeu Ykz
 rw [Xki, Xab, Xki, Xab, wkA (e := p.High - 1), wkA (e := p.Wide - 1)]
 obtain ⟨p1, p2, p3, p4⟩ := Ynh ok x y
 have b2 := Xn3 (n := x) (a := 0) (b := p.Wide - 1) (by omega)
 have br := Xo2 p.Dots (Xdi y 0 (p.High - 1) * p.Wide + Xdi x 0 (p.Wide - 1))
 rw [wkA (e := Xdi y 0 (p.High - 1) * p.Wide), wkA (e := Xdi y 0 (p.High - 1) * p.Wide + Xdi x 0 (p.Wide - 1)), Xav ⟨p1, p2⟩, wkA]
theorem Xk2 {p : Pic} (ok : Xck p = true) (x y : Int) : Xh5 p x y = some (Ykz p x y) := by
 obtain ⟨h1, h2, h3⟩ := Xbu ok
 unfold Xh5 Ykz
 rw [Xgb, Xab, ok, Bool.not_true, Xam, Xfn, Xab, Xfn, Xab, wkA (e := p.High - 1), wkA (e := p.Wide - 1)]
 obtain ⟨p1, p2, p3, p4⟩ := Ynh ok x y
 have b2 := Xn3 (n := x) (a := 0) (b := p.Wide - 1) (by omega)
 have br := Xo2 p.Dots (Xdi y 0 (p.High - 1) * p.Wide + Xdi x 0 (p.Wide - 1))
 rw [wkA (e := Xdi y 0 (p.High - 1) * p.Wide), wkA (e := Xdi y 0 (p.High - 1) * p.Wide + Xdi x 0 (p.Wide - 1)), Xav ⟨p1, p2⟩, wkA]
def Ysh (p : Pic) (x y : Int) (i : Nat) : Int := Ykz p (x + ((i % 8 : Nat) : Int)) (y + ((i / 8 : Nat) : Int))
def Ymq (p : Pic) (x y : Int) (n : Nat) : List Int := (List.range n).map (Ysh p x y)
theorem Ym9 (p : Pic) (x y : Int) (n : Nat) : Ymq p x y (n + 1) = Ymq p x y n ++ [Ysh p x y n] := by simp [Ymq, List.range_succ]
theorem Xve (p : Pic) (x y : Int) (n : Nat) : (Ymq p x y n).length = n := by simp [Ymq]
def Yww (x : Int) : Bool := decide (0 ≤ x ∧ x ≤ 255)
def Xn7 (l : List Int) : Bool := decide (l.length = 64) && l.all Yww
theorem Xr6 {l : List Int} (h : Xn7 l = true) : l.length = 64 ∧ ∀ i : Nat, i < 64 → 0 ≤ l.getD i 0 ∧ l.getD i 0 ≤ 255 := by
 simp only [Xn7, Bool.and_eq_true, decide_eq_true_eq] at h
 refine ⟨h.1, fun i hi => ?_⟩
 have := List.all_eq_true.1 h.2 (l.getD i 0) (by rw [Xb2 l i (by omega)]; exact List.getElem_mem _)
 simpa [Yww] using this
theorem Ydx (p : Pic) (x y : Int) : Xn7 (Ymq p x y 64) = true := by
 simp only [Xn7, Xve, decide_true, Bool.true_and, List.all_eq_true]
 intro z hz
 obtain ⟨i, _, rfl⟩ := List.mem_map.1 hz
 simp only [Yww, decide_eq_true_eq]
 exact Xqx _ _ _
theorem Ygf {p : Pic} (ok : Xck p = true) (x y : Int) (hx : -1000 ≤ x ∧ x ≤ 1000) (hy : -1000 ≤ y ∧ y ≤ 1000) : Xsp p x y = some (Ymq p x y 64) := by
 have hm : maxLen = 9223372036854775807 := rfl
 unfold Xsp
 rw [Xgb, Xab, ok, Xaq, Xai, Xab, syA, Xai, Xab, Xab, decide_eq_true (by omega), Bool.not_true, Xam]
 have key : ∀ i : Nat, i ≤ 64 → loop (Xk0 p x y) ((i : Int), Ymq p x y i) = some (Ymq p x y 64) := by
  refine Xc1 _ ?_ ?_
  ·
   exact Xbx (by unfold Xk0; rw [Xas (by simp)])
  ·
   intro i hi ih
   refine lgo (y := (((i + 1 : Nat) : Int), Ymq p x y (i + 1))) ?_ ih
   unfold Xk0
   simp only
   rw [syA, rqA, rqA, Xbq (by omega), Xbp (by omega), wkA (e := (i : Int) / 8), wkA (e := x + (i : Int) % 8), wkA (e := y + (i : Int) / 8), Xk2 ok, Xab, Xav (by rw [Xve]; simp only [List.length_singleton]; omega), wkA (e := (i : Int) + 1)]
   have e2 : Ykz p (x + (i : Int) % 8) (y + (i : Int) / 8) = Ysh p x y i := by unfold Ysh; congr 1
   rw [e2, ← Ym9]
   rfl
 have := key 0 (by omega)
 exact (Xc3 this).trans rfl
theorem Xxn {p : Pic} (ok : Xck p = true) (x y : Int) (hx : -1000 ≤ x ∧ x ≤ 1000) (hy : -1000 ≤ y ∧ y ≤ 1000) : Xgu p x y = some (Ymq p x y 64) := by
 have hm : maxLen = 9223372036854775807 := rfl
 unfold Xgu
 rw [rqA]
 have key : ∀ r : Nat, r ≤ 8 → loop (Xes p x y) ((r : Int), Ymq p x y (8 * r)) = some (Ymq p x y 64) := by
  refine Xc1 _ ?_ ?_
  ·
   exact Xbx (by unfold Xes; rw [Xas (by simp)])
  ·
   intro r hr ih
   refine lgo (y := (((r + 1 : Nat) : Int), Ymq p x y (8 * (r + 1)))) ?_ ih
   unfold Xes
   simp only
   have inner : ∀ c : Nat, c ≤ 8 → loop (Xet p x y ((r : Int), Ymq p x y (8 * r))) ((c : Int), Ymq p x y (8 * r + c)) = some (Ymq p x y (8 * (r + 1))) := by
    refine Xc1 _ ?_ ?_
    ·
     exact Xbx (by unfold Xet; rw [Xas (by simp)]; rfl)
    ·
     intro c hc ih2
     refine lgo (y := (((c + 1 : Nat) : Int), Ymq p x y (8 * r + (c + 1)))) ?_ ih2
     unfold Xet
     simp only
     rw [syA, wkA (e := x + (c : Int)), wkA (e := y + (r : Int)), Ye7 ok, Xab, Xav (by rw [Xve]; simp only [List.length_singleton]; omega), wkA (e := (c : Int) + 1)]
     have e2 : Ykz p (x + (c : Int)) (y + (r : Int)) = Ysh p x y (8 * r + c) := by
      unfold Ysh
      rw [show (8 * r + c) % 8 = c by omega, show (8 * r + c) / 8 = r by omega]
     rw [e2, ← Ym9]
     rfl
   have i0 := inner 0 (by omega)
   rw [syA]
   refine (Xc3 i0).trans ?_
   rw [wkA (e := (r : Int) + 1)]
   rfl
 have := key 0 (by omega)
 exact (Xc3 this).trans rfl
theorem Ye5 (l : List Int) (hl : l.length ≤ 9223372036854775806) : Xd9 l 64 0 255 = some (Xn7 l) := by
 rw [Xnt l _ _ _ hl]
 have : ((l.length : Int) == 64) = decide (l.length = 64) := by rw [Bool.eq_iff_iff]; simp only [beq_iff_eq, decide_eq_true_eq]; omega
 rw [this, Bool.and_comm]
 rfl
def Xmr (p : Pic) (x y : Int) : Bool := decide (0 ≤ x ∧ x ≤ p.Wide - 8 ∧ 0 ≤ y ∧ y ≤ p.High - 8)
theorem Yb3 {p : Pic} (ok : Xck p = true) (x y : Int) (hx : x.tmod 8 = 0) (hy : y.tmod 8 = 0) (h : Xmr p x y = true) : Xc4 p x y = some true := by
 obtain ⟨k1, k2, k3⟩ := Xbu ok
 unfold Xmr at h
 rw [decide_eq_true_eq] at h
 unfold Xc4
 rw [rqA, hx, rqA, hy, wkA (e := p.Wide - 8), wkA (e := p.High - 8), Xaj, Xab, Xaj, Xab, decide_eq_true (by omega), decide_eq_true (by omega)]
 rfl
def rd (x : List Int) (i : Int) : Int := x.getD i.toNat 0
theorem Yys (x : List Int) (i : Int) : x.getD i.toNat 0 = rd x i := rfl
theorem Xnj (s : ByteArray) (i : Int) : rd (Xal s) i = Xcd s i := by
 unfold rd Xal Xcd
 by_cases h : i.toNat < s.size
 ·
  rw [dif_pos h, List.getD_eq_getElem?_getD, List.getElem?_map, Array.getElem?_toList, Array.getElem?_eq_getElem h]
  rfl
 ·
  rw [dif_neg h, List.getD_eq_getElem?_getD, List.getElem?_eq_none (by rw [List.length_map, Array.length_toList]; exact Nat.le_of_not_lt h)]
  rfl
def tz (x : List Int) : Nat := (x.reverse.takeWhile (· == 0)).length
theorem Yhd (x : List Int) : tz (x ++ [0]) = tz x + 1 := by simp [tz, List.takeWhile_cons]
theorem Yqo (x : List Int) (b : Int) (h : b ≠ 0) : tz (x ++ [b]) = 0 := by simp [tz, List.takeWhile_cons, h]
theorem Yz9 (x : List Int) : tz x ≤ x.length := by
 have := List.Sublist.length_le (List.takeWhile_sublist (fun a : Int => a == 0) (l := x.reverse))
 simpa [tz] using this
theorem Yve (x : List Int) (b c : Int) : rd (x ++ [b, c]) ((x.length : Int) + 1) = c ∧ rd (x ++ [b, c]) (x.length : Int) = b := by
 constructor
 ·
  simp [rd, List.getD_eq_getElem?_getD, show ((x.length : Int) + 1).toNat = x.length + 1 from by omega]
 ·
  simp [rd, List.getD_eq_getElem?_getD]
theorem Yv6 (x : List Int) : 2 ≤ tz x ↔ (2 ≤ x.length ∧ rd x ((x.length : Int) - 1) = 0 ∧ rd x ((x.length : Int) - 2) = 0) := by
 rcases List.eq_nil_or_concat x with rfl | ⟨y, c, rfl⟩
 ·
  simp [tz]
 ·
  rcases List.eq_nil_or_concat y with rfl | ⟨z, b, rfl⟩
  ·
   constructor
   ·
    intro h; have := Yz9 ([].concat c); simp at this h; omega
   ·
    intro h; simp at h
  ·
   simp only [List.concat_eq_append, List.append_assoc, List.singleton_append]
   have e1 := (Yve z b c).1
   have e2 := (Yve z b c).2
   rw [show (((z ++ [b, c]).length : Nat) : Int) - 1 = (z.length : Int) + 1 by simp; omega, show (((z ++ [b, c]).length : Nat) : Int) - 2 = (z.length : Int) by simp, e1, e2]
   by_cases hc : c = 0
   ·
    by_cases hb : b = 0
    ·
     subst hc; subst hb
     rw [show z ++ [(0 : Int), 0] = (z ++ [0]) ++ [0] by simp, Yhd, Yhd]
     simp
    ·
     subst hc
     rw [show z ++ [b, (0 : Int)] = (z ++ [b]) ++ [0] by simp, Yhd, Yqo _ _ hb]
     simp [hb]
   ·
    rw [show z ++ [b, c] = (z ++ [b]) ++ [c] by simp, Yqo _ _ hc]
    simp [hc]
def Ykv (x : Int) : Prop := 0 ≤ x ∧ x ≤ 255
theorem Yfw (s : ByteArray) : ∀ x ∈ Xal s, Ykv x := by
 intro x hx
 simp only [Xal, List.mem_map] at hx
 obtain ⟨b, _, rfl⟩ := hx
 have := b.toNat_lt
 unfold Ykv
 omega
theorem Yok (x : List Int) (h : ∀ c ∈ x, Ykv c) : Xal (strOfNums x) = x := Yde x h
theorem Xkd (s : ByteArray) : strOfNums (Xal s) = s := by
 apply ByteArray.ext
 apply Array.ext'
 simp only [strOfNums, Xal, List.map_map]
 conv => rhs; rw [← List.map_id s.data.toList]
 refine List.map_congr_left fun c _ => ?_
 simp
theorem Xtv {a b : ByteArray} : a.toList = b.toList ↔ a = b := by
 constructor
 ·
  intro h
  rw [ByteArray.toList_eq, ByteArray.toList_eq] at h
  exact ByteArray.ext (Array.ext' h)
 ·
  intro h; rw [h]
theorem Xpq (s : ByteArray) (i j : Nat) : Xal (s.extract i j) = ((Xal s).take j).drop i := by
 simp [Xal, ByteArray.data_extract, List.map_drop, List.map_take, List.drop_take]
theorem Ysy {a b : ByteArray} (h : Xal a = Xal b) : a = b := by rw [← Xkd a, h, Xkd]
def Xdy (x : List Int) (b : Int) : List Int := (if b < 4 ∧ 2 ≤ tz x then x ++ [3] else x) ++ [b]
def Yjw (x : List Int) (t : List Int) : List Int := t.foldl Xdy x
theorem Yk1 (x : List Int) : Yjw x [] = x := rfl
theorem Xr7 (x : List Int) (b : Int) (t : List Int) : Yjw x (b :: t) = Yjw (Xdy x b) t := rfl
theorem Yl0 (a : List Int) (i : Nat) (h : i < a.length) : a.drop i = rd a i :: a.drop (i + 1) := by
 rw [List.drop_eq_getElem_cons h]; simp [rd, List.getD_eq_getElem?_getD, List.getElem?_eq_getElem h]
theorem Yua (t : List Int) : ∀ x, (∀ c ∈ x, Ykv c) → (∀ c ∈ t, Ykv c) → ∀ c ∈ Yjw x t, Ykv c := by
 induction t with
 | nil => intro x hx _; exact hx
 | cons b t ih =>
  intro x hx ht
  rw [Xr7]
  refine ih _ ?_ (fun c hc => ht c (List.mem_cons_of_mem _ hc))
  intro c hc
  unfold Xdy at hc
  rw [List.mem_append] at hc
  rcases hc with hc | hc
  ·
   split at hc
   ·
    rw [List.mem_append] at hc
    rcases hc with hc | hc
    ·
     exact hx c hc
    ·
     rw [List.mem_singleton] at hc; subst hc; unfold Ykv; omega
   ·
    exact hx c hc
  ·
   rw [List.mem_singleton] at hc; subst hc; exact ht _ (List.mem_cons_self)
theorem Yq0 (t : List Int) : ∀ x, (Yjw x t).length ≤ x.length + 2 * t.length := by
 induction t with
 | nil => intro x; rw [Yk1]; simp
 | cons b t ih =>
  intro x
  rw [Xr7]
  have := ih (Xdy x b)
  have h2 : (Xdy x b).length ≤ x.length + 2 := by unfold Xdy; split <;> simp
  rw [List.length_cons]; omega
def Xih (a : ByteArray) : ByteArray × Bool := if 1 ≤ a.size ∧ a.size ≤ 60000 ∧ Xcd a ((a.size : Int) - 1) ≠ 0 then (strOfNums (Yjw [] (Xal a)), true) else ((⟨#[]⟩ : ByteArray), false)
theorem Yub (a : ByteArray) : (Xih a).1.size ≤ 120000 := by
 unfold Xih
 split
 ·
  rename_i h
  have := Yq0 (Xal a) []
  rw [Xap, List.length_nil] at this
  simp only [strOfNums_size]
  omega
 ·
  exact Nat.zero_le _
theorem Yjx (u : ByteArray) (h : (Xih u).2 = true) : Xal (Xih u).1 = Yjw [] (Xal u) ∧ 1 ≤ u.size ∧ u.size ≤ 60000 ∧ Xcd u ((u.size : Int) - 1) ≠ 0 := by
 unfold Xih at h ⊢
 split at h
 ·
  rename_i hc
  rw [if_pos hc]
  refine ⟨?_, hc⟩
  simp only []
  exact Yok _ (Yua _ _ (by simp) (Yfw u))
 ·
  simp at h
def unL : List Int → List Int → List Int
 | _, [] => []
 | x, c :: t => (if c = 3 ∧ 2 ≤ tz x then [] else [c]) ++ unL (x ++ [c]) t
theorem Xtw : ∀ (t x : List Int), (unL x t).length ≤ t.length
 | [], x => by simp [unL]
 | c :: t, x => by
  rw [unL, List.length_append, List.length_cons]
  have := Xtw t (x ++ [c])
  split <;> simp <;> omega
theorem Zbk (t : List Int) : ∀ x, ∃ e, Yjw x t = x ++ e ∧ unL x e = t := by
 induction t with
 | nil => intro x; exact ⟨[], by simp [Yk1], rfl⟩
 | cons b t ih =>
  intro x
  obtain ⟨e, h1, h2⟩ := ih (Xdy x b)
  rw [Xr7, h1]
  by_cases hc : b < 4 ∧ 2 ≤ tz x
  ·
   refine ⟨3 :: b :: e, ?_, ?_⟩
   ·
    simp [Xdy, if_pos hc]
   ·
    rw [unL, if_pos ⟨rfl, hc.2⟩, List.nil_append, unL, if_neg (fun h => by rw [Yqo x 3 (by decide)] at h; omega)]
    simp only [Xdy, if_pos hc] at h2
    rw [h2]; rfl
  ·
   refine ⟨b :: e, ?_, ?_⟩
   ·
    simp [Xdy, if_neg hc]
   ·
    rw [unL, if_neg (fun h => hc ⟨by omega, h.2⟩)]
    simp only [Xdy, if_neg hc] at h2
    rw [h2]; rfl
def unV (a : ByteArray) : ByteArray × Bool := if Xih (strOfNums (unL [] (Xal a))) = (a, true) then (strOfNums (unL [] (Xal a)), true) else ((⟨#[]⟩ : ByteArray), false)
theorem Zaa (u : ByteArray) (h : (Xih u).2 = true) : unV (Xih u).1 = (u, true) := by
 have hb := (Yjx u h).1
 obtain ⟨e, h1, h2⟩ := Zbk (Xal u) []
 rw [h1, List.nil_append] at hb
 unfold unV
 rw [hb, h2, Xkd, if_pos (by rw [← h])]
theorem Xna (a : List Int) (i : Nat) (h : i < a.length) : a.take (i + 1) = a.take i ++ [rd a i] := by
 rw [List.take_succ_eq_append_getElem h]; simp [rd, List.getD_eq_getElem?_getD, List.getElem?_eq_getElem h]
theorem Yqc (a : List Int) (i : Int) (j : Nat) (h : i.toNat < j) : rd (a.take j) i = rd a i := by
 simp [rd, List.getD_eq_getElem?_getD, List.getElem?_take, h]
theorem Yr9 (a : ByteArray) (i : Nat) (h : i < a.size) : unL ((Xal a).take i) ((Xal a).drop i) = (if Xcd a i = 3 ∧ 2 ≤ tz ((Xal a).take i) then [] else [Xcd a i]) ++ unL ((Xal a).take (i + 1)) ((Xal a).drop (i + 1)) := by
 rw [Yl0 _ _ (by rw [Xap]; exact h), unL, Xnj, Xna _ _ (by rw [Xap]; exact h), Xnj]
def Yu4 (x : List Int) : Prop := ∀ i : Nat, i + 2 < x.length → rd x i = 0 → rd x ((i : Int) + 1) = 0 → rd x ((i : Int) + 2) ≠ 1
theorem Xsm (x y : List Int) (i : Int) (h : i.toNat < x.length) : rd (x ++ y) i = rd x i := by
 simp [rd, List.getD_eq_getElem?_getD, List.getElem?_append_left h]
theorem Yfz (x y : List Int) (i : Int) (h : x.length ≤ i.toNat) : rd (x ++ y) i = rd y ((i.toNat - x.length : Nat) : Int) := by
 simp [rd, List.getD_eq_getElem?_getD, List.getElem?_append_right h]
theorem Yzo (x : List Int) (i : Int) (h : x.length ≤ i.toNat) : rd x i = 0 := by
 simp [rd, List.getD_eq_getElem?_getD, List.getElem?_eq_none h]
theorem Yfv (x : List Int) (c : Int) (h : Yu4 x) (hc : 2 ≤ tz x → c ≠ 1) : Yu4 (x ++ [c]) := by
 intro i hi h0 h1
 rw [List.length_append, List.length_singleton] at hi
 rw [Xsm _ _ _ (by omega)] at h0 h1
 by_cases he : i + 2 < x.length
 ·
  rw [Xsm _ _ _ (by omega)]; exact h i he h0 h1
 ·
  rw [Yfz _ _ _ (by omega), show ((i : Int) + 2).toNat - x.length = 0 by omega]
  refine hc ((Yv6 x).2 ⟨by omega, ?_, ?_⟩)
  ·
   rw [show (x.length : Int) - 1 = (i : Int) + 1 by omega]; exact h1
  ·
   rw [show (x.length : Int) - 2 = (i : Int) by omega]; exact h0
theorem Yu5 (t : List Int) : ∀ x, Yu4 x → Yu4 (Yjw x t) := by
 induction t with
 | nil => intro x h; exact h
 | cons b t ih =>
  intro x h
  rw [Xr7]
  refine ih _ ?_
  unfold Xdy
  split
  ·
   rename_i hc
   exact Yfv _ _ (Yfv _ _ h (fun _ => by decide)) (fun h2 => by rw [Yqo x 3 (by decide)] at h2; omega)
  ·
   rename_i hc
   exact Yfv _ _ h (fun h2 hb => hc ⟨by omega, h2⟩)
theorem Ywz (t : List Int) (x : List Int) (h : 1 ≤ t.length) : 1 ≤ (Yjw x t).length ∧ rd (Yjw x t) (((Yjw x t).length : Int) - 1) = rd t ((t.length : Int) - 1) := by
 rcases List.eq_nil_or_concat t with rfl | ⟨y, c, rfl⟩
 ·
  simp at h
 ·
  rw [List.concat_eq_append, Yjw, List.foldl_append]
  simp only [List.foldl_cons, List.foldl_nil]
  unfold Xdy
  generalize (if c < 4 ∧ 2 ≤ tz (List.foldl Xdy x y) then List.foldl Xdy x y ++ [3] else List.foldl Xdy x y) = z
  refine ⟨by simp, ?_⟩
  rw [Yfz _ _ _ (by simp), Yfz _ _ _ (by simp)]
  congr 1
  simp
theorem Yd3 (u : ByteArray) (h : (Xih u).2 = true) : 1 ≤ (Xih u).1.size ∧ Yu4 (Xal (Xih u).1) ∧ rd (Xal (Xih u).1) (((Xih u).1.size : Int) - 1) ≠ 0 := by
 obtain ⟨hb, h1, h2, h3⟩ := Yjx u h
 have hl := Xap (Xih u).1
 have hlu := Xap u
 rw [← hl, hb]
 obtain ⟨e1, e2⟩ := Ywz (Xal u) [] (by omega)
 refine ⟨e1, Yu5 _ _ (fun i hi => by simp at hi), ?_⟩
 rw [e2, hlu, Xnj]
 exact h3
def Yq3 : List ByteArray → List Int → ByteArray × Bool
 | [], x => (strOfNums x, true)
 | u :: us, x => if (Xih u).2 = true then (if x.length + 3 + (Xih u).1.size > 60000 then ((⟨#[]⟩ : ByteArray), false) else Yq3 us ((x ++ [0, 0, 1]) ++ Xal (Xih u).1)) else ((⟨#[]⟩ : ByteArray), false)
def Yw7 (l : List ByteArray) : ByteArray × Bool := if l.length > 400 then ((⟨#[]⟩ : ByteArray), false) else Yq3 l []
theorem Yq4 : ∀ (l : List ByteArray) (x : List Int), x.length ≤ 60000 → (Yq3 l x).1.size ≤ 60000
 | [], x, h => by simpa [Yq3, strOfNums_size] using h
 | u :: us, x, h => by
  rw [Yq3]
  split
  ·
   split
   ·
    simp [ByteArray.size]
   ·
    rename_i h2
    refine Yq4 us _ ?_
    rw [List.length_append, Xap, List.length_append]; simp; omega
  ·
   simp [ByteArray.size]
theorem Yug (l : List ByteArray) : (Yw7 l).1.size ≤ 60000 := by
 unfold Yw7
 split
 ·
  simp [ByteArray.size]
 ·
  exact Yq4 _ _ (by simp)
def frB : List ByteArray → List Int
 | [] => []
 | u :: us => [0, 0, 1] ++ (Xal (Xih u).1 ++ frB us)
theorem Yq5 : ∀ (l : List ByteArray) (x : List Int), (Yq3 l x).2 = true → (Yq3 l x).1 = strOfNums (x ++ frB l) ∧ ∀ u ∈ l, (Xih u).2 = true
 | [], x, _ => by simp [Yq3, frB]
 | u :: us, x, h => by
  rw [Yq3] at h ⊢
  split at h
  ·
   rename_i h1
   rw [if_pos h1]
   split at h
   ·
    simp at h
   ·
    rename_i h2
    rw [if_neg h2]
    obtain ⟨e1, e2⟩ := Yq5 us _ h
    refine ⟨by rw [e1, frB]; simp, ?_⟩
    intro v hv
    rcases List.mem_cons.1 hv with rfl | hv
    ·
     exact h1
    ·
     exact e2 v hv
  ·
   simp at h
theorem Yq1 : ∀ l : List ByteArray, ∀ c ∈ frB l, Ykv c
 | [] => by simp [frB]
 | u :: us => by
  intro c hc
  rw [frB, List.mem_append, List.mem_append] at hc
  rcases hc with hc | hc | hc
  ·
   simp at hc; unfold Ykv; omega
  ·
   exact Yfw _ c hc
  ·
   exact Yq1 us c hc
theorem Yuh (l : List ByteArray) (s : ByteArray) (h : Yw7 l = (s, true)) : Xal s = frB l ∧ (∀ u ∈ l, (Xih u).2 = true) ∧ l.length ≤ 400 ∧ s.size ≤ 60000 := by
 have hz := Yug l
 rw [h] at hz
 unfold Yw7 at h
 split at h
 ·
  simp at h
 ·
  obtain ⟨e1, e2⟩ := Yq5 l [] (by rw [h])
  rw [h] at e1
  simp only [List.nil_append] at e1
  exact ⟨by rw [e1]; exact Yok _ (Yq1 l), e2, by omega, hz⟩
def Xwz (L : List Int) : Prop := rd L 0 = 0 ∧ rd L 1 = 0 ∧ rd L 2 = 1
instance (L : List Int) : Decidable (Xwz L) := by unfold Xwz; infer_instance
def Xo0 (p : Int) : List Int → List Int
 | [] => []
 | c :: r => if Xwz (c :: r) then p :: Xo0 (p + 1) r else Xo0 (p + 1) r
theorem Xw0 (L : List Int) (h : Xwz L) : ∃ r, L = 0 :: 0 :: 1 :: r := by
 obtain ⟨h0, h1, h2⟩ := h
 match L, h0, h1, h2 with
 | [], _, _, h2 => simp [rd] at h2
 | [_], _, _, h2 => simp [rd] at h2
 | [_, _], _, _, h2 => simp [rd] at h2
 | a :: b :: c :: r, h0, h1, h2 => simp [rd] at h0 h1 h2; exact ⟨r, by rw [h0, h1, h2]⟩
theorem Zas (r : List Int) : Xwz (0 :: 0 :: 1 :: r) := by simp [Xwz, rd]
theorem Ys6 (p : Int) (L : List Int) (h : L.length ≤ 2) : Xo0 p L = [] := by
 match L, h with
 | [], _ => rfl
 | [_], _ => rw [Xo0, if_neg (by simp [Xwz, rd]), Xo0]
 | [_, _], _ => rw [Xo0, if_neg (by simp [Xwz, rd]), Xo0, if_neg (by simp [Xwz, rd]), Xo0]
 | _ :: _ :: _ :: _, h => simp at h
theorem Xmi (L : List Int) (i : Nat) (j : Int) (hj : 0 ≤ j) : rd (L.drop i) j = rd L ((i : Int) + j) := by
 simp [rd, List.getD_eq_getElem?_getD, show ((i : Int) + j).toNat = i + j.toNat by omega]
theorem Yud (u : ByteArray) (h : (Xih u).2 = true) (R : List Int) (i : Nat) (hi : i < (Xal (Xih u).1).length) : ¬ Xwz ((Xal (Xih u).1 ++ R).drop i) := by
 obtain ⟨h1, h2, h3⟩ := Yd3 u h
 have hl := Xap (Xih u).1
 intro hh
 unfold Xwz at hh
 rw [Xmi _ _ _ (by omega), Xmi _ _ _ (by omega), Xmi _ _ _ (by omega)] at hh
 obtain ⟨a0, a1, a2⟩ := hh
 rw [Xsm _ _ _ (by omega)] at a0
 rw [Int.add_zero] at a0
 by_cases e1 : i + 1 = (Xih u).1.size
 ·
  rw [show (i : Int) = ((Xih u).1.size : Int) - 1 by omega] at a0; exact h3 a0
 ·
  rw [Xsm _ _ _ (by omega)] at a1
  by_cases e2 : i + 2 = (Xih u).1.size
  ·
   rw [show (i : Int) + 1 = ((Xih u).1.size : Int) - 1 by omega] at a1; exact h3 a1
  ·
   rw [Xsm _ _ _ (by omega)] at a2
   exact h2 i (by omega) a0 a1 a2
theorem Zar (s : ByteArray) (i : Nat) (h : i + 3 ≤ s.size) : (s.extract i (i + 3)).toList = ([0, 0, 1] : List UInt8) ↔ Xwz ((Xal s).drop i) := by
 have hl := Xap s
 have e : (s.extract i (i + 3)).toList = ([0, 0, 1] : List UInt8) ↔ Xal (s.extract i (i + 3)) = [0, 0, 1] := by
  rw [ByteArray.toList_eq]
  constructor
  ·
   intro h; unfold Xal; rw [h]; rfl
  ·
   intro h
   have : s.extract i (i + 3) = strOfNums [0, 0, 1] := by rw [← Xkd (s.extract i (i + 3)), h]
   rw [this]; rfl
 rw [e, Xpq]
 have h3 : ((Xal s).take (i + 3)).drop i = [rd (Xal s) i, rd (Xal s) ((i + 1 : Nat) : Int), rd (Xal s) ((i + 2 : Nat) : Int)] := by
  rw [show i + 3 = i + 2 + 1 by rfl, Xna _ _ (by omega), Xna _ _ (by omega), Xna _ _ (by omega), List.append_assoc, List.append_assoc, List.drop_append_of_le_length (by rw [List.length_take]; omega), List.drop_eq_nil_of_le (by rw [List.length_take]; omega)]
  rfl
 rw [h3]
 unfold Xwz
 rw [Xmi _ _ _ (by omega), Xmi _ _ _ (by omega), Xmi _ _ _ (by omega), Int.add_zero, show ((i + 1 : Nat) : Int) = (i : Int) + 1 by omega, show ((i + 2 : Nat) : Int) = (i : Int) + 2 by omega]
 simp
theorem Yyc (a : ByteArray) (hs : a.size ≤ 60000) : (unV a).1.size ≤ 60000 := by
 unfold unV
 have := Xtw (Xal a) []
 rw [Xap] at this
 split
 ·
  rw [strOfNums_size]; omega
 ·
  simp [ByteArray.size]
theorem Yt4 (s : ByteArray) (u : ByteArray) (R : List Int) (p : Nat) (h : (Xal s).drop p = [0, 0, 1] ++ (Xal (Xih u).1 ++ R)) : s.extract (p + 3) (p + 3 + (Xih u).1.size) = (Xih u).1 ∧ (Xal s).drop (p + 3 + (Xih u).1.size) = R ∧ p + 3 + (Xih u).1.size + R.length = s.size := by
 have h3 : (Xal s).drop (p + 3) = Xal (Xih u).1 ++ R := by rw [← List.drop_drop, h]; rfl
 have hl := Xap (Xih u).1
 refine ⟨?_, ?_, ?_⟩
 ·
  apply Ysy
  rw [Xpq, List.drop_take, h3, show p + 3 + (Xih u).1.size - (p + 3) = (Xal (Xih u).1).length by omega, List.take_left']
  rfl
 ·
  rw [← List.drop_drop, h3, ← hl, List.drop_left']
  rfl
 ·
  have e := congrArg List.length h
  rw [List.length_drop, Xap] at e
  simp only [List.length_append, List.length_cons, List.length_nil, hl] at e
  omega
theorem Yt9 (a : ByteArray) (x : List Int) (i : Nat) (h : i < a.size) : Yjw x ((Xal a).drop i) = Yjw (Xdy x (Xcd a i)) ((Xal a).drop (i + 1)) := by
 rw [Yl0 _ i (by rw [Xap]; exact h), Xr7, Xnj]
theorem Yuc (a : ByteArray) (x : List Int) : Yjw x ((Xal a).drop a.size) = x := by
 rw [List.drop_eq_nil_of_le (by rw [Xap]; omega), Yk1]
theorem Yd2 (x : List Int) (b : Int) : (Xdy x b).length ≤ x.length + 2 := by unfold Xdy; split <;> simp
theorem Xyi (a : ByteArray) (h : a.size ≤ 60000) : Xop a = some (strOfNums (Yjw [] (Xal a))) := by
 have hm : maxLen = 9223372036854775807 := rfl
 unfold Xop
 have key : ∀ i : Nat, i ≤ a.size → ∀ x : List Int, x.length ≤ 2 * i → loop (Xg3 a) ((i : Int), x) = some (Yjw x ((Xal a).drop i)) := by
  refine Xc1 _ ?_ ?_
  ·
   intro x _
   rw [Yuc]
   exact Xbx (by unfold Xg3; rw [Xas (by simp)])
  ·
   intro i hi ih x hx
   rw [Yt9 a x i hi]
   have hl := Yd2 x (Xcd a i)
   refine lgo (y := (((i + 1 : Nat) : Int), Xdy x (Xcd a i))) ?_ (ih _ (by omega))
   have ht := Yv6 x
   have hc : (sel (decide ((x.length : Int) ≥ 2)) (
     req (0 ≤ (Xaa .i64 ((x.length : Int) - 1)) ∧ (Xaa .i64 ((x.length : Int) - 1)) < x.length) <|
     req ((Xaa .i64 ((x.length : Int) - 1)).toNat < x.length) <|
     sel ((x.getD ((Xaa .i64 ((x.length : Int) - 1)).toNat) 0) == 0) (
     req (0 ≤ (Xaa .i64 ((x.length : Int) - 2)) ∧ (Xaa .i64 ((x.length : Int) - 2)) < x.length) <|
     req ((Xaa .i64 ((x.length : Int) - 2)).toNat < x.length) <|
     sel ((x.getD ((Xaa .i64 ((x.length : Int) - 2)).toNat) 0) == 0) (
     req (0 ≤ (i : Int) ∧ (i : Int) < a.size) <|
     some (decide ((Xcd a i) < 4))) (
     some false)) (
     some false)) (
     some false)) = some (decide (Xcd a i < 4 ∧ 2 ≤ tz x)) := by
    rw [wkA (e := (x.length : Int) - 1), wkA (e := (x.length : Int) - 2)]
    by_cases h2 : (x.length : Int) ≥ 2
    ·
     rw [Xa9 h2, rqA, rqA, rqA, rqA, rqA, Yys, Yys]
     by_cases h3 : rd x ((x.length : Int) - 1) = 0
     ·
      rw [Xbb (by simpa using h3)]
      by_cases h4 : rd x ((x.length : Int) - 2) = 0
      ·
       rw [Xbb (by simpa using h4)]
       have : 2 ≤ tz x := ht.2 ⟨by omega, h3, h4⟩
       congr 1; rw [decide_eq_decide]; omega
      ·
       rw [Xaz (by simpa using h4), decide_eq_false (fun h => h4 (ht.1 h.2).2.2)]
     ·
      rw [Xaz (by simpa using h3), decide_eq_false (fun h => h3 (ht.1 h.2).2.1)]
    ·
     rw [Xas h2, decide_eq_false (fun h => by have := (ht.1 h.2).1; omega)]
   unfold Xg3
   simp only
   rw [syA, hc, Xab]
   unfold Xdy
   by_cases hp : Xcd a i < 4 ∧ 2 ≤ tz x
   ·
    rw [Xa9 hp, if_pos hp, Xav (by simp only [List.length_singleton]; omega), Xab, rqA, Xav (by simp only [List.length_append, List.length_singleton]; omega), wkA]
    rfl
   ·
    rw [Xas hp, if_neg hp, Xab, rqA, Xav (by simp only [List.length_singleton]; omega), wkA]
    rfl
 exact (Xc3 (key 0 (by omega) [] (by simp))).trans rfl
theorem Ygh (a : ByteArray) (hs : a.size ≤ 9223372036854775807) : Xsr a = some (Xih a) := by
 unfold Xsr Xih
 by_cases h : (a.size : Int) = 0
 ·
  rw [Xbb (by simpa using h), Xab, Xaq, if_neg (by omega)]
 ·
  rw [Xaz (by simpa using h)]
  by_cases h1 : (a.size : Int) > 60000
  ·
   rw [Xa9 h1, Xab, Xaq, if_neg (by omega)]
  ·
   rw [Xas h1, wkA, rqA, Xab, Xyi a (by omega), Xab]
   by_cases h2 : Xcd a ((a.size : Int) - 1) = 0
   ·
    rw [Xbb (by simpa using h2), if_neg (fun hh => hh.2.2 h2)]
   ·
    rw [Xaz (by simpa using h2), if_pos ⟨by omega, by omega, h2⟩]
theorem Xy6 (a : ByteArray) (h : a.size ≤ 60000) : loop (Xfj a) (0, 0, []) = some (Yjw [] (Xal a)) := by
 have hm : maxLen = 9223372036854775807 := rfl
 have key : ∀ i : Nat, i ≤ a.size → ∀ x : List Int, x.length ≤ 2 * i → loop (Xfj a) ((tz x : Int), (i : Int), x) = some (Yjw x ((Xal a).drop i)) := by
  refine Xc1 _ ?_ ?_
  ·
   intro x _
   rw [Yuc]
   exact Xbx (by unfold Xfj; rw [Xas (by simp)])
  ·
   intro i hi ih x hx
   rw [Yt9 a x i hi]
   have hl := Yd2 x (Xcd a i)
   refine lgo (y := ((tz (Xdy x (Xcd a i)) : Int), ((i + 1 : Nat) : Int), Xdy x (Xcd a i))) ?_ (ih _ (by omega))
   have hz := Yz9 x
   have hc : (req (0 ≤ (i : Int) ∧ (i : Int) < a.size) <| sel (decide ((Xcd a i) < 4)) (some (decide ((tz x : Int) ≥ 2))) (some false)) = some (decide (Xcd a i < 4 ∧ 2 ≤ tz x)) := by
    rw [rqA, Xcm]
    congr 1
    rw [Bool.eq_iff_iff]
    simp only [Bool.and_eq_true, decide_eq_true_eq]
    omega
   have Ycc : ∀ (y : List Int) (z : Int), z = (tz y : Int) → z ≤ 200000 → sel (Xcd a i == 0) (some (Xaa .i64 (z + 1), y ++ [Xcd a i])) (some (0, y ++ [Xcd a i])) = some ((tz (y ++ [Xcd a i]) : Int), y ++ [Xcd a i]) := by
    intro y z hz hz2
    by_cases h0 : Xcd a i = 0
    ·
     rw [Xbb (by simpa using h0), h0, Yhd, hz, wkA]; rfl
    ·
     rw [Xaz (by simpa using h0), Yqo _ _ h0]; rfl
   unfold Xfj
   simp only
   rw [syA, hc, Xab]
   unfold Xdy
   by_cases hp : Xcd a i < 4 ∧ 2 ≤ tz x
   ·
    rw [Xa9 hp, if_pos hp, Xav (by simp only [List.length_singleton]; omega), Xab, rqA, Xav (by simp only [List.length_append, List.length_singleton]; omega), rqA]
    simp only
    rw [Ycc (x ++ [3]) 0 (by rw [Yqo _ _ (by decide)]; rfl) (by omega), Xab, wkA (e := (i : Int) + 1)]
    rfl
   ·
    rw [Xas hp, if_neg hp, Xab, rqA, Xav (by simp only [List.length_singleton]; omega), rqA]
    simp only
    rw [Ycc x _ rfl (by omega), Xab, wkA (e := (i : Int) + 1)]
    rfl
 exact key 0 (by omega) [] (by simp)
theorem Xsa (a : ByteArray) (hs : a.size ≤ 9223372036854775807) : Xjs a = some (Xih a) := by
 unfold Xjs Xih
 rw [Yvs]
 by_cases h : a.size = 0
 ·
  rw [Xa9 h, Xab, Xaq, if_neg (by omega)]
 ·
  rw [Xas h]
  by_cases h1 : (a.size : Int) > 60000
  ·
   rw [Xa9 h1, Xab, Xaq, if_neg (by omega)]
  ·
   rw [Xas h1, wkA (e := (a.size : Int) - 1), rqA, Xab]
   by_cases h2 : Xcd a ((a.size : Int) - 1) = 0
   ·
    rw [Xbb (by simpa using h2), if_neg (fun hh => hh.2.2 h2)]
   ·
    rw [Xaz (by simpa using h2), if_pos ⟨by omega, by omega, h2⟩, rqA, Xbp (by omega), wkA (e := (a.size : Int) / 2), wkA (e := (a.size : Int) + (a.size : Int) / 2), rqA]
    exact (Xc3 (Xy6 a (by omega))).trans rfl
theorem Yw0 (l : List ByteArray) (i : Nat) (h : i < l.length) : l.getD i Xgr = l[i] := Xb2 l i h _
theorem Yhw (l : List ByteArray) (hs : ∀ u ∈ l, u.size ≤ 9223372036854775807) : Xlk l = some (Yw7 l) := by
 have hm : maxLen = 9223372036854775807 := rfl
 unfold Xlk Yw7
 by_cases h : (l.length : Int) > 400
 ·
  rw [Xa9 h, if_pos (by omega)]
 ·
  rw [Xas h, if_neg (by omega)]
  have key : ∀ i : Nat, i ≤ l.length → ∀ x : List Int, x.length ≤ 60000 → ∃ o, loop (Xgt l) ((i : Int), x) = some o ∧ (match o with | .out v => some ((strOfNums v), true) | .ret r => some r) = some (Yq3 (l.drop i) x) := by
   refine Xc1 _ ?_ ?_
   ·
    intro x _
    rw [List.drop_eq_nil_of_le (Nat.le_refl _), Yq3]
    exact ⟨_, Xbx (by unfold Xgt; rw [Xas (by simp)]), rfl⟩
   ·
    intro i hi ih x hx
    have hz := Yub l[i]
    have hn := Xap (Xih l[i]).1
    rw [List.drop_eq_getElem_cons hi, Yq3]
    have st : Xgt l ((i : Int), x) = if (Xih l[i]).2 = true then (if x.length + 3 + (Xih l[i]).1.size > 60000 then some (.done (.ret ((⟨#[]⟩ : ByteArray), false))) else some (.go (((i + 1 : Nat) : Int), (x ++ [0, 0, 1]) ++ Xal (Xih l[i]).1))) else some (.done (.ret ((⟨#[]⟩ : ByteArray), false))) := by
     unfold Xgt
     simp only [Int.toNat_natCast]
     rw [syA, rqA, Yw0 l i hi, Xsa _ (hs _ (List.getElem_mem hi)), Xab]
     cases h1 : (Xih l[i]).2 with
     | false => rw [if_neg (by simp)]; rfl
     | true =>
      rw [if_pos rfl, Xaq, Xab, wkA (e := (x.length : Int) + 3), wkA (e := (x.length : Int) + 3 + _)]
      by_cases h2 : x.length + 3 + (Xih l[i]).1.size > 60000
      ·
       rw [if_pos h2, syA]
      ·
       rw [if_neg h2, snA, Xav (by simp only [List.length_cons, List.length_nil]; omega), Xav (by simp only [List.length_append, List.length_cons, List.length_nil]; omega), wkA]
       rfl
    by_cases h1 : (Xih l[i]).2 = true
    ·
     rw [if_pos h1] at st ⊢
     by_cases h2 : x.length + 3 + (Xih l[i]).1.size > 60000
     ·
      rw [if_pos h2] at st ⊢
      exact ⟨_, Xbx st, rfl⟩
     ·
      rw [if_neg h2] at st ⊢
      obtain ⟨o, ho, ho2⟩ := ih ((x ++ [0, 0, 1]) ++ Xal (Xih l[i]).1) (by rw [List.length_append, List.length_append, hn, List.length_cons, List.length_cons, List.length_cons, List.length_nil]; omega)
      exact ⟨o, lgo st ho, ho2⟩
    ·
     rw [if_neg h1] at st ⊢
     exact ⟨_, Xbx st, rfl⟩
  obtain ⟨o, ho, ho2⟩ := key 0 (by omega) [] (by simp)
  refine (Xc3 ho).trans ?_
  cases o <;> exact ho2
theorem Yyv (a : ByteArray) : (bnd (sel (Xih (strOfNums (unL [] (Xal a)))).2 (some (!((Xih (strOfNums (unL [] (Xal a)))).1.toList == a.toList))) (some true)) fun v13 => sel v13 (some ((⟨#[]⟩ : ByteArray), false)) (some ((strOfNums (unL [] (Xal a))), true))) = some (unV a) := by
 unfold unV
 by_cases h1 : (Xih (strOfNums (unL [] (Xal a)))).2 = true
 ·
  rw [h1, Xaq, Xab, Ygb]
  by_cases h2 : (Xih (strOfNums (unL [] (Xal a)))).1 = a
  ·
   rw [if_pos (Prod.ext h2 h1), h2, Xbb (by simp)]
  ·
   rw [if_neg (fun h => h2 (by rw [h])), Xaz (by rw [beq_eq_false_iff_ne]; exact fun h => h2 (Xtv.1 h))]
 ·
  rw [Xaz (by simpa using h1), Xab, Xaq, if_neg (fun h => h1 (by rw [h]))]
theorem Xz5 (a : ByteArray) (hs : a.size ≤ 60000) : Xmn a = some (unV a) := by
 have hm : maxLen = 9223372036854775807 := rfl
 unfold Xmn
 rw [snA]
 have hl := Xap a
 have key : ∀ i : Nat, i ≤ a.size → ∀ o : List Int, o.length ≤ i → loop (Xfs a) ((i : Int), o) = some (o ++ unL ((Xal a).take i) ((Xal a).drop i)) := by
  refine Xc1 _ ?_ ?_
  ·
   intro o ho
   rw [List.drop_eq_nil_of_le (by omega), unL, List.append_nil]
   exact Xbx (by unfold Xfs; rw [Xas (by simp)])
  ·
   intro i hi ih o ho
   rw [Yr9 a i hi]
   have ht := Yv6 ((Xal a).take i)
   have htl : ((Xal a).take i).length = i := by rw [List.length_take]; omega
   rw [htl] at ht
   have hc : (sel (decide ((i : Int) ≥ 2)) (
     req (0 ≤ (i : Int) ∧ (i : Int) < a.size) <|
     sel ((Xcd a i) == 3) (
     req (0 ≤ (Xaa .i64 ((i : Int) - 1)) ∧ (Xaa .i64 ((i : Int) - 1)) < a.size) <|
     sel ((Xcd a (Xaa .i64 ((i : Int) - 1))) == 0) (
     req (0 ≤ (Xaa .i64 ((i : Int) - 2)) ∧ (Xaa .i64 ((i : Int) - 2)) < a.size) <|
     some ((Xcd a (Xaa .i64 ((i : Int) - 2))) == 0)) (
     some false)) (
     some false)) (
     some false)) = some (decide (Xcd a i = 3 ∧ 2 ≤ tz ((Xal a).take i))) := by
    rw [wkA (e := (i : Int) - 1), wkA (e := (i : Int) - 2)]
    by_cases h2 : (i : Int) ≥ 2
    ·
     rw [Yqc _ _ _ (by omega), Yqc _ _ _ (by omega), Xnj, Xnj] at ht
     rw [Xa9 h2, rqA, rqA, rqA]
     by_cases h3 : Xcd a i = 3
     ·
      rw [Xbb (by simpa using h3)]
      by_cases h4 : Xcd a ((i : Int) - 1) = 0
      ·
       rw [Xbb (by simpa using h4), Ydw]
       congr 1; rw [decide_eq_decide]
       exact ⟨fun h5 => ⟨h3, ht.2 ⟨by omega, h4, h5⟩⟩, fun h => (ht.1 h.2).2.2⟩
      ·
       rw [Xaz (by simpa using h4), decide_eq_false (fun h => h4 (ht.1 h.2).2.1)]
     ·
      rw [Xaz (by simpa using h3), decide_eq_false (fun h => h3 h.1)]
    ·
     rw [Xas h2, decide_eq_false (fun h => by have := (ht.1 h.2).1; omega)]
   by_cases hp : Xcd a i = 3 ∧ 2 ≤ tz ((Xal a).take i)
   ·
    rw [if_pos hp, List.nil_append]
    refine lgo (y := (((i + 1 : Nat) : Int), o)) ?_ (ih o (by omega))
    unfold Xfs
    simp only
    rw [syA, hc, Xab, Xa9 hp, Xab, wkA]
    rfl
   ·
    rw [if_neg hp, ← List.append_assoc]
    refine lgo (y := (((i + 1 : Nat) : Int), o ++ [Xcd a i])) ?_ (ih _ (by simp; omega))
    unfold Xfs
    simp only
    rw [syA, hc, Xab, Xas hp, rqA, Xav (by simp only [List.length_singleton]; omega), Xab, wkA]
    rfl
 refine (Xc3 (key 0 (by omega) [] (by simp))).trans ?_
 rw [List.take_zero, List.drop_zero, List.nil_append]
 have hb := Xtw (Xal a) []
 rw [Ygh _ (by rw [strOfNums_size]; omega), Xab]
 exact Yyv a
theorem Xzk (a : ByteArray) (hs : a.size ≤ 60000) : Xis a = some (unV a) := by
 have hm : maxLen = 9223372036854775807 := rfl
 unfold Xis
 rw [rqA]
 have hl := Xap a
 have key : ∀ i : Nat, i ≤ a.size → ∀ o : List Int, o.length ≤ i → loop (Xd8 a) ((tz ((Xal a).take i) : Int), (i : Int), o) = some (o ++ unL ((Xal a).take i) ((Xal a).drop i)) := by
  refine Xc1 _ ?_ ?_
  ·
   intro o ho
   rw [List.drop_eq_nil_of_le (by omega), unL, List.append_nil]
   exact Xbx (by unfold Xd8; rw [Xas (by simp)])
  ·
   intro i hi ih o ho
   rw [Yr9 a i hi]
   have htl : ((Xal a).take i).length = i := by rw [List.length_take]; omega
   have hz := Yz9 ((Xal a).take i)
   have hz1 : tz ((Xal a).take (i + 1)) = if Xcd a i = 0 then tz ((Xal a).take i) + 1 else 0 := by
    rw [Xna _ _ (by omega), Xnj]
    split
    ·
     rename_i h0; rw [h0, Yhd]
    ·
     rename_i h0; rw [Yqo _ _ h0]
   have hc : (sel (decide ((tz ((Xal a).take i) : Int) ≥ 2)) (
     req (0 ≤ (i : Int) ∧ (i : Int) < a.size) <|
     some ((Xcd a i) == 3)) (
     some false)) = some (decide (Xcd a i = 3 ∧ 2 ≤ tz ((Xal a).take i))) := by
    rw [rqA, Xcm]
    congr 1
    rw [Bool.eq_iff_iff]
    simp only [Bool.and_eq_true, decide_eq_true_eq, beq_iff_eq]
    omega
   by_cases hp : Xcd a i = 3 ∧ 2 ≤ tz ((Xal a).take i)
   ·
    rw [if_pos hp, List.nil_append]
    refine lgo (y := ((tz ((Xal a).take (i + 1)) : Int), ((i + 1 : Nat) : Int), o)) ?_ (ih o (by omega))
    rw [hz1, if_neg (by omega)]
    unfold Xd8 Yn7
    simp only
    rw [syA, hc, Xab, Xa9 hp, Xab, wkA]
    rfl
   ·
    rw [if_neg hp, ← List.append_assoc]
    refine lgo (y := ((tz ((Xal a).take (i + 1)) : Int), ((i + 1 : Nat) : Int), o ++ [Xcd a i])) ?_ (ih _ (by simp; omega))
    rw [hz1]
    unfold Xd8 Yn7
    simp only
    rw [syA, hc, Xab, Xas hp, rqA]
    by_cases h0 : Xcd a i = 0
    ·
     rw [Xbb (by simpa using h0), if_pos h0, rqA, Xav (by simp only [List.length_singleton]; omega), Xab, wkA (e := (i : Int) + 1), wkA]
     rfl
    ·
     rw [Xaz (by simpa using h0), if_neg h0, rqA, Xav (by simp only [List.length_singleton]; omega), Xab, wkA (e := (i : Int) + 1)]
     rfl
 refine (Xc3 (key 0 (by omega) [] (by simp))).trans ?_
 rw [List.take_zero, List.drop_zero, List.nil_append]
 have hb := Xtw (Xal a) []
 rw [Xsa _ (by rw [strOfNums_size]; omega), Xab]
 exact Yyv a
theorem Yig (s : ByteArray) (hs : s.size ≤ 60000) : Xod s = some (Xo0 0 (Xal s)) := by
 have hm : maxLen = 9223372036854775807 := rfl
 unfold Xod
 have hl := Xap s
 have key : ∀ i : Nat, i ≤ s.size → ∀ x : List Int, x.length ≤ i → loop (Xe8 s) ((i : Int), x) = some (x ++ Xo0 i ((Xal s).drop i)) := by
  refine Xc1 _ ?_ ?_
  ·
   intro x _
   rw [List.drop_eq_nil_of_le (by omega), Xo0, List.append_nil]
   exact Xbx (by unfold Xe8; simp only; rw [wkA, snA])
  ·
   intro i hi ih x hx
   by_cases h3 : i + 3 ≤ s.size
   ·
    have e3 : Xaa .i64 ((i : Int) + 3) = ((i + 3 : Nat) : Int) := by rw [wkA]; omega
    have hh := Zar s i h3
    have st : ∀ b : Bool, ((s.extract i (i + 3)).toList == (⟨#[0, 0, 1]⟩ : ByteArray).toList) = b → Xe8 s ((i : Int), x) = some (.go (((i + 1 : Nat) : Int), if b = true then x ++ [(i : Int)] else x)) := by
     intro b hb
     unfold Xe8
     simp only
     rw [e3, syA, rqA, Int.toNat_natCast, Int.toNat_natCast, hb, wkA]
     cases b with
     | true => rw [Xaq, Xav (by simp only [List.length_singleton]; omega), Xab]; rfl
     | false => rw [Xam, Xab]; rfl
    rw [Yl0 _ _ (by omega)] at hh ⊢
    rw [Xo0]
    by_cases h : (s.extract i (i + 3)).toList = ([0, 0, 1] : List UInt8)
    ·
     rw [if_pos (hh.1 h)]
     have := ih (x ++ [(i : Int)]) (by simp; omega)
     rw [List.append_assoc] at this
     exact lgo (st true (by rw [h, ByteArray.toList_eq]; rfl)) this
    ·
     rw [if_neg (fun h' => h (hh.2 h'))]
     exact lgo (st false (by rw [beq_eq_false_iff_ne, ByteArray.toList_eq (⟨#[0, 0, 1]⟩ : ByteArray)]; exact h)) (ih x (by omega))
   ·
    rw [Ys6 _ _ (by rw [List.length_drop]; omega), List.append_nil]
    exact Xbx (by unfold Xe8; simp only; rw [wkA, snA])
 exact (Xc3 (key 0 (by omega) [] (by simp))).trans rfl
noncomputable def Xr3 (s : ByteArray) (v17 : Int × Int × List ByteArray) : Option (List ByteArray) :=
 bnd (
 bnd (
 sel (decide (v17.1 ≥ 0)) (
 some (decide (v17.1 ≤ v17.2.1))) (
 some false)) fun v39 =>
 sel v39 (
 bnd (loop (Xcc s v17) v17.2.1) fun v45 =>
 req (0 ≤ v17.1 ∧ v17.1 ≤ v45 ∧ v45 ≤ (s.size : Int)) <|
 bnd (Xmn (s.extract v17.1.toNat v45.toNat)) fun q48 =>
 bnd (
 sel q48.2 (
 some (decide ((v17.2.2.length : Int) < 400))) (
 some false)) fun v49 =>
 sel v49 (
 req ((v17.2.2.length + ([q48.1]).length) * 16 ≤ 140737488355328 ∧ v17.2.2.length + ([q48.1]).length ≤ maxLen) <|
 some (v17.2.2 ++ ([q48.1]))) (
 some v17.2.2)) (
 some v17.2.2)) fun v38 => some v38
theorem Yy5 (z : Option (List ByteArray)) (c j : Int) : (bnd (bnd z fun v => some (c, v)) fun w => some (Lp.go (w.1, j, w.2)) : Option (Lp (Int × Int × List ByteArray) (List ByteArray))) = bnd (bnd z fun v => some v) fun y => some (Lp.go (c, j, y)) := by cases z <;> rfl
theorem Xma (s : ByteArray) (hs : s.size ≤ 60000) (b : Int) (i : Nat) (x : List ByteArray) (hi : i ≤ s.size) :
  Xb4 s (b, (i : Int), x) = if Xwz ((Xal s).drop i) ∨ i = s.size then bnd (Xr3 s (b, (i : Int), x)) (fun y => some (.go ((i : Int) + 3, ((i + 1 : Nat) : Int), y))) else some (.go (b, ((i + 1 : Nat) : Int), x)) := by
 have hl := Xap s
 have hh : Xwz ((Xal s).drop i) ↔ Xcd s i = 0 ∧ Xcd s ((i : Int) + 1) = 0 ∧ Xcd s ((i : Int) + 2) = 1 := by
  unfold Xwz
  rw [Xmi _ _ _ (by omega), Xmi _ _ _ (by omega), Xmi _ _ _ (by omega), Int.add_zero, Xnj, Xnj, Xnj]
 have hc : (sel (decide ((Xaa .i64 ((i : Int) + 2)) < (s.size : Int))) (
   req (0 ≤ (i : Int) ∧ (i : Int) < s.size) <|
   sel ((Xcd s i) == 0) (
   req (0 ≤ (Xaa .i64 ((i : Int) + 1)) ∧ (Xaa .i64 ((i : Int) + 1)) < s.size) <|
   sel ((Xcd s (Xaa .i64 ((i : Int) + 1))) == 0) (
   req (0 ≤ (Xaa .i64 ((i : Int) + 2)) ∧ (Xaa .i64 ((i : Int) + 2)) < s.size) <|
   some ((Xcd s (Xaa .i64 ((i : Int) + 2))) == 1)) (
   some false)) (
   some false)) (
   some false)) = some (decide (Xwz ((Xal s).drop i))) := by
  rw [wkA (e := (i : Int) + 1), wkA (e := (i : Int) + 2)]
  by_cases h1 : (i : Int) + 2 < s.size
  ·
   rw [Xa9 h1, rqA, rqA, rqA, Xcm, Xcm]
   congr 1
   rw [Bool.eq_iff_iff]
   simp only [Bool.and_eq_true, decide_eq_true_eq, beq_iff_eq]
   exact hh.symm
  ·
   rw [Xas h1, decide_eq_false (fun h => ?_)]
   have := (hh.1 h).2.2
   rw [← Xnj, Yzo _ _ (by omega)] at this
   omega
 unfold Xb4
 simp only
 rw [syA, hc, Xab, wkA (e := (i : Int) + 1), wkA (e := (i : Int) + 3)]
 have hv : sel (decide (Xwz ((Xal s).drop i))) (some false) (some (decide ((i : Int) < (s.size : Int)))) = some (!decide (Xwz ((Xal s).drop i) ∨ i = s.size)) := by
  rw [Yxo]
  refine congrArg some ?_
  rw [Bool.eq_iff_iff]
  simp only [Bool.and_eq_true, Bool.not_eq_true', decide_eq_true_eq, decide_eq_false_iff_not]
  constructor
  ·
   intro ⟨g1, g2⟩ g
   rcases g with g | g
   ·
    exact g1 g
   ·
    omega
  ·
   intro g
   refine ⟨fun g1 => g (Or.inl g1), ?_⟩
   have : ¬ i = s.size := fun g1 => g (Or.inr g1)
   omega
 rw [hv, Xab, Ygb, Yin]
 by_cases hp : Xwz ((Xal s).drop i) ∨ i = s.size
 ·
  rw [if_pos hp, if_pos hp]
  have e1 : ((i + 1 : Nat) : Int) = (i : Int) + 1 := by omega
  rw [e1]
  unfold Xr3
  simp only
  exact Yy5 _ _ _
 ·
  rw [if_neg hp, if_neg hp, Xab]
  rfl
theorem Xtx (s : ByteArray) (b : Int) (x : List ByteArray) : Xb4 s (b, ((s.size + 1 : Nat) : Int), x) = some (.done x) := by
 unfold Xb4
 rw [Xas (by simp only; omega)]
theorem Yp1 (s : ByteArray) (b i : Int) (x : List ByteArray) (h0 : 0 ≤ b) : ∀ e : Int, b ≤ e → e ≤ s.size → (s.size : Int) ≤ 60000 → ∃ e', loop (Xcc s (b, i, x)) e = some e' ∧ b ≤ e' ∧ e' ≤ e := by
 intro e h1 h2 h3
 refine Xth (f := Xcc s (b, i, x)) (fun v => b ≤ v ∧ v ≤ s.size) (fun v => (v - b).toNat) (fun v o => b ≤ o ∧ o ≤ v) ?_ e ⟨h1, h2⟩
 intro v ⟨g1, g2⟩
 unfold Xcc
 simp only
 by_cases hv : v > b
 ·
  rw [Xa9 hv, wkA (e := v - 1), rqA, Xab]
  cases (Xcd s (v - 1) == 0) with
  | true => exact .inr ⟨_, rfl, by omega, by omega, fun o ho => by omega⟩
  | false => exact .inl ⟨_, rfl, by omega⟩
 ·
  rw [Xas hv, Xab, Xam]
  exact .inl ⟨_, rfl, by omega⟩
theorem Xr4 (s : ByteArray) (b i : Int) (x : List ByteArray) (h : ¬ (0 ≤ b ∧ b ≤ i)) : Xr3 s (b, i, x) = some x := by
 unfold Xr3
 simp only
 rw [Xcm, Xab, Xaz (by rw [Bool.eq_false_iff]; simp only [ne_eq, Bool.and_eq_true, decide_eq_true_eq]; omega), Xab]
theorem Xwr (s : ByteArray) (hs : s.size ≤ 60000) (b i e : Int) (x : List ByteArray) (hx : x.length ≤ 400) (h0 : 0 ≤ b) (h1 : b ≤ i) (he : loop (Xcc s (b, i, x)) i = some e) (h2 : b ≤ e) (h3 : e ≤ s.size) :
  Xr3 s (b, i, x) = some (if (unV (s.extract b.toNat e.toNat)).2 = true ∧ x.length < 400 then x ++ [(unV (s.extract b.toNat e.toNat)).1] else x) := by
 have hm : maxLen = 9223372036854775807 := rfl
 unfold Xr3
 simp only
 rw [Xcm, Xab, Xbb (by simp only [Bool.and_eq_true, decide_eq_true_eq]; omega), he, Xab, rqA, Xz5 _ (by rw [ByteArray.size_extract]; omega), Xab, Xcm, Xab]
 by_cases hp : (unV (s.extract b.toNat e.toNat)).2 = true ∧ x.length < 400
 ·
  rw [if_pos hp, Xbb (by rw [Bool.and_eq_true, decide_eq_true_eq]; exact ⟨hp.1, by omega⟩), Xav (by simp only [List.length_singleton]; omega), Xab]
 ·
  rw [if_neg hp, Xaz (by rw [Bool.eq_false_iff]; simp only [ne_eq, Bool.and_eq_true, decide_eq_true_eq]; exact fun h => hp ⟨h.1, by omega⟩), Xab]
theorem Ysl (s : ByteArray) (hs : s.size ≤ 60000) (b : Int) (i : Nat) (x : List ByteArray) (hi : i ≤ s.size) (hx : x.length ≤ 400) (hxs : ∀ u ∈ x, u.size ≤ 60000) : ∃ y, Xr3 s (b, (i : Int), x) = some y ∧ y.length ≤ 400 ∧ ∀ u ∈ y, u.size ≤ 60000 := by
 by_cases hb : 0 ≤ b ∧ b ≤ (i : Int)
 ·
  obtain ⟨e, he, h1, h2⟩ := Yp1 s b i x hb.1 i hb.2 (by omega) (by omega)
  refine ⟨_, Xwr s hs b i e x hx hb.1 hb.2 he h1 (by omega), ?_, ?_⟩
  ·
   split
   ·
    simp; omega
   ·
    exact hx
  ·
   intro u hu
   split at hu
   ·
    rw [List.mem_append] at hu
    rcases hu with hu | hu
    ·
     exact hxs u hu
    ·
     rw [List.mem_singleton] at hu; rw [hu]; exact Yyc _ (by rw [ByteArray.size_extract]; omega)
   ·
    exact hxs u hu
 ·
  exact ⟨x, Xr4 s b i x hb, hx, hxs⟩
theorem Ysm (s : ByteArray) (hs : s.size ≤ 60000) (x : List ByteArray) (hx : x.length < 400) (u : ByteArray) (hu : (Xih u).2 = true) (b i : Nat) (hb : b + (Xih u).1.size = i) (hi : i ≤ s.size) (hc : s.extract b i = (Xih u).1) : Xr3 s ((b : Int), (i : Int), x) = some (x ++ [u]) := by
 obtain ⟨h1, _, h3⟩ := Yd3 u hu
 have hl : Xcd s ((i : Int) - 1) ≠ 0 := by
  rw [← hc, Xpq, hc, Xmi _ _ _ (by omega), Yqc _ _ _ (by omega), Xnj] at h3
  rwa [show (b : Int) + (((Xih u).1.size : Int) - 1) = (i : Int) - 1 by omega] at h3
 have he : loop (Xcc s ((b : Int), (i : Int), x)) (i : Int) = some (i : Int) := by
  refine Xbx ?_
  unfold Xcc
  simp only
  rw [syA, wkA (e := (i : Int) - 1), rqA, Xab, Xaz (by simpa using hl)]
 rw [Xwr s hs b i i x (by omega) (by omega) (by omega) he (by omega) (by omega), Int.toNat_natCast, Int.toNat_natCast, hc, Zaa u hu, if_pos ⟨rfl, hx⟩]
theorem Ypb (s : ByteArray) (hs : s.size ≤ 60000) (x : List ByteArray) (b : Int) (r : List ByteArray) (j : Nat) (hj : j ≤ s.size) (h : loop (Xb4 s) (b, (j : Int), x) = some r) : ∀ n i, i + n = j → (∀ m, i ≤ m → m < j → ¬ Xwz ((Xal s).drop m)) → loop (Xb4 s) (b, (i : Int), x) = some r
 | 0, i, e, _ => by rw [show i = j by omega]; exact h
 | n + 1, i, e, hn => by
  have st := Xma s hs b i x (by omega)
  rw [if_neg (fun h => by rcases h with h | h; exact hn i (Nat.le_refl _) (by omega) h; omega)] at st
  exact lgo st (Ypb s hs x b r j hj h n (i + 1) (by omega) (fun m h1 h2 => hn m (by omega) h2))
theorem Zab (s : ByteArray) (hs : s.size ≤ 60000) (l : List ByteArray) (hl4 : l.length ≤ 400) :
  ∀ (us : List ByteArray) (p : Nat) (x y : List ByteArray) (b : Int), p ≤ s.size → (∀ u ∈ us, (Xih u).2 = true) → (Xal s).drop p = frB us → y ++ us = l → Xr3 s (b, (p : Int), x) = some y → loop (Xb4 s) (b, (p : Int), x) = some l := by
 intro us
 induction us with
 | nil =>
  intro p x y b hp _ hb hy hc
  rw [List.append_nil] at hy
  have e := congrArg List.length hb
  rw [List.length_drop, Xap] at e
  simp [frB] at e
  have hps : p = s.size := by omega
  have st := Xma s hs b p x hp
  rw [if_pos (Or.inr hps), hc, Xab] at st
  refine lgo st ?_
  rw [hps, hy]
  exact Xbx (Xtx s _ l)
 | cons u us ih =>
  intro p x y b hp hu hb hy hc
  have hu0 := hu u (List.mem_cons_self)
  rw [frB] at hb
  obtain ⟨c1, c2, c3⟩ := Yt4 s u _ p hb
  have hE := (Yd3 u hu0).1
  have hyl : y.length < 400 := by rw [← hy, List.length_append, List.length_cons] at hl4; omega
  have st := Xma s hs b p x hp
  rw [if_pos (Or.inl (by rw [hb]; exact Zas _)), hc, Xab] at st
  refine lgo st ?_
  refine Ypb s hs y _ l (p + 3 + (Xih u).1.size) (by omega) ?_ (2 + (Xih u).1.size) (p + 1) (by omega) ?_
  ·
   refine ih (p + 3 + (Xih u).1.size) y (y ++ [u]) _ (by omega) (fun v hv => hu v (List.mem_cons_of_mem _ hv)) c2 (by rw [← hy]; simp) ?_
   have := Ysm s hs y hyl u hu0 (p + 3) (p + 3 + (Xih u).1.size) rfl (by omega) c1
   exact this
  ·
   intro m h1 h2 hh
   by_cases h3 : p + 3 ≤ m
   ·
    have := Yud u hu0 (frB us) (m - (p + 3)) (by rw [Xap]; omega)
    refine this ?_
    have e : (Xal s).drop (p + 3) = Xal (Xih u).1 ++ frB us := by rw [← List.drop_drop, hb]; rfl
    rw [← e, List.drop_drop, show p + 3 + (m - (p + 3)) = m by omega]
    exact hh
   ·
    have e : (Xal s).drop m = ([0, 0, 1] ++ (Xal (Xih u).1 ++ frB us)).drop (m - p) := by rw [← hb, List.drop_drop, show p + (m - p) = m by omega]
    rw [e] at hh
    rcases (show m - p = 1 ∨ m - p = 2 by omega) with h4 | h4
    ·
     rw [h4] at hh; simp [Xwz, rd] at hh
    ·
     rw [h4] at hh; simp [Xwz, rd] at hh
def inB (B : Int) (l : List Int) : Prop := ∀ x ∈ l, -B ≤ x ∧ x ≤ B
theorem Ylm {B C : Int} {l : List Int} (h : inB B l) (hc : B ≤ C) : inB C l := fun x hx => by have := h x hx; omega
theorem Xzr {B : Int} {a b : List Int} (ha : inB B a) (hb : inB B b) : inB B (a ++ b) := fun x hx => (List.mem_append.1 hx).elim (ha x) (hb x)
theorem Ypx (B : Int) : inB B [] := fun x hx => by simp at hx
theorem Yuo {B x : Int} (h : -B ≤ x ∧ x ≤ B) : inB B [x] := fun y hy => by rw [List.mem_singleton.1 hy]; exact h
theorem Ypz {B : Int} {l : List Int} (h : inB B l) (i : Nat) {y : Int} (hy : -B ≤ y ∧ y ≤ B) : inB B (l.set i y) := fun x hx => by
 rcases List.mem_or_eq_of_mem_set hx with hx | hx
 ·
  exact h x hx
 ·
  rw [hx]; exact hy
theorem Ypy (n : Nat) {B : Int} (h : 0 ≤ B) : inB B (List.replicate n 0) := fun x hx => by rw [List.eq_of_mem_replicate hx]; omega
theorem Xsj {B : Int} {l : List Int} (h : inB B l) {i : Nat} (hi : i < l.length) : -B ≤ l.getD i 0 ∧ l.getD i 0 ≤ B := h _ (by rw [Xb2 l i hi]; exact List.getElem_mem _)
theorem Yq8 {B : Int} {l : List Int} (h : inB B l) (n : Nat) : inB B (l.take n) := fun x hx => h x (List.mem_of_mem_take hx)
theorem Yq7 {B : Int} {l : List Int} (h : inB B l) (n : Nat) : inB B (l.drop n) := fun x hx => h x (List.mem_of_mem_drop hx)
theorem Xff {S : Type} {f : Int × S → Option (Lp (Int × S) S)} (n : Nat) (I : Nat → S → Prop) (hs : ∀ (i : Nat) (l : S), i < n → I i l → ∃ l', f ((i : Int), l) = some (.go (((i + 1 : Nat) : Int), l')) ∧ I (i + 1) l') (he : ∀ l, f ((n : Int), l) = some (.done l)) (l0 : S) (h0 : I 0 l0) : ∃ o, loop f (0, l0) = some o ∧ I n o := by
 have key : ∀ i : Nat, i ≤ n → ∀ l, I i l → ∃ o, loop f ((i : Int), l) = some o ∧ I n o := by
  refine Xc1 _ ?_ ?_
  ·
   intro l h; exact ⟨l, Xbx (he l), h⟩
  ·
   intro i hi ih l h
   obtain ⟨l', e, h'⟩ := hs i l hi h
   obtain ⟨o, e2, h2⟩ := ih l' h'
   exact ⟨o, lgo e e2, h2⟩
 exact key 0 (by omega) l0 h0
theorem Xo1 {S : Type} {f : S × Int → Option (Lp (S × Int) S)} (n : Nat) (I : Nat → S → Prop) (hs : ∀ (i : Nat) (l : S), i < n → I i l → ∃ l', f (l, (i : Int)) = some (.go (l', ((i + 1 : Nat) : Int))) ∧ I (i + 1) l') (he : ∀ l, f (l, (n : Int)) = some (.done l)) (l0 : S) (h0 : I 0 l0) : ∃ o, loop f (l0, 0) = some o ∧ I n o := by
 have key : ∀ i : Nat, i ≤ n → ∀ l, I i l → ∃ o, loop f (l, (i : Int)) = some o ∧ I n o := by
  refine Xc1 _ ?_ ?_
  ·
   intro l h; exact ⟨l, Xbx (he l), h⟩
  ·
   intro i hi ih l h
   obtain ⟨l', e, h'⟩ := hs i l hi h
   obtain ⟨o, e2, h2⟩ := ih l' h'
   exact ⟨o, lgo e e2, h2⟩
 exact key 0 (by omega) l0 h0
theorem Xf7 (l : List Int) (i j : Nat) (y : Int) (hi : i < l.length) : (l.set i y).getD j 0 = if i = j then y else l.getD j 0 := by
 rw [List.getD_eq_getElem?_getD, List.getElem?_set, List.getD_eq_getElem?_getD]
 by_cases h : i = j
 ·
  subst h; rw [if_pos rfl, if_pos rfl, if_pos hi]; rfl
 ·
  rw [if_neg h, if_neg h]
theorem Xti {f : Int × List Int → Option (Lp (Int × List Int) (List Int))} (n : Nat) (P Q : Int → Prop) (hs : ∀ (i : Nat) (l : List Int), i < n → l.length = n → P (l.getD i 0) → ∃ y, f ((i : Int), l) = some (.go (((i + 1 : Nat) : Int), l.set i y)) ∧ Q y) (he : ∀ l, f ((n : Int), l) = some (.done l)) (l0 : List Int) (h0 : l0.length = n) (hb : ∀ x ∈ l0, P x) : ∃ o, loop f (0, l0) = some o ∧ o.length = n ∧ ∀ x ∈ o, Q x := by
 obtain ⟨o, e, h1, h2, _⟩ := Xff (f := f) n (fun i l => l.length = n ∧ (∀ j, j < i → Q (l.getD j 0)) ∧ ∀ j, i ≤ j → j < n → P (l.getD j 0)) (by
  intro i l hi ⟨g1, g2, g3⟩
  obtain ⟨y, e, hy⟩ := hs i l hi g1 (g3 i (Nat.le_refl _) hi)
  refine ⟨_, e, by rw [List.length_set]; exact g1, fun j hj => ?_, fun j hj hj2 => ?_⟩
  ·
   rw [Xf7 l i j y (by omega)]
   by_cases h : i = j
   ·
    rw [if_pos h]; exact hy
   ·
    rw [if_neg h]; exact g2 j (by omega)
  ·
   rw [Xf7 l i j y (by omega), if_neg (by omega)]; exact g3 j (by omega) hj2) he l0 ⟨h0, fun j hj => by omega, fun j _ hj => hb _ (by rw [Xb2 l0 j (by omega)]; exact List.getElem_mem _)⟩
 refine ⟨o, e, h1, fun x hx => ?_⟩
 obtain ⟨j, hj, rfl⟩ := List.getElem_of_mem hx
 have := h2 j (by omega)
 rwa [Xb2 o j hj] at this
end Go.Proofs.YtnhflbeahbcklabGreat.A.Pure
