/- What the functions that the law FnExactDecStream reaches compute, over numbers, texts and lists. Written by a program of this session. Conditions: none. -/
import Derived.Test.YtjgbfopmjpkkhaaGreatAL2
namespace Go.Proofs.YtjgbfopmjpkkhaaGreat.A
open Go Go.Proofs Go.Proofs.YtjgbfopmjpkkhaaGreatAL Go.RowKit
set_option linter.unusedVariables false
set_option linter.unusedSimpArgs false
structure Seq where
 Level : Int
 Bits : Int
 Cols : (List Int)
 Rows : (List Int)
structure Par where
 Qp : Int
 Large : Bool
 Exact : Bool
 Confined : Bool
structure Pic where
 Wide : Int
 High : Int
 Dots : ByteArray
structure Xa0 where
 HasSeq : Bool
 HasPar : Bool
 HasRef : Bool
 Seq : Seq
 Par : Par
 Frame : Int
 Got : Int
 Now : Pic
 Ref : Pic
structure Xka where
 row_ : ByteArray
 at_ : Int
 bad_ : Bool
structure Yhf where
 Tile : Int
 Frame : Int
 Qp : Int
structure Xj9 where
 Key : Bool
 Qp : Int
 Large : Bool
 Exact : Bool
structure Xph where
 Left : Int
 Top : Int
 Wide : Int
 High : Int
structure Xa1 where
 Kind : Int
 Mode : Int
 Dx : Int
 Dy : Int
 Levels : (List Int)
structure Xkb where
 Above : (List Int)
 Left : (List Int)
 Corner : Int
def Xkc : ByteArray := ⟨#[]⟩
def Xk4 : (List Int) := []
def Yoz : Pic := ⟨0, 0, ⟨#[]⟩⟩
def Xbv : Xa1 := ⟨0, 0, 0, 0, []⟩
noncomputable section
def Xet (p0 : Pic) : Option Bool :=
 bnd (
 sel (p0.Wide == 0) (
 sel (p0.High == 0) (
 some ((p0.Dots.size : Int) == 0)) (
 some false)) (
 some false)) fun v1 =>
 some v1
def Xay (p0 : Int) (p1 : Int) (p2 : Int) : Option Bool :=
 bnd (
 sel (decide (p0 ≥ p1)) (
 some (decide (p0 ≤ p2))) (
 some false)) fun v1 =>
 some v1
def Xgf (p0 : (List Int)) (v4 : (Int × Int)) : Option (Lp (Int × Int) (Ou Int Int)) :=
 sel (decide (v4.2 < (p0.length : Int))) (
 req (0 ≤ v4.2 ∧ v4.2 < p0.length) <|
 bnd (Xay (p0.getD v4.2.toNat 0) 1 8) fun q8 =>
 sel (!q8) (
 some (.done (.ret 0))) (
 req (0 ≤ v4.2 ∧ v4.2 < p0.length) <|
 some (.go (Xaa .i64 (v4.1 + (p0.getD v4.2.toNat 0)), Xaa .i64 (v4.2 + 1))))) (
 some (.done (.out v4.1)))
def Xg4 (p0 : (List Int)) : Option Int :=
 bnd (
 sel (decide ((p0.length : Int) < 1)) (
 some true) (
 some (decide ((p0.length : Int) > 4)))) fun v1 =>
 sel v1 (
 some 0) (
 bnd (loop (Xgf p0) (0, 0)) fun o9 => match o9 with
| .out v7 => (
 some v7)
| .ret r => some r)
def Xif (p0 : Seq) : Option Int :=
 bnd (Xg4 p0.Cols) fun q1 =>
 bnd (Xg4 p0.Rows) fun q2 =>
 some (Xaa .i64 (q1 * q2))
def Xfe (p0 : Int) : Option Int :=
 sel (p0 == 1) (
 some 16) (
 sel (p0 == 2) (
 some 64) (
 sel (p0 == 3) (
 some 256) (
 some 0)))
def Xht (p0 : Seq) : Option Bool :=
 bnd (
 bnd (Xif p0) fun q2 =>
 bnd (Xfe p0.Level) fun q3 =>
 bnd (Xay q2 1 q3) fun q4 =>
 sel q4 (
 bnd (Xay p0.Bits 3 8) fun q5 =>
 some q5) (
 some false)) fun v1 =>
 some v1
def Xi6 (p0 : Par) : Option Bool :=
 bnd (
 bnd (Xay p0.Qp 0 40) fun q2 =>
 sel q2 (
 sel p0.Large (
 some (!p0.Exact)) (
 some true)) (
 some false)) fun v1 =>
 some v1
def Xfo (p0 : Seq) : Option Int :=
 bnd (Xht p0) fun q1 =>
 sel (!q1) (
 some 0) (
 some (Xaa .i64 ((p0.Cols.length : Int) * (p0.Rows.length : Int))))
def Xis (p0 : Seq) : Option (Int × Int) :=
 bnd (Xht p0) fun q1 =>
 sel (!q1) (
 some (0, 0)) (
 bnd (Xg4 p0.Cols) fun q2 =>
 bnd (Xg4 p0.Rows) fun q3 =>
 some (Xaa .i64 (8 * q2), Xaa .i64 (8 * q3)))
def Xgd (p0 : Pic) : Option Bool :=
 bnd (
 bnd (Xay p0.Wide 1 256) fun q2 =>
 sel q2 (
 bnd (Xay p0.High 1 256) fun q3 =>
 sel q3 (
 some ((p0.Dots.size : Int) == (Xaa .i64 (p0.Wide * p0.High)))) (
 some false)) (
 some false)) fun v1 =>
 some v1
def Xhx (p0 : Pic) (p1 : Seq) : Option Bool :=
 bnd (Xis p1) fun q1 =>
 bnd (
 bnd (Xgd p0) fun q3 =>
 sel q3 (
 sel (p0.Wide == q1.1) (
 some (p0.High == q1.2)) (
 some false)) (
 some false)) fun v2 =>
 some v2
def Xo6 (p0 : Xa0) : Option Bool :=
 sel (!p0.HasSeq) (
 bnd (
 sel p0.HasPar (
 some false) (
 sel p0.HasRef (
 some false) (
 sel (p0.Seq.Level == 0) (
 sel (p0.Seq.Bits == 0) (
 sel ((p0.Seq.Cols.length : Int) == 0) (
 sel ((p0.Seq.Rows.length : Int) == 0) (
 sel (((p0.Par.Qp == 0) && ((p0.Par.Large == false) && ((p0.Par.Exact == false) && (p0.Par.Confined == false)))) == true) (
 sel (p0.Frame == (-1)) (
 sel (p0.Got == 0) (
 bnd (Xet p0.Now) fun q2 =>
 sel q2 (
 bnd (Xet p0.Ref) fun q3 =>
 some q3) (
 some false)) (
 some false)) (
 some false)) (
 some false)) (
 some false)) (
 some false)) (
 some false)) (
 some false)))) fun v1 =>
 some v1) (
 bnd (
 bnd (Xht p0.Seq) fun q5 =>
 sel q5 (
 sel p0.HasPar (
 bnd (Xi6 p0.Par) fun q6 =>
 sel q6 (
 some false) (
 some true)) (
 some (((p0.Par.Qp == 0) && ((p0.Par.Large == false) && ((p0.Par.Exact == false) && (p0.Par.Confined == false)))) == false))) (
 some true)) fun v4 =>
 sel v4 (
 some false) (
 bnd (
 sel (decide (p0.Frame < (-1))) (
 some true) (
 req (0 ≤ (Xaa .u64 (p0.Seq.Bits))) <|
 sel (decide (p0.Frame ≥ (Xaa .i64 (1 * 2 ^ min (Xaa .u64 (p0.Seq.Bits)).toNat (IntKind.bits .i64))))) (
 some true) (
 sel (decide (p0.Got < 0)) (
 some true) (
 bnd (Xfo p0.Seq) fun q8 =>
 sel (decide (p0.Got ≥ q8)) (
 some true) (
 sel p0.HasPar (
 some false) (
 sel (decide (p0.Got > 0)) (
 some true) (
 some p0.HasRef))))))) fun v7 =>
 sel v7 (
 some false) (
 bnd (
 sel (decide (p0.Got > 0)) (
 sel (p0.Frame == (-1)) (
 some true) (
 bnd (Xhx p0.Now p0.Seq) fun q10 =>
 sel q10 (
 sel (p0.Got == 0) (
 bnd (Xet p0.Now) fun q11 =>
 some (!q11)) (
 some false)) (
 some true))) (
 sel (p0.Got == 0) (
 bnd (Xet p0.Now) fun q12 =>
 some (!q12)) (
 some false))) fun v9 =>
 sel v9 (
 some false) (
 bnd (
 sel p0.HasRef (
 bnd (Xhx p0.Ref p0.Seq) fun q14 =>
 sel q14 (
 some true) (
 some false)) (
 bnd (Xet p0.Ref) fun q15 =>
 some q15)) fun v13 =>
 some v13))))
def Xlx (p0 : Int) : Option Bool :=
 bnd (
 sel (p0 == 1) (
 some true) (
 sel (p0 == 5) (
 some true) (
 sel (p0 == 7) (
 some true) (
 some (p0 == 8))))) fun v1 =>
 some v1
def Xih (v2 : (Int × Int × (List Int))) : Option (Lp (Int × Int × (List Int)) (List Int)) :=
 sel (decide (v2.2.1 ≥ 0)) (
 req ((2 : Int) ≠ 0) <|
 req (0 ≤ v2.2.1 ∧ v2.2.1 < v2.2.2.length) <|
 req (v2.2.1.toNat < v2.2.2.length) <|
 req ((2 : Int) ≠ 0) <|
 some (.go (Xaa .i64 (v2.1.tdiv 2), Xaa .i64 (v2.2.1 - 1), (v2.2.2.set v2.2.1.toNat (Xaa .u8 (Xaa .i64 (48 + (v2.1.tmod 2)))))))) (
 some (.done v2.2.2))
def Xni (p0 : Int) (p1 : Int) : Option ByteArray :=
 req (0 ≤ p1 ∧ p1 ≤ p1 ∧ p1 * 1 ≤ 281474976710656) <|
 bnd (loop (Xih) (p0, Xaa .i64 (p1 - 1), (List.replicate p1.toNat (0 : Int)))) fun v4 =>
 some (strOfNums v4)
def Xef (p0 : ByteArray) (v4 : (Int × (List Int))) : Option (Lp (Int × (List Int)) (List Int)) :=
 sel (decide (v4.1 < (p0.size : Int))) (
 req (0 ≤ v4.1 ∧ v4.1 < p0.size) <|
 bnd (Xni (Xaa .i64 ((Xb7 p0 v4.1))) 8) fun q8 =>
 req ((v4.2.length + (Xav q8).length) * 1 ≤ 140737488355328 ∧ v4.2.length + (Xav q8).length ≤ maxLen) <|
 some (.go (Xaa .i64 (v4.1 + 1), (v4.2 ++ (Xav q8))))) (
 some (.done v4.2))
def Xeg (v7 : (List Int)) (v12 : Int) : Option (Lp Int Int) :=
 bnd (
 sel (decide (v12 > 0)) (
 req (0 ≤ (Xaa .i64 (v12 - 1)) ∧ (Xaa .i64 (v12 - 1)) < v7.length) <|
 req ((Xaa .i64 (v12 - 1)).toNat < v7.length) <|
 some ((v7.getD ((Xaa .i64 (v12 - 1)).toNat) 0) == 48)) (
 some false)) fun v16 =>
 sel v16 (
 some (.go (Xaa .i64 (v12 - 1)))) (
 some (.done v12))
def Xho (p0 : ByteArray) : Option (ByteArray × Bool) :=
 bnd (
 sel ((p0.size : Int) == 0) (
 some true) (
 sel (decide ((p0.size : Int) > 50001)) (
 some true) (
 req (0 ≤ (Xaa .i64 ((p0.size : Int) - 1)) ∧ (Xaa .i64 ((p0.size : Int) - 1)) < p0.size) <|
 some ((Xb7 p0 (Xaa .i64 ((p0.size : Int) - 1))) == 0)))) fun v1 =>
 sel v1 (
 some (⟨#[]⟩, false)) (
 bnd (loop (Xef p0) (0, ([] : List Int))) fun v7 =>
 bnd (loop (Xeg v7) (v7.length : Int)) fun v15 =>
 sel (decide ((Xaa .i64 (v15 - 1)) > 400000)) (
 some (⟨#[]⟩, false)) (
 req (0 ≤ (0 : Int) ∧ (0 : Int) ≤ (Xaa .i64 (v15 - 1)) ∧ (Xaa .i64 (v15 - 1)) ≤ (v7.length : Int)) <|
 req ((0 : Int).toNat + ((Xaa .i64 (v15 - 1)).toNat - (0 : Int).toNat) ≤ v7.length) <|
 some ((strOfNums ((v7.drop ((0 : Int).toNat)).take ((Xaa .i64 (v15 - 1)).toNat - (0 : Int).toNat))), true)))
def Xky (p0 : ByteArray) : Option (Int × ByteArray × Bool) :=
 bnd (
 sel (decide ((p0.size : Int) < 1)) (
 some true) (
 req (0 ≤ (0 : Int) ∧ (0 : Int) < p0.size) <|
 bnd (Xlx (Xaa .i64 ((Xb7 p0 (0 : Int))))) fun q2 =>
 some (!q2))) fun v1 =>
 sel v1 (
 some (0, ⟨#[]⟩, false)) (
 req (0 ≤ (1 : Int) ∧ (1 : Int) ≤ (p0.size : Int) ∧ (p0.size : Int) ≤ (p0.size : Int)) <|
 bnd (Xho (p0.extract (1 : Int).toNat (p0.size : Int).toNat)) fun q3 =>
 sel (!q3.2) (
 some (0, ⟨#[]⟩, false)) (
 req (0 ≤ (0 : Int) ∧ (0 : Int) < p0.size) <|
 some (Xaa .i64 ((Xb7 p0 (0 : Int))), q3.1, true)))
def Xg1 (p0 : ByteArray) (p1 : Int) (p2 : Int) (v2 : (Int × Int)) : Option (Lp (Int × Int) Int) :=
 sel (decide (v2.2 < (Xaa .i64 (p1 + p2)))) (
 req (0 ≤ v2.2 ∧ v2.2 < p0.size) <|
 some (.go (Xaa .i64 ((Xaa .i64 ((Xaa .i64 (2 * v2.1)) + (Xaa .i64 ((Xb7 p0 v2.2))))) - 48), Xaa .i64 (v2.2 + 1)))) (
 some (.done v2.1))
def Xb3 (p0 : ByteArray) (p1 : Int) (p2 : Int) : Option (Int × Int × Bool) :=
 sel (decide (p2 > (Xaa .i64 ((p0.size : Int) - p1)))) (
 some (0, 0, false)) (
 bnd (loop (Xg1 p0 p1 p2) (0, p1)) fun v4 =>
 some (v4, Xaa .i64 (p1 + p2), true))
def Xd3 (p0 : ByteArray) (p1 : Int) (v3 : Int) : Option (Lp Int Int) :=
 bnd (
 sel (decide ((Xaa .i64 (p1 + v3)) < (p0.size : Int))) (
 req (0 ≤ (Xaa .i64 (p1 + v3)) ∧ (Xaa .i64 (p1 + v3)) < p0.size) <|
 sel ((Xb7 p0 (Xaa .i64 (p1 + v3))) == 48) (
 some (decide (v3 < 21))) (
 some false)) (
 some false)) fun v7 =>
 sel v7 (
 some (.go (Xaa .i64 (v3 + 1)))) (
 some (.done v3))
def Xbb (p0 : ByteArray) (p1 : Int) : Option (Int × Int × Bool) :=
 bnd (loop (Xd3 p0 p1) 0) fun v6 =>
 bnd (Xb3 p0 (Xaa .i64 (p1 + v6)) (Xaa .i64 (v6 + 1))) fun q9 =>
 bnd (
 sel q9.2.2 (
 req (0 ≤ (Xaa .u64 (v6))) <|
 sel (decide (q9.1 < (Xaa .i64 (1 * 2 ^ min (Xaa .u64 (v6)).toNat (IntKind.bits .i64))))) (
 some true) (
 some (decide ((Xaa .i64 (q9.1 - 1)) > 1000000)))) (
 some true)) fun v10 =>
 sel v10 (
 some (0, 0, false)) (
 some (Xaa .i64 (q9.1 - 1), q9.2.1, true))
def Xbk (p0 : ByteArray) (q1 : (Int × Int × Bool)) (v5 : (Int × Int × (List Int))) : Option (Lp (Int × Int × (List Int)) (Ou (Int × (List Int)) ((List Int) × Int × Bool))) :=
 sel (decide (v5.2.1 < q1.1)) (
 bnd (Xbb p0 v5.1) fun q9 =>
 sel (!q9.2.2) (
 some (.done (.ret (([] : List Int), 0, false)))) (
 req ((v5.2.2.length + ([q9.1]).length) * 8 ≤ 140737488355328 ∧ v5.2.2.length + ([q9.1]).length ≤ maxLen) <|
 some (.go (q9.2.1, Xaa .i64 (v5.2.1 + 1), (v5.2.2 ++ ([q9.1])))))) (
 some (.done (.out (v5.1, v5.2.2))))
def Xdm (p0 : ByteArray) (p1 : Int) : Option ((List Int) × Int × Bool) :=
 bnd (Xbb p0 p1) fun q1 =>
 bnd (
 sel q1.2.2 (
 some (decide (q1.1 > 4))) (
 some true)) fun v2 =>
 sel v2 (
 some (([] : List Int), 0, false)) (
 bnd (loop (Xbk p0 q1) (q1.2.1, 0, ([] : List Int))) fun o10 => match o10 with
| .out v8 => (
 some (v8.2, v8.1, true))
| .ret r => some r)
def Xfh (p0 : ByteArray) (p1 : Int) : Option (Seq × Int × Bool) :=
 bnd (Xbb p0 p1) fun q1 =>
 sel (!q1.2.2) (
 some ((⟨0, 0, [], []⟩ : Seq), 0, false)) (
 bnd (Xb3 p0 q1.2.1 4) fun q2 =>
 sel (!q2.2.2) (
 some ((⟨0, 0, [], []⟩ : Seq), 0, false)) (
 bnd (Xdm p0 q2.2.1) fun q3 =>
 sel (!q3.2.2) (
 some ((⟨0, 0, [], []⟩ : Seq), 0, false)) (
 bnd (Xdm p0 q3.2.1) fun q4 =>
 bnd (
 sel q4.2.2 (
 bnd (Xht (⟨q1.1, q2.1, q3.1, q4.1⟩ : Seq)) fun q6 =>
 some (!q6)) (
 some true)) fun v5 =>
 sel v5 (
 some ((⟨0, 0, [], []⟩ : Seq), 0, false)) (
 some ((⟨q1.1, q2.1, q3.1, q4.1⟩ : Seq), q4.2.1, true)))))
def Xfg (p0 : ByteArray) (p1 : Int) : Option (Par × Int × Bool) :=
 bnd (Xb3 p0 p1 6) fun q1 =>
 bnd (
 sel q1.2.2 (
 some (decide ((Xaa .i64 ((p0.size : Int) - q1.2.1)) < 3))) (
 some true)) fun v2 =>
 sel v2 (
 some ((⟨0, false, false, false⟩ : Par), 0, false)) (
 req (0 ≤ q1.2.1 ∧ q1.2.1 < p0.size) <|
 req (0 ≤ (Xaa .i64 (q1.2.1 + 1)) ∧ (Xaa .i64 (q1.2.1 + 1)) < p0.size) <|
 req (0 ≤ (Xaa .i64 (q1.2.1 + 2)) ∧ (Xaa .i64 (q1.2.1 + 2)) < p0.size) <|
 bnd (Xi6 (⟨q1.1, ((Xb7 p0 q1.2.1) == 49), ((Xb7 p0 (Xaa .i64 (q1.2.1 + 1))) == 49), ((Xb7 p0 (Xaa .i64 (q1.2.1 + 2))) == 49)⟩ : Par)) fun q3 =>
 sel (!q3) (
 some ((⟨0, false, false, false⟩ : Par), 0, false)) (
 some ((⟨q1.1, ((Xb7 p0 q1.2.1) == 49), ((Xb7 p0 (Xaa .i64 (q1.2.1 + 1))) == 49), ((Xb7 p0 (Xaa .i64 (q1.2.1 + 2))) == 49)⟩ : Par), Xaa .i64 (q1.2.1 + 3), true)))
def Xc6 (p0 : ByteArray) (v3 : Int) : Option (Lp Int (Ou Unit Bool)) :=
 sel (decide (v3 < (p0.size : Int))) (
 bnd (
 req (0 ≤ v3 ∧ v3 < p0.size) <|
 sel ((Xb7 p0 v3) != 48) (
 req (0 ≤ v3 ∧ v3 < p0.size) <|
 some ((Xb7 p0 v3) != 49)) (
 some false)) fun v7 =>
 sel v7 (
 some (.done (.ret false))) (
 some (.go (Xaa .i64 (v3 + 1))))) (
 some (.done (.out ())))
def Xk0 (p0 : ByteArray) : Option Bool :=
 bnd (loop (Xc6 p0) 0) fun o8 => match o8 with
| .out v6 => (
 some true)
| .ret r => some r
def Xhs (p0 : ByteArray) : Option Bool :=
 bnd (
 sel (decide ((p0.size : Int) ≤ 400000)) (
 bnd (Xk0 p0) fun q2 =>
 some q2) (
 some false)) fun v1 =>
 some v1
def Xnc (p0 : Int) : Option (Int × Bool) :=
 bnd (Xay p0 0 1000000) fun q1 =>
 sel (!q1) (
 some (0, false)) (
 req ((2 : Int) ≠ 0) <|
 sel ((p0.tmod 2) == 1) (
 req ((2 : Int) ≠ 0) <|
 some (Xaa .i64 ((Xaa .i64 (p0 + 1)).tdiv 2), true)) (
 req ((2 : Int) ≠ 0) <|
 some (Xaa .i64 (0 - (Xaa .i64 (p0.tdiv 2))), true)))
def Xby (p0 : ByteArray) (p1 : Int) : Option (Int × Int × Bool) :=
 bnd (Xbb p0 p1) fun q1 =>
 sel (!q1.2.2) (
 some (0, 0, false)) (
 bnd (Xnc q1.1) fun q2 =>
 some (q2.1, q1.2.1, true))
def Xnb (p0 : Seq) (p1 : Par) (p2 : Yhf) : Option Bool :=
 bnd (
 bnd (Xi6 p1) fun q2 =>
 sel q2 (
 sel (decide (p2.Tile ≥ 0)) (
 bnd (Xfo p0) fun q3 =>
 sel (decide (p2.Tile < q3)) (
 sel (decide (p2.Frame ≥ 0)) (
 req (0 ≤ (Xaa .u64 (p0.Bits))) <|
 sel (decide (p2.Frame < (Xaa .i64 (1 * 2 ^ min (Xaa .u64 (p0.Bits)).toNat (IntKind.bits .i64))))) (
 bnd (Xay p2.Qp 0 40) fun q4 =>
 some q4) (
 some false)) (
 some false)) (
 some false)) (
 some false)) (
 some false)) fun v1 =>
 some v1
def Xhr (p0 : Seq) (p1 : Par) (p2 : ByteArray) : Option (Yhf × Int × Bool) :=
 bnd (
 bnd (Xhs p2) fun q2 =>
 sel q2 (
 bnd (Xht p0) fun q3 =>
 sel q3 (
 bnd (Xi6 p1) fun q4 =>
 some (!q4)) (
 some true)) (
 some true)) fun v1 =>
 sel v1 (
 some ((⟨0, 0, 0⟩ : Yhf), 0, false)) (
 bnd (Xbb p2 0) fun q5 =>
 sel (!q5.2.2) (
 some ((⟨0, 0, 0⟩ : Yhf), 0, false)) (
 bnd (Xb3 p2 q5.2.1 p0.Bits) fun q6 =>
 sel (!q6.2.2) (
 some ((⟨0, 0, 0⟩ : Yhf), 0, false)) (
 bnd (Xby p2 q6.2.1) fun q7 =>
 bnd (
 sel q7.2.2 (
 bnd (Xnb p0 p1 (⟨q5.1, q6.1, Xaa .i64 (p1.Qp + q7.1)⟩ : Yhf)) fun q9 =>
 some (!q9)) (
 some true)) fun v8 =>
 sel v8 (
 some ((⟨0, 0, 0⟩ : Yhf), 0, false)) (
 some ((⟨q5.1, q6.1, Xaa .i64 (p1.Qp + q7.1)⟩ : Yhf), q7.2.1, true)))))
def Xfi (p0 : (List Int)) (p1 : Int) (v2 : (Int × Int)) : Option (Lp (Int × Int) Int) :=
 sel (decide (v2.2 < p1)) (
 req (0 ≤ v2.2 ∧ v2.2 < p0.length) <|
 some (.go (Xaa .i64 (v2.1 + (p0.getD v2.2.toNat 0)), Xaa .i64 (v2.2 + 1)))) (
 some (.done v2.1))
def Xii (p0 : (List Int)) (p1 : Int) : Option Int :=
 bnd (loop (Xfi p0 p1) (0, 0)) fun v4 =>
 some v4
def Xhu (p0 : Seq) (p1 : Int) : Option (Xph × Bool) :=
 bnd (
 sel (decide (p1 < 0)) (
 some true) (
 bnd (Xfo p0) fun q2 =>
 some (decide (p1 ≥ q2)))) fun v1 =>
 sel v1 (
 some ((⟨0, 0, 0, 0⟩ : Xph), false)) (
 req ((p0.Cols.length : Int) ≠ 0) <|
 req ((p0.Cols.length : Int) ≠ 0) <|
 bnd (Xii p0.Cols (p1.tmod (p0.Cols.length : Int))) fun q3 =>
 bnd (Xii p0.Rows (Xaa .i64 (p1.tdiv (p0.Cols.length : Int)))) fun q4 =>
 req (0 ≤ (p1.tmod (p0.Cols.length : Int)) ∧ (p1.tmod (p0.Cols.length : Int)) < p0.Cols.length) <|
 req (0 ≤ (Xaa .i64 (p1.tdiv (p0.Cols.length : Int))) ∧ (Xaa .i64 (p1.tdiv (p0.Cols.length : Int))) < p0.Rows.length) <|
 some ((⟨Xaa .i64 (8 * q3), Xaa .i64 (8 * q4), Xaa .i64 (8 * (p0.Cols.getD (p1.tmod (p0.Cols.length : Int)).toNat 0)), Xaa .i64 (8 * (p0.Rows.getD (Xaa .i64 (p1.tdiv (p0.Cols.length : Int))).toNat 0))⟩ : Xph), true))
def Xf6 (p0 : Seq) (p1 : Int) : Option Int :=
 bnd (Xhu p0 p1) fun q1 =>
 req ((8 : Int) ≠ 0) <|
 req ((8 : Int) ≠ 0) <|
 some (Xaa .i64 ((Xaa .i64 (q1.1.Wide.tdiv 8)) * (Xaa .i64 (q1.1.High.tdiv 8))))
def Xgu (p0 : Xj9) : Option Bool :=
 bnd (
 bnd (Xay p0.Qp 0 40) fun q2 =>
 sel q2 (
 sel p0.Large (
 some (!p0.Exact)) (
 some true)) (
 some false)) fun v1 =>
 some v1
def Xb5 (p0 : ByteArray) (p2 : Int) (q1 : (Int × Int × Bool)) (v9 : (Int × Int × Int × (List Int))) : Option (Lp (Int × Int × Int × (List Int)) (Ou (Int × (List Int)) ((List Int) × Int × Bool))) :=
 sel (decide (v9.2.2.1 < q1.1)) (
 bnd (Xbb p0 v9.1) fun q17 =>
 bnd (
 sel q17.2.2 (
 some (decide (q17.1 > (Xaa .i64 ((Xaa .i64 (p2 - 1)) - v9.2.1))))) (
 some true)) fun v18 =>
 sel v18 (
 some (.done (.ret (([] : List Int), 0, false)))) (
 bnd (Xby p0 q17.2.1) fun q19 =>
 bnd (
 sel q19.2.2 (
 sel (q19.1 == 0) (
 some true) (
 bnd (Xay q19.1 (-5000) 5000) fun q21 =>
 some (!q21))) (
 some true)) fun v20 =>
 sel v20 (
 some (.done (.ret (([] : List Int), 0, false)))) (
 req (0 ≤ (Xaa .i64 (v9.2.1 + q17.1)) ∧ (Xaa .i64 (v9.2.1 + q17.1)) < v9.2.2.2.length) <|
 req ((Xaa .i64 (v9.2.1 + q17.1)).toNat < v9.2.2.2.length) <|
 some (.go (q19.2.1, Xaa .i64 ((Xaa .i64 (v9.2.1 + q17.1)) + 1), Xaa .i64 (v9.2.2.1 + 1), (v9.2.2.2.set ((Xaa .i64 (v9.2.1 + q17.1)).toNat) q19.1)))))) (
 some (.done (.out (v9.1, v9.2.2.2))))
def Xg6 (p0 : ByteArray) (p1 : Int) (p2 : Int) : Option ((List Int) × Int × Bool) :=
 req (0 ≤ p2 ∧ p2 ≤ p2 ∧ p2 * 8 ≤ 281474976710656) <|
 bnd (Xbb p0 p1) fun q1 =>
 bnd (
 sel q1.2.2 (
 some (decide (q1.1 > p2))) (
 some true)) fun v2 =>
 sel v2 (
 some (([] : List Int), 0, false)) (
 bnd (loop (Xb5 p0 p2 q1) (q1.2.1, 0, 0, (List.replicate p2.toNat (0 : Int)))) fun o22 => match o22 with
| .out v16 => (
 some (v16.2, v16.1, true))
| .ret r => some r)
def Xdg (p0 : ByteArray) (v5 : (Int × Int × (List Int))) : Option (Lp (Int × Int × (List Int)) (Ou (Int × (List Int)) ((List Int) × Int × Bool))) :=
 sel (decide (v5.2.1 < 4)) (
 bnd (Xg6 p0 v5.1 16) fun q9 =>
 sel (!q9.2.2) (
 some (.done (.ret (([] : List Int), 0, false)))) (
 req ((v5.2.2.length + q9.1.length) * 8 ≤ 140737488355328 ∧ v5.2.2.length + q9.1.length ≤ maxLen) <|
 some (.go (q9.2.1, Xaa .i64 (v5.2.1 + 1), (v5.2.2 ++ q9.1))))) (
 some (.done (.out (v5.1, v5.2.2))))
def Xfq (p0 : ByteArray) (p1 : Int) (p2 : Xj9) : Option ((List Int) × Int × Bool) :=
 bnd (
 sel p2.Large (
 some true) (
 some p2.Exact)) fun v1 =>
 sel v1 (
 bnd (Xg6 p0 p1 64) fun q2 =>
 some (q2.1, q2.2.1, q2.2.2)) (
 bnd (loop (Xdg p0) (p1, 0, ([] : List Int))) fun o10 => match o10 with
| .out v8 => (
 some (v8.2, v8.1, true))
| .ret r => some r)
def Xdx (p0 : (List Int)) (p1 : Int) (p2 : Int) (v3 : Int) : Option (Lp Int (Ou Unit Bool)) :=
 sel (decide (v3 < p1)) (
 req (0 ≤ v3 ∧ v3 < p0.length) <|
 bnd (Xay (p0.getD v3.toNat 0) (Xaa .i64 (0 - p2)) p2) fun q7 =>
 sel (!q7) (
 some (.done (.ret false))) (
 some (.go (Xaa .i64 (v3 + 1))))) (
 some (.done (.out ())))
def Xdn (p0 : (List Int)) (p1 : Int) (p2 : Int) : Option Bool :=
 sel ((p0.length : Int) != p1) (
 some false) (
 bnd (loop (Xdx p0 p1 p2) 0) fun o8 => match o8 with
| .out v6 => (
 some true)
| .ret r => some r)
def Xdu (p0 : Xa1) : Option Bool :=
 sel (p0.Kind == 0) (
 bnd (
 sel (p0.Mode == 0) (
 sel (p0.Dx == 0) (
 sel (p0.Dy == 0) (
 some ((p0.Levels.length : Int) == 0)) (
 some false)) (
 some false)) (
 some false)) fun v1 =>
 some v1) (
 sel (p0.Kind == 1) (
 bnd (
 sel (p0.Mode == 0) (
 bnd (Xay p0.Dx (-16) 16) fun q3 =>
 sel q3 (
 bnd (Xay p0.Dy (-16) 16) fun q4 =>
 sel q4 (
 bnd (Xdn p0.Levels 64 5000) fun q5 =>
 some q5) (
 some false)) (
 some false)) (
 some false)) fun v2 =>
 some v2) (
 sel (p0.Kind == 2) (
 bnd (
 bnd (Xay p0.Mode 0 3) fun q7 =>
 sel q7 (
 sel (p0.Dx == 0) (
 sel (p0.Dy == 0) (
 bnd (Xdn p0.Levels 64 5000) fun q8 =>
 some q8) (
 some false)) (
 some false)) (
 some false)) fun v6 =>
 some v6) (
 some false)))
def Xi9 (p0 : ByteArray) (p1 : Int) (p2 : Xj9) : Option (Xa1 × Int × Bool) :=
 Ynw (fun (v1 : (Int × Int)) =>
 Ynw (fun (v4 : (Int × Bool × Int × Int × Int)) =>
 sel (!v4.2.1) (
 some ((⟨0, 0, 0, 0, []⟩ : Xa1), 0, false)) (
 bnd (Xfq p0 v4.1 p2) fun q8 =>
 bnd (
 sel q8.2.2 (
 bnd (Xdu (⟨v1.2, v4.2.2.1, v4.2.2.2.1, v4.2.2.2.2, q8.1⟩ : Xa1)) fun q10 =>
 some (!q10)) (
 some true)) fun v9 =>
 sel v9 (
 some ((⟨0, 0, 0, 0, []⟩ : Xa1), 0, false)) (
 some ((⟨v1.2, v4.2.2.1, v4.2.2.2.1, v4.2.2.2.2, q8.1⟩ : Xa1), q8.2.1, true)))) fun j2 =>
 sel (v1.2 == 0) (
 some ((⟨v1.2, 0, 0, 0, []⟩ : Xa1), v1.1, true)) (
 sel (v1.2 == 1) (
 bnd (Xby p0 v1.1) fun q5 =>
 sel (!q5.2.2) (
 some ((⟨0, 0, 0, 0, []⟩ : Xa1), 0, false)) (
 bnd (Xby p0 q5.2.1) fun q6 =>
 j2 (q6.2.1, q6.2.2, 0, q5.1, q6.1))) (
 bnd (Xbb p0 v1.1) fun q7 =>
 j2 (q7.2.1, q7.2.2, q7.1, 0, 0)))) fun j1 =>
 sel (!p2.Key) (
 bnd (Xbb p0 p1) fun q2 =>
 bnd (
 sel q2.2.2 (
 some (decide (q2.1 > 2))) (
 some true)) fun v3 =>
 sel v3 (
 some ((⟨0, 0, 0, 0, []⟩ : Xa1), 0, false)) (
 j1 (q2.2.1, q2.1))) (
 j1 (p1, 2))
def Xbx (p0 : ByteArray) (p2 : Int) (p3 : Xj9) (v8 : (Int × Int × (List Xa1))) : Option (Lp (Int × Int × (List Xa1)) (Ou (Int × (List Xa1)) ((List Xa1) × Bool))) :=
 sel (decide (v8.2.1 < p2)) (
 bnd (Xi9 p0 v8.1 p3) fun q12 =>
 sel (!q12.2.2) (
 some (.done (.ret (([] : List Xa1), false)))) (
 req ((v8.2.2.length + ([q12.1]).length) * 56 ≤ 140737488355328 ∧ v8.2.2.length + ([q12.1]).length ≤ maxLen) <|
 some (.go (q12.2.1, Xaa .i64 (v8.2.1 + 1), (v8.2.2 ++ ([q12.1])))))) (
 some (.done (.out (v8.1, v8.2.2))))
def Xjy (p0 : ByteArray) (p1 : Int) (p2 : Int) (p3 : Xj9) : Option ((List Xa1) × Bool) :=
 bnd (
 bnd (Xhs p0) fun q2 =>
 sel q2 (
 bnd (Xay p1 0 (p0.size : Int)) fun q3 =>
 sel q3 (
 bnd (Xgu p3) fun q4 =>
 sel q4 (
 bnd (Xay p2 1 64) fun q5 =>
 some (!q5)) (
 some true)) (
 some true)) (
 some true)) fun v1 =>
 sel v1 (
 some (([] : List Xa1), false)) (
 bnd (loop (Xbx p0 p2 p3) (p1, 0, ([] : List Xa1))) fun o13 => match o13 with
| .out v11 => (
 sel (v11.1 != (p0.size : Int)) (
 some (([] : List Xa1), false)) (
 some (v11.2, true)))
| .ret r => some r)
def Xja (p0 : Int) : Option Bool :=
 bnd (
 req ((8 : Int) ≠ 0) <|
 sel ((p0.tmod 8) == 0) (
 bnd (Xay p0 8 64) fun q2 =>
 some q2) (
 some false)) fun v1 =>
 some v1
def Xfw (p0 : (List Xa1)) (p1 : Xj9) (v7 : Int) : Option (Lp Int (Ou Unit Bool)) :=
 sel (decide (v7 < (p0.length : Int))) (
 bnd (
 req (0 ≤ v7 ∧ v7 < p0.length) <|
 bnd (Xdu (⟨(p0.getD v7.toNat Xbv).Kind, (p0.getD v7.toNat Xbv).Mode, (p0.getD v7.toNat Xbv).Dx, (p0.getD v7.toNat Xbv).Dy, (p0.getD v7.toNat Xbv).Levels⟩ : Xa1)) fun q13 =>
 sel q13 (
 sel p1.Key (
 req (0 ≤ v7 ∧ v7 < p0.length) <|
 some (((p0.getD v7.toNat Xbv).Kind) != 2)) (
 some false)) (
 some true)) fun v12 =>
 sel v12 (
 some (.done (.ret false))) (
 some (.go (Xaa .i64 (v7 + 1))))) (
 some (.done (.out ())))
def Xpe (p0 : (List Xa1)) (p1 : Xj9) : Option Bool :=
 bnd (
 bnd (Xgu p1) fun q2 =>
 sel q2 (
 bnd (Xay (p0.length : Int) 1 64) fun q3 =>
 some (!q3)) (
 some true)) fun v1 =>
 sel v1 (
 some false) (
 bnd (loop (Xfw p0 p1) 0) fun o14 => match o14 with
| .out v11 => (
 some true)
| .ret r => some r)
def Xb6 (p0 : Pic) (p1 : Int) (p2 : Int) (p3 : Int) (p4 : Int) : Option Bool :=
 bnd (
 bnd (Xgd p0) fun q2 =>
 sel q2 (
 bnd (Xay p3 1 p0.Wide) fun q3 =>
 sel q3 (
 bnd (Xay p4 1 p0.High) fun q4 =>
 sel q4 (
 bnd (Xay p1 0 (Xaa .i64 (p0.Wide - p3))) fun q5 =>
 sel q5 (
 bnd (Xay p2 0 (Xaa .i64 (p0.High - p4))) fun q6 =>
 some q6) (
 some false)) (
 some false)) (
 some false)) (
 some false)) fun v1 =>
 some v1
def Xhp (p0 : Pic) (p1 : Xph) (v3 : (Int × (List Int))) : Option (Lp (Int × (List Int)) (List Int)) :=
 sel (decide (v3.1 < (Xaa .i64 (p1.Top + p1.High)))) (
 req (0 ≤ (Xaa .i64 ((Xaa .i64 (v3.1 * p0.Wide)) + p1.Left)) ∧ (Xaa .i64 ((Xaa .i64 (v3.1 * p0.Wide)) + p1.Left)) ≤ (Xaa .i64 ((Xaa .i64 ((Xaa .i64 (v3.1 * p0.Wide)) + p1.Left)) + p1.Wide)) ∧ (Xaa .i64 ((Xaa .i64 ((Xaa .i64 (v3.1 * p0.Wide)) + p1.Left)) + p1.Wide)) ≤ (p0.Dots.size : Int)) <|
 req ((v3.2.length + (Xav (p0.Dots.extract (Xaa .i64 ((Xaa .i64 (v3.1 * p0.Wide)) + p1.Left)).toNat (Xaa .i64 ((Xaa .i64 ((Xaa .i64 (v3.1 * p0.Wide)) + p1.Left)) + p1.Wide)).toNat)).length) * 1 ≤ 140737488355328 ∧ v3.2.length + (Xav (p0.Dots.extract (Xaa .i64 ((Xaa .i64 (v3.1 * p0.Wide)) + p1.Left)).toNat (Xaa .i64 ((Xaa .i64 ((Xaa .i64 (v3.1 * p0.Wide)) + p1.Left)) + p1.Wide)).toNat)).length ≤ maxLen) <|
 some (.go (Xaa .i64 (v3.1 + 1), (v3.2 ++ (Xav (p0.Dots.extract (Xaa .i64 ((Xaa .i64 (v3.1 * p0.Wide)) + p1.Left)).toNat (Xaa .i64 ((Xaa .i64 ((Xaa .i64 (v3.1 * p0.Wide)) + p1.Left)) + p1.Wide)).toNat)))))) (
 some (.done v3.2))
def Xmv (p0 : Pic) (p1 : Xph) : Option (Pic × Bool) :=
 bnd (Xb6 p0 p1.Left p1.Top p1.Wide p1.High) fun q1 =>
 sel (!q1) (
 some ((⟨0, 0, ⟨#[]⟩⟩ : Pic), false)) (
 bnd (loop (Xhp p0 p1) (p1.Top, ([] : List Int))) fun v5 =>
 some ((⟨p1.Wide, p1.High, (strOfNums v5)⟩ : Pic), true))
def Xg0 (p0 : Int) (p1 : Int) (v2 : (Int × (List Int))) : Option (Lp (Int × (List Int)) (List Int)) :=
 sel (decide (v2.1 < p0)) (
 req (0 ≤ v2.1 ∧ v2.1 < v2.2.length) <|
 req (v2.1.toNat < v2.2.length) <|
 some (.go (Xaa .i64 (v2.1 + 1), (v2.2.set v2.1.toNat p1)))) (
 some (.done v2.2))
def Xlw (p0 : Int) (p1 : Int) : Option ByteArray :=
 req (0 ≤ p0 ∧ p0 ≤ p0 ∧ p0 * 1 ≤ 281474976710656) <|
 bnd (loop (Xg0 p0 p1) (0, (List.replicate p0.toNat (0 : Int)))) fun v4 =>
 some (strOfNums v4)
def Xna (p0 : Int) (p1 : Int) : Option Pic :=
 bnd (
 bnd (Xay p0 1 256) fun q2 =>
 sel q2 (
 bnd (Xay p1 1 256) fun q3 =>
 some (!q3)) (
 some true)) fun v1 =>
 sel v1 (
 some (⟨0, 0, ⟨#[]⟩⟩ : Pic)) (
 bnd (Xlw (Xaa .i64 (p0 * p1)) 128) fun q4 =>
 some (⟨p0, p1, q4⟩ : Pic))
def Xi7 (p0 : Pic) (p1 : Int) (p2 : Int) : Option Bool :=
 bnd (
 req ((8 : Int) ≠ 0) <|
 sel ((p1.tmod 8) == 0) (
 req ((8 : Int) ≠ 0) <|
 sel ((p2.tmod 8) == 0) (
 bnd (Xb6 p0 p1 p2 8 8) fun q2 =>
 some q2) (
 some false)) (
 some false)) fun v1 =>
 some v1
def Xeq (p0 : Int) (p1 : Int) (p2 : Int) : Option Int :=
 bnd (
 sel (decide (p2 < p1)) (
 some true) (
 some (decide (p0 < p1)))) fun v1 =>
 sel v1 (
 some p1) (
 sel (decide (p0 > p2)) (
 some p2) (
 some p0))
def Xfc (p0 : Pic) (p1 : Int) (p2 : Int) : Option Int :=
 bnd (Xgd p0) fun q1 =>
 sel (!q1) (
 some (-1)) (
 bnd (Xeq p2 0 (Xaa .i64 (p0.High - 1))) fun q2 =>
 bnd (Xeq p1 0 (Xaa .i64 (p0.Wide - 1))) fun q3 =>
 req (0 ≤ (Xaa .i64 ((Xaa .i64 (q2 * p0.Wide)) + q3)) ∧ (Xaa .i64 ((Xaa .i64 (q2 * p0.Wide)) + q3)) < p0.Dots.size) <|
 some (Xaa .i64 ((Xb7 p0.Dots (Xaa .i64 ((Xaa .i64 (q2 * p0.Wide)) + q3))))))
def Xea (p0 : Pic) (p1 : Int) (p2 : Int) (v7 : (Int × (List Int) × (List Int))) : Option (Lp (Int × (List Int) × (List Int)) ((List Int) × (List Int))) :=
 sel (decide (v7.1 < 8)) (
 bnd (
 bnd (
 sel (decide (p2 > 0)) (
 bnd (Xfc p0 (Xaa .i64 (p1 + v7.1)) (Xaa .i64 (p2 - 1))) fun q16 =>
 req ((v7.2.1.length + ([q16]).length) * 8 ≤ 140737488355328 ∧ v7.2.1.length + ([q16]).length ≤ maxLen) <|
 some (v7.2.1 ++ ([q16]))) (
 some v7.2.1)) fun v15 =>
 sel (decide (p1 > 0)) (
 bnd (Xfc p0 (Xaa .i64 (p1 - 1)) (Xaa .i64 (p2 + v7.1))) fun q17 =>
 req ((v7.2.2.length + ([q17]).length) * 8 ≤ 140737488355328 ∧ v7.2.2.length + ([q17]).length ≤ maxLen) <|
 some (v15, (v7.2.2 ++ ([q17])))) (
 some (v15, v7.2.2))) fun v14 =>
 some (.go (Xaa .i64 (v7.1 + 1), v14.1, v14.2))) (
 some (.done (v7.2.1, v7.2.2)))
def Xgv (p0 : Pic) (p1 : Int) (p2 : Int) : Option (Xkb × Bool) :=
 bnd (Xi7 p0 p1 p2) fun q1 =>
 sel (!q1) (
 some ((⟨[], [], 0⟩ : Xkb), false)) (
 bnd (loop (Xea p0 p1 p2) (0, [], [])) fun v13 =>
 bnd (
 bnd (
 sel (decide (p1 > 0)) (
 some (decide (p2 > 0))) (
 some false)) fun v20 =>
 sel v20 (
 bnd (Xfc p0 (Xaa .i64 (p1 - 1)) (Xaa .i64 (p2 - 1))) fun q21 =>
 some q21) (
 some (-1))) fun v19 =>
 some ((⟨v13.1, v13.2, v19⟩ : Xkb), true))
def Xnf (p0 : Int) (p1 : Int) (v17 : (Int × Int)) (v38 : (Int × Int)) : Option (Lp (Int × Int) (Ou Int Int)) :=
 sel (decide (v38.2 < p0)) (
 Ynw (fun (v44 : Int) =>
 some (.go (v44, Xaa .i64 (v38.2 + 1)))) fun j36 =>
 bnd (
 req ((2 : Int) ≠ 0) <|
 sel ((v17.2.tmod 2) == 0) (
 some (Xaa .i64 ((Xaa .i64 (p0 - 1)) - v38.2))) (
 some v38.2)) fun v45 =>
 bnd (Xay (Xaa .i64 (v17.2 - v45)) 0 (Xaa .i64 (p0 - 1))) fun q46 =>
 sel (!q46) (
 j36 v38.1) (
 sel (v38.1 == p1) (
 some (.done (.ret (Xaa .i64 ((Xaa .i64 ((Xaa .i64 (p0 * v45)) + v17.2)) - v45))))) (
 j36 (Xaa .i64 (v38.1 + 1))))) (
 some (.done (.out v38.1)))
def Xjz (p0 : Int) (p1 : Int) (v17 : (Int × Int)) : Option (Lp (Int × Int) (Ou Unit Int)) :=
 sel (decide (v17.2 ≤ (Xaa .i64 ((Xaa .i64 (2 * p0)) - 2)))) (
 bnd (loop (Xnf p0 p1 v17) (v17.1, 0)) fun o47 => match o47 with
| .out v43 => (
 some (.go (v43, Xaa .i64 (v17.2 + 1))))
| .ret r => some (.done (.ret r))) (
 some (.done (.out ())))
def Xne (p0 : Int) (p1 : Int) : Option Int :=
 bnd (
 sel (p0 != 4) (
 sel (p0 != 8) (
 some true) (
 sel (decide (p1 < 0)) (
 some true) (
 some (decide (p1 ≥ (Xaa .i64 (p0 * p0))))))) (
 sel (decide (p1 < 0)) (
 some true) (
 some (decide (p1 ≥ (Xaa .i64 (p0 * p0))))))) fun v1 =>
 sel v1 (
 some (-1)) (
 bnd (loop (Xjz p0 p1) (0, 0)) fun o48 => match o48 with
| .out v33 => (
 some (-1))
| .ret r => some r)
def Xcd (p0 : Int) (p1 : (List Int)) (v4 : (Int × (List Int))) : Option (Lp (Int × (List Int)) (List Int)) :=
 sel (decide (v4.1 < (Xaa .i64 (p0 * p0)))) (
 bnd (Xne p0 v4.1) fun q8 =>
 req (0 ≤ v4.1 ∧ v4.1 < p1.length) <|
 req (0 ≤ q8 ∧ q8 < v4.2.length) <|
 req (q8.toNat < v4.2.length) <|
 some (.go (Xaa .i64 (v4.1 + 1), (v4.2.set q8.toNat (p1.getD v4.1.toNat 0))))) (
 some (.done v4.2))
def Xc5 (p0 : Int) (p1 : (List Int)) : Option ((List Int) × Bool) :=
 bnd (
 sel (p0 != 4) (
 sel (p0 != 8) (
 some true) (
 some ((p1.length : Int) != (Xaa .i64 (p0 * p0))))) (
 some ((p1.length : Int) != (Xaa .i64 (p0 * p0))))) fun v1 =>
 sel v1 (
 some (([] : List Int), false)) (
 req (0 ≤ (p1.length : Int) ∧ (p1.length : Int) ≤ (p1.length : Int) ∧ (p1.length : Int) * 8 ≤ 281474976710656) <|
 bnd (loop (Xcd p0 p1) (0, (List.replicate (p1.length : Int).toNat (0 : Int)))) fun v7 =>
 some (v7, true))
def Xig (p0 : Int) (v4 : (Int × Int)) : Option (Lp (Int × Int) Int) :=
 req ((6 : Int) ≠ 0) <|
 sel (decide (v4.2 < (Xaa .i64 (p0.tdiv 6)))) (
 some (.go (Xaa .i64 (2 * v4.1), Xaa .i64 (v4.2 + 1)))) (
 some (.done v4.1))
def Xgz (p0 : Int) : Option Int :=
 bnd (Xay p0 0 40) fun q1 =>
 sel (!q1) (
 some 0) (
 bnd (
 req ((6 : Int) ≠ 0) <|
 sel ((p0.tmod 6) == 0) (
 some 10) (
 sel ((p0.tmod 6) == 1) (
 some 11) (
 sel ((p0.tmod 6) == 2) (
 some 13) (
 sel ((p0.tmod 6) == 3) (
 some 14) (
 sel ((p0.tmod 6) == 4) (
 some 16) (
 some 18)))))) fun v2 =>
 bnd (loop (Xig p0) (v2, 0)) fun v6 =>
 some v6)
def Xe2 (p0 : Int) (p1 : Int) : Option Int :=
 bnd (Xay p0 (-5000) 5000) fun q1 =>
 sel (!q1) (
 some 0) (
 bnd (Xgz p1) fun q2 =>
 some (Xaa .i64 (p0 * q2)))
def Xie (v6 : (Int × Int)) : Option (Lp (Int × Int) Int) :=
 sel (decide (v6.2 > 0)) (
 bnd (
 req ((2 : Int) ≠ 0) <|
 sel ((v6.2.tmod 2) == 1) (
 some (Xaa .i64 (0 - v6.1))) (
 some v6.1)) fun v10 =>
 req ((2 : Int) ≠ 0) <|
 some (.go (v10, Xaa .i64 (v6.2.tdiv 2)))) (
 some (.done v6.1))
def Xgy (p0 : Int) (p1 : Int) : Option Int :=
 bnd (
 bnd (Xay p0 0 7) fun q2 =>
 sel q2 (
 bnd (Xay p1 0 7) fun q3 =>
 some (!q3)) (
 some true)) fun v1 =>
 sel v1 (
 some 0) (
 bnd (loop (Xie) (1, (IntKind.wrap .i64 (BitVec.ofInt (IntKind.bits .i64) p0 &&& BitVec.ofInt (IntKind.bits .i64) p1).toNat))) fun v9 =>
 some v9)
def Xdy (p0 : (List Int)) (p1 : Int) (p2 : Int) (v3 : (Int × Int)) : Option (Lp (Int × Int) Int) :=
 sel (decide (v3.2 < 8)) (
 req (0 ≤ (Xaa .i64 ((Xaa .i64 (8 * p1)) + v3.2)) ∧ (Xaa .i64 ((Xaa .i64 (8 * p1)) + v3.2)) < p0.length) <|
 bnd (Xgy p2 v3.2) fun q7 =>
 some (.go (Xaa .i64 (v3.1 + (Xaa .i64 ((p0.getD (Xaa .i64 ((Xaa .i64 (8 * p1)) + v3.2)).toNat 0) * q7))), Xaa .i64 (v3.2 + 1)))) (
 some (.done v3.1))
def Xit (p0 : (List Int)) (p1 : Int) (p2 : Int) : Option Int :=
 bnd (loop (Xdy p0 p1 p2) (0, 0)) fun v6 =>
 some v6
def Xcy (p0 : (List Int)) (v10 : (Int × (List Int))) (v23 : (Int × (List Int))) : Option (Lp (Int × (List Int)) (List Int)) :=
 sel (decide (v23.1 < 8)) (
 bnd (Xit p0 v10.1 v23.1) fun q27 =>
 req ((v23.2.length + ([q27]).length) * 8 ≤ 140737488355328 ∧ v23.2.length + ([q27]).length ≤ maxLen) <|
 some (.go (Xaa .i64 (v23.1 + 1), (v23.2 ++ ([q27]))))) (
 some (.done v23.2))
def Xcx (p0 : (List Int)) (v10 : (Int × (List Int))) : Option (Lp (Int × (List Int)) (List Int)) :=
 sel (decide (v10.1 < 8)) (
 bnd (loop (Xcy p0 v10) (0, v10.2)) fun v26 =>
 some (.go (Xaa .i64 (v10.1 + 1), v26))) (
 some (.done v10.2))
def Xcg (v20 : (List Int)) (v60 : (Int × (List Int))) (v101 : (Int × (List Int))) (v114 : (Int × Int)) : Option (Lp (Int × Int) Int) :=
 sel (decide (v114.2 < 8)) (
 bnd (Xgy v60.1 v114.2) fun q118 =>
 req (0 ≤ (Xaa .i64 ((Xaa .i64 (8 * v114.2)) + v101.1)) ∧ (Xaa .i64 ((Xaa .i64 (8 * v114.2)) + v101.1)) < v20.length) <|
 req ((Xaa .i64 ((Xaa .i64 (8 * v114.2)) + v101.1)).toNat < v20.length) <|
 some (.go (Xaa .i64 (v114.1 + (Xaa .i64 (q118 * (v20.getD ((Xaa .i64 ((Xaa .i64 (8 * v114.2)) + v101.1)).toNat) 0)))), Xaa .i64 (v114.2 + 1)))) (
 some (.done v114.1))
def Xcf (v20 : (List Int)) (v60 : (Int × (List Int))) (v101 : (Int × (List Int))) : Option (Lp (Int × (List Int)) (List Int)) :=
 sel (decide (v101.1 < 8)) (
 bnd (loop (Xcg v20 v60 v101) (0, 0)) fun v117 =>
 req ((v101.2.length + ([v117]).length) * 8 ≤ 140737488355328 ∧ v101.2.length + ([v117]).length ≤ maxLen) <|
 some (.go (Xaa .i64 (v101.1 + 1), (v101.2 ++ ([v117]))))) (
 some (.done v101.2))
def Xce (v20 : (List Int)) (v60 : (Int × (List Int))) : Option (Lp (Int × (List Int)) (List Int)) :=
 sel (decide (v60.1 < 8)) (
 bnd (loop (Xcf v20 v60) (0, v60.2)) fun v111 =>
 some (.go (Xaa .i64 (v60.1 + 1), v111))) (
 some (.done v60.2))
def Xg5 (p0 : (List Int)) : Option (List Int) :=
 bnd (loop (Xcx p0) (0, ([] : List Int))) fun v20 =>
 bnd (loop (Xce v20) (0, ([] : List Int))) fun v91 =>
 some v91
def Xcw (p0 : Int) (p1 : Int) : Option Int :=
 req (p1 ≠ 0) <|
 bnd (
 req (p1 ≠ 0) <|
 sel (decide ((p0.tmod p1) < 0)) (
 some (Xaa .i64 ((Xaa .i64 (p0.tdiv p1)) - 1))) (
 some (Xaa .i64 (p0.tdiv p1)))) fun v1 =>
 some v1
def Xfd (v5 : (Int × (List Int))) : Option (Lp (Int × (List Int)) (List Int)) :=
 sel (decide (v5.1 < 64)) (
 req (0 ≤ v5.1 ∧ v5.1 < v5.2.length) <|
 req (v5.1.toNat < v5.2.length) <|
 bnd (Xcw (Xaa .i64 ((v5.2.getD v5.1.toNat 0) + 32)) 64) fun q9 =>
 req (0 ≤ v5.1 ∧ v5.1 < v5.2.length) <|
 req (v5.1.toNat < v5.2.length) <|
 some (.go (Xaa .i64 (v5.1 + 1), (v5.2.set v5.1.toNat q9)))) (
 some (.done v5.2))
def Xe0 (p0 : (List Int)) : Option (List Int) :=
 bnd (Xdn p0 64 10000000) fun q1 =>
 sel (!q1) (
 some ([] : List Int)) (
 bnd (Xg5 p0) fun q2 =>
 bnd (loop (Xfd) (0, q2)) fun v8 =>
 some v8)
def Xkx (p0 : Int) : Option Int :=
 bnd (Xay p0 0 15) fun q1 =>
 sel (!q1) (
 some (-1)) (
 req ((4 : Int) ≠ 0) <|
 req ((2 : Int) ≠ 0) <|
 req ((4 : Int) ≠ 0) <|
 req ((2 : Int) ≠ 0) <|
 bnd (
 sel (((Xaa .i64 (p0.tdiv 4)).tmod 2) == 0) (
 some (((p0.tmod 4).tmod 2) == 0)) (
 some false)) fun v2 =>
 sel v2 (
 some 0) (
 bnd (
 sel (((Xaa .i64 (p0.tdiv 4)).tmod 2) == 1) (
 some (((p0.tmod 4).tmod 2) == 1)) (
 some false)) fun v3 =>
 sel v3 (
 some 1) (
 some 2)))
def Xbu (p0 : Int) (p1 : Int) (p2 : Int) (p3 : Int) : Option Int :=
 sel (p0 == 0) (
 some p1) (
 sel (p0 == 1) (
 some p2) (
 some p3))
def Xeb (p0 : Int) (v12 : (Int × Int)) : Option (Lp (Int × Int) Int) :=
 req ((6 : Int) ≠ 0) <|
 sel (decide (v12.2 < (Xaa .i64 (p0.tdiv 6)))) (
 some (.go (Xaa .i64 (2 * v12.1), Xaa .i64 (v12.2 + 1)))) (
 some (.done v12.1))
def Xgx (p0 : Int) (p1 : Int) : Option Int :=
 bnd (Xkx p1) fun q1 =>
 bnd (
 bnd (Xay p0 0 40) fun q3 =>
 sel q3 (
 some (decide (q1 < 0))) (
 some true)) fun v2 =>
 sel v2 (
 some 0) (
 bnd (
 req ((6 : Int) ≠ 0) <|
 sel ((p0.tmod 6) == 0) (
 bnd (Xbu q1 10 16 13) fun q5 =>
 some q5) (
 sel ((p0.tmod 6) == 1) (
 bnd (Xbu q1 11 18 14) fun q6 =>
 some q6) (
 sel ((p0.tmod 6) == 2) (
 bnd (Xbu q1 13 20 16) fun q7 =>
 some q7) (
 sel ((p0.tmod 6) == 3) (
 bnd (Xbu q1 14 23 18) fun q8 =>
 some q8) (
 sel ((p0.tmod 6) == 4) (
 bnd (Xbu q1 16 25 20) fun q9 =>
 some q9) (
 sel ((p0.tmod 6) == 5) (
 bnd (Xbu q1 18 29 23) fun q10 =>
 some q10) (
 some 0))))))) fun v4 =>
 bnd (loop (Xeb p0) (v4, 0)) fun v14 =>
 some v14)
def Xe3 (p0 : Int) (p1 : Int) (p2 : Int) : Option Int :=
 bnd (Xay p0 (-5000) 5000) fun q1 =>
 sel (!q1) (
 some 0) (
 bnd (Xgx p1 p2) fun q2 =>
 some (Xaa .i64 (p0 * q2)))
def Xcv (p0 : (List Int)) (v4 : (Int × (List Int))) : Option (Lp (Int × (List Int)) (List Int)) :=
 sel (decide (v4.1 < 4)) (
 req (0 ≤ (Xaa .i64 (4 * v4.1)) ∧ (Xaa .i64 (4 * v4.1)) < p0.length) <|
 req (0 ≤ (Xaa .i64 ((Xaa .i64 (4 * v4.1)) + 1)) ∧ (Xaa .i64 ((Xaa .i64 (4 * v4.1)) + 1)) < p0.length) <|
 req (0 ≤ (Xaa .i64 ((Xaa .i64 (4 * v4.1)) + 2)) ∧ (Xaa .i64 ((Xaa .i64 (4 * v4.1)) + 2)) < p0.length) <|
 req (0 ≤ (Xaa .i64 ((Xaa .i64 (4 * v4.1)) + 3)) ∧ (Xaa .i64 ((Xaa .i64 (4 * v4.1)) + 3)) < p0.length) <|
 bnd (Xcw (p0.getD (Xaa .i64 ((Xaa .i64 (4 * v4.1)) + 1)).toNat 0) 2) fun q9 =>
 bnd (Xcw (p0.getD (Xaa .i64 ((Xaa .i64 (4 * v4.1)) + 3)).toNat 0) 2) fun q10 =>
 req ((v4.2.length + ([Xaa .i64 ((Xaa .i64 ((p0.getD (Xaa .i64 (4 * v4.1)).toNat 0) + (p0.getD (Xaa .i64 ((Xaa .i64 (4 * v4.1)) + 2)).toNat 0))) + (Xaa .i64 ((p0.getD (Xaa .i64 ((Xaa .i64 (4 * v4.1)) + 1)).toNat 0) + q10))), Xaa .i64 ((Xaa .i64 ((p0.getD (Xaa .i64 (4 * v4.1)).toNat 0) - (p0.getD (Xaa .i64 ((Xaa .i64 (4 * v4.1)) + 2)).toNat 0))) + (Xaa .i64 (q9 - (p0.getD (Xaa .i64 ((Xaa .i64 (4 * v4.1)) + 3)).toNat 0)))), Xaa .i64 ((Xaa .i64 ((p0.getD (Xaa .i64 (4 * v4.1)).toNat 0) - (p0.getD (Xaa .i64 ((Xaa .i64 (4 * v4.1)) + 2)).toNat 0))) - (Xaa .i64 (q9 - (p0.getD (Xaa .i64 ((Xaa .i64 (4 * v4.1)) + 3)).toNat 0)))), Xaa .i64 ((Xaa .i64 ((p0.getD (Xaa .i64 (4 * v4.1)).toNat 0) + (p0.getD (Xaa .i64 ((Xaa .i64 (4 * v4.1)) + 2)).toNat 0))) - (Xaa .i64 ((p0.getD (Xaa .i64 ((Xaa .i64 (4 * v4.1)) + 1)).toNat 0) + q10)))]).length) * 8 ≤ 140737488355328 ∧ v4.2.length + ([Xaa .i64 ((Xaa .i64 ((p0.getD (Xaa .i64 (4 * v4.1)).toNat 0) + (p0.getD (Xaa .i64 ((Xaa .i64 (4 * v4.1)) + 2)).toNat 0))) + (Xaa .i64 ((p0.getD (Xaa .i64 ((Xaa .i64 (4 * v4.1)) + 1)).toNat 0) + q10))), Xaa .i64 ((Xaa .i64 ((p0.getD (Xaa .i64 (4 * v4.1)).toNat 0) - (p0.getD (Xaa .i64 ((Xaa .i64 (4 * v4.1)) + 2)).toNat 0))) + (Xaa .i64 (q9 - (p0.getD (Xaa .i64 ((Xaa .i64 (4 * v4.1)) + 3)).toNat 0)))), Xaa .i64 ((Xaa .i64 ((p0.getD (Xaa .i64 (4 * v4.1)).toNat 0) - (p0.getD (Xaa .i64 ((Xaa .i64 (4 * v4.1)) + 2)).toNat 0))) - (Xaa .i64 (q9 - (p0.getD (Xaa .i64 ((Xaa .i64 (4 * v4.1)) + 3)).toNat 0)))), Xaa .i64 ((Xaa .i64 ((p0.getD (Xaa .i64 (4 * v4.1)).toNat 0) + (p0.getD (Xaa .i64 ((Xaa .i64 (4 * v4.1)) + 2)).toNat 0))) - (Xaa .i64 ((p0.getD (Xaa .i64 ((Xaa .i64 (4 * v4.1)) + 1)).toNat 0) + q10)))]).length ≤ maxLen) <|
 some (.go (Xaa .i64 (v4.1 + 1), (v4.2 ++ ([Xaa .i64 ((Xaa .i64 ((p0.getD (Xaa .i64 (4 * v4.1)).toNat 0) + (p0.getD (Xaa .i64 ((Xaa .i64 (4 * v4.1)) + 2)).toNat 0))) + (Xaa .i64 ((p0.getD (Xaa .i64 ((Xaa .i64 (4 * v4.1)) + 1)).toNat 0) + q10))), Xaa .i64 ((Xaa .i64 ((p0.getD (Xaa .i64 (4 * v4.1)).toNat 0) - (p0.getD (Xaa .i64 ((Xaa .i64 (4 * v4.1)) + 2)).toNat 0))) + (Xaa .i64 (q9 - (p0.getD (Xaa .i64 ((Xaa .i64 (4 * v4.1)) + 3)).toNat 0)))), Xaa .i64 ((Xaa .i64 ((p0.getD (Xaa .i64 (4 * v4.1)).toNat 0) - (p0.getD (Xaa .i64 ((Xaa .i64 (4 * v4.1)) + 2)).toNat 0))) - (Xaa .i64 (q9 - (p0.getD (Xaa .i64 ((Xaa .i64 (4 * v4.1)) + 3)).toNat 0)))), Xaa .i64 ((Xaa .i64 ((p0.getD (Xaa .i64 (4 * v4.1)).toNat 0) + (p0.getD (Xaa .i64 ((Xaa .i64 (4 * v4.1)) + 2)).toNat 0))) - (Xaa .i64 ((p0.getD (Xaa .i64 ((Xaa .i64 (4 * v4.1)) + 1)).toNat 0) + q10)))]))))) (
 some (.done v4.2))
def Xes (p0 : (List Int)) : Option (List Int) :=
 bnd (loop (Xcv p0) (0, ([] : List Int))) fun v8 =>
 some v8
def Xdf (p0 : (List Int)) (v2 : (Int × (List Int))) : Option (Lp (Int × (List Int)) (List Int)) :=
 sel (decide (v2.1 < 16)) (
 req ((4 : Int) ≠ 0) <|
 req ((4 : Int) ≠ 0) <|
 req (0 ≤ v2.1 ∧ v2.1 < p0.length) <|
 req (0 ≤ (Xaa .i64 ((Xaa .i64 ((v2.1.tmod 4) * 4)) + (Xaa .i64 (v2.1.tdiv 4)))) ∧ (Xaa .i64 ((Xaa .i64 ((v2.1.tmod 4) * 4)) + (Xaa .i64 (v2.1.tdiv 4)))) < v2.2.length) <|
 req ((Xaa .i64 ((Xaa .i64 ((v2.1.tmod 4) * 4)) + (Xaa .i64 (v2.1.tdiv 4)))).toNat < v2.2.length) <|
 some (.go (Xaa .i64 (v2.1 + 1), (v2.2.set ((Xaa .i64 ((Xaa .i64 ((v2.1.tmod 4) * 4)) + (Xaa .i64 (v2.1.tdiv 4)))).toNat) (p0.getD v2.1.toNat 0))))) (
 some (.done v2.2))
def Xfp (p0 : (List Int)) : Option (List Int) :=
 req (0 ≤ (16 : Int) ∧ (16 : Int) ≤ (16 : Int) ∧ (16 : Int) * 8 ≤ 281474976710656) <|
 bnd (loop (Xdf p0) (0, (List.replicate (16 : Int).toNat (0 : Int)))) fun v4 =>
 some v4
def Xf5 (v8 : (Int × (List Int))) : Option (Lp (Int × (List Int)) (List Int)) :=
 sel (decide (v8.1 < 16)) (
 req (0 ≤ v8.1 ∧ v8.1 < v8.2.length) <|
 req (v8.1.toNat < v8.2.length) <|
 bnd (Xcw (Xaa .i64 ((v8.2.getD v8.1.toNat 0) + 32)) 64) fun q12 =>
 req (0 ≤ v8.1 ∧ v8.1 < v8.2.length) <|
 req (v8.1.toNat < v8.2.length) <|
 some (.go (Xaa .i64 (v8.1 + 1), (v8.2.set v8.1.toNat q12)))) (
 some (.done v8.2))
def Xfu (p0 : (List Int)) : Option (List Int) :=
 bnd (Xdn p0 16 10000000) fun q1 =>
 sel (!q1) (
 some ([] : List Int)) (
 bnd (Xes p0) fun q2 =>
 bnd (Xfp q2) fun q3 =>
 bnd (Xes q3) fun q4 =>
 bnd (Xfp q4) fun q5 =>
 bnd (loop (Xf5) (0, q5)) fun v11 =>
 some v11)
def Xbi (p1 : Xj9) (v8 : (Int × (List Int))) : Option (Lp (Int × (List Int)) (List Int)) :=
 sel (decide (v8.1 < 64)) (
 req (0 ≤ v8.1 ∧ v8.1 < v8.2.length) <|
 req (v8.1.toNat < v8.2.length) <|
 bnd (Xe2 (v8.2.getD v8.1.toNat 0) p1.Qp) fun q12 =>
 req (0 ≤ v8.1 ∧ v8.1 < v8.2.length) <|
 req (v8.1.toNat < v8.2.length) <|
 some (.go (Xaa .i64 (v8.1 + 1), (v8.2.set v8.1.toNat q12)))) (
 some (.done v8.2))
def Xbf (p1 : Xj9) (v52 : (Int × (List Int))) : Option (Lp (Int × (List Int)) (List Int)) :=
 sel (decide (v52.1 < 16)) (
 req (0 ≤ v52.1 ∧ v52.1 < v52.2.length) <|
 req (v52.1.toNat < v52.2.length) <|
 bnd (Xe3 (v52.2.getD v52.1.toNat 0) p1.Qp v52.1) fun q56 =>
 req (0 ≤ v52.1 ∧ v52.1 < v52.2.length) <|
 req (v52.1.toNat < v52.2.length) <|
 some (.go (Xaa .i64 (v52.1 + 1), (v52.2.set v52.1.toNat q56)))) (
 some (.done v52.2))
def Xbj (v31 : (Int × (List Int))) (q58 : (List Int)) (v60 : (Int × (List Int))) : Option (Lp (Int × (List Int)) (List Int)) :=
 sel (decide (v60.1 < 16)) (
 req ((2 : Int) ≠ 0) <|
 req ((4 : Int) ≠ 0) <|
 req ((2 : Int) ≠ 0) <|
 req ((4 : Int) ≠ 0) <|
 req (0 ≤ v60.1 ∧ v60.1 < q58.length) <|
 req (v60.1.toNat < q58.length) <|
 req (0 ≤ (Xaa .i64 ((Xaa .i64 ((Xaa .i64 (8 * (Xaa .i64 ((Xaa .i64 ((Xaa .i64 (v31.1.tdiv 2)) * 4)) + (Xaa .i64 (v60.1.tdiv 4)))))) + (Xaa .i64 ((v31.1.tmod 2) * 4)))) + (v60.1.tmod 4))) ∧ (Xaa .i64 ((Xaa .i64 ((Xaa .i64 (8 * (Xaa .i64 ((Xaa .i64 ((Xaa .i64 (v31.1.tdiv 2)) * 4)) + (Xaa .i64 (v60.1.tdiv 4)))))) + (Xaa .i64 ((v31.1.tmod 2) * 4)))) + (v60.1.tmod 4))) < v60.2.length) <|
 req ((Xaa .i64 ((Xaa .i64 ((Xaa .i64 (8 * (Xaa .i64 ((Xaa .i64 ((Xaa .i64 (v31.1.tdiv 2)) * 4)) + (Xaa .i64 (v60.1.tdiv 4)))))) + (Xaa .i64 ((v31.1.tmod 2) * 4)))) + (v60.1.tmod 4))).toNat < v60.2.length) <|
 some (.go (Xaa .i64 (v60.1 + 1), (v60.2.set ((Xaa .i64 ((Xaa .i64 ((Xaa .i64 (8 * (Xaa .i64 ((Xaa .i64 ((Xaa .i64 (v31.1.tdiv 2)) * 4)) + (Xaa .i64 (v60.1.tdiv 4)))))) + (Xaa .i64 ((v31.1.tmod 2) * 4)))) + (v60.1.tmod 4))).toNat) (q58.getD v60.1.toNat 0))))) (
 some (.done v60.2))
def Xca (p0 : (List Int)) (p1 : Xj9) (v31 : (Int × (List Int))) : Option (Lp (Int × (List Int)) (List Int)) :=
 sel (decide (v31.1 < 4)) (
 req (0 ≤ (Xaa .i64 (16 * v31.1)) ∧ (Xaa .i64 (16 * v31.1)) ≤ (Xaa .i64 ((Xaa .i64 (16 * v31.1)) + 16)) ∧ (Xaa .i64 ((Xaa .i64 (16 * v31.1)) + 16)) ≤ (p0.length : Int)) <|
 bnd (Xc5 4 ((p0.drop (Xaa .i64 (16 * v31.1)).toNat).take ((Xaa .i64 ((Xaa .i64 (16 * v31.1)) + 16)).toNat - (Xaa .i64 (16 * v31.1)).toNat))) fun q49 =>
 bnd (loop (Xbf p1) (0, q49.1)) fun v55 =>
 bnd (Xfu v55) fun q58 =>
 bnd (loop (Xbj v31 q58) (0, v31.2)) fun v62 =>
 some (.go (Xaa .i64 (v31.1 + 1), v62))) (
 some (.done v31.2))
def Xdd (p0 : (List Int)) (p1 : Xj9) : Option ((List Int) × Bool) :=
 bnd (
 bnd (Xgu p1) fun q2 =>
 sel q2 (
 bnd (Xdn p0 64 5000) fun q3 =>
 some (!q3)) (
 some true)) fun v1 =>
 sel v1 (
 some (([] : List Int), false)) (
 sel p1.Exact (
 bnd (Xc5 8 p0) fun q4 =>
 some (q4.1, q4.2)) (
 sel p1.Large (
 bnd (Xc5 8 p0) fun q5 =>
 bnd (loop (Xbi p1) (0, q5.1)) fun v11 =>
 bnd (Xe0 v11) fun q14 =>
 some (q14, true)) (
 req (0 ≤ (64 : Int) ∧ (64 : Int) ≤ (64 : Int) ∧ (64 : Int) * 8 ≤ 281474976710656) <|
 bnd (loop (Xca p0 p1) (0, (List.replicate (64 : Int).toNat (0 : Int)))) fun v48 =>
 some (v48, true))))
def Xg8 (p0 : (List Int)) (v4 : Int) : Option (Lp Int (Ou Unit Bool)) :=
 sel (decide (v4 < (p0.length : Int))) (
 req (0 ≤ v4 ∧ v4 < p0.length) <|
 bnd (Xay (p0.getD v4.toNat 0) 0 255) fun q8 =>
 sel (!q8) (
 some (.done (.ret false))) (
 some (.go (Xaa .i64 (v4 + 1))))) (
 some (.done (.out ())))
def Xi8 (p0 : (List Int)) : Option Bool :=
 bnd (
 sel ((p0.length : Int) != 0) (
 some ((p0.length : Int) != 8)) (
 some false)) fun v1 =>
 sel v1 (
 some false) (
 bnd (loop (Xg8 p0) 0) fun o9 => match o9 with
| .out v7 => (
 some true)
| .ret r => some r)
def Xlt (p0 : Xkb) : Option Bool :=
 bnd (
 bnd (Xi8 p0.Above) fun q2 =>
 sel q2 (
 bnd (Xi8 p0.Left) fun q3 =>
 sel q3 (
 bnd (Xay p0.Corner (-1) 255) fun q4 =>
 some q4) (
 some false)) (
 some false)) fun v1 =>
 some v1
def Xc7 (p0 : (List Int)) (p1 : Int) : Option Int :=
 sel ((p0.length : Int) == 0) (
 some 128) (
 req (0 ≤ p1 ∧ p1 < p0.length) <|
 some (p0.getD p1.toNat 0))
def Xgh (p0 : Xkb) (v2 : (Int × Int)) : Option (Lp (Int × Int) Int) :=
 sel (decide (v2.2 < (p0.Above.length : Int))) (
 req (0 ≤ v2.2 ∧ v2.2 < p0.Above.length) <|
 some (.go (Xaa .i64 (v2.1 + (p0.Above.getD v2.2.toNat 0)), Xaa .i64 (v2.2 + 1)))) (
 some (.done v2.1))
def Xgi (p0 : Xkb) (v7 : (Int × Int)) : Option (Lp (Int × Int) Int) :=
 sel (decide (v7.2 < (p0.Left.length : Int))) (
 req (0 ≤ v7.2 ∧ v7.2 < p0.Left.length) <|
 some (.go (Xaa .i64 (v7.1 + (p0.Left.getD v7.2.toNat 0)), Xaa .i64 (v7.2 + 1)))) (
 some (.done v7.1))
def Xiu (p0 : Xkb) : Option Int :=
 sel ((Xaa .i64 ((p0.Above.length : Int) + (p0.Left.length : Int))) == 0) (
 some 128) (
 req ((2 : Int) ≠ 0) <|
 bnd (loop (Xgh p0) (Xaa .i64 ((Xaa .i64 ((p0.Above.length : Int) + (p0.Left.length : Int))).tdiv 2), 0)) fun v4 =>
 bnd (loop (Xgi p0) (v4, 0)) fun v9 =>
 req ((Xaa .i64 ((p0.Above.length : Int) + (p0.Left.length : Int))) ≠ 0) <|
 some (Xaa .i64 (v9.tdiv (Xaa .i64 ((p0.Above.length : Int) + (p0.Left.length : Int))))))
def Xdc (p0 : Int) (p1 : Xkb) (v4 : Int) (v11 : (Int × (List Int))) : Option (Lp (Int × (List Int)) (List Int)) :=
 sel (decide (v11.1 < 64)) (
 bnd (
 req ((8 : Int) ≠ 0) <|
 bnd (Xc7 p1.Above (v11.1.tmod 8)) fun q20 =>
 req ((8 : Int) ≠ 0) <|
 bnd (Xc7 p1.Left (Xaa .i64 (v11.1.tdiv 8))) fun q21 =>
 sel (p0 == 0) (
 bnd (Xiu p1) fun q22 =>
 req ((v11.2.length + ([q22]).length) * 8 ≤ 140737488355328 ∧ v11.2.length + ([q22]).length ≤ maxLen) <|
 some (v11.2 ++ ([q22]))) (
 sel (p0 == 1) (
 req ((v11.2.length + ([q20]).length) * 8 ≤ 140737488355328 ∧ v11.2.length + ([q20]).length ≤ maxLen) <|
 some (v11.2 ++ ([q20]))) (
 sel (p0 == 2) (
 req ((v11.2.length + ([q21]).length) * 8 ≤ 140737488355328 ∧ v11.2.length + ([q21]).length ≤ maxLen) <|
 some (v11.2 ++ ([q21]))) (
 bnd (Xeq (Xaa .i64 ((Xaa .i64 (q21 + q20)) - v4)) 0 255) fun q23 =>
 req ((v11.2.length + ([q23]).length) * 8 ≤ 140737488355328 ∧ v11.2.length + ([q23]).length ≤ maxLen) <|
 some (v11.2 ++ ([q23])))))) fun v19 =>
 some (.go (Xaa .i64 (v11.1 + 1), v19))) (
 some (.done v11.2))
def Xfn (p0 : Int) (p1 : Xkb) : Option (List Int) :=
 bnd (
 bnd (Xlt p1) fun q2 =>
 sel q2 (
 bnd (Xay p0 0 3) fun q3 =>
 some (!q3)) (
 some true)) fun v1 =>
 sel v1 (
 some ([] : List Int)) (
 bnd (
 sel (decide (p1.Corner < 0)) (
 some 128) (
 some p1.Corner)) fun v4 =>
 bnd (loop (Xdc p0 p1 v4) (0, ([] : List Int))) fun v18 =>
 some v18)
def Xg7 (p0 : (List Int)) (v3 : Int) : Option (Lp Int (Ou Unit Bool)) :=
 sel (decide (v3 < 64)) (
 req (0 ≤ v3 ∧ v3 < p0.length) <|
 bnd (Xay (p0.getD v3.toNat 0) 0 255) fun q7 =>
 sel (!q7) (
 some (.done (.ret false))) (
 some (.go (Xaa .i64 (v3 + 1))))) (
 some (.done (.out ())))
def Xly (p0 : (List Int)) : Option Bool :=
 sel ((p0.length : Int) != 64) (
 some false) (
 bnd (loop (Xg7 p0) 0) fun o8 => match o8 with
| .out v6 => (
 some true)
| .ret r => some r)
def Xe1 (p0 : (List Int)) (p1 : (List Int)) (v6 : (Int × (List Int))) : Option (Lp (Int × (List Int)) (List Int)) :=
 sel (decide (v6.1 < 64)) (
 req (0 ≤ v6.1 ∧ v6.1 < p0.length) <|
 req (0 ≤ v6.1 ∧ v6.1 < p1.length) <|
 bnd (Xeq (Xaa .i64 ((p0.getD v6.1.toNat 0) + (p1.getD v6.1.toNat 0))) 0 255) fun q10 =>
 req ((v6.2.length + ([q10]).length) * 8 ≤ 140737488355328 ∧ v6.2.length + ([q10]).length ≤ maxLen) <|
 some (.go (Xaa .i64 (v6.1 + 1), (v6.2 ++ ([q10]))))) (
 some (.done v6.2))
def Xgw (p0 : (List Int)) (p1 : (List Int)) : Option (List Int) :=
 bnd (
 bnd (Xly p0) fun q2 =>
 sel q2 (
 bnd (Xdn p1 64 10000000) fun q3 =>
 some (!q3)) (
 some true)) fun v1 =>
 sel v1 (
 some ([] : List Int)) (
 bnd (loop (Xe1 p0 p1) (0, ([] : List Int))) fun v9 =>
 some v9)
def Xgt (p0 : Pic) (p1 : Int) (p2 : Int) (v7 : (Int × (List Int))) : Option (Lp (Int × (List Int)) (List Int)) :=
 sel (decide (v7.1 < 64)) (
 req ((8 : Int) ≠ 0) <|
 req ((8 : Int) ≠ 0) <|
 bnd (Xfc p0 (Xaa .i64 (p1 + (v7.1.tmod 8))) (Xaa .i64 (p2 + (Xaa .i64 (v7.1.tdiv 8))))) fun q11 =>
 req ((v7.2.length + ([q11]).length) * 8 ≤ 140737488355328 ∧ v7.2.length + ([q11]).length ≤ maxLen) <|
 some (.go (Xaa .i64 (v7.1 + 1), (v7.2 ++ ([q11]))))) (
 some (.done v7.2))
def Xls (p0 : Pic) (p1 : Int) (p2 : Int) : Option (List Int) :=
 bnd (
 bnd (Xgd p0) fun q2 =>
 sel q2 (
 bnd (Xay p1 (-1000) 1000) fun q3 =>
 sel q3 (
 bnd (Xay p2 (-1000) 1000) fun q4 =>
 some (!q4)) (
 some true)) (
 some true)) fun v1 =>
 sel v1 (
 some ([] : List Int)) (
 bnd (loop (Xgt p0 p1 p2) (0, ([] : List Int))) fun v10 =>
 some v10)
def Xcq (p0 : Pic) (p1 : Pic) (p2 : Int) (p3 : Int) (p4 : Xj9) (p5 : Int) (p6 : Int) (p7 : Xa1) : Option ((List Int) × Bool) :=
 bnd (
 bnd (Xi7 p0 p5 p6) fun q2 =>
 sel q2 (
 bnd (Xay p2 0 256) fun q3 =>
 sel q3 (
 bnd (Xay p3 0 256) fun q4 =>
 sel q4 (
 bnd (Xdu p7) fun q5 =>
 sel q5 (
 bnd (Xgu p4) fun q6 =>
 some (!q6)) (
 some true)) (
 some true)) (
 some true)) (
 some true)) fun v1 =>
 sel v1 (
 some (([] : List Int), false)) (
 sel (p7.Kind == 2) (
 bnd (Xgv p0 p5 p6) fun q7 =>
 bnd (Xdd p7.Levels p4) fun q8 =>
 bnd (Xfn p7.Mode q7.1) fun q9 =>
 bnd (Xgw q9 q8.1) fun q10 =>
 some (q10, true)) (
 bnd (
 sel p4.Key (
 some true) (
 bnd (Xgd p1) fun q12 =>
 some (!q12))) fun v11 =>
 sel v11 (
 some (([] : List Int), false)) (
 bnd (Xls p1 (Xaa .i64 ((Xaa .i64 (p2 + p5)) + p7.Dx)) (Xaa .i64 ((Xaa .i64 (p3 + p6)) + p7.Dy))) fun q13 =>
 sel (p7.Kind == 0) (
 some (q13, true)) (
 bnd (Xdd p7.Levels p4) fun q14 =>
 bnd (Xgw q13 q14.1) fun q15 =>
 some (q15, true)))))
def Xe4 (p0 : Pic) (p1 : Int) (p2 : Int) (p3 : (List Int)) (v2 : (Int × (List Int))) : Option (Lp (Int × (List Int)) (List Int)) :=
 sel (decide (v2.1 < 64)) (
 req ((8 : Int) ≠ 0) <|
 req ((8 : Int) ≠ 0) <|
 req (0 ≤ v2.1 ∧ v2.1 < p3.length) <|
 req (0 ≤ (Xaa .i64 ((Xaa .i64 ((Xaa .i64 ((Xaa .i64 (p2 + (Xaa .i64 (v2.1.tdiv 8)))) * p0.Wide)) + p1)) + (v2.1.tmod 8))) ∧ (Xaa .i64 ((Xaa .i64 ((Xaa .i64 ((Xaa .i64 (p2 + (Xaa .i64 (v2.1.tdiv 8)))) * p0.Wide)) + p1)) + (v2.1.tmod 8))) < v2.2.length) <|
 req ((Xaa .i64 ((Xaa .i64 ((Xaa .i64 ((Xaa .i64 (p2 + (Xaa .i64 (v2.1.tdiv 8)))) * p0.Wide)) + p1)) + (v2.1.tmod 8))).toNat < v2.2.length) <|
 some (.go (Xaa .i64 (v2.1 + 1), (v2.2.set ((Xaa .i64 ((Xaa .i64 ((Xaa .i64 ((Xaa .i64 (p2 + (Xaa .i64 (v2.1.tdiv 8)))) * p0.Wide)) + p1)) + (v2.1.tmod 8))).toNat) (Xaa .u8 ((p3.getD v2.1.toNat 0))))))) (
 some (.done v2.2))
def Xg9 (p0 : Pic) (p1 : Int) (p2 : Int) (p3 : (List Int)) : Option Pic :=
 req (p0.Dots.size ≤ maxLen) <|
 bnd (loop (Xe4 p0 p1 p2 p3) (0, (Xav p0.Dots))) fun v4 =>
 some (⟨p0.Wide, p0.High, (strOfNums v4)⟩ : Pic)
def Xbd (p1 : Xph) (p2 : Xj9) (p4 : (List Xa1)) (v9 : (Int × Int × Int × Int × ByteArray)) (v16 : (Int × Int × Int × ByteArray)) : Option (Lp (Int × Int × Int × ByteArray) (Int × Int × ByteArray)) :=
 sel (decide (v16.1 < (p4.length : Int))) (
 req ((8 : Int) ≠ 0) <|
 req ((Xaa .i64 (p1.Wide.tdiv 8)) ≠ 0) <|
 req ((8 : Int) ≠ 0) <|
 req ((Xaa .i64 (p1.Wide.tdiv 8)) ≠ 0) <|
 req (0 ≤ v16.1 ∧ v16.1 < p4.length) <|
 bnd (Xcq (⟨v16.2.1, v16.2.2.1, v16.2.2.2⟩ : Pic) (⟨v9.2.2.1, v9.2.2.2.1, v9.2.2.2.2⟩ : Pic) v9.1 v9.2.1 p2 (Xaa .i64 (8 * (v16.1.tmod (Xaa .i64 (p1.Wide.tdiv 8))))) (Xaa .i64 (8 * (Xaa .i64 (v16.1.tdiv (Xaa .i64 (p1.Wide.tdiv 8)))))) (⟨(p4.getD v16.1.toNat Xbv).Kind, (p4.getD v16.1.toNat Xbv).Mode, (p4.getD v16.1.toNat Xbv).Dx, (p4.getD v16.1.toNat Xbv).Dy, (p4.getD v16.1.toNat Xbv).Levels⟩ : Xa1)) fun q21 =>
 bnd (Xg9 (⟨v16.2.1, v16.2.2.1, v16.2.2.2⟩ : Pic) (Xaa .i64 (8 * (v16.1.tmod (Xaa .i64 (p1.Wide.tdiv 8))))) (Xaa .i64 (8 * (Xaa .i64 (v16.1.tdiv (Xaa .i64 (p1.Wide.tdiv 8)))))) q21.1) fun q22 =>
 some (.go (Xaa .i64 (v16.1 + 1), q22.Wide, q22.High, q22.Dots))) (
 some (.done (v16.2.1, v16.2.2.1, v16.2.2.2)))
def Xj2 (p0 : Pic) (p1 : Xph) (p2 : Xj9) (p3 : Bool) (p4 : (List Xa1)) : Option (Pic × Bool) :=
 bnd (
 bnd (Xja p1.Wide) fun q2 =>
 sel q2 (
 bnd (Xja p1.High) fun q3 =>
 sel q3 (
 bnd (Xay p1.Left 0 256) fun q4 =>
 sel q4 (
 bnd (Xay p1.Top 0 256) fun q5 =>
 sel q5 (
 bnd (Xpe p4 p2) fun q6 =>
 sel q6 (
 req ((8 : Int) ≠ 0) <|
 req ((8 : Int) ≠ 0) <|
 some ((p4.length : Int) != (Xaa .i64 ((Xaa .i64 (p1.Wide.tdiv 8)) * (Xaa .i64 (p1.High.tdiv 8)))))) (
 some true)) (
 some true)) (
 some true)) (
 some true)) (
 some true)) fun v1 =>
 sel v1 (
 some ((⟨0, 0, ⟨#[]⟩⟩ : Pic), false)) (
 bnd (
 sel p2.Key (
 some false) (
 bnd (Xb6 p0 p1.Left p1.Top p1.Wide p1.High) fun q8 =>
 some (!q8))) fun v7 =>
 sel v7 (
 some ((⟨0, 0, ⟨#[]⟩⟩ : Pic), false)) (
 bnd (
 bnd (
 sel p2.Key (
 some false) (
 some p3)) fun v10 =>
 sel v10 (
 bnd (Xmv p0 p1) fun q11 =>
 some (0, 0, q11.1.Wide, q11.1.High, q11.1.Dots)) (
 some (p1.Left, p1.Top, p0.Wide, p0.High, p0.Dots))) fun v9 =>
 bnd (Xna p1.Wide p1.High) fun q12 =>
 bnd (loop (Xbd p1 p2 p4 v9) (0, q12.Wide, q12.High, q12.Dots)) fun v20 =>
 some ((⟨v20.1, v20.2.1, v20.2.2⟩ : Pic), true)))
def Xbr (p0 : Pic) (p1 : Pic) (p2 : Int) (p3 : Int) (v10 : (Int × (List Int))) (v19 : (Int × (List Int))) : Option (Lp (Int × (List Int)) (List Int)) :=
 sel (decide (v19.1 < p1.Wide)) (
 req (0 ≤ (Xaa .i64 ((Xaa .i64 (v10.1 * p1.Wide)) + v19.1)) ∧ (Xaa .i64 ((Xaa .i64 (v10.1 * p1.Wide)) + v19.1)) < p1.Dots.size) <|
 req (0 ≤ (Xaa .i64 ((Xaa .i64 ((Xaa .i64 ((Xaa .i64 (p3 + v10.1)) * p0.Wide)) + p2)) + v19.1)) ∧ (Xaa .i64 ((Xaa .i64 ((Xaa .i64 ((Xaa .i64 (p3 + v10.1)) * p0.Wide)) + p2)) + v19.1)) < v19.2.length) <|
 req ((Xaa .i64 ((Xaa .i64 ((Xaa .i64 ((Xaa .i64 (p3 + v10.1)) * p0.Wide)) + p2)) + v19.1)).toNat < v19.2.length) <|
 some (.go (Xaa .i64 (v19.1 + 1), (v19.2.set ((Xaa .i64 ((Xaa .i64 ((Xaa .i64 ((Xaa .i64 (p3 + v10.1)) * p0.Wide)) + p2)) + v19.1)).toNat) (Xb7 p1.Dots (Xaa .i64 ((Xaa .i64 (v10.1 * p1.Wide)) + v19.1))))))) (
 some (.done v19.2))
def Xde (p0 : Pic) (p1 : Pic) (p2 : Int) (p3 : Int) (v10 : (Int × (List Int))) : Option (Lp (Int × (List Int)) (List Int)) :=
 sel (decide (v10.1 < p1.High)) (
 bnd (loop (Xbr p0 p1 p2 p3 v10) (0, v10.2)) fun v21 =>
 some (.go (Xaa .i64 (v10.1 + 1), v21))) (
 some (.done v10.2))
def Xnd (p0 : Pic) (p1 : Pic) (p2 : Int) (p3 : Int) : Option (Pic × Bool) :=
 bnd (
 bnd (Xgd p1) fun q2 =>
 sel q2 (
 bnd (Xb6 p0 p2 p3 p1.Wide p1.High) fun q3 =>
 some (!q3)) (
 some true)) fun v1 =>
 sel v1 (
 some (p0, false)) (
 req (p0.Dots.size ≤ maxLen) <|
 bnd (loop (Xde p0 p1 p2 p3) (0, (Xav p0.Dots))) fun v17 =>
 some ((⟨p0.Wide, p0.High, (strOfNums v17)⟩ : Pic), true))
def Xj8 (p0 : Xa0) (p1 : Int) (p2 : ByteArray) : Option (Xa0 × Int × Pic) :=
 sel (!p0.HasPar) (
 some (p0, 4, (⟨0, 0, ⟨#[]⟩⟩ : Pic))) (
 bnd (Xhr p0.Seq p0.Par p2) fun q1 =>
 sel (!q1.2.2) (
 some (p0, 5, (⟨0, 0, ⟨#[]⟩⟩ : Pic))) (
 sel (q1.1.Tile != p0.Got) (
 some (p0, 6, (⟨0, 0, ⟨#[]⟩⟩ : Pic))) (
 bnd (
 sel (p0.Frame != (-1)) (
 some (p0.Frame != q1.1.Frame)) (
 some false)) fun v2 =>
 sel v2 (
 some (p0, 7, (⟨0, 0, ⟨#[]⟩⟩ : Pic))) (
 bnd (
 sel (p1 == 1) (
 some (!p0.HasRef)) (
 some false)) fun v3 =>
 sel v3 (
 some (p0, 8, (⟨0, 0, ⟨#[]⟩⟩ : Pic))) (
 bnd (Xf6 p0.Seq q1.1.Tile) fun q4 =>
 bnd (Xjy p2 q1.2.1 q4 (⟨(p1 == 5), q1.1.Qp, p0.Par.Large, p0.Par.Exact⟩ : Xj9)) fun q5 =>
 sel (!q5.2) (
 some (p0, 9, (⟨0, 0, ⟨#[]⟩⟩ : Pic))) (
 bnd (Xhu p0.Seq q1.1.Tile) fun q6 =>
 bnd (Xj2 p0.Ref q6.1 (⟨(p1 == 5), q1.1.Qp, p0.Par.Large, p0.Par.Exact⟩ : Xj9) p0.Par.Confined q5.1) fun q7 =>
 bnd (
 sel (p0.Got == 0) (
 bnd (Xis p0.Seq) fun q9 =>
 bnd (Xna q9.1 q9.2) fun q10 =>
 some (q10.Wide, q10.High, q10.Dots)) (
 some (p0.Now.Wide, p0.Now.High, p0.Now.Dots))) fun v8 =>
 bnd (Xnd (⟨v8.1, v8.2.1, v8.2.2⟩ : Pic) q7.1 q6.1.Left q6.1.Top) fun q11 =>
 bnd (Xfo p0.Seq) fun q12 =>
 sel (decide ((Xaa .i64 (p0.Got + 1)) < q12)) (
 some ((⟨p0.HasSeq, p0.HasPar, p0.HasRef, p0.Seq, p0.Par, q1.1.Frame, Xaa .i64 (p0.Got + 1), q11.1, p0.Ref⟩ : Xa0), 0, (⟨0, 0, ⟨#[]⟩⟩ : Pic))) (
 req (0 ≤ (Xaa .u64 (p0.Seq.Bits))) <|
 req ((Xaa .i64 (1 * 2 ^ min (Xaa .u64 (p0.Seq.Bits)).toNat (IntKind.bits .i64))) ≠ 0) <|
 some ((⟨p0.HasSeq, p0.HasPar, true, p0.Seq, p0.Par, ((Xaa .i64 (q1.1.Frame + 1)).tmod (Xaa .i64 (1 * 2 ^ min (Xaa .u64 (p0.Seq.Bits)).toNat (IntKind.bits .i64)))), 0, (⟨0, 0, ⟨#[]⟩⟩ : Pic), q11.1⟩ : Xa0), 0, q11.1))))))))
def Xnx (p0 : Xa0) (p1 : ByteArray) : Option (Xa0 × Int × Pic) :=
 bnd (Xo6 p0) fun q1 =>
 sel (!q1) (
 some (p0, 1, (⟨0, 0, ⟨#[]⟩⟩ : Pic))) (
 bnd (Xky p1) fun q2 =>
 sel (!q2.2.2) (
 some (p0, 2, (⟨0, 0, ⟨#[]⟩⟩ : Pic))) (
 sel (q2.1 == 7) (
 bnd (Xfh q2.2.1 0) fun q3 =>
 bnd (
 sel q3.2.2 (
 some (q3.2.1 != (q2.2.1.size : Int))) (
 some true)) fun v4 =>
 sel v4 (
 some (p0, 3, (⟨0, 0, ⟨#[]⟩⟩ : Pic))) (
 some ((⟨true, false, false, q3.1, (⟨0, false, false, false⟩ : Par), (-1), 0, (⟨0, 0, ⟨#[]⟩⟩ : Pic), (⟨0, 0, ⟨#[]⟩⟩ : Pic)⟩ : Xa0), 0, (⟨0, 0, ⟨#[]⟩⟩ : Pic)))) (
 sel (q2.1 == 8) (
 bnd (Xfg q2.2.1 0) fun q5 =>
 bnd (
 sel q5.2.2 (
 some (q5.2.1 != (q2.2.1.size : Int))) (
 some true)) fun v6 =>
 sel v6 (
 some (p0, 3, (⟨0, 0, ⟨#[]⟩⟩ : Pic))) (
 bnd (
 sel p0.HasSeq (
 some (decide (p0.Got > 0))) (
 some true)) fun v7 =>
 sel v7 (
 some (p0, 4, (⟨0, 0, ⟨#[]⟩⟩ : Pic))) (
 some ((⟨p0.HasSeq, true, p0.HasRef, p0.Seq, q5.1, p0.Frame, p0.Got, p0.Now, p0.Ref⟩ : Xa0), 0, (⟨0, 0, ⟨#[]⟩⟩ : Pic))))) (
 bnd (Xj8 p0 q2.1 q2.2.1) fun q8 =>
 some (q8.1, q8.2.1, q8.2.2)))))
def Xg3 (p0 : Seq) : Option Seq :=
 req ((([] : List Int).length + p0.Cols.length) * 8 ≤ 140737488355328 ∧ ([] : List Int).length + p0.Cols.length ≤ maxLen) <|
 req ((([] : List Int).length + p0.Rows.length) * 8 ≤ 140737488355328 ∧ ([] : List Int).length + p0.Rows.length ≤ maxLen) <|
 some (⟨p0.Level, p0.Bits, (([] : List Int) ++ p0.Cols), (([] : List Int) ++ p0.Rows)⟩ : Seq)
def Xi5 (p0 : Xa0) (p1 : ByteArray) : Option (Xa0 × Int × Pic) :=
 bnd (Xnx p0 p1) fun q1 =>
 bnd (Xg3 q1.1.Seq) fun q2 =>
 some ((⟨q1.1.HasSeq, q1.1.HasPar, q1.1.HasRef, q2, q1.1.Par, q1.1.Frame, q1.1.Got, q1.1.Now, q1.1.Ref⟩ : Xa0), q1.2.1, q1.2.2)
def Xem (p0 : (List Int)) : Option (List Int) :=
 req ((([] : List Int).length + p0.length) * 8 ≤ 140737488355328 ∧ ([] : List Int).length + p0.length ≤ maxLen) <|
 some (([] : List Int) ++ p0)
def Xlm (p0 : Seq) : Option Seq :=
 bnd (Xem p0.Cols) fun q1 =>
 bnd (Xem p0.Rows) fun q2 =>
 some (⟨p0.Level, p0.Bits, q1, q2⟩ : Seq)
def Xct (p0 : Xa0) : Option Xa0 :=
 bnd (Xlm p0.Seq) fun q1 =>
 some (⟨p0.HasSeq, p0.HasPar, p0.HasRef, q1, p0.Par, p0.Frame, p0.Got, p0.Now, p0.Ref⟩ : Xa0)
def Xln (p0 : Seq) : Option Bool :=
 bnd (
 sel (p0.Level == 0) (
 sel (p0.Bits == 0) (
 sel ((p0.Cols.length : Int) == 0) (
 some ((p0.Rows.length : Int) == 0)) (
 some false)) (
 some false)) (
 some false)) fun v1 =>
 some v1
def Xat (p0 : Int) (p1 : Int) (p2 : Int) : Option Bool :=
 bnd (
 sel (decide (p0 ≥ p1)) (
 some (decide (p0 ≤ p2))) (
 some false)) fun v1 =>
 some v1
def Xds (p0 : (List Int)) (v2 : (Int × Int)) : Option (Lp (Int × Int) Int) :=
 sel (decide (v2.2 < (p0.length : Int))) (
 req (0 ≤ v2.2 ∧ v2.2 < p0.length) <|
 some (.go (Xaa .i64 (v2.1 + (p0.getD v2.2.toNat 0)), Xaa .i64 (v2.2 + 1)))) (
 some (.done v2.1))
def Xcb (p0 : (List Int)) : Option Int :=
 bnd (loop (Xds p0) (0, 0)) fun v4 =>
 some v4
def Xcl (p0 : Seq) (v11 : Int) (v26 : Int) : Option (Lp Int (Ou Unit Int)) :=
 sel (decide (v26 < ((([p0.Cols, p0.Rows]).getD v11.toNat Xk4).length : Int))) (
 req (0 ≤ v26 ∧ v26 < (([p0.Cols, p0.Rows]).getD v11.toNat Xk4).length) <|
 bnd (Xat ((([p0.Cols, p0.Rows]).getD v11.toNat Xk4).getD v26.toNat 0) 1 8) fun q30 =>
 sel (!q30) (
 some (.done (.ret 0))) (
 some (.go (Xaa .i64 (v26 + 1))))) (
 some (.done (.out ())))
def Xdi (p0 : Seq) (v11 : Int) : Option (Lp Int (Ou Unit Int)) :=
 sel (decide (v11 < (([p0.Cols, p0.Rows]).length : Int))) (
 req (0 ≤ v11 ∧ v11 < ([p0.Cols, p0.Rows]).length) <|
 req (v11.toNat < ([p0.Cols, p0.Rows]).length) <|
 bnd (Xat ((([p0.Cols, p0.Rows]).getD v11.toNat Xk4).length : Int) 1 4) fun q23 =>
 sel (!q23) (
 some (.done (.ret 0))) (
 bnd (loop (Xcl p0 v11) 0) fun o31 => match o31 with
| .out v29 => (
 some (.go (Xaa .i64 (v11 + 1))))
| .ret r => some (.done (.ret r)))) (
 some (.done (.out ())))
def Xh6 (p0 : Seq) : Option Int :=
 bnd (loop (Xdi p0) 0) fun o32 => match o32 with
| .out v22 => (
 bnd (Xcb p0.Cols) fun q33 =>
 bnd (Xcb p0.Rows) fun q34 =>
 some (Xaa .i64 (q33 * q34)))
| .ret r => some r
def Xe8 (p0 : Int) : Option Int :=
 bnd (Xat p0 1 3) fun q1 =>
 sel (!q1) (
 some 0) (
 req (0 ≤ (Xaa .i64 (p0 - 1)) ∧ (Xaa .i64 (p0 - 1)) < ([16, 64, 256]).length) <|
 req ((Xaa .i64 (p0 - 1)).toNat < ([16, 64, 256]).length) <|
 some (([16, 64, 256]).getD ((Xaa .i64 (p0 - 1)).toNat) 0))
def Xgb (p0 : Seq) : Option Bool :=
 bnd (
 bnd (Xh6 p0) fun q2 =>
 bnd (Xe8 p0.Level) fun q3 =>
 bnd (Xat q2 1 q3) fun q4 =>
 sel q4 (
 bnd (Xat p0.Bits 3 8) fun q5 =>
 some q5) (
 some false)) fun v1 =>
 some v1
def Xiy (p0 : Par) : Option Bool :=
 bnd (
 bnd (Xat p0.Qp 0 40) fun q2 =>
 sel q2 (
 sel p0.Large (
 some (!p0.Exact)) (
 some true)) (
 some false)) fun v1 =>
 some v1
def Xfl (p0 : Seq) : Option Int :=
 bnd (Xgb p0) fun q1 =>
 sel (!q1) (
 some 0) (
 some (Xaa .i64 ((p0.Cols.length : Int) * (p0.Rows.length : Int))))
def Xir (p0 : Seq) : Option (Int × Int) :=
 bnd (Xgb p0) fun q1 =>
 sel (!q1) (
 some (0, 0)) (
 bnd (Xcb p0.Cols) fun q2 =>
 bnd (Xcb p0.Rows) fun q3 =>
 some (Xaa .i64 (8 * q2), Xaa .i64 (8 * q3)))
def Xdh (p0 : Pic) : Option Bool :=
 bnd (
 bnd (Xat p0.Wide 1 256) fun q2 =>
 sel q2 (
 bnd (Xat p0.High 1 256) fun q3 =>
 sel q3 (
 some ((p0.Dots.size : Int) == (Xaa .i64 (p0.Wide * p0.High)))) (
 some false)) (
 some false)) fun v1 =>
 some v1
def Xot (p0 : Pic) (p1 : Seq) : Option Bool :=
 bnd (Xir p1) fun q1 =>
 bnd (
 bnd (Xdh p0) fun q3 =>
 sel q3 (
 sel (p0.Wide == q1.1) (
 some (p0.High == q1.2)) (
 some false)) (
 some false)) fun v2 =>
 some v2
def Xoj (p0 : Xa0) : Option Bool :=
 sel (!p0.HasSeq) (
 bnd (
 sel p0.HasPar (
 some false) (
 sel p0.HasRef (
 some false) (
 bnd (Xln p0.Seq) fun q2 =>
 sel q2 (
 sel (((p0.Par.Qp == 0) && ((p0.Par.Large == false) && ((p0.Par.Exact == false) && (p0.Par.Confined == false)))) == true) (
 sel (p0.Frame == (-1)) (
 sel (p0.Got == 0) (
 sel (((p0.Now.Wide == 0) && ((p0.Now.High == 0) && (p0.Now.Dots.toList == (⟨#[]⟩ : ByteArray).toList))) == true) (
 some (((p0.Ref.Wide == 0) && ((p0.Ref.High == 0) && (p0.Ref.Dots.toList == (⟨#[]⟩ : ByteArray).toList))) == true)) (
 some false)) (
 some false)) (
 some false)) (
 some false)) (
 some false)))) fun v1 =>
 some v1) (
 bnd (
 bnd (Xgb p0.Seq) fun q4 =>
 sel q4 (
 sel p0.HasPar (
 bnd (Xiy p0.Par) fun q5 =>
 sel q5 (
 some false) (
 some true)) (
 sel (((p0.Par.Qp == 0) && ((p0.Par.Large == false) && ((p0.Par.Exact == false) && (p0.Par.Confined == false)))) == false) (
 some true) (
 sel (p0.Got != 0) (
 some true) (
 some p0.HasRef)))) (
 some true)) fun v3 =>
 sel v3 (
 some false) (
 bnd (
 req (0 ≤ p0.Seq.Bits) <|
 bnd (Xat p0.Frame (-1) (Xaa .i64 ((Xaa .i64 (1 * 2 ^ min p0.Seq.Bits.toNat (IntKind.bits .i64))) - 1))) fun q7 =>
 sel q7 (
 bnd (Xfl p0.Seq) fun q8 =>
 bnd (Xat p0.Got 0 (Xaa .i64 (q8 - 1))) fun q9 =>
 some (!q9)) (
 some true)) fun v6 =>
 sel v6 (
 some false) (
 bnd (
 sel (decide (p0.Got > 0)) (
 sel (p0.Frame == (-1)) (
 some true) (
 bnd (Xot p0.Now p0.Seq) fun q11 =>
 sel q11 (
 sel (p0.Got == 0) (
 some (((p0.Now.Wide == 0) && ((p0.Now.High == 0) && (p0.Now.Dots.toList == (⟨#[]⟩ : ByteArray).toList))) == false)) (
 some false)) (
 some true))) (
 sel (p0.Got == 0) (
 some (((p0.Now.Wide == 0) && ((p0.Now.High == 0) && (p0.Now.Dots.toList == (⟨#[]⟩ : ByteArray).toList))) == false)) (
 some false))) fun v10 =>
 sel v10 (
 some false) (
 sel p0.HasRef (
 bnd (Xot p0.Ref p0.Seq) fun q12 =>
 some q12) (
 some (((p0.Ref.Wide == 0) && ((p0.Ref.High == 0) && (p0.Ref.Dots.toList == (⟨#[]⟩ : ByteArray).toList))) == true))))))
def Xm4 (p0 : Int) : Option Bool :=
 bnd (
 sel (p0 == 1) (
 some true) (
 sel (p0 == 5) (
 some true) (
 sel (p0 == 7) (
 some true) (
 some (p0 == 8))))) fun v1 =>
 some v1
def Xed (p0 : ByteArray) (v3 : (Int × (List Int))) : Option (Lp (Int × (List Int)) (List Int)) :=
 sel (decide (v3.1 < (Xaa .i64 (8 * (p0.size : Int))))) (
 req ((8 : Int) ≠ 0) <|
 req (0 ≤ (Xaa .i64 (v3.1.tdiv 8)) ∧ (Xaa .i64 (v3.1.tdiv 8)) < p0.size) <|
 req ((8 : Int) ≠ 0) <|
 req (0 ≤ (Xaa .i64 (7 - (v3.1.tmod 8)))) <|
 req ((v3.2.length + ([Xaa .u8 (48 + (IntKind.wrap .u8 (BitVec.ofInt (IntKind.bits .u8) ((Xb7 p0 (Xaa .i64 (v3.1.tdiv 8))) / 2 ^ min (Xaa .i64 (7 - (v3.1.tmod 8))).toNat (IntKind.bits .u8)) &&& BitVec.ofInt (IntKind.bits .u8) 1).toNat))]).length) * 1 ≤ 140737488355328 ∧ v3.2.length + ([Xaa .u8 (48 + (IntKind.wrap .u8 (BitVec.ofInt (IntKind.bits .u8) ((Xb7 p0 (Xaa .i64 (v3.1.tdiv 8))) / 2 ^ min (Xaa .i64 (7 - (v3.1.tmod 8))).toNat (IntKind.bits .u8)) &&& BitVec.ofInt (IntKind.bits .u8) 1).toNat))]).length ≤ maxLen) <|
 some (.go (Xaa .i64 (v3.1 + 1), (v3.2 ++ ([Xaa .u8 (48 + (IntKind.wrap .u8 (BitVec.ofInt (IntKind.bits .u8) ((Xb7 p0 (Xaa .i64 (v3.1.tdiv 8))) / 2 ^ min (Xaa .i64 (7 - (v3.1.tmod 8))).toNat (IntKind.bits .u8)) &&& BitVec.ofInt (IntKind.bits .u8) 1).toNat))]))))) (
 some (.done v3.2))
def Xee (v5 : (List Int)) (v8 : Int) : Option (Lp Int Int) :=
 req (0 ≤ (Xaa .i64 (v8 - 1)) ∧ (Xaa .i64 (v8 - 1)) < v5.length) <|
 req ((Xaa .i64 (v8 - 1)).toNat < v5.length) <|
 sel ((v5.getD ((Xaa .i64 (v8 - 1)).toNat) 0) == 48) (
 some (.go (Xaa .i64 (v8 - 1)))) (
 some (.done v8))
def Xhc (p0 : ByteArray) : Option (ByteArray × Bool) :=
 bnd (
 sel ((Xaa .i64 (8 * (p0.size : Int))) == 0) (
 some true) (
 req (0 ≤ (Xaa .i64 ((p0.size : Int) - 1)) ∧ (Xaa .i64 ((p0.size : Int) - 1)) < p0.size) <|
 sel ((Xb7 p0 (Xaa .i64 ((p0.size : Int) - 1))) == 0) (
 some true) (
 some (decide ((Xaa .i64 (8 * (p0.size : Int))) > 400008))))) fun v1 =>
 sel v1 (
 some (⟨#[]⟩, false)) (
 req (0 ≤ (0 : Int) ∧ (0 : Int) ≤ (Xaa .i64 (8 * (p0.size : Int))) ∧ (Xaa .i64 (8 * (p0.size : Int))) * 1 ≤ 281474976710656) <|
 bnd (loop (Xed p0) (0, (List.replicate (0 : Int).toNat (0 : Int)))) fun v5 =>
 bnd (loop (Xee v5) (Xaa .i64 (8 * (p0.size : Int)))) fun v10 =>
 sel (decide ((Xaa .i64 (v10 - 1)) > 400000)) (
 some (⟨#[]⟩, false)) (
 req (0 ≤ (0 : Int) ∧ (0 : Int) ≤ (Xaa .i64 (v10 - 1)) ∧ (Xaa .i64 (v10 - 1)) ≤ (v5.length : Int)) <|
 req ((0 : Int).toNat + ((Xaa .i64 (v10 - 1)).toNat - (0 : Int).toNat) ≤ v5.length) <|
 some ((strOfNums ((v5.drop ((0 : Int).toNat)).take ((Xaa .i64 (v10 - 1)).toNat - (0 : Int).toNat))), true)))
def Xkh (p0 : ByteArray) : Option (Int × ByteArray × Bool) :=
 bnd (
 sel (p0.toList == (⟨#[]⟩ : ByteArray).toList) (
 some true) (
 req (0 ≤ (0 : Int) ∧ (0 : Int) < p0.size) <|
 bnd (Xm4 (Xaa .i64 ((Xb7 p0 (0 : Int))))) fun q2 =>
 some (!q2))) fun v1 =>
 sel v1 (
 some (0, ⟨#[]⟩, false)) (
 req (0 ≤ (1 : Int) ∧ (1 : Int) ≤ (p0.size : Int) ∧ (p0.size : Int) ≤ (p0.size : Int)) <|
 bnd (Xhc (p0.extract (1 : Int).toNat (p0.size : Int).toNat)) fun q3 =>
 sel (!q3.2) (
 some (0, ⟨#[]⟩, false)) (
 req (0 ≤ (0 : Int) ∧ (0 : Int) < p0.size) <|
 some (Xaa .i64 ((Xb7 p0 (0 : Int))), q3.1, true)))
def Xhe (p0 : ByteArray) (v3 : Int) : Option (Lp Int (Ou Unit Bool)) :=
 sel (decide (v3 < (p0.size : Int))) (
 bnd (
 req (0 ≤ v3 ∧ v3 < p0.size) <|
 sel ((Xb7 p0 v3) != 48) (
 req (0 ≤ v3 ∧ v3 < p0.size) <|
 some ((Xb7 p0 v3) != 49)) (
 some false)) fun v7 =>
 sel v7 (
 some (.done (.ret false))) (
 some (.go (Xaa .i64 (v3 + 1))))) (
 some (.done (.out ())))
def Xi1 (p0 : ByteArray) : Option Bool :=
 sel (decide ((p0.size : Int) > 400000)) (
 some false) (
 bnd (loop (Xhe p0) 0) fun o8 => match o8 with
| .out v6 => (
 some true)
| .ret r => some r)
def Xex (p0 : ByteArray) (p1 : Int) : Option Xka :=
 bnd (
 bnd (Xi1 p0) fun q2 =>
 sel q2 (
 bnd (Xat p1 0 (p0.size : Int)) fun q3 =>
 some (!q3)) (
 some true)) fun v1 =>
 some (⟨p0, p1, v1⟩ : Xka)
def Xf0 (p0 : Xka) (p1 : Int) (v3 : (Int × Int)) : Option (Lp (Int × Int) Int) :=
 sel (decide (v3.2 < p1)) (
 req (0 ≤ (1 : Int)) <|
 req (0 ≤ (Xaa .i64 (p0.at_ + v3.2)) ∧ (Xaa .i64 (p0.at_ + v3.2)) < p0.row_.size) <|
 some (.go ((IntKind.wrap .i64 (BitVec.ofInt (IntKind.bits .i64) (Xaa .i64 (v3.1 * 2 ^ min (1 : Int).toNat (IntKind.bits .i64))) ||| BitVec.ofInt (IntKind.bits .i64) (Xaa .i64 (Xaa .u8 ((Xb7 p0.row_ (Xaa .i64 (p0.at_ + v3.2))) - 48)))).toNat), Xaa .i64 (v3.2 + 1)))) (
 some (.done v3.1))
def Xa4 (p0 : Xka) (p1 : Int) : Option (Int × Xka) :=
 bnd (
 sel p0.bad_ (
 some true) (
 some (decide ((Xaa .i64 ((p0.row_.size : Int) - p0.at_)) < p1)))) fun v1 =>
 sel v1 (
 some (0, (⟨p0.row_, p0.at_, true⟩ : Xka))) (
 bnd (loop (Xf0 p0 p1) (0, 0)) fun v5 =>
 some (v5, (⟨p0.row_, Xaa .i64 (p0.at_ + p1), p0.bad_⟩ : Xka)))
def Xd6 (p0 : Xka) (v3 : Int) : Option (Lp Int Int) :=
 bnd (
 sel p0.bad_ (
 some false) (
 sel (decide ((Xaa .i64 (p0.at_ + v3)) < (p0.row_.size : Int))) (
 req (0 ≤ (Xaa .i64 (p0.at_ + v3)) ∧ (Xaa .i64 (p0.at_ + v3)) < p0.row_.size) <|
 some ((Xb7 p0.row_ (Xaa .i64 (p0.at_ + v3))) == 48)) (
 some false))) fun v7 =>
 sel v7 (
 some (.go (Xaa .i64 (v3 + 1)))) (
 some (.done v3))
def Xbl (p0 : Xka) : Option (Int × Xka) :=
 bnd (loop (Xd6 p0) 0) fun v6 =>
 bnd (
 sel (decide (v6 > 20)) (
 some true) (
 some p0.bad_)) fun v9 =>
 bnd (Xa4 (⟨p0.row_, p0.at_, v9⟩ : Xka) (Xaa .i64 ((Xaa .i64 (2 * v6)) + 1))) fun q10 =>
 bnd (
 sel q10.2.bad_ (
 some true) (
 some (decide ((Xaa .i64 (q10.1 - 1)) > 1000000)))) fun v11 =>
 sel v11 (
 some (0, (⟨q10.2.row_, q10.2.at_, true⟩ : Xka))) (
 some (Xaa .i64 (q10.1 - 1), q10.2))
def Xa6 (q1 : (Int × Xka)) (v6 : (Int × ByteArray × Int × Bool × (List Int))) : Option (Lp (Int × ByteArray × Int × Bool × (List Int)) ((List Int) × ByteArray × Int × Bool)) :=
 bnd (
 sel (decide (v6.1 < q1.1)) (
 some (!v6.2.2.2.1)) (
 some false)) fun v11 =>
 sel v11 (
 bnd (Xbl (⟨v6.2.1, v6.2.2.1, v6.2.2.2.1⟩ : Xka)) fun q12 =>
 req ((v6.2.2.2.2.length + ([q12.1]).length) * 8 ≤ 140737488355328 ∧ v6.2.2.2.2.length + ([q12.1]).length ≤ maxLen) <|
 some (.go (Xaa .i64 (v6.1 + 1), q12.2.row_, q12.2.at_, q12.2.bad_, (v6.2.2.2.2 ++ ([q12.1]))))) (
 some (.done (v6.2.2.2.2, v6.2.1, v6.2.2.1, v6.2.2.2.1)))
def Xc3 (p0 : Xka) : Option ((List Int) × Xka) :=
 bnd (Xbl p0) fun q1 =>
 bnd (
 sel (decide (q1.1 > 4)) (
 some true) (
 some q1.2.bad_)) fun v2 =>
 bnd (loop (Xa6 q1) (0, q1.2.row_, q1.2.at_, v2, ([] : List Int))) fun v10 =>
 some (v10.1, (⟨v10.2.1, v10.2.2.1, v10.2.2.2⟩ : Xka))
def Xi0 (p0 : ByteArray) (p1 : Int) : Option (Seq × Int × Bool) :=
 bnd (Xex p0 p1) fun q1 =>
 bnd (Xbl q1) fun q2 =>
 bnd (Xa4 q2.2 4) fun q3 =>
 bnd (Xc3 q3.2) fun q4 =>
 bnd (Xc3 q4.2) fun q5 =>
 bnd (
 sel q5.2.bad_ (
 some true) (
 bnd (Xgb (⟨q2.1, q3.1, q4.1, q5.1⟩ : Seq)) fun q7 =>
 some (!q7))) fun v6 =>
 sel v6 (
 some ((⟨0, 0, [], []⟩ : Seq), 0, false)) (
 some ((⟨q2.1, q3.1, q4.1, q5.1⟩ : Seq), q5.2.at_, true))
def Xmy : Option Xa0 :=
 some (⟨false, false, false, (⟨0, 0, [], []⟩ : Seq), (⟨0, false, false, false⟩ : Par), (-1), 0, (⟨0, 0, ⟨#[]⟩⟩ : Pic), (⟨0, 0, ⟨#[]⟩⟩ : Pic)⟩ : Xa0)
def Xiz (p0 : ByteArray) (p1 : Int) : Option (Par × Int × Bool) :=
 bnd (Xex p0 p1) fun q1 =>
 bnd (Xa4 q1 6) fun q2 =>
 bnd (Xa4 q2.2 1) fun q3 =>
 bnd (Xa4 q3.2 1) fun q4 =>
 bnd (Xa4 q4.2 1) fun q5 =>
 bnd (
 sel q5.2.bad_ (
 some true) (
 bnd (Xiy (⟨q2.1, (q3.1 == 1), (q4.1 == 1), (q5.1 == 1)⟩ : Par)) fun q7 =>
 some (!q7))) fun v6 =>
 sel v6 (
 some ((⟨0, false, false, false⟩ : Par), 0, false)) (
 some ((⟨q2.1, (q3.1 == 1), (q4.1 == 1), (q5.1 == 1)⟩ : Par), q5.2.at_, true))
def Xm1 (p0 : Int) : Option (Int × Bool) :=
 bnd (Xat p0 0 1000000) fun q1 =>
 sel (!q1) (
 some (0, false)) (
 req ((2 : Int) ≠ 0) <|
 sel ((p0.tmod 2) == 1) (
 req ((2 : Int) ≠ 0) <|
 some (Xaa .i64 ((Xaa .i64 (p0 + 1)).tdiv 2), true)) (
 req ((2 : Int) ≠ 0) <|
 some (Xaa .i64 ((Xaa .i64 (0 - p0)).tdiv 2), true)))
def Xb2 (p0 : Xka) : Option (Int × Xka) :=
 bnd (Xbl p0) fun q1 =>
 bnd (Xm1 q1.1) fun q2 =>
 bnd (
 sel q1.2.bad_ (
 some true) (
 some (!q2.2))) fun v3 =>
 some (q2.1, (⟨q1.2.row_, q1.2.at_, v3⟩ : Xka))
def Xm0 (p0 : Seq) (p1 : Par) (p2 : Yhf) : Option Bool :=
 bnd (
 bnd (Xgb p0) fun q2 =>
 sel q2 (
 bnd (Xiy p1) fun q3 =>
 sel q3 (
 bnd (Xfl p0) fun q4 =>
 bnd (Xat p2.Tile 0 (Xaa .i64 (q4 - 1))) fun q5 =>
 sel q5 (
 req (0 ≤ p0.Bits) <|
 bnd (Xat p2.Frame 0 (Xaa .i64 ((Xaa .i64 (1 * 2 ^ min p0.Bits.toNat (IntKind.bits .i64))) - 1))) fun q6 =>
 sel q6 (
 bnd (Xat p2.Qp 0 40) fun q7 =>
 some q7) (
 some false)) (
 some false)) (
 some false)) (
 some false)) fun v1 =>
 some v1
def Xhd (p0 : Seq) (p1 : Par) (p2 : ByteArray) : Option (Yhf × Int × Bool) :=
 bnd (Xex p2 0) fun q1 =>
 bnd (
 bnd (Xgb p0) fun q3 =>
 sel q3 (
 bnd (Xiy p1) fun q4 =>
 some (!q4)) (
 some true)) fun v2 =>
 sel v2 (
 some ((⟨0, 0, 0⟩ : Yhf), 0, false)) (
 bnd (Xbl q1) fun q5 =>
 bnd (Xa4 q5.2 p0.Bits) fun q6 =>
 bnd (Xb2 q6.2) fun q7 =>
 bnd (
 sel q7.2.bad_ (
 some true) (
 bnd (Xm0 p0 p1 (⟨q5.1, q6.1, Xaa .i64 (q7.1 + p1.Qp)⟩ : Yhf)) fun q9 =>
 some (!q9))) fun v8 =>
 sel v8 (
 some ((⟨0, 0, 0⟩ : Yhf), 0, false)) (
 some ((⟨q5.1, q6.1, Xaa .i64 (q7.1 + p1.Qp)⟩ : Yhf), q7.2.at_, true)))
def Xhh (p0 : Seq) (p1 : Int) : Option (Xph × Bool) :=
 bnd (Xfl p0) fun q1 =>
 bnd (Xat p1 0 (Xaa .i64 (q1 - 1))) fun q2 =>
 sel (!q2) (
 some ((⟨0, 0, 0, 0⟩ : Xph), false)) (
 req ((p0.Cols.length : Int) ≠ 0) <|
 req ((p0.Cols.length : Int) ≠ 0) <|
 req (0 ≤ (0 : Int) ∧ (0 : Int) ≤ (p1.tmod (p0.Cols.length : Int)) ∧ (p1.tmod (p0.Cols.length : Int)) ≤ (p0.Cols.length : Int)) <|
 bnd (Xcb ((p0.Cols.drop (0 : Int).toNat).take ((p1.tmod (p0.Cols.length : Int)).toNat - (0 : Int).toNat))) fun q3 =>
 req (0 ≤ (0 : Int) ∧ (0 : Int) ≤ (Xaa .i64 (p1.tdiv (p0.Cols.length : Int))) ∧ (Xaa .i64 (p1.tdiv (p0.Cols.length : Int))) ≤ (p0.Rows.length : Int)) <|
 bnd (Xcb ((p0.Rows.drop (0 : Int).toNat).take ((Xaa .i64 (p1.tdiv (p0.Cols.length : Int))).toNat - (0 : Int).toNat))) fun q4 =>
 req (0 ≤ (p1.tmod (p0.Cols.length : Int)) ∧ (p1.tmod (p0.Cols.length : Int)) < p0.Cols.length) <|
 req (0 ≤ (Xaa .i64 (p1.tdiv (p0.Cols.length : Int))) ∧ (Xaa .i64 (p1.tdiv (p0.Cols.length : Int))) < p0.Rows.length) <|
 some ((⟨Xaa .i64 (8 * q3), Xaa .i64 (8 * q4), Xaa .i64 (8 * (p0.Cols.getD (p1.tmod (p0.Cols.length : Int)).toNat 0)), Xaa .i64 (8 * (p0.Rows.getD (Xaa .i64 (p1.tdiv (p0.Cols.length : Int))).toNat 0))⟩ : Xph), true))
def Xfz (p0 : Seq) (p1 : Int) : Option Int :=
 bnd (Xhh p0 p1) fun q1 =>
 req ((8 : Int) ≠ 0) <|
 req ((8 : Int) ≠ 0) <|
 some (Xaa .i64 ((Xaa .i64 (q1.1.Wide.tdiv 8)) * (Xaa .i64 (q1.1.High.tdiv 8))))
def Xgm (p0 : Xj9) : Option Bool :=
 bnd (
 bnd (Xat p0.Qp 0 40) fun q2 =>
 sel q2 (
 sel p0.Large (
 some (!p0.Exact)) (
 some true)) (
 some false)) fun v1 =>
 some v1
def Xbg (p1 : Int) (v8 : (Int × Int × ByteArray × Int × Bool × (List Int))) : Option (Lp (Int × Int × ByteArray × Int × Bool × (List Int)) ((List Int) × ByteArray × Int × Bool)) :=
 bnd (
 sel (decide (v8.2.1 > 0)) (
 some (!v8.2.2.2.2.1)) (
 some false)) fun v16 =>
 sel v16 (
 bnd (Xbl (⟨v8.2.2.1, v8.2.2.2.1, v8.2.2.2.2.1⟩ : Xka)) fun q17 =>
 bnd (Xb2 q17.2) fun q18 =>
 bnd (
 sel (decide ((Xaa .i64 (v8.1 + q17.1)) ≥ p1)) (
 some true) (
 sel (q18.1 == 0) (
 some true) (
 bnd (Xat q18.1 (-5000) 5000) fun q20 =>
 some (!q20)))) fun v19 =>
 sel v19 (
 some (.done (v8.2.2.2.2.2, q18.2.row_, q18.2.at_, true))) (
 req (0 ≤ (Xaa .i64 (v8.1 + q17.1)) ∧ (Xaa .i64 (v8.1 + q17.1)) < v8.2.2.2.2.2.length) <|
 req ((Xaa .i64 (v8.1 + q17.1)).toNat < v8.2.2.2.2.2.length) <|
 some (.go (Xaa .i64 ((Xaa .i64 (v8.1 + q17.1)) + 1), Xaa .i64 (v8.2.1 - 1), q18.2.row_, q18.2.at_, q18.2.bad_, (v8.2.2.2.2.2.set ((Xaa .i64 (v8.1 + q17.1)).toNat) q18.1))))) (
 some (.done (v8.2.2.2.2.2, v8.2.2.1, v8.2.2.2.1, v8.2.2.2.2.1)))
def Xc4 (p0 : Xka) (p1 : Int) : Option ((List Int) × Xka) :=
 req (0 ≤ p1 ∧ p1 ≤ p1 ∧ p1 * 8 ≤ 281474976710656) <|
 bnd (Xbl p0) fun q1 =>
 bnd (loop (Xbg p1) (0, q1.1, q1.2.row_, q1.2.at_, q1.2.bad_, (List.replicate p1.toNat (0 : Int)))) fun v15 =>
 some (v15.1, (⟨v15.2.1, v15.2.2.1, v15.2.2.2⟩ : Xka))
def Xbe (v5 : (Int × ByteArray × Int × Bool × (List Int))) : Option (Lp (Int × ByteArray × Int × Bool × (List Int)) ((List Int) × ByteArray × Int × Bool)) :=
 sel (decide (v5.1 < 4)) (
 bnd (Xc4 (⟨v5.2.1, v5.2.2.1, v5.2.2.2.1⟩ : Xka) 16) fun q9 =>
 req ((v5.2.2.2.2.length + q9.1.length) * 8 ≤ 140737488355328 ∧ v5.2.2.2.2.length + q9.1.length ≤ maxLen) <|
 some (.go (Xaa .i64 (v5.1 + 1), q9.2.row_, q9.2.at_, q9.2.bad_, (v5.2.2.2.2 ++ q9.1)))) (
 some (.done (v5.2.2.2.2, v5.2.1, v5.2.2.1, v5.2.2.2.1)))
def Xbq (p0 : Xka) (p1 : Xj9) : Option ((List Int) × Xka) :=
 bnd (
 sel p1.Large (
 some true) (
 some p1.Exact)) fun v1 =>
 sel v1 (
 bnd (Xc4 p0 64) fun q2 =>
 some (q2.1, q2.2)) (
 bnd (loop (Xbe) (0, p0.row_, p0.at_, p0.bad_, ([] : List Int))) fun v8 =>
 some (v8.1, (⟨v8.2.1, v8.2.2.1, v8.2.2.2⟩ : Xka)))
def Xjo (p0 : (List Int)) (p2 : Int) (p3 : Int) (v3 : Int) : Option (Lp Int (Ou Unit Bool)) :=
 sel (decide (v3 < (p0.length : Int))) (
 req (0 ≤ v3 ∧ v3 < p0.length) <|
 bnd (Xat (p0.getD v3.toNat 0) p2 p3) fun q7 =>
 sel (!q7) (
 some (.done (.ret false))) (
 some (.go (Xaa .i64 (v3 + 1))))) (
 some (.done (.out ())))
def Xd1 (p0 : (List Int)) (p1 : Int) (p2 : Int) (p3 : Int) : Option Bool :=
 bnd (loop (Xjo p0 p2 p3) 0) fun o8 => match o8 with
| .out v6 => (
 some ((p0.length : Int) == p1))
| .ret r => some r
def Xew (p0 : (List Int)) : Option Bool :=
 bnd (Xd1 p0 64 (-5000) 5000) fun q1 =>
 some q1
def Xft (p0 : Xa1) : Option Bool :=
 sel (p0.Kind == 0) (
 bnd (
 sel (p0.Mode == 0) (
 sel (p0.Dx == 0) (
 sel (p0.Dy == 0) (
 some ((p0.Levels.length : Int) == 0)) (
 some false)) (
 some false)) (
 some false)) fun v1 =>
 some v1) (
 sel (p0.Kind == 1) (
 bnd (
 sel (p0.Mode == 0) (
 bnd (Xat p0.Dx (-16) 16) fun q3 =>
 sel q3 (
 bnd (Xat p0.Dy (-16) 16) fun q4 =>
 sel q4 (
 bnd (Xew p0.Levels) fun q5 =>
 some q5) (
 some false)) (
 some false)) (
 some false)) fun v2 =>
 some v2) (
 sel (p0.Kind == 2) (
 bnd (
 bnd (Xat p0.Mode 0 3) fun q7 =>
 sel q7 (
 sel (p0.Dx == 0) (
 sel (p0.Dy == 0) (
 bnd (Xew p0.Levels) fun q8 =>
 some q8) (
 some false)) (
 some false)) (
 some false)) fun v6 =>
 some v6) (
 some false)))
def Xcu (p0 : Xka) (p1 : Xj9) : Option (Xa1 × Xka) :=
 bnd (
 sel (!p1.Key) (
 bnd (Xbl p0) fun q2 =>
 some (q2.2.row_, q2.2.at_, q2.2.bad_, q2.1)) (
 some (p0.row_, p0.at_, p0.bad_, 2))) fun v1 =>
 bnd (
 sel v1.2.2.1 (
 some (v1.1, v1.2.1, v1.2.2.1, 0, 0, 0, [])) (
 sel (v1.2.2.2 == 1) (
 bnd (Xb2 (⟨v1.1, v1.2.1, v1.2.2.1⟩ : Xka)) fun q4 =>
 bnd (Xb2 q4.2) fun q5 =>
 bnd (Xbq q5.2 p1) fun q6 =>
 some (q6.2.row_, q6.2.at_, q6.2.bad_, 0, q4.1, q5.1, q6.1)) (
 sel (v1.2.2.2 == 2) (
 bnd (Xbl (⟨v1.1, v1.2.1, v1.2.2.1⟩ : Xka)) fun q7 =>
 bnd (Xbq q7.2 p1) fun q8 =>
 some (q8.2.row_, q8.2.at_, q8.2.bad_, q7.1, 0, 0, q8.1)) (
 some (v1.1, v1.2.1, v1.2.2.1, 0, 0, 0, []))))) fun v3 =>
 bnd (
 sel v3.2.2.1 (
 some true) (
 bnd (Xft (⟨v1.2.2.2, v3.2.2.2.1, v3.2.2.2.2.1, v3.2.2.2.2.2.1, v3.2.2.2.2.2.2⟩ : Xa1)) fun q10 =>
 some (!q10))) fun v9 =>
 some ((⟨v1.2.2.2, v3.2.2.2.1, v3.2.2.2.2.1, v3.2.2.2.2.2.1, v3.2.2.2.2.2.2⟩ : Xa1), (⟨v3.1, v3.2.1, v9⟩ : Xka))
def Xbc (p2 : Int) (p3 : Xj9) (v7 : (Int × ByteArray × Int × Bool × (List Xa1))) : Option (Lp (Int × ByteArray × Int × Bool × (List Xa1)) (Ou (ByteArray × Int × Bool × (List Xa1)) ((List Xa1) × Bool))) :=
 sel (decide (v7.1 < p2)) (
 bnd (Xcu (⟨v7.2.1, v7.2.2.1, v7.2.2.2.1⟩ : Xka) p3) fun q11 =>
 req ((v7.2.2.2.2.length + ([q11.1]).length) * 56 ≤ 140737488355328 ∧ v7.2.2.2.2.length + ([q11.1]).length ≤ maxLen) <|
 sel q11.2.bad_ (
 some (.done (.ret (([] : List Xa1), false)))) (
 some (.go (Xaa .i64 (v7.1 + 1), q11.2.row_, q11.2.at_, q11.2.bad_, (v7.2.2.2.2 ++ ([q11.1])))))) (
 some (.done (.out (v7.2.1, v7.2.2.1, v7.2.2.2.1, v7.2.2.2.2))))
def Xji (p0 : ByteArray) (p1 : Int) (p2 : Int) (p3 : Xj9) : Option ((List Xa1) × Bool) :=
 bnd (Xex p0 p1) fun q1 =>
 bnd (
 bnd (Xat p2 1 64) fun q3 =>
 sel q3 (
 bnd (Xgm p3) fun q4 =>
 some (!q4)) (
 some true)) fun v2 =>
 sel v2 (
 some (([] : List Xa1), false)) (
 bnd (loop (Xbc p2 p3) (0, q1.row_, q1.at_, q1.bad_, ([] : List Xa1))) fun o12 => match o12 with
| .out v10 => (
 sel (v10.2.1 != (p0.size : Int)) (
 some (([] : List Xa1), false)) (
 some (v10.2.2.2, true)))
| .ret r => some r)
def Xkk (p0 : Int) : Option Bool :=
 bnd (
 req ((8 : Int) ≠ 0) <|
 sel ((p0.tmod 8) == 0) (
 bnd (Xat p0 8 64) fun q2 =>
 some q2) (
 some false)) fun v1 =>
 some v1
def Xdw (p0 : Pic) (p1 : Xph) : Option Bool :=
 bnd (
 bnd (Xat p1.Wide 1 p0.Wide) fun q2 =>
 sel q2 (
 bnd (Xat p1.High 1 p0.High) fun q3 =>
 sel q3 (
 bnd (Xat p1.Left 0 (Xaa .i64 (p0.Wide - p1.Wide))) fun q4 =>
 sel q4 (
 bnd (Xat p1.Top 0 (Xaa .i64 (p0.High - p1.High))) fun q5 =>
 some q5) (
 some false)) (
 some false)) (
 some false)) fun v1 =>
 some v1
def Xpo (p0 : Pic) (p1 : Xph) (v5 : (Int × (List Int))) : Option (Lp (Int × (List Int)) (List Int)) :=
 sel (decide (v5.1 < (Xaa .i64 (p1.Top + p1.High)))) (
 req (0 ≤ (Xaa .i64 ((Xaa .i64 (v5.1 * p0.Wide)) + p1.Left)) ∧ (Xaa .i64 ((Xaa .i64 (v5.1 * p0.Wide)) + p1.Left)) ≤ (Xaa .i64 ((Xaa .i64 ((Xaa .i64 (v5.1 * p0.Wide)) + p1.Left)) + p1.Wide)) ∧ (Xaa .i64 ((Xaa .i64 ((Xaa .i64 (v5.1 * p0.Wide)) + p1.Left)) + p1.Wide)) ≤ (p0.Dots.size : Int)) <|
 req ((v5.2.length + (Xav (p0.Dots.extract (Xaa .i64 ((Xaa .i64 (v5.1 * p0.Wide)) + p1.Left)).toNat (Xaa .i64 ((Xaa .i64 ((Xaa .i64 (v5.1 * p0.Wide)) + p1.Left)) + p1.Wide)).toNat)).length) * 1 ≤ 140737488355328 ∧ v5.2.length + (Xav (p0.Dots.extract (Xaa .i64 ((Xaa .i64 (v5.1 * p0.Wide)) + p1.Left)).toNat (Xaa .i64 ((Xaa .i64 ((Xaa .i64 (v5.1 * p0.Wide)) + p1.Left)) + p1.Wide)).toNat)).length ≤ maxLen) <|
 some (.go (Xaa .i64 (v5.1 + 1), (v5.2 ++ (Xav (p0.Dots.extract (Xaa .i64 ((Xaa .i64 (v5.1 * p0.Wide)) + p1.Left)).toNat (Xaa .i64 ((Xaa .i64 ((Xaa .i64 (v5.1 * p0.Wide)) + p1.Left)) + p1.Wide)).toNat)))))) (
 some (.done v5.2))
def Xmt (p0 : Pic) (p1 : Xph) : Option (Pic × Bool) :=
 bnd (
 bnd (Xdh p0) fun q2 =>
 sel q2 (
 bnd (Xdw p0 p1) fun q3 =>
 some (!q3)) (
 some true)) fun v1 =>
 sel v1 (
 some ((⟨0, 0, ⟨#[]⟩⟩ : Pic), false)) (
 req (0 ≤ (0 : Int) ∧ (0 : Int) ≤ (Xaa .i64 (p1.Wide * p1.High)) ∧ (Xaa .i64 (p1.Wide * p1.High)) * 1 ≤ 281474976710656) <|
 bnd (loop (Xpo p0 p1) (p1.Top, (List.replicate (0 : Int).toNat (0 : Int)))) fun v7 =>
 some ((⟨p1.Wide, p1.High, (strOfNums v7)⟩ : Pic), true))
def Xlj (p0 : Int) (p1 : Int) (v5 : (Int × (List Int))) : Option (Lp (Int × (List Int)) (List Int)) :=
 sel (decide (v5.1 < ((List.replicate (Xaa .i64 (p0 * p1)).toNat (0 : Int)).length : Int))) (
 req (0 ≤ v5.1 ∧ v5.1 < v5.2.length) <|
 req (v5.1.toNat < v5.2.length) <|
 some (.go (Xaa .i64 (v5.1 + 1), (v5.2.set v5.1.toNat 128)))) (
 some (.done v5.2))
def Xmz (p0 : Int) (p1 : Int) : Option Pic :=
 bnd (
 bnd (Xat p0 1 256) fun q2 =>
 sel q2 (
 bnd (Xat p1 1 256) fun q3 =>
 some (!q3)) (
 some true)) fun v1 =>
 sel v1 (
 some (⟨0, 0, ⟨#[]⟩⟩ : Pic)) (
 req (0 ≤ (Xaa .i64 (p0 * p1)) ∧ (Xaa .i64 (p0 * p1)) ≤ (Xaa .i64 (p0 * p1)) ∧ (Xaa .i64 (p0 * p1)) * 1 ≤ 281474976710656) <|
 bnd (loop (Xlj p0 p1) (0, (List.replicate (Xaa .i64 (p0 * p1)).toNat (0 : Int)))) fun v7 =>
 some (⟨p0, p1, (strOfNums v7)⟩ : Pic))
def Xc1 (p0 : Pic) (p1 : Int) (p2 : Int) : Option Bool :=
 bnd (
 req ((8 : Int) ≠ 0) <|
 sel ((p1.tmod 8) == 0) (
 req ((8 : Int) ≠ 0) <|
 sel ((p2.tmod 8) == 0) (
 bnd (Xat p1 0 (Xaa .i64 (p0.Wide - 8))) fun q2 =>
 sel q2 (
 bnd (Xat p2 0 (Xaa .i64 (p0.High - 8))) fun q3 =>
 some q3) (
 some false)) (
 some false)) (
 some false)) fun v1 =>
 some v1
def Xgo (p0 : Xa1) (p1 : Xj9) : Option Bool :=
 bnd (
 sel p1.Key (
 some (p0.Kind == 2)) (
 some true)) fun v1 =>
 some v1
def Xeh (p0 : Int) (p1 : Int) (p2 : Int) : Option Int :=
 some (if (if p2 < p0 then p2 else p0) > p1 then (if p2 < p0 then p2 else p0) else p1)
def Xel (p0 : Pic) (p1 : Int) (p2 : Int) : Option Int :=
 bnd (Xeh p2 0 (Xaa .i64 (p0.High - 1))) fun q1 =>
 bnd (Xeh p1 0 (Xaa .i64 (p0.Wide - 1))) fun q2 =>
 req (0 ≤ (Xaa .i64 ((Xaa .i64 (q1 * p0.Wide)) + q2)) ∧ (Xaa .i64 ((Xaa .i64 (q1 * p0.Wide)) + q2)) < p0.Dots.size) <|
 some (Xaa .i64 ((Xb7 p0.Dots (Xaa .i64 ((Xaa .i64 (q1 * p0.Wide)) + q2)))))
def Xek (p0 : Pic) (p1 : Int) (p2 : Int) (v10 : (Int × (List Int))) (v23 : (Int × (List Int))) : Option (Lp (Int × (List Int)) (List Int)) :=
 sel (decide (v23.1 < 8)) (
 bnd (Xel p0 (Xaa .i64 (p1 + v23.1)) (Xaa .i64 (p2 + v10.1))) fun q27 =>
 req ((v23.2.length + ([q27]).length) * 8 ≤ 140737488355328 ∧ v23.2.length + ([q27]).length ≤ maxLen) <|
 some (.go (Xaa .i64 (v23.1 + 1), (v23.2 ++ ([q27]))))) (
 some (.done v23.2))
def Xej (p0 : Pic) (p1 : Int) (p2 : Int) (v10 : (Int × (List Int))) : Option (Lp (Int × (List Int)) (List Int)) :=
 sel (decide (v10.1 < 8)) (
 bnd (loop (Xek p0 p1 p2 v10) (0, v10.2)) fun v26 =>
 some (.go (Xaa .i64 (v10.1 + 1), v26))) (
 some (.done v10.2))
def Xga (p0 : Pic) (p1 : Int) (p2 : Int) : Option (List Int) :=
 req (0 ≤ (0 : Int) ∧ (0 : Int) ≤ (64 : Int) ∧ (64 : Int) * 8 ≤ 281474976710656) <|
 bnd (loop (Xej p0 p1 p2) (0, (List.replicate (0 : Int).toNat (0 : Int)))) fun v20 =>
 some v20
def Xjp (p0 : Int) (v16 : (Int × (List Int))) (v37 : (Int × (List Int))) : Option (Lp (Int × (List Int)) (List Int)) :=
 sel (decide (v37.1 ≤ v16.1)) (
 bnd (
 bnd (
 req ((2 : Int) ≠ 0) <|
 sel ((v16.1.tmod 2) == 0) (
 some (Xaa .i64 (v16.1 - v37.1))) (
 some v37.1)) fun v44 =>
 bnd (
 sel (decide (v44 < p0)) (
 some (decide ((Xaa .i64 (v16.1 - v44)) < p0))) (
 some false)) fun v45 =>
 sel v45 (
 req ((v37.2.length + ([Xaa .i64 ((Xaa .i64 (v44 * p0)) + (Xaa .i64 (v16.1 - v44)))]).length) * 8 ≤ 140737488355328 ∧ v37.2.length + ([Xaa .i64 ((Xaa .i64 (v44 * p0)) + (Xaa .i64 (v16.1 - v44)))]).length ≤ maxLen) <|
 some (v37.2 ++ ([Xaa .i64 ((Xaa .i64 (v44 * p0)) + (Xaa .i64 (v16.1 - v44)))]))) (
 some v37.2)) fun v43 =>
 some (.go (Xaa .i64 (v37.1 + 1), v43))) (
 some (.done v37.2))
def Xgj (p0 : Int) (v16 : (Int × (List Int))) : Option (Lp (Int × (List Int)) (List Int)) :=
 sel (decide (v16.1 ≤ (Xaa .i64 ((Xaa .i64 (2 * p0)) - 2)))) (
 bnd (loop (Xjp p0 v16) (0, v16.2)) fun v42 =>
 some (.go (Xaa .i64 (v16.1 + 1), v42))) (
 some (.done v16.2))
def Xh8 (p0 : Int) : Option (List Int) :=
 bnd (loop (Xgj p0) (0, ([] : List Int))) fun v32 =>
 some v32
def Xhi (p1 : (List Int)) (q2 : (List Int)) (v4 : (Int × (List Int))) : Option (Lp (Int × (List Int)) (List Int)) :=
 sel (decide (v4.1 < (q2.length : Int))) (
 req (0 ≤ v4.1 ∧ v4.1 < q2.length) <|
 req (v4.1.toNat < q2.length) <|
 req (0 ≤ v4.1 ∧ v4.1 < p1.length) <|
 req (0 ≤ (q2.getD v4.1.toNat 0) ∧ (q2.getD v4.1.toNat 0) < v4.2.length) <|
 req ((q2.getD v4.1.toNat 0).toNat < v4.2.length) <|
 some (.go (Xaa .i64 (v4.1 + 1), (v4.2.set ((q2.getD v4.1.toNat 0).toNat) (p1.getD v4.1.toNat 0))))) (
 some (.done v4.2))
def Xev (p0 : Int) (p1 : (List Int)) : Option ((List Int) × Bool) :=
 bnd (
 sel (p0 != 4) (
 sel (p0 != 8) (
 some true) (
 some ((p1.length : Int) != (Xaa .i64 (p0 * p0))))) (
 some ((p1.length : Int) != (Xaa .i64 (p0 * p0))))) fun v1 =>
 sel v1 (
 some (([] : List Int), false)) (
 req (0 ≤ (p1.length : Int) ∧ (p1.length : Int) ≤ (p1.length : Int) ∧ (p1.length : Int) * 8 ≤ 281474976710656) <|
 bnd (Xh8 p0) fun q2 =>
 bnd (loop (Xhi p1 q2) (0, (List.replicate (p1.length : Int).toNat (0 : Int)))) fun v6 =>
 some (v6, true))
def Xkg (p0 : Int) : Option Int :=
 bnd (Xat p0 0 40) fun q1 =>
 sel (!q1) (
 some 0) (
 req ((6 : Int) ≠ 0) <|
 req (0 ≤ (p0.tmod 6) ∧ (p0.tmod 6) < ([10, 11, 13, 14, 16, 18]).length) <|
 req ((p0.tmod 6).toNat < ([10, 11, 13, 14, 16, 18]).length) <|
 req ((6 : Int) ≠ 0) <|
 req (0 ≤ (Xaa .i64 (p0.tdiv 6))) <|
 some (Xaa .i64 ((([10, 11, 13, 14, 16, 18]).getD ((p0.tmod 6).toNat) 0) * 2 ^ min (Xaa .i64 (p0.tdiv 6)).toNat (IntKind.bits .i64))))
def Xh4 (p0 : Int) (p1 : Int) : Option Int :=
 bnd (Xat p0 (-5000) 5000) fun q1 =>
 sel (!q1) (
 some 0) (
 bnd (Xkg p1) fun q2 =>
 some (Xaa .i64 (p0 * q2)))
def Xkf (p0 : Int) (p1 : Int) : Option Int :=
 bnd (
 bnd (Xat p0 0 7) fun q2 =>
 sel q2 (
 bnd (Xat p1 0 7) fun q3 =>
 some (!q3)) (
 some true)) fun v1 =>
 sel v1 (
 some 0) (
 req (0 ≤ (1 : Int)) <|
 req (0 ≤ (2 : Int)) <|
 req ((2 : Int) ≠ 0) <|
 sel (((Xaa .i64 ((Xaa .i64 ((IntKind.wrap .i64 (BitVec.ofInt (IntKind.bits .i64) (IntKind.wrap .i64 (BitVec.ofInt (IntKind.bits .i64) p0 &&& BitVec.ofInt (IntKind.bits .i64) p1).toNat) &&& BitVec.ofInt (IntKind.bits .i64) 1).toNat) + (IntKind.wrap .i64 (BitVec.ofInt (IntKind.bits .i64) ((IntKind.wrap .i64 (BitVec.ofInt (IntKind.bits .i64) p0 &&& BitVec.ofInt (IntKind.bits .i64) p1).toNat) / 2 ^ min (1 : Int).toNat (IntKind.bits .i64)) &&& BitVec.ofInt (IntKind.bits .i64) 1).toNat))) + (IntKind.wrap .i64 (BitVec.ofInt (IntKind.bits .i64) ((IntKind.wrap .i64 (BitVec.ofInt (IntKind.bits .i64) p0 &&& BitVec.ofInt (IntKind.bits .i64) p1).toNat) / 2 ^ min (2 : Int).toNat (IntKind.bits .i64)) &&& BitVec.ofInt (IntKind.bits .i64) 1).toNat))).tmod 2) == 0) (
 some 1) (
 some (-1)))
def Xjr (p0 : (List Int)) (v31 : (Int × (List Int))) (v72 : (Int × (List Int))) (v85 : (Int × (List Int))) : Option (Lp (Int × (List Int)) (List Int)) :=
 sel (decide (v85.1 < 8)) (
 req (0 ≤ (Xaa .i64 ((Xaa .i64 (8 * v31.1)) + v72.1)) ∧ (Xaa .i64 ((Xaa .i64 (8 * v31.1)) + v72.1)) < v85.2.length) <|
 req ((Xaa .i64 ((Xaa .i64 (8 * v31.1)) + v72.1)).toNat < v85.2.length) <|
 bnd (Xkf v72.1 v85.1) fun q89 =>
 req (0 ≤ (Xaa .i64 ((Xaa .i64 (8 * v31.1)) + v85.1)) ∧ (Xaa .i64 ((Xaa .i64 (8 * v31.1)) + v85.1)) < p0.length) <|
 req (0 ≤ (Xaa .i64 ((Xaa .i64 (8 * v31.1)) + v72.1)) ∧ (Xaa .i64 ((Xaa .i64 (8 * v31.1)) + v72.1)) < v85.2.length) <|
 req ((Xaa .i64 ((Xaa .i64 (8 * v31.1)) + v72.1)).toNat < v85.2.length) <|
 some (.go (Xaa .i64 (v85.1 + 1), (v85.2.set ((Xaa .i64 ((Xaa .i64 (8 * v31.1)) + v72.1)).toNat) (Xaa .i64 ((v85.2.getD ((Xaa .i64 ((Xaa .i64 (8 * v31.1)) + v72.1)).toNat) 0) + (Xaa .i64 (q89 * (p0.getD (Xaa .i64 ((Xaa .i64 (8 * v31.1)) + v85.1)).toNat 0))))))))) (
 some (.done v85.2))
def Xpt (p0 : (List Int)) (v31 : (Int × (List Int))) (v72 : (Int × (List Int))) : Option (Lp (Int × (List Int)) (List Int)) :=
 sel (decide (v72.1 < 8)) (
 bnd (loop (Xjr p0 v31 v72) (0, v72.2)) fun v88 =>
 some (.go (Xaa .i64 (v72.1 + 1), v88))) (
 some (.done v72.2))
def Xps (p0 : (List Int)) (v31 : (Int × (List Int))) : Option (Lp (Int × (List Int)) (List Int)) :=
 sel (decide (v31.1 < 8)) (
 bnd (loop (Xpt p0 v31) (0, v31.2)) fun v82 =>
 some (.go (Xaa .i64 (v31.1 + 1), v82))) (
 some (.done v31.2))
def Xh9 (v62 : (List Int)) (v123 : (Int × (List Int))) (v164 : (Int × (List Int))) (v177 : (Int × (List Int))) : Option (Lp (Int × (List Int)) (List Int)) :=
 sel (decide (v177.1 < 8)) (
 req (0 ≤ (Xaa .i64 ((Xaa .i64 (8 * v123.1)) + v164.1)) ∧ (Xaa .i64 ((Xaa .i64 (8 * v123.1)) + v164.1)) < v177.2.length) <|
 req ((Xaa .i64 ((Xaa .i64 (8 * v123.1)) + v164.1)).toNat < v177.2.length) <|
 bnd (Xkf v123.1 v177.1) fun q181 =>
 req (0 ≤ (Xaa .i64 ((Xaa .i64 (8 * v177.1)) + v164.1)) ∧ (Xaa .i64 ((Xaa .i64 (8 * v177.1)) + v164.1)) < v62.length) <|
 req ((Xaa .i64 ((Xaa .i64 (8 * v177.1)) + v164.1)).toNat < v62.length) <|
 req (0 ≤ (Xaa .i64 ((Xaa .i64 (8 * v123.1)) + v164.1)) ∧ (Xaa .i64 ((Xaa .i64 (8 * v123.1)) + v164.1)) < v177.2.length) <|
 req ((Xaa .i64 ((Xaa .i64 (8 * v123.1)) + v164.1)).toNat < v177.2.length) <|
 some (.go (Xaa .i64 (v177.1 + 1), (v177.2.set ((Xaa .i64 ((Xaa .i64 (8 * v123.1)) + v164.1)).toNat) (Xaa .i64 ((v177.2.getD ((Xaa .i64 ((Xaa .i64 (8 * v123.1)) + v164.1)).toNat) 0) + (Xaa .i64 (q181 * (v62.getD ((Xaa .i64 ((Xaa .i64 (8 * v177.1)) + v164.1)).toNat) 0))))))))) (
 some (.done v177.2))
def Xn5 (v62 : (List Int)) (v123 : (Int × (List Int))) (v164 : (Int × (List Int))) : Option (Lp (Int × (List Int)) (List Int)) :=
 sel (decide (v164.1 < 8)) (
 bnd (loop (Xh9 v62 v123 v164) (0, v164.2)) fun v180 =>
 some (.go (Xaa .i64 (v164.1 + 1), v180))) (
 some (.done v164.2))
def Xn4 (v62 : (List Int)) (v123 : (Int × (List Int))) : Option (Lp (Int × (List Int)) (List Int)) :=
 sel (decide (v123.1 < 8)) (
 bnd (loop (Xn5 v62 v123) (0, v123.2)) fun v174 =>
 some (.go (Xaa .i64 (v123.1 + 1), v174))) (
 some (.done v123.2))
def Xq7 (p0 : (List Int)) : Option (List Int) :=
 req (0 ≤ (64 : Int) ∧ (64 : Int) ≤ (64 : Int) ∧ (64 : Int) * 8 ≤ 281474976710656) <|
 bnd (loop (Xps p0) (0, (List.replicate (64 : Int).toNat (0 : Int)))) fun v62 =>
 req (0 ≤ (64 : Int) ∧ (64 : Int) ≤ (64 : Int) ∧ (64 : Int) * 8 ≤ 281474976710656) <|
 bnd (loop (Xn4 v62) (0, (List.replicate (64 : Int).toNat (0 : Int)))) fun v154 =>
 some v154
def Xmu (p0 : Int) (p1 : Int) : Option Int :=
 req (p1 ≠ 0) <|
 bnd (
 req (p1 ≠ 0) <|
 sel (decide ((p0.tmod p1) < 0)) (
 some (Xaa .i64 ((Xaa .i64 (p0.tdiv p1)) - 1))) (
 some (Xaa .i64 (p0.tdiv p1)))) fun v1 =>
 some v1
def Xm7 (p0 : (List Int)) (v3 : (Int × (List Int))) : Option (Lp (Int × (List Int)) (List Int)) :=
 sel (decide (v3.1 < (p0.length : Int))) (
 req (0 ≤ v3.1 ∧ v3.1 < v3.2.length) <|
 req (v3.1.toNat < v3.2.length) <|
 bnd (Xmu (Xaa .i64 ((v3.2.getD v3.1.toNat 0) + 32)) 64) fun q7 =>
 req (0 ≤ v3.1 ∧ v3.1 < v3.2.length) <|
 req (v3.1.toNat < v3.2.length) <|
 some (.go (Xaa .i64 (v3.1 + 1), (v3.2.set v3.1.toNat q7)))) (
 some (.done v3.2))
def Xi2 (p0 : (List Int)) : Option ((List Int) × (List Int)) :=
 bnd (loop (Xm7 p0) (0, p0)) fun v6 =>
 some (v6, v6)
def Xh3 (p0 : (List Int)) : Option (List Int) :=
 bnd (Xd1 p0 64 (-10000000) 10000000) fun q1 =>
 sel (!q1) (
 some ([] : List Int)) (
 bnd (Xq7 p0) fun q2 =>
 bnd (Xi2 q2) fun q3 =>
 some q3.2)
def Xtw (p0 : Int) : Option Int :=
 bnd (Xat p0 0 15) fun q1 =>
 sel (!q1) (
 some (-1)) (
 req ((4 : Int) ≠ 0) <|
 req ((2 : Int) ≠ 0) <|
 req ((4 : Int) ≠ 0) <|
 req ((2 : Int) ≠ 0) <|
 bnd (
 sel (((Xaa .i64 (p0.tdiv 4)).tmod 2) == 0) (
 some (((p0.tmod 4).tmod 2) == 0)) (
 some false)) fun v2 =>
 sel v2 (
 some 0) (
 bnd (
 sel (((Xaa .i64 (p0.tdiv 4)).tmod 2) == 1) (
 some (((p0.tmod 4).tmod 2) == 1)) (
 some false)) fun v3 =>
 sel v3 (
 some 1) (
 some 2)))
def Xlk (p0 : Int) (p1 : Int) : Option Int :=
 bnd (
 bnd (Xat p0 0 40) fun q2 =>
 sel q2 (
 bnd (Xat p1 0 15) fun q3 =>
 some (!q3)) (
 some true)) fun v1 =>
 sel v1 (
 some 0) (
 req ((6 : Int) ≠ 0) <|
 bnd (Xtw p1) fun q4 =>
 req (0 ≤ (p0.tmod 6) ∧ (p0.tmod 6) < 6) <|
 req (0 ≤ q4 ∧ q4 < 3) <|
 req (((0 + (p0.tmod 6).toNat * 3) + q4.toNat * 1) < ([10, 16, 13, 11, 18, 14, 13, 20, 16, 14, 23, 18, 16, 25, 20, 18, 29, 23] : List Int).length) <|
 req ((6 : Int) ≠ 0) <|
 req (0 ≤ (Xaa .i64 (p0.tdiv 6))) <|
 some (Xaa .i64 ((([10, 16, 13, 11, 18, 14, 13, 20, 16, 14, 23, 18, 16, 25, 20, 18, 29, 23] : List Int).getD ((0 + (p0.tmod 6).toNat * 3) + q4.toNat * 1) 0) * 2 ^ min (Xaa .i64 (p0.tdiv 6)).toNat (IntKind.bits .i64))))
def Xh5 (p0 : Int) (p1 : Int) (p2 : Int) : Option Int :=
 bnd (Xat p0 (-5000) 5000) fun q1 =>
 sel (!q1) (
 some 0) (
 bnd (Xlk p1 p2) fun q2 =>
 some (Xaa .i64 (p0 * q2)))
def Xd4 (p0 : Int) (p1 : Int) (p2 : Int) (p3 : Int) : Option (Int × Int × Int × Int) :=
 bnd (Xmu p1 2) fun q1 =>
 bnd (Xmu p3 2) fun q2 =>
 some (Xaa .i64 ((Xaa .i64 (p0 + p2)) + (Xaa .i64 (p1 + q2))), Xaa .i64 ((Xaa .i64 (p0 - p2)) + (Xaa .i64 (q1 - p3))), Xaa .i64 ((Xaa .i64 (p0 - p2)) - (Xaa .i64 (q1 - p3))), Xaa .i64 ((Xaa .i64 (p0 + p2)) - (Xaa .i64 (p1 + q2))))
def Xfm (v4 : (Int × (List Int))) : Option (Lp (Int × (List Int)) (List Int)) :=
 sel (decide (v4.1 < 16)) (
 req (0 ≤ v4.1 ∧ v4.1 < v4.2.length) <|
 req (v4.1.toNat < v4.2.length) <|
 req (0 ≤ (Xaa .i64 (v4.1 + 1)) ∧ (Xaa .i64 (v4.1 + 1)) < v4.2.length) <|
 req ((Xaa .i64 (v4.1 + 1)).toNat < v4.2.length) <|
 req (0 ≤ (Xaa .i64 (v4.1 + 2)) ∧ (Xaa .i64 (v4.1 + 2)) < v4.2.length) <|
 req ((Xaa .i64 (v4.1 + 2)).toNat < v4.2.length) <|
 req (0 ≤ (Xaa .i64 (v4.1 + 3)) ∧ (Xaa .i64 (v4.1 + 3)) < v4.2.length) <|
 req ((Xaa .i64 (v4.1 + 3)).toNat < v4.2.length) <|
 bnd (Xd4 (v4.2.getD v4.1.toNat 0) (v4.2.getD ((Xaa .i64 (v4.1 + 1)).toNat) 0) (v4.2.getD ((Xaa .i64 (v4.1 + 2)).toNat) 0) (v4.2.getD ((Xaa .i64 (v4.1 + 3)).toNat) 0)) fun q8 =>
 req (0 ≤ v4.1 ∧ v4.1 ≤ (Xaa .i64 (v4.1 + 4)) ∧ (Xaa .i64 (v4.1 + 4)) ≤ (v4.2.length : Int)) <|
 req ((v4.1.toNat + ((Xaa .i64 (v4.1 + 4)).toNat - v4.1.toNat) ≤ v4.2.length ∧ ([q8.1, q8.2.1, q8.2.2.1, q8.2.2.2]).length ≤ ((Xaa .i64 (v4.1 + 4)).toNat - v4.1.toNat))) <|
 some (.go (Xaa .i64 (v4.1 + 4), (over v4.2 v4.1.toNat ([q8.1, q8.2.1, q8.2.2.1, q8.2.2.2]))))) (
 some (.done v4.2))
def Xfa (v17 : (Int × (List Int))) (q26 : (Int × Int × Int × Int)) (v28 : (Int × (List Int))) : Option (Lp (Int × (List Int)) (List Int)) :=
 sel (decide (v28.1 < 4)) (
 req (0 ≤ v28.1 ∧ v28.1 < ([q26.1, q26.2.1, q26.2.2.1, q26.2.2.2] : List Int).length) <|
 req (0 ≤ (Xaa .i64 (v17.1 + (Xaa .i64 (4 * v28.1)))) ∧ (Xaa .i64 (v17.1 + (Xaa .i64 (4 * v28.1)))) < v28.2.length) <|
 req ((Xaa .i64 (v17.1 + (Xaa .i64 (4 * v28.1)))).toNat < v28.2.length) <|
 some (.go (Xaa .i64 (v28.1 + 1), (v28.2.set ((Xaa .i64 (v17.1 + (Xaa .i64 (4 * v28.1)))).toNat) (([q26.1, q26.2.1, q26.2.2.1, q26.2.2.2] : List Int).getD v28.1.toNat 0))))) (
 some (.done v28.2))
def Xe9 (v17 : (Int × (List Int))) : Option (Lp (Int × (List Int)) (List Int)) :=
 sel (decide (v17.1 < 4)) (
 req (0 ≤ v17.1 ∧ v17.1 < v17.2.length) <|
 req (v17.1.toNat < v17.2.length) <|
 req (0 ≤ (Xaa .i64 (v17.1 + 4)) ∧ (Xaa .i64 (v17.1 + 4)) < v17.2.length) <|
 req ((Xaa .i64 (v17.1 + 4)).toNat < v17.2.length) <|
 req (0 ≤ (Xaa .i64 (v17.1 + 8)) ∧ (Xaa .i64 (v17.1 + 8)) < v17.2.length) <|
 req ((Xaa .i64 (v17.1 + 8)).toNat < v17.2.length) <|
 req (0 ≤ (Xaa .i64 (v17.1 + 12)) ∧ (Xaa .i64 (v17.1 + 12)) < v17.2.length) <|
 req ((Xaa .i64 (v17.1 + 12)).toNat < v17.2.length) <|
 bnd (Xd4 (v17.2.getD v17.1.toNat 0) (v17.2.getD ((Xaa .i64 (v17.1 + 4)).toNat) 0) (v17.2.getD ((Xaa .i64 (v17.1 + 8)).toNat) 0) (v17.2.getD ((Xaa .i64 (v17.1 + 12)).toNat) 0)) fun q26 =>
 bnd (loop (Xfa v17 q26) (0, v17.2)) fun v30 =>
 some (.go (Xaa .i64 (v17.1 + 1), v30))) (
 some (.done v17.2))
def Xcn (p0 : (List Int)) : Option (List Int) :=
 bnd (Xem p0) fun q1 =>
 bnd (loop (Xfm) (0, q1)) fun v7 =>
 bnd (loop (Xe9) (0, v7)) fun v25 =>
 some v25
def Xjg (p0 : (List Int)) : Option (List Int) :=
 bnd (Xd1 p0 16 (-10000000) 10000000) fun q1 =>
 sel (!q1) (
 some ([] : List Int)) (
 bnd (Xcn p0) fun q2 =>
 bnd (Xi2 q2) fun q3 =>
 some q3.2)
def Xl5 (p0 : Int) (v7 : (Int × (List Int))) (v16 : (Int × (List Int))) : Option (Lp (Int × (List Int)) (List Int)) :=
 sel (decide (v16.1 < 4)) (
 req ((2 : Int) ≠ 0) <|
 req ((2 : Int) ≠ 0) <|
 req ((v16.2.length + ([Xaa .i64 ((Xaa .i64 ((Xaa .i64 ((Xaa .i64 (v7.1 + (Xaa .i64 ((Xaa .i64 (p0.tdiv 2)) * 4)))) * 8)) + v16.1)) + (Xaa .i64 ((p0.tmod 2) * 4)))]).length) * 8 ≤ 140737488355328 ∧ v16.2.length + ([Xaa .i64 ((Xaa .i64 ((Xaa .i64 ((Xaa .i64 (v7.1 + (Xaa .i64 ((Xaa .i64 (p0.tdiv 2)) * 4)))) * 8)) + v16.1)) + (Xaa .i64 ((p0.tmod 2) * 4)))]).length ≤ maxLen) <|
 some (.go (Xaa .i64 (v16.1 + 1), (v16.2 ++ ([Xaa .i64 ((Xaa .i64 ((Xaa .i64 ((Xaa .i64 (v7.1 + (Xaa .i64 ((Xaa .i64 (p0.tdiv 2)) * 4)))) * 8)) + v16.1)) + (Xaa .i64 ((p0.tmod 2) * 4)))]))))) (
 some (.done v16.2))
def Xik (p0 : Int) (v7 : (Int × (List Int))) : Option (Lp (Int × (List Int)) (List Int)) :=
 sel (decide (v7.1 < 4)) (
 bnd (loop (Xl5 p0 v7) (0, v7.2)) fun v18 =>
 some (.go (Xaa .i64 (v7.1 + 1), v18))) (
 some (.done v7.2))
def Xlo (p0 : Int) : Option (List Int) :=
 bnd (loop (Xik p0) (0, ([] : List Int))) fun v14 =>
 some v14
def Xei (p1 : Xj9) (q5 : ((List Int) × Bool)) (v8 : (Int × (List Int))) : Option (Lp (Int × (List Int)) (List Int)) :=
 sel (decide (v8.1 < (q5.1.length : Int))) (
 req (0 ≤ v8.1 ∧ v8.1 < v8.2.length) <|
 req (v8.1.toNat < v8.2.length) <|
 bnd (Xh4 (v8.2.getD v8.1.toNat 0) p1.Qp) fun q12 =>
 req (0 ≤ v8.1 ∧ v8.1 < v8.2.length) <|
 req (v8.1.toNat < v8.2.length) <|
 some (.go (Xaa .i64 (v8.1 + 1), (v8.2.set v8.1.toNat q12)))) (
 some (.done v8.2))
def Xd5 (p1 : Xj9) (q51 : ((List Int) × Bool)) (v54 : (Int × (List Int))) : Option (Lp (Int × (List Int)) (List Int)) :=
 sel (decide (v54.1 < (q51.1.length : Int))) (
 req (0 ≤ v54.1 ∧ v54.1 < v54.2.length) <|
 req (v54.1.toNat < v54.2.length) <|
 bnd (Xh5 (v54.2.getD v54.1.toNat 0) p1.Qp v54.1) fun q58 =>
 req (0 ≤ v54.1 ∧ v54.1 < v54.2.length) <|
 req (v54.1.toNat < v54.2.length) <|
 some (.go (Xaa .i64 (v54.1 + 1), (v54.2.set v54.1.toNat q58)))) (
 some (.done v54.2))
def Xfs (q60 : (List Int)) (q61 : (List Int)) (v63 : (Int × (List Int))) : Option (Lp (Int × (List Int)) (List Int)) :=
 sel (decide (v63.1 < (q61.length : Int))) (
 req (0 ≤ v63.1 ∧ v63.1 < q61.length) <|
 req (v63.1.toNat < q61.length) <|
 req (0 ≤ v63.1 ∧ v63.1 < q60.length) <|
 req (v63.1.toNat < q60.length) <|
 req (0 ≤ (q61.getD v63.1.toNat 0) ∧ (q61.getD v63.1.toNat 0) < v63.2.length) <|
 req ((q61.getD v63.1.toNat 0).toNat < v63.2.length) <|
 some (.go (Xaa .i64 (v63.1 + 1), (v63.2.set ((q61.getD v63.1.toNat 0).toNat) (q60.getD v63.1.toNat 0))))) (
 some (.done v63.2))
def Xiq (p0 : (List Int)) (p1 : Xj9) (v32 : (Int × (List Int))) : Option (Lp (Int × (List Int)) (List Int)) :=
 sel (decide (v32.1 < 4)) (
 req (0 ≤ (Xaa .i64 (16 * v32.1)) ∧ (Xaa .i64 (16 * v32.1)) ≤ (Xaa .i64 ((Xaa .i64 (16 * v32.1)) + 16)) ∧ (Xaa .i64 ((Xaa .i64 (16 * v32.1)) + 16)) ≤ (p0.length : Int)) <|
 bnd (Xev 4 ((p0.drop (Xaa .i64 (16 * v32.1)).toNat).take ((Xaa .i64 ((Xaa .i64 (16 * v32.1)) + 16)).toNat - (Xaa .i64 (16 * v32.1)).toNat))) fun q51 =>
 bnd (loop (Xd5 p1 q51) (0, q51.1)) fun v57 =>
 bnd (Xjg v57) fun q60 =>
 bnd (Xlo v32.1) fun q61 =>
 bnd (loop (Xfs q60 q61) (0, v32.2)) fun v65 =>
 some (.go (Xaa .i64 (v32.1 + 1), v65))) (
 some (.done v32.2))
def Xgn (p0 : (List Int)) (p1 : Xj9) : Option ((List Int) × Bool) :=
 bnd (
 bnd (Xew p0) fun q2 =>
 sel q2 (
 bnd (Xgm p1) fun q3 =>
 some (!q3)) (
 some true)) fun v1 =>
 sel v1 (
 some (([] : List Int), false)) (
 sel p1.Exact (
 bnd (Xev 8 p0) fun q4 =>
 some (q4.1, q4.2)) (
 sel p1.Large (
 bnd (Xev 8 p0) fun q5 =>
 bnd (loop (Xei p1 q5) (0, q5.1)) fun v11 =>
 bnd (Xh3 v11) fun q14 =>
 some (q14, true)) (
 req (0 ≤ (64 : Int) ∧ (64 : Int) ≤ (64 : Int) ∧ (64 : Int) * 8 ≤ 281474976710656) <|
 bnd (loop (Xiq p0 p1) (0, (List.replicate (64 : Int).toNat (0 : Int)))) fun v50 =>
 some (v50, true))))
def Xk6 (p0 : (List Int)) (p1 : (List Int)) (v6 : (Int × (List Int))) : Option (Lp (Int × (List Int)) (List Int)) :=
 sel (decide (v6.1 < (p0.length : Int))) (
 req (0 ≤ v6.1 ∧ v6.1 < p0.length) <|
 req (0 ≤ v6.1 ∧ v6.1 < p1.length) <|
 bnd (Xeh (Xaa .i64 ((p0.getD v6.1.toNat 0) + (p1.getD v6.1.toNat 0))) 0 255) fun q10 =>
 req ((v6.2.length + ([q10]).length) * 8 ≤ 140737488355328 ∧ v6.2.length + ([q10]).length ≤ maxLen) <|
 some (.go (Xaa .i64 (v6.1 + 1), (v6.2 ++ ([q10]))))) (
 some (.done v6.2))
def Xkd (p0 : (List Int)) (p1 : (List Int)) : Option (List Int) :=
 bnd (
 bnd (Xd1 p0 64 0 255) fun q2 =>
 sel q2 (
 bnd (Xd1 p1 64 (-10000000) 10000000) fun q3 =>
 some (!q3)) (
 some true)) fun v1 =>
 sel v1 (
 some ([] : List Int)) (
 bnd (loop (Xk6 p0 p1) (0, ([] : List Int))) fun v9 =>
 some v9)
def Xjf (p0 : Pic) (p1 : Int) (p2 : Int) (v9 : (Int × (List Int) × (List Int))) : Option (Lp (Int × (List Int) × (List Int)) ((List Int) × (List Int))) :=
 sel (decide (v9.1 < 8)) (
 bnd (
 bnd (
 sel (decide (p2 > 0)) (
 bnd (Xel p0 (Xaa .i64 (p1 + v9.1)) (Xaa .i64 (p2 - 1))) fun q18 =>
 req ((v9.2.1.length + ([q18]).length) * 8 ≤ 140737488355328 ∧ v9.2.1.length + ([q18]).length ≤ maxLen) <|
 some (v9.2.1 ++ ([q18]))) (
 some v9.2.1)) fun v17 =>
 sel (decide (p1 > 0)) (
 bnd (Xel p0 (Xaa .i64 (p1 - 1)) (Xaa .i64 (p2 + v9.1))) fun q19 =>
 req ((v9.2.2.length + ([q19]).length) * 8 ≤ 140737488355328 ∧ v9.2.2.length + ([q19]).length ≤ maxLen) <|
 some (v17, (v9.2.2 ++ ([q19])))) (
 some (v17, v9.2.2))) fun v16 =>
 some (.go (Xaa .i64 (v9.1 + 1), v16.1, v16.2))) (
 some (.done (v9.2.1, v9.2.2)))
def Xlg (p0 : Pic) (p1 : Int) (p2 : Int) : Option (Xkb × Bool) :=
 bnd (
 bnd (Xdh p0) fun q2 =>
 sel q2 (
 bnd (Xc1 p0 p1 p2) fun q3 =>
 some (!q3)) (
 some true)) fun v1 =>
 sel v1 (
 some ((⟨[], [], 0⟩ : Xkb), false)) (
 bnd (loop (Xjf p0 p1 p2) (0, [], [])) fun v15 =>
 bnd (
 bnd (
 sel (decide (p1 > 0)) (
 some (decide (p2 > 0))) (
 some false)) fun v22 =>
 sel v22 (
 bnd (Xel p0 (Xaa .i64 (p1 - 1)) (Xaa .i64 (p2 - 1))) fun q23 =>
 some q23) (
 some (-1))) fun v21 =>
 some ((⟨v15.1, v15.2, v21⟩ : Xkb), true))
def Xe6 (p0 : Xkb) (v4 : Int) : Option (Lp Int (Ou Unit Bool)) :=
 sel (decide (v4 < (([p0.Above, p0.Left]).length : Int))) (
 req (0 ≤ v4 ∧ v4 < ([p0.Above, p0.Left]).length) <|
 req (v4.toNat < ([p0.Above, p0.Left]).length) <|
 bnd (
 sel (decide (((([p0.Above, p0.Left]).getD v4.toNat Xk4).length : Int) > 0)) (
 bnd (Xd1 (([p0.Above, p0.Left]).getD v4.toNat Xk4) 8 0 255) fun q10 =>
 some (!q10)) (
 some false)) fun v9 =>
 sel v9 (
 some (.done (.ret false))) (
 some (.go (Xaa .i64 (v4 + 1))))) (
 some (.done (.out ())))
def Xlh (p0 : Xkb) : Option Bool :=
 bnd (loop (Xe6 p0) 0) fun o11 => match o11 with
| .out v8 => (
 bnd (Xat p0.Corner (-1) 255) fun q12 =>
 some q12)
| .ret r => some r
def Xkl (p0 : (List Int)) : Option (List Int) :=
 sel ((p0.length : Int) == 0) (
 some ([128, 128, 128, 128, 128, 128, 128, 128])) (
 some p0)
def Xfx (p0 : Int) (v4 : Int) (q7 : (List Int)) (q8 : (List Int)) (v9 : Int) (v22 : (Int × (List Int))) (v39 : (Int × (List Int))) : Option (Lp (Int × (List Int)) (List Int)) :=
 sel (decide (v39.1 < 8)) (
 bnd (
 sel (p0 == 0) (
 req ((v39.2.length + ([v4]).length) * 8 ≤ 140737488355328 ∧ v39.2.length + ([v4]).length ≤ maxLen) <|
 some (v39.2 ++ ([v4]))) (
 sel (p0 == 1) (
 req (0 ≤ v39.1 ∧ v39.1 < q7.length) <|
 req ((v39.2.length + ([(q7.getD v39.1.toNat 0)]).length) * 8 ≤ 140737488355328 ∧ v39.2.length + ([(q7.getD v39.1.toNat 0)]).length ≤ maxLen) <|
 some (v39.2 ++ ([(q7.getD v39.1.toNat 0)]))) (
 sel (p0 == 2) (
 req (0 ≤ v22.1 ∧ v22.1 < q8.length) <|
 req ((v39.2.length + ([(q8.getD v22.1.toNat 0)]).length) * 8 ≤ 140737488355328 ∧ v39.2.length + ([(q8.getD v22.1.toNat 0)]).length ≤ maxLen) <|
 some (v39.2 ++ ([(q8.getD v22.1.toNat 0)]))) (
 req (0 ≤ v22.1 ∧ v22.1 < q8.length) <|
 req (0 ≤ v39.1 ∧ v39.1 < q7.length) <|
 bnd (Xeh (Xaa .i64 ((Xaa .i64 ((q8.getD v22.1.toNat 0) + (q7.getD v39.1.toNat 0))) - v9)) 0 255) fun q45 =>
 req ((v39.2.length + ([q45]).length) * 8 ≤ 140737488355328 ∧ v39.2.length + ([q45]).length ≤ maxLen) <|
 some (v39.2 ++ ([q45])))))) fun v44 =>
 some (.go (Xaa .i64 (v39.1 + 1), v44))) (
 some (.done v39.2))
def Xl3 (p0 : Int) (v4 : Int) (q7 : (List Int)) (q8 : (List Int)) (v9 : Int) (v22 : (Int × (List Int))) : Option (Lp (Int × (List Int)) (List Int)) :=
 sel (decide (v22.1 < 8)) (
 bnd (loop (Xfx p0 v4 q7 q8 v9 v22) (0, v22.2)) fun v43 =>
 some (.go (Xaa .i64 (v22.1 + 1), v43))) (
 some (.done v22.2))
def Xix (p0 : Int) (p1 : Xkb) : Option (List Int) :=
 bnd (
 bnd (Xlh p1) fun q2 =>
 sel q2 (
 bnd (Xat p0 0 3) fun q3 =>
 some (!q3)) (
 some true)) fun v1 =>
 sel v1 (
 some ([] : List Int)) (
 bnd (
 sel (decide ((Xaa .i64 ((p1.Above.length : Int) + (p1.Left.length : Int))) > 0)) (
 bnd (Xcb p1.Above) fun q5 =>
 bnd (Xcb p1.Left) fun q6 =>
 req ((2 : Int) ≠ 0) <|
 req ((Xaa .i64 ((p1.Above.length : Int) + (p1.Left.length : Int))) ≠ 0) <|
 some (Xaa .i64 ((Xaa .i64 ((Xaa .i64 (q5 + q6)) + (Xaa .i64 ((Xaa .i64 ((p1.Above.length : Int) + (p1.Left.length : Int))).tdiv 2)))).tdiv (Xaa .i64 ((p1.Above.length : Int) + (p1.Left.length : Int)))))) (
 some 128)) fun v4 =>
 bnd (Xkl p1.Above) fun q7 =>
 bnd (Xkl p1.Left) fun q8 =>
 bnd (
 sel (decide (p1.Corner < 0)) (
 some 128) (
 some p1.Corner)) fun v9 =>
 bnd (loop (Xl3 p0 v4 q7 q8 v9) (0, ([] : List Int))) fun v35 =>
 some v35)
def Xdb (p0 : Pic) (p1 : Pic) (p2 : Int) (p3 : Int) (p4 : Xj9) (p5 : Int) (p6 : Int) (p7 : Xa1) : Option ((List Int) × Bool) :=
 bnd (
 bnd (Xdh p0) fun q2 =>
 sel q2 (
 bnd (Xc1 p0 p5 p6) fun q3 =>
 sel q3 (
 bnd (Xat p2 0 256) fun q4 =>
 sel q4 (
 bnd (Xat p3 0 256) fun q5 =>
 sel q5 (
 bnd (Xft p7) fun q6 =>
 sel q6 (
 bnd (Xgm p4) fun q7 =>
 sel q7 (
 bnd (Xgo p7 p4) fun q8 =>
 sel q8 (
 sel (p7.Kind != 2) (
 bnd (Xdh p1) fun q9 =>
 some (!q9)) (
 some false)) (
 some true)) (
 some true)) (
 some true)) (
 some true)) (
 some true)) (
 some true)) (
 some true)) fun v1 =>
 sel v1 (
 some (([] : List Int), false)) (
 sel (p7.Kind == 0) (
 bnd (Xga p1 (Xaa .i64 (p2 + p5)) (Xaa .i64 (p3 + p6))) fun q10 =>
 some (q10, true)) (
 bnd (Xgn p7.Levels p4) fun q11 =>
 sel (p7.Kind == 1) (
 bnd (Xga p1 (Xaa .i64 ((Xaa .i64 (p2 + p5)) + p7.Dx)) (Xaa .i64 ((Xaa .i64 (p3 + p6)) + p7.Dy))) fun q12 =>
 bnd (Xkd q12 q11.1) fun q13 =>
 some (q13, true)) (
 bnd (Xlg p0 p5 p6) fun q14 =>
 bnd (Xix p7.Mode q14.1) fun q15 =>
 bnd (Xkd q15 q11.1) fun q16 =>
 some (q16, true))))
def Xos (p0 : Pic) : Option (List Int) :=
 req (p0.Dots.size ≤ maxLen) <|
 some (Xav p0.Dots)
def Xpr (p0 : Pic) (p1 : Int) (p2 : Int) (p3 : (List Int)) (v3 : (Int × (List Int))) : Option (Lp (Int × (List Int)) (List Int)) :=
 sel (decide (v3.1 < (p3.length : Int))) (
 req (0 ≤ v3.1 ∧ v3.1 < p3.length) <|
 req ((8 : Int) ≠ 0) <|
 req ((8 : Int) ≠ 0) <|
 req (0 ≤ (Xaa .i64 ((Xaa .i64 ((Xaa .i64 ((Xaa .i64 (p2 + (Xaa .i64 (v3.1.tdiv 8)))) * p0.Wide)) + p1)) + (v3.1.tmod 8))) ∧ (Xaa .i64 ((Xaa .i64 ((Xaa .i64 ((Xaa .i64 (p2 + (Xaa .i64 (v3.1.tdiv 8)))) * p0.Wide)) + p1)) + (v3.1.tmod 8))) < v3.2.length) <|
 req ((Xaa .i64 ((Xaa .i64 ((Xaa .i64 ((Xaa .i64 (p2 + (Xaa .i64 (v3.1.tdiv 8)))) * p0.Wide)) + p1)) + (v3.1.tmod 8))).toNat < v3.2.length) <|
 some (.go (Xaa .i64 (v3.1 + 1), (v3.2.set ((Xaa .i64 ((Xaa .i64 ((Xaa .i64 ((Xaa .i64 (p2 + (Xaa .i64 (v3.1.tdiv 8)))) * p0.Wide)) + p1)) + (v3.1.tmod 8))).toNat) (Xaa .u8 ((p3.getD v3.1.toNat 0))))))) (
 some (.done v3.2))
def Xr3 (p0 : Pic) (p1 : Int) (p2 : Int) (p3 : (List Int)) : Option Pic :=
 bnd (Xos p0) fun q1 =>
 bnd (loop (Xpr p0 p1 p2 p3) (0, q1)) fun v5 =>
 some (⟨p0.Wide, p0.High, (strOfNums v5)⟩ : Pic)
def Xbp (p1 : Xph) (p2 : Xj9) (p4 : (List Xa1)) (v10 : (Int × Int × Int × Int × ByteArray)) (v16 : (Int × Int × Int × ByteArray)) : Option (Lp (Int × Int × Int × ByteArray) (Ou (Int × Int × ByteArray) (Pic × Bool))) :=
 sel (decide (v16.1 < (p4.length : Int))) (
 req (0 ≤ v16.1 ∧ v16.1 < p4.length) <|
 req ((8 : Int) ≠ 0) <|
 req ((Xaa .i64 (p1.Wide.tdiv 8)) ≠ 0) <|
 req ((8 : Int) ≠ 0) <|
 req ((Xaa .i64 (p1.Wide.tdiv 8)) ≠ 0) <|
 bnd (Xdb (⟨v16.2.1, v16.2.2.1, v16.2.2.2⟩ : Pic) (⟨v10.2.2.1, v10.2.2.2.1, v10.2.2.2.2⟩ : Pic) v10.1 v10.2.1 p2 (Xaa .i64 ((v16.1.tmod (Xaa .i64 (p1.Wide.tdiv 8))) * 8)) (Xaa .i64 ((Xaa .i64 (v16.1.tdiv (Xaa .i64 (p1.Wide.tdiv 8)))) * 8)) (⟨(p4.getD v16.1.toNat Xbv).Kind, (p4.getD v16.1.toNat Xbv).Mode, (p4.getD v16.1.toNat Xbv).Dx, (p4.getD v16.1.toNat Xbv).Dy, (p4.getD v16.1.toNat Xbv).Levels⟩ : Xa1)) fun q21 =>
 sel (!q21.2) (
 some (.done (.ret ((⟨0, 0, ⟨#[]⟩⟩ : Pic), false)))) (
 bnd (Xr3 (⟨v16.2.1, v16.2.2.1, v16.2.2.2⟩ : Pic) (Xaa .i64 ((v16.1.tmod (Xaa .i64 (p1.Wide.tdiv 8))) * 8)) (Xaa .i64 ((Xaa .i64 (v16.1.tdiv (Xaa .i64 (p1.Wide.tdiv 8)))) * 8)) q21.1) fun q22 =>
 some (.go (Xaa .i64 (v16.1 + 1), q22.Wide, q22.High, q22.Dots)))) (
 some (.done (.out (v16.2.1, v16.2.2.1, v16.2.2.2))))
def Xjl (p0 : Pic) (p1 : Xph) (p2 : Xj9) (p3 : Bool) (p4 : (List Xa1)) : Option (Pic × Bool) :=
 bnd (
 bnd (Xkk p1.Wide) fun q2 =>
 sel q2 (
 bnd (Xkk p1.High) fun q3 =>
 sel q3 (
 bnd (Xat p1.Left 0 256) fun q4 =>
 sel q4 (
 bnd (Xat p1.Top 0 256) fun q5 =>
 sel q5 (
 bnd (Xgm p2) fun q6 =>
 sel q6 (
 req ((8 : Int) ≠ 0) <|
 req ((8 : Int) ≠ 0) <|
 some ((p4.length : Int) != (Xaa .i64 ((Xaa .i64 (p1.Wide.tdiv 8)) * (Xaa .i64 (p1.High.tdiv 8)))))) (
 some true)) (
 some true)) (
 some true)) (
 some true)) (
 some true)) fun v1 =>
 sel v1 (
 some ((⟨0, 0, ⟨#[]⟩⟩ : Pic), false)) (
 bnd (
 sel p2.Key (
 some false) (
 bnd (Xdh p0) fun q8 =>
 sel q8 (
 bnd (Xdw p0 p1) fun q9 =>
 some (!q9)) (
 some true))) fun v7 =>
 sel v7 (
 some ((⟨0, 0, ⟨#[]⟩⟩ : Pic), false)) (
 bnd (
 sel p3 (
 sel (!p2.Key) (
 bnd (Xmt p0 p1) fun q11 =>
 some (0, 0, q11.1.Wide, q11.1.High, q11.1.Dots)) (
 some (0, 0, p0.Wide, p0.High, p0.Dots))) (
 some (p1.Left, p1.Top, p0.Wide, p0.High, p0.Dots))) fun v10 =>
 bnd (Xmz p1.Wide p1.High) fun q12 =>
 bnd (loop (Xbp p1 p2 p4 v10) (0, q12.Wide, q12.High, q12.Dots)) fun o23 => match o23 with
| .out v20 => (
 some ((⟨v20.1, v20.2.1, v20.2.2⟩ : Pic), true))
| .ret r => some r))
def Xk7 (p0 : Pic) (p1 : Pic) (p2 : Int) (p3 : Int) (v7 : (Int × (List Int))) : Option (Lp (Int × (List Int)) (List Int)) :=
 sel (decide (v7.1 < p1.High)) (
 req (0 ≤ (Xaa .i64 ((Xaa .i64 ((Xaa .i64 (p3 + v7.1)) * p0.Wide)) + p2)) ∧ (Xaa .i64 ((Xaa .i64 ((Xaa .i64 (p3 + v7.1)) * p0.Wide)) + p2)) ≤ (v7.2.length : Int) ∧ (v7.2.length : Int) ≤ (v7.2.length : Int)) <|
 req (0 ≤ (Xaa .i64 (v7.1 * p1.Wide)) ∧ (Xaa .i64 (v7.1 * p1.Wide)) ≤ (Xaa .i64 ((Xaa .i64 (v7.1 + 1)) * p1.Wide)) ∧ (Xaa .i64 ((Xaa .i64 (v7.1 + 1)) * p1.Wide)) ≤ (p1.Dots.size : Int)) <|
 req (((Xaa .i64 ((Xaa .i64 ((Xaa .i64 (p3 + v7.1)) * p0.Wide)) + p2)).toNat + ((v7.2.length : Int).toNat - (Xaa .i64 ((Xaa .i64 ((Xaa .i64 (p3 + v7.1)) * p0.Wide)) + p2)).toNat) ≤ v7.2.length ∧ (Xav (p1.Dots.extract (Xaa .i64 (v7.1 * p1.Wide)).toNat (Xaa .i64 ((Xaa .i64 (v7.1 + 1)) * p1.Wide)).toNat)).length ≤ ((v7.2.length : Int).toNat - (Xaa .i64 ((Xaa .i64 ((Xaa .i64 (p3 + v7.1)) * p0.Wide)) + p2)).toNat))) <|
 some (.go (Xaa .i64 (v7.1 + 1), (over v7.2 ((Xaa .i64 ((Xaa .i64 ((Xaa .i64 (p3 + v7.1)) * p0.Wide)) + p2)).toNat) (Xav (p1.Dots.extract (Xaa .i64 (v7.1 * p1.Wide)).toNat (Xaa .i64 ((Xaa .i64 (v7.1 + 1)) * p1.Wide)).toNat)))))) (
 some (.done v7.2))
def Xm2 (p0 : Pic) (p1 : Pic) (p2 : Int) (p3 : Int) : Option (Pic × Bool) :=
 bnd (
 bnd (Xdh p0) fun q2 =>
 sel q2 (
 bnd (Xdh p1) fun q3 =>
 sel q3 (
 bnd (Xdw p0 (⟨p2, p3, p1.Wide, p1.High⟩ : Xph)) fun q4 =>
 some (!q4)) (
 some true)) (
 some true)) fun v1 =>
 sel v1 (
 some (p0, false)) (
 bnd (Xos p0) fun q5 =>
 bnd (loop (Xk7 p0 p1 p2 p3) (0, q5)) fun v9 =>
 some ((⟨p0.Wide, p0.High, (strOfNums v9)⟩ : Pic), true))
def Xr2 (p0 : Int) (p1 : Int) : Option Int :=
 req (0 ≤ p1) <|
 req ((Xaa .i64 (1 * 2 ^ min p1.toNat (IntKind.bits .i64))) ≠ 0) <|
 some ((Xaa .i64 (p0 + 1)).tmod (Xaa .i64 (1 * 2 ^ min p1.toNat (IntKind.bits .i64))))
def Xda (p0 : Xa0) (p1 : Bool) (p2 : ByteArray) : Option (Xa0 × Int × Pic × Xa0) :=
 bnd (
 sel p0.HasSeq (
 some (!p0.HasPar)) (
 some true)) fun v1 =>
 sel v1 (
 some (p0, 4, (⟨0, 0, ⟨#[]⟩⟩ : Pic), p0)) (
 bnd (Xhd p0.Seq p0.Par p2) fun q2 =>
 sel (!q2.2.2) (
 some (p0, 5, (⟨0, 0, ⟨#[]⟩⟩ : Pic), p0)) (
 sel (q2.1.Tile != p0.Got) (
 some (p0, 6, (⟨0, 0, ⟨#[]⟩⟩ : Pic), p0)) (
 bnd (
 sel (p0.Frame != (-1)) (
 some (p0.Frame != q2.1.Frame)) (
 some false)) fun v3 =>
 sel v3 (
 some (p0, 7, (⟨0, 0, ⟨#[]⟩⟩ : Pic), p0)) (
 bnd (
 sel p1 (
 some false) (
 some (!p0.HasRef))) fun v4 =>
 sel v4 (
 some (p0, 8, (⟨0, 0, ⟨#[]⟩⟩ : Pic), p0)) (
 bnd (Xfz p0.Seq q2.1.Tile) fun q5 =>
 bnd (Xji p2 q2.2.1 q5 (⟨p1, q2.1.Qp, p0.Par.Large, p0.Par.Exact⟩ : Xj9)) fun q6 =>
 sel (!q6.2) (
 some (p0, 9, (⟨0, 0, ⟨#[]⟩⟩ : Pic), p0)) (
 bnd (Xhh p0.Seq q2.1.Tile) fun q7 =>
 bnd (Xjl p0.Ref q7.1 (⟨p1, q2.1.Qp, p0.Par.Large, p0.Par.Exact⟩ : Xj9) p0.Par.Confined q6.1) fun q8 =>
 bnd (
 sel (p0.Got == 0) (
 bnd (Xir p0.Seq) fun q10 =>
 bnd (Xmz q10.1 q10.2) fun q11 =>
 some (q11.Wide, q11.High, q11.Dots)) (
 some (p0.Now.Wide, p0.Now.High, p0.Now.Dots))) fun v9 =>
 bnd (Xm2 (⟨v9.1, v9.2.1, v9.2.2⟩ : Pic) q8.1 q7.1.Left q7.1.Top) fun q12 =>
 bnd (Xfl p0.Seq) fun q13 =>
 sel (decide ((Xaa .i64 (p0.Got + 1)) < q13)) (
 some ((⟨p0.HasSeq, p0.HasPar, p0.HasRef, p0.Seq, p0.Par, q2.1.Frame, Xaa .i64 (p0.Got + 1), q12.1, p0.Ref⟩ : Xa0), 0, (⟨0, 0, ⟨#[]⟩⟩ : Pic), p0)) (
 bnd (Xr2 q2.1.Frame p0.Seq.Bits) fun q14 =>
 some ((⟨p0.HasSeq, p0.HasPar, true, p0.Seq, p0.Par, q14, 0, (⟨0, 0, ⟨#[]⟩⟩ : Pic), q12.1⟩ : Xa0), 0, q12.1, p0))))))))
def Xiw (p0 : Xa0) (p1 : ByteArray) : Option (Xa0 × Int × Pic) :=
 bnd (Xct p0) fun q1 =>
 bnd (Xoj q1) fun q2 =>
 sel (!q2) (
 some (q1, 1, (⟨0, 0, ⟨#[]⟩⟩ : Pic))) (
 bnd (Xkh p1) fun q3 =>
 sel (!q3.2.2) (
 some (q1, 2, (⟨0, 0, ⟨#[]⟩⟩ : Pic))) (
 sel (q3.1 == 7) (
 bnd (Xi0 q3.2.1 0) fun q4 =>
 bnd (
 sel q4.2.2 (
 some (q4.2.1 != (q3.2.1.size : Int))) (
 some true)) fun v5 =>
 sel v5 (
 some (q1, 3, (⟨0, 0, ⟨#[]⟩⟩ : Pic))) (
 bnd (Xmy) fun q6 =>
 some ((⟨true, q6.HasPar, q6.HasRef, q4.1, q6.Par, q6.Frame, q6.Got, q6.Now, q6.Ref⟩ : Xa0), 0, (⟨0, 0, ⟨#[]⟩⟩ : Pic)))) (
 sel (q3.1 == 8) (
 bnd (Xiz q3.2.1 0) fun q7 =>
 bnd (
 sel q7.2.2 (
 some (q7.2.1 != (q3.2.1.size : Int))) (
 some true)) fun v8 =>
 sel v8 (
 some (q1, 3, (⟨0, 0, ⟨#[]⟩⟩ : Pic))) (
 bnd (
 sel q1.HasSeq (
 some (decide (q1.Got > 0))) (
 some true)) fun v9 =>
 sel v9 (
 some (q1, 4, (⟨0, 0, ⟨#[]⟩⟩ : Pic))) (
 some ((⟨q1.HasSeq, true, q1.HasRef, q1.Seq, q7.1, q1.Frame, q1.Got, q1.Now, q1.Ref⟩ : Xa0), 0, (⟨0, 0, ⟨#[]⟩⟩ : Pic))))) (
 bnd (Xda q1 (q3.1 == 5) q3.2.1) fun q11 =>
 some ((⟨q11.1.HasSeq, q11.1.HasPar, q11.1.HasRef, (⟨q11.1.Seq.Level, q11.1.Seq.Bits, q11.2.2.2.Seq.Cols, q11.2.2.2.Seq.Rows⟩ : Seq), q11.1.Par, q11.1.Frame, q11.1.Got, q11.1.Now, q11.1.Ref⟩ : Xa0), q11.2.1, q11.2.2.1)))))
def Xia (p0 : (List Int)) (p1 : (List Int)) (v2 : Int) : Option (Lp Int (Ou Unit Bool)) :=
 sel (decide (v2 < (p0.length : Int))) (
 req (0 ≤ v2 ∧ v2 < p0.length) <|
 req (0 ≤ v2 ∧ v2 < p1.length) <|
 sel ((p0.getD v2.toNat 0) != (p1.getD v2.toNat 0)) (
 some (.done (.ret false))) (
 some (.go (Xaa .i64 (v2 + 1))))) (
 some (.done (.out ())))
def Xko (p0 : (List Int)) (p1 : (List Int)) : Option Bool :=
 sel ((p0.length : Int) != (p1.length : Int)) (
 some false) (
 bnd (loop (Xia p0 p1) 0) fun o5 => match o5 with
| .out v4 => (
 some true)
| .ret r => some r)
def Xoy (p0 : Pic) (p1 : Pic) : Option Bool :=
 sel (p0.Wide != p1.Wide) (
 some false) (
 sel (p0.High != p1.High) (
 some false) (
 sel (!(p0.Dots.toList == p1.Dots.toList)) (
 some false) (
 some true)))
def Xf3 (v2 : (Int × Int × (List Int))) : Option (Lp (Int × Int × (List Int)) (Int × (List Int))) :=
 sel (decide (v2.2.1 < (v2.2.2.length : Int))) (
 req (0 ≤ v2.2.1 ∧ v2.2.1 < v2.2.2.length) <|
 req (v2.2.1.toNat < v2.2.2.length) <|
 some (.go (Xaa .i64 (v2.1 + 1), Xaa .i64 (v2.2.1 + 1), (v2.2.2.set v2.2.1.toNat v2.1)))) (
 some (.done (v2.1, v2.2.2)))
def Xjt (p0 : (List Int)) (p1 : Int) : Option (Int × (List Int)) :=
 bnd (loop (Xf3) (p1, 0, p0)) fun v4 =>
 some (v4.1, v4.2)
def Xf1 (p0 : (List Int)) (v2 : (Int × Int)) : Option (Lp (Int × Int) (Ou Int Int)) :=
 sel (decide (v2.2 < (p0.length : Int))) (
 req (0 ≤ v2.2 ∧ v2.2 < p0.length) <|
 sel ((p0.getD v2.2.toNat 0) != v2.1) (
 some (.done (.ret (-1)))) (
 some (.go (Xaa .i64 (v2.1 + 1), Xaa .i64 (v2.2 + 1))))) (
 some (.done (.out v2.1)))
def Xhk (p0 : (List Int)) (p1 : Int) : Option Int :=
 bnd (loop (Xf1 p0) (p1, 0)) fun o5 => match o5 with
| .out v4 => (
 some v4)
| .ret r => some r
def Xp3 : Option Xa0 :=
 some (⟨false, false, false, (⟨0, 0, [], []⟩ : Seq), (⟨0, false, false, false⟩ : Par), (-1), 0, (⟨0, 0, ⟨#[]⟩⟩ : Pic), (⟨0, 0, ⟨#[]⟩⟩ : Pic)⟩ : Xa0)
def Xer (p0 : ByteArray) (v4 : (Int × (List Int))) : Option (Lp (Int × (List Int)) (List Int)) :=
 sel (decide (v4.1 < (p0.size : Int))) (
 bnd (
 bnd (
 sel (decide ((v4.2.length : Int) ≥ 2)) (
 req (0 ≤ (Xaa .i64 ((v4.2.length : Int) - 1)) ∧ (Xaa .i64 ((v4.2.length : Int) - 1)) < v4.2.length) <|
 req ((Xaa .i64 ((v4.2.length : Int) - 1)).toNat < v4.2.length) <|
 sel ((v4.2.getD ((Xaa .i64 ((v4.2.length : Int) - 1)).toNat) 0) == 0) (
 req (0 ≤ (Xaa .i64 ((v4.2.length : Int) - 2)) ∧ (Xaa .i64 ((v4.2.length : Int) - 2)) < v4.2.length) <|
 req ((Xaa .i64 ((v4.2.length : Int) - 2)).toNat < v4.2.length) <|
 sel ((v4.2.getD ((Xaa .i64 ((v4.2.length : Int) - 2)).toNat) 0) == 0) (
 req (0 ≤ v4.1 ∧ v4.1 < p0.size) <|
 some (decide ((Xb7 p0 v4.1) < 4))) (
 some false)) (
 some false)) (
 some false)) fun v10 =>
 sel v10 (
 req ((v4.2.length + ([3]).length) * 1 ≤ 140737488355328 ∧ v4.2.length + ([3]).length ≤ maxLen) <|
 some (v4.2 ++ ([3]))) (
 some v4.2)) fun v9 =>
 req (0 ≤ v4.1 ∧ v4.1 < p0.size) <|
 req ((v9.length + ([(Xb7 p0 v4.1)]).length) * 1 ≤ 140737488355328 ∧ v9.length + ([(Xb7 p0 v4.1)]).length ≤ maxLen) <|
 some (.go (Xaa .i64 (v4.1 + 1), (v9 ++ ([(Xb7 p0 v4.1)]))))) (
 some (.done v4.2))
def Xg2 (p0 : ByteArray) : Option ByteArray :=
 bnd (loop (Xer p0) (0, ([] : List Int))) fun v8 =>
 some (strOfNums v8)
def Xlu (p0 : ByteArray) : Option (ByteArray × Bool) :=
 bnd (
 sel ((p0.size : Int) == 0) (
 some true) (
 sel (decide ((p0.size : Int) > 60000)) (
 some true) (
 req (0 ≤ (Xaa .i64 ((p0.size : Int) - 1)) ∧ (Xaa .i64 ((p0.size : Int) - 1)) < p0.size) <|
 some ((Xb7 p0 (Xaa .i64 ((p0.size : Int) - 1))) == 0)))) fun v1 =>
 sel v1 (
 some (⟨#[]⟩, false)) (
 bnd (Xg2 p0) fun q2 =>
 some (q2, true))
def Xd2 (p0 : ByteArray) (v4 : (Int × (List Int))) : Option (Lp (Int × (List Int)) (List Int)) :=
 sel (decide (v4.1 < (p0.size : Int))) (
 bnd (
 bnd (
 sel (decide (v4.1 ≥ 2)) (
 req (0 ≤ v4.1 ∧ v4.1 < p0.size) <|
 sel ((Xb7 p0 v4.1) == 3) (
 req (0 ≤ (Xaa .i64 (v4.1 - 1)) ∧ (Xaa .i64 (v4.1 - 1)) < p0.size) <|
 sel ((Xb7 p0 (Xaa .i64 (v4.1 - 1))) == 0) (
 req (0 ≤ (Xaa .i64 (v4.1 - 2)) ∧ (Xaa .i64 (v4.1 - 2)) < p0.size) <|
 some ((Xb7 p0 (Xaa .i64 (v4.1 - 2))) == 0)) (
 some false)) (
 some false)) (
 some false)) fun v10 =>
 sel v10 (
 some v4.2) (
 req (0 ≤ v4.1 ∧ v4.1 < p0.size) <|
 req ((v4.2.length + ([(Xb7 p0 v4.1)]).length) * 1 ≤ 140737488355328 ∧ v4.2.length + ([(Xb7 p0 v4.1)]).length ≤ maxLen) <|
 some (v4.2 ++ ([(Xb7 p0 v4.1)])))) fun v9 =>
 some (.go (Xaa .i64 (v4.1 + 1), v9))) (
 some (.done v4.2))
def Xge (p0 : ByteArray) : Option (ByteArray × Bool) :=
 sel (decide ((p0.size : Int) > 120000)) (
 some (⟨#[]⟩, false)) (
 bnd (loop (Xd2 p0) (0, ([] : List Int))) fun v8 =>
 bnd (Xlu (strOfNums v8)) fun q12 =>
 bnd (
 sel q12.2 (
 some (!(q12.1.toList == p0.toList))) (
 some true)) fun v13 =>
 sel v13 (
 some (⟨#[]⟩, false)) (
 some ((strOfNums v8), true)))
def Xb9 (p0 : ByteArray) (v17 : (Int × Int × (List ByteArray))) (v42 : Int) : Option (Lp Int Int) :=
 bnd (
 sel (decide (v42 > v17.1)) (
 req (0 ≤ (Xaa .i64 (v42 - 1)) ∧ (Xaa .i64 (v42 - 1)) < p0.size) <|
 some ((Xb7 p0 (Xaa .i64 (v42 - 1))) == 0)) (
 some false)) fun v46 =>
 sel v46 (
 some (.go (Xaa .i64 (v42 - 1)))) (
 some (.done v42))
def Xb8 (p0 : ByteArray) (v17 : (Int × Int × (List ByteArray))) : Option (Lp (Int × Int × (List ByteArray)) (List ByteArray)) :=
 sel (decide (v17.2.1 ≤ (p0.size : Int))) (
 bnd (
 bnd (
 sel (decide ((Xaa .i64 (v17.2.1 + 2)) < (p0.size : Int))) (
 req (0 ≤ v17.2.1 ∧ v17.2.1 < p0.size) <|
 sel ((Xb7 p0 v17.2.1) == 0) (
 req (0 ≤ (Xaa .i64 (v17.2.1 + 1)) ∧ (Xaa .i64 (v17.2.1 + 1)) < p0.size) <|
 sel ((Xb7 p0 (Xaa .i64 (v17.2.1 + 1))) == 0) (
 req (0 ≤ (Xaa .i64 (v17.2.1 + 2)) ∧ (Xaa .i64 (v17.2.1 + 2)) < p0.size) <|
 some ((Xb7 p0 (Xaa .i64 (v17.2.1 + 2))) == 1)) (
 some false)) (
 some false)) (
 some false)) fun v36 =>
 bnd (
 sel v36 (
 some false) (
 some (decide (v17.2.1 < (p0.size : Int))))) fun v37 =>
 sel v37 (
 some (v17.1, v17.2.2)) (
 bnd (
 bnd (
 sel (decide (v17.1 ≥ 0)) (
 some (decide (v17.1 ≤ v17.2.1))) (
 some false)) fun v39 =>
 sel v39 (
 bnd (loop (Xb9 p0 v17) v17.2.1) fun v45 =>
 req (0 ≤ v17.1 ∧ v17.1 ≤ v45 ∧ v45 ≤ (p0.size : Int)) <|
 bnd (Xge (p0.extract v17.1.toNat v45.toNat)) fun q48 =>
 bnd (
 sel q48.2 (
 some (decide ((v17.2.2.length : Int) < 400))) (
 some false)) fun v49 =>
 sel v49 (
 req ((v17.2.2.length + ([q48.1]).length) * 16 ≤ 140737488355328 ∧ v17.2.2.length + ([q48.1]).length ≤ maxLen) <|
 some (v17.2.2 ++ ([q48.1]))) (
 some v17.2.2)) (
 some v17.2.2)) fun v38 =>
 some (Xaa .i64 (v17.2.1 + 3), v38))) fun v35 =>
 some (.go (v35.1, Xaa .i64 (v17.2.1 + 1), v35.2))) (
 some (.done v17.2.2))
def Xlv (p0 : ByteArray) : Option (List ByteArray) :=
 sel (decide ((p0.size : Int) > 60000)) (
 some ([] : List ByteArray)) (
 bnd (loop (Xb8 p0) ((-1), 0, ([] : List ByteArray))) fun v34 =>
 some v34)
def Xgc (p1 : (List ByteArray)) (v5 : (Int × Bool × Bool × Bool × Int × Int × Int × Bool × Bool × Bool × Int × Int × Int × Int × ByteArray × Int × Int × ByteArray × (List Pic) × (List Int) × (List Int) × (List Int))) : Option (Lp (Int × Bool × Bool × Bool × Int × Int × Int × Bool × Bool × Bool × Int × Int × Int × Int × ByteArray × Int × Int × ByteArray × (List Pic) × (List Int) × (List Int) × (List Int)) (Bool × Bool × Bool × Int × Int × Int × Bool × Bool × Bool × Int × Int × Int × Int × ByteArray × Int × Int × ByteArray × (List Pic) × (List Int) × (List Int) × (List Int))) :=
 sel (decide (v5.1 < (p1.length : Int))) (
 bnd (
 req (0 ≤ v5.1 ∧ v5.1 < p1.length) <|
 bnd (Xi5 (⟨v5.2.1, v5.2.2.1, v5.2.2.2.1, (⟨v5.2.2.2.2.1, v5.2.2.2.2.2.1, v5.2.2.2.2.2.2.2.2.2.2.2.2.2.2.2.2.2.2.2.2.1, v5.2.2.2.2.2.2.2.2.2.2.2.2.2.2.2.2.2.2.2.2.2⟩ : Seq), (⟨v5.2.2.2.2.2.2.1, v5.2.2.2.2.2.2.2.1, v5.2.2.2.2.2.2.2.2.1, v5.2.2.2.2.2.2.2.2.2.1⟩ : Par), v5.2.2.2.2.2.2.2.2.2.2.1, v5.2.2.2.2.2.2.2.2.2.2.2.1, (⟨v5.2.2.2.2.2.2.2.2.2.2.2.2.1, v5.2.2.2.2.2.2.2.2.2.2.2.2.2.1, v5.2.2.2.2.2.2.2.2.2.2.2.2.2.2.1⟩ : Pic), (⟨v5.2.2.2.2.2.2.2.2.2.2.2.2.2.2.2.1, v5.2.2.2.2.2.2.2.2.2.2.2.2.2.2.2.2.1, v5.2.2.2.2.2.2.2.2.2.2.2.2.2.2.2.2.2.1⟩ : Pic)⟩ : Xa0) (p1.getD v5.1.toNat Xkc)) fun q11 =>
 req ((v5.2.2.2.2.2.2.2.2.2.2.2.2.2.2.2.2.2.2.2.1.length + ([q11.2.1]).length) * 8 ≤ 140737488355328 ∧ v5.2.2.2.2.2.2.2.2.2.2.2.2.2.2.2.2.2.2.2.1.length + ([q11.2.1]).length ≤ maxLen) <|
 sel (decide (q11.2.2.Wide > 0)) (
 req ((v5.2.2.2.2.2.2.2.2.2.2.2.2.2.2.2.2.2.2.1.length + ([q11.2.2]).length) * 32 ≤ 140737488355328 ∧ v5.2.2.2.2.2.2.2.2.2.2.2.2.2.2.2.2.2.2.1.length + ([q11.2.2]).length ≤ maxLen) <|
 some (q11.1.HasSeq, q11.1.HasPar, q11.1.HasRef, q11.1.Seq.Level, q11.1.Seq.Bits, q11.1.Par.Qp, q11.1.Par.Large, q11.1.Par.Exact, q11.1.Par.Confined, q11.1.Frame, q11.1.Got, q11.1.Now.Wide, q11.1.Now.High, q11.1.Now.Dots, q11.1.Ref.Wide, q11.1.Ref.High, q11.1.Ref.Dots, (v5.2.2.2.2.2.2.2.2.2.2.2.2.2.2.2.2.2.2.1 ++ ([q11.2.2])), (v5.2.2.2.2.2.2.2.2.2.2.2.2.2.2.2.2.2.2.2.1 ++ ([q11.2.1])), q11.1.Seq.Cols, q11.1.Seq.Rows)) (
 some (q11.1.HasSeq, q11.1.HasPar, q11.1.HasRef, q11.1.Seq.Level, q11.1.Seq.Bits, q11.1.Par.Qp, q11.1.Par.Large, q11.1.Par.Exact, q11.1.Par.Confined, q11.1.Frame, q11.1.Got, q11.1.Now.Wide, q11.1.Now.High, q11.1.Now.Dots, q11.1.Ref.Wide, q11.1.Ref.High, q11.1.Ref.Dots, v5.2.2.2.2.2.2.2.2.2.2.2.2.2.2.2.2.2.2.1, (v5.2.2.2.2.2.2.2.2.2.2.2.2.2.2.2.2.2.2.2.1 ++ ([q11.2.1])), q11.1.Seq.Cols, q11.1.Seq.Rows))) fun v10 =>
 some (.go (Xaa .i64 (v5.1 + 1), v10.1, v10.2.1, v10.2.2.1, v10.2.2.2.1, v10.2.2.2.2.1, v10.2.2.2.2.2.1, v10.2.2.2.2.2.2.1, v10.2.2.2.2.2.2.2.1, v10.2.2.2.2.2.2.2.2.1, v10.2.2.2.2.2.2.2.2.2.1, v10.2.2.2.2.2.2.2.2.2.2.1, v10.2.2.2.2.2.2.2.2.2.2.2.1, v10.2.2.2.2.2.2.2.2.2.2.2.2.1, v10.2.2.2.2.2.2.2.2.2.2.2.2.2.1, v10.2.2.2.2.2.2.2.2.2.2.2.2.2.2.1, v10.2.2.2.2.2.2.2.2.2.2.2.2.2.2.2.1, v10.2.2.2.2.2.2.2.2.2.2.2.2.2.2.2.2.1, v10.2.2.2.2.2.2.2.2.2.2.2.2.2.2.2.2.2.1, v10.2.2.2.2.2.2.2.2.2.2.2.2.2.2.2.2.2.2.1, v10.2.2.2.2.2.2.2.2.2.2.2.2.2.2.2.2.2.2.2.1, v10.2.2.2.2.2.2.2.2.2.2.2.2.2.2.2.2.2.2.2.2))) (
 some (.done (v5.2.1, v5.2.2.1, v5.2.2.2.1, v5.2.2.2.2.1, v5.2.2.2.2.2.1, v5.2.2.2.2.2.2.1, v5.2.2.2.2.2.2.2.1, v5.2.2.2.2.2.2.2.2.1, v5.2.2.2.2.2.2.2.2.2.1, v5.2.2.2.2.2.2.2.2.2.2.1, v5.2.2.2.2.2.2.2.2.2.2.2.1, v5.2.2.2.2.2.2.2.2.2.2.2.2.1, v5.2.2.2.2.2.2.2.2.2.2.2.2.2.1, v5.2.2.2.2.2.2.2.2.2.2.2.2.2.2.1, v5.2.2.2.2.2.2.2.2.2.2.2.2.2.2.2.1, v5.2.2.2.2.2.2.2.2.2.2.2.2.2.2.2.2.1, v5.2.2.2.2.2.2.2.2.2.2.2.2.2.2.2.2.2.1, v5.2.2.2.2.2.2.2.2.2.2.2.2.2.2.2.2.2.2.1, v5.2.2.2.2.2.2.2.2.2.2.2.2.2.2.2.2.2.2.2.1, v5.2.2.2.2.2.2.2.2.2.2.2.2.2.2.2.2.2.2.2.2.1, v5.2.2.2.2.2.2.2.2.2.2.2.2.2.2.2.2.2.2.2.2.2)))
def Xm9 (p0 : Xa0) (p1 : (List ByteArray)) : Option (Xa0 × (List Pic) × (List Int)) :=
 bnd (Xg3 p0.Seq) fun q1 =>
 sel (decide ((p1.length : Int) > 400)) (
 some ((⟨p0.HasSeq, p0.HasPar, p0.HasRef, q1, p0.Par, p0.Frame, p0.Got, p0.Now, p0.Ref⟩ : Xa0), ([] : List Pic), ([] : List Int))) (
 bnd (loop (Xgc p1) (0, p0.HasSeq, p0.HasPar, p0.HasRef, q1.Level, q1.Bits, p0.Par.Qp, p0.Par.Large, p0.Par.Exact, p0.Par.Confined, p0.Frame, p0.Got, p0.Now.Wide, p0.Now.High, p0.Now.Dots, p0.Ref.Wide, p0.Ref.High, p0.Ref.Dots, ([] : List Pic), ([] : List Int), q1.Cols, q1.Rows)) fun v9 =>
 some ((⟨v9.1, v9.2.1, v9.2.2.1, (⟨v9.2.2.2.1, v9.2.2.2.2.1, v9.2.2.2.2.2.2.2.2.2.2.2.2.2.2.2.2.2.2.2.1, v9.2.2.2.2.2.2.2.2.2.2.2.2.2.2.2.2.2.2.2.2⟩ : Seq), (⟨v9.2.2.2.2.2.1, v9.2.2.2.2.2.2.1, v9.2.2.2.2.2.2.2.1, v9.2.2.2.2.2.2.2.2.1⟩ : Par), v9.2.2.2.2.2.2.2.2.2.1, v9.2.2.2.2.2.2.2.2.2.2.1, (⟨v9.2.2.2.2.2.2.2.2.2.2.2.1, v9.2.2.2.2.2.2.2.2.2.2.2.2.1, v9.2.2.2.2.2.2.2.2.2.2.2.2.2.1⟩ : Pic), (⟨v9.2.2.2.2.2.2.2.2.2.2.2.2.2.2.1, v9.2.2.2.2.2.2.2.2.2.2.2.2.2.2.2.1, v9.2.2.2.2.2.2.2.2.2.2.2.2.2.2.2.2.1⟩ : Pic)⟩ : Xa0), v9.2.2.2.2.2.2.2.2.2.2.2.2.2.2.2.2.2.1, v9.2.2.2.2.2.2.2.2.2.2.2.2.2.2.2.2.2.2.1))
def Xid (p0 : ByteArray) : Option ((List Pic) × (List Int)) :=
 bnd (Xp3) fun q1 =>
 bnd (Xlv p0) fun q2 =>
 bnd (Xm9 q1 q2) fun q3 =>
 some (q3.2.1, q3.2.2)
def Xey (p0 : ByteArray) (v3 : (Int × (List Int))) : Option (Lp (Int × (List Int)) (List Int)) :=
 sel (decide ((Xaa .i64 (v3.1 + 3)) ≤ (p0.size : Int))) (
 bnd (
 req (0 ≤ v3.1 ∧ v3.1 ≤ (Xaa .i64 (v3.1 + 3)) ∧ (Xaa .i64 (v3.1 + 3)) ≤ (p0.size : Int)) <|
 sel ((p0.extract v3.1.toNat (Xaa .i64 (v3.1 + 3)).toNat).toList == (⟨#[0, 0, 1]⟩ : ByteArray).toList) (
 req ((v3.2.length + ([v3.1]).length) * 8 ≤ 140737488355328 ∧ v3.2.length + ([v3.1]).length ≤ maxLen) <|
 some (v3.2 ++ ([v3.1]))) (
 some v3.2)) fun v7 =>
 some (.go (Xaa .i64 (v3.1 + 1), v7))) (
 some (.done v3.2))
def Xm5 (p0 : ByteArray) : Option (List Int) :=
 bnd (loop (Xey p0) (0, ([] : List Int))) fun v6 =>
 some v6
def Xe7 (p0 : ByteArray) (v6 : (Int × Int × (List Int))) : Option (Lp (Int × Int × (List Int)) (List Int)) :=
 sel (decide (v6.2.1 < (p0.size : Int))) (
 bnd (
 bnd (
 bnd (
 req (0 ≤ v6.2.1 ∧ v6.2.1 < p0.size) <|
 sel (decide ((Xb7 p0 v6.2.1) < 4)) (
 some (decide (v6.1 ≥ 2))) (
 some false)) fun v14 =>
 sel v14 (
 req ((v6.2.2.length + ([3]).length) * 1 ≤ 140737488355328 ∧ v6.2.2.length + ([3]).length ≤ maxLen) <|
 some (0, (v6.2.2 ++ ([3])))) (
 some (v6.1, v6.2.2))) fun v13 =>
 req (0 ≤ v6.2.1 ∧ v6.2.1 < p0.size) <|
 req ((v13.2.length + ([(Xb7 p0 v6.2.1)]).length) * 1 ≤ 140737488355328 ∧ v13.2.length + ([(Xb7 p0 v6.2.1)]).length ≤ maxLen) <|
 req (0 ≤ v6.2.1 ∧ v6.2.1 < p0.size) <|
 sel ((Xb7 p0 v6.2.1) == 0) (
 some (Xaa .i64 (v13.1 + 1), (v13.2 ++ ([(Xb7 p0 v6.2.1)])))) (
 some (0, (v13.2 ++ ([(Xb7 p0 v6.2.1)]))))) fun v12 =>
 some (.go (v12.1, Xaa .i64 (v6.2.1 + 1), v12.2))) (
 some (.done v6.2.2))
def Xli (p0 : ByteArray) : Option (ByteArray × Bool) :=
 bnd (
 sel (p0.toList == (⟨#[]⟩ : ByteArray).toList) (
 some true) (
 sel (decide ((p0.size : Int) > 60000)) (
 some true) (
 req (0 ≤ (Xaa .i64 ((p0.size : Int) - 1)) ∧ (Xaa .i64 ((p0.size : Int) - 1)) < p0.size) <|
 some ((Xb7 p0 (Xaa .i64 ((p0.size : Int) - 1))) == 0)))) fun v1 =>
 sel v1 (
 some (⟨#[]⟩, false)) (
 req ((2 : Int) ≠ 0) <|
 req (0 ≤ (0 : Int) ∧ (0 : Int) ≤ (Xaa .i64 ((p0.size : Int) + (Xaa .i64 ((p0.size : Int).tdiv 2)))) ∧ (Xaa .i64 ((p0.size : Int) + (Xaa .i64 ((p0.size : Int).tdiv 2)))) * 1 ≤ 281474976710656) <|
 bnd (loop (Xe7 p0) (0, 0, (List.replicate (0 : Int).toNat (0 : Int)))) fun v11 =>
 some ((strOfNums v11), true))
def Xd0 (p0 : ByteArray) (v5 : (Int × Int × (List Int))) : Option (Lp (Int × Int × (List Int)) (List Int)) :=
 sel (decide (v5.2.1 < (p0.size : Int))) (
 bnd (
 Ynw (fun (v12 : Int) =>
 req (0 ≤ v5.2.1 ∧ v5.2.1 < p0.size) <|
 req ((v5.2.2.length + ([(Xb7 p0 v5.2.1)]).length) * 1 ≤ 140737488355328 ∧ v5.2.2.length + ([(Xb7 p0 v5.2.1)]).length ≤ maxLen) <|
 some (v12, (v5.2.2 ++ ([(Xb7 p0 v5.2.1)])))) fun j12 =>
 bnd (
 sel (decide (v5.1 ≥ 2)) (
 req (0 ≤ v5.2.1 ∧ v5.2.1 < p0.size) <|
 some ((Xb7 p0 v5.2.1) == 3)) (
 some false)) fun v13 =>
 sel v13 (
 some (0, v5.2.2)) (
 req (0 ≤ v5.2.1 ∧ v5.2.1 < p0.size) <|
 sel ((Xb7 p0 v5.2.1) == 0) (
 j12 (Xaa .i64 (v5.1 + 1))) (
 j12 0))) fun v11 =>
 some (.go (v11.1, Xaa .i64 (v5.2.1 + 1), v11.2))) (
 some (.done v5.2.2))
def Xh7 (p0 : ByteArray) : Option (ByteArray × Bool) :=
 req (0 ≤ (0 : Int) ∧ (0 : Int) ≤ (p0.size : Int) ∧ (p0.size : Int) * 1 ≤ 281474976710656) <|
 bnd (loop (Xd0 p0) (0, 0, (List.replicate (0 : Int).toNat (0 : Int)))) fun v10 =>
 bnd (Xli (strOfNums v10)) fun q15 =>
 bnd (
 sel q15.2 (
 some (!(q15.1.toList == p0.toList))) (
 some true)) fun v16 =>
 sel v16 (
 some (⟨#[]⟩, false)) (
 some ((strOfNums v10), true))
def Xij (p0 : ByteArray) (q1 : (List Int)) (v14 : (Int × (List ByteArray))) (v32 : Int) : Option (Lp Int Int) :=
 bnd (
 req (0 ≤ v14.1 ∧ v14.1 < (q1 ++ ([(p0.size : Int)])).length) <|
 req (v14.1.toNat < (q1 ++ ([(p0.size : Int)])).length) <|
 sel (decide (v32 > (Xaa .i64 (((q1 ++ ([(p0.size : Int)])).getD v14.1.toNat 0) + 3)))) (
 req (0 ≤ (Xaa .i64 (v32 - 1)) ∧ (Xaa .i64 (v32 - 1)) < p0.size) <|
 some ((Xb7 p0 (Xaa .i64 (v32 - 1))) == 0)) (
 some false)) fun v36 =>
 sel v36 (
 some (.go (Xaa .i64 (v32 - 1)))) (
 some (.done v32))
def Xcs (p0 : ByteArray) (q1 : (List Int)) (v14 : (Int × (List ByteArray))) : Option (Lp (Int × (List ByteArray)) (List ByteArray)) :=
 bnd (
 sel (decide ((Xaa .i64 (v14.1 + 1)) < ((q1 ++ ([(p0.size : Int)])).length : Int))) (
 some (decide ((v14.2.length : Int) < 400))) (
 some false)) fun v28 =>
 sel v28 (
 bnd (
 req (0 ≤ (Xaa .i64 (v14.1 + 1)) ∧ (Xaa .i64 (v14.1 + 1)) < (q1 ++ ([(p0.size : Int)])).length) <|
 req ((Xaa .i64 (v14.1 + 1)).toNat < (q1 ++ ([(p0.size : Int)])).length) <|
 bnd (loop (Xij p0 q1 v14) ((q1 ++ ([(p0.size : Int)])).getD ((Xaa .i64 (v14.1 + 1)).toNat) 0)) fun v35 =>
 req (0 ≤ v14.1 ∧ v14.1 < (q1 ++ ([(p0.size : Int)])).length) <|
 req (v14.1.toNat < (q1 ++ ([(p0.size : Int)])).length) <|
 req (0 ≤ (Xaa .i64 (((q1 ++ ([(p0.size : Int)])).getD v14.1.toNat 0) + 3)) ∧ (Xaa .i64 (((q1 ++ ([(p0.size : Int)])).getD v14.1.toNat 0) + 3)) ≤ v35 ∧ v35 ≤ (p0.size : Int)) <|
 bnd (Xh7 (p0.extract (Xaa .i64 (((q1 ++ ([(p0.size : Int)])).getD v14.1.toNat 0) + 3)).toNat v35.toNat)) fun q38 =>
 sel q38.2 (
 req ((v14.2.length + ([q38.1]).length) * 16 ≤ 140737488355328 ∧ v14.2.length + ([q38.1]).length ≤ maxLen) <|
 some (v14.2 ++ ([q38.1]))) (
 some v14.2)) fun v29 =>
 some (.go (Xaa .i64 (v14.1 + 1), v29))) (
 some (.done v14.2))
def Xll (p0 : ByteArray) : Option (List ByteArray) :=
 sel (decide ((p0.size : Int) > 60000)) (
 some ([] : List ByteArray)) (
 bnd (Xm5 p0) fun q1 =>
 req ((q1.length + ([(p0.size : Int)]).length) * 8 ≤ 140737488355328 ∧ q1.length + ([(p0.size : Int)]).length ≤ maxLen) <|
 bnd (loop (Xcs p0 q1) (0, ([] : List ByteArray))) fun v27 =>
 some v27)
def Xf8 (p1 : (List ByteArray)) (v6 : (Int × Bool × Bool × Bool × Int × Int × Int × Bool × Bool × Bool × Int × Int × Int × Int × ByteArray × Int × Int × ByteArray × (List Pic) × (List Int) × (List Int) × (List Int))) : Option (Lp (Int × Bool × Bool × Bool × Int × Int × Int × Bool × Bool × Bool × Int × Int × Int × Int × ByteArray × Int × Int × ByteArray × (List Pic) × (List Int) × (List Int) × (List Int)) (Bool × Bool × Bool × Int × Int × Int × Bool × Bool × Bool × Int × Int × Int × Int × ByteArray × Int × Int × ByteArray × (List Pic) × (List Int) × (List Int) × (List Int))) :=
 sel (decide (v6.1 < (p1.length : Int))) (
 bnd (
 req (0 ≤ v6.1 ∧ v6.1 < p1.length) <|
 bnd (Xiw (⟨v6.2.1, v6.2.2.1, v6.2.2.2.1, (⟨v6.2.2.2.2.1, v6.2.2.2.2.2.1, v6.2.2.2.2.2.2.2.2.2.2.2.2.2.2.2.2.2.2.2.2.1, v6.2.2.2.2.2.2.2.2.2.2.2.2.2.2.2.2.2.2.2.2.2⟩ : Seq), (⟨v6.2.2.2.2.2.2.1, v6.2.2.2.2.2.2.2.1, v6.2.2.2.2.2.2.2.2.1, v6.2.2.2.2.2.2.2.2.2.1⟩ : Par), v6.2.2.2.2.2.2.2.2.2.2.1, v6.2.2.2.2.2.2.2.2.2.2.2.1, (⟨v6.2.2.2.2.2.2.2.2.2.2.2.2.1, v6.2.2.2.2.2.2.2.2.2.2.2.2.2.1, v6.2.2.2.2.2.2.2.2.2.2.2.2.2.2.1⟩ : Pic), (⟨v6.2.2.2.2.2.2.2.2.2.2.2.2.2.2.2.1, v6.2.2.2.2.2.2.2.2.2.2.2.2.2.2.2.2.1, v6.2.2.2.2.2.2.2.2.2.2.2.2.2.2.2.2.2.1⟩ : Pic)⟩ : Xa0) (p1.getD v6.1.toNat Xkc)) fun q13 =>
 req ((v6.2.2.2.2.2.2.2.2.2.2.2.2.2.2.2.2.2.2.2.1.length + ([q13.2.1]).length) * 8 ≤ 140737488355328 ∧ v6.2.2.2.2.2.2.2.2.2.2.2.2.2.2.2.2.2.2.2.1.length + ([q13.2.1]).length ≤ maxLen) <|
 bnd (Xdh q13.2.2) fun q14 =>
 sel q14 (
 req ((v6.2.2.2.2.2.2.2.2.2.2.2.2.2.2.2.2.2.2.1.length + ([q13.2.2]).length) * 32 ≤ 140737488355328 ∧ v6.2.2.2.2.2.2.2.2.2.2.2.2.2.2.2.2.2.2.1.length + ([q13.2.2]).length ≤ maxLen) <|
 some (q13.1.HasSeq, q13.1.HasPar, q13.1.HasRef, q13.1.Seq.Level, q13.1.Seq.Bits, q13.1.Par.Qp, q13.1.Par.Large, q13.1.Par.Exact, q13.1.Par.Confined, q13.1.Frame, q13.1.Got, q13.1.Now.Wide, q13.1.Now.High, q13.1.Now.Dots, q13.1.Ref.Wide, q13.1.Ref.High, q13.1.Ref.Dots, (v6.2.2.2.2.2.2.2.2.2.2.2.2.2.2.2.2.2.2.1 ++ ([q13.2.2])), (v6.2.2.2.2.2.2.2.2.2.2.2.2.2.2.2.2.2.2.2.1 ++ ([q13.2.1])), q13.1.Seq.Cols, q13.1.Seq.Rows)) (
 some (q13.1.HasSeq, q13.1.HasPar, q13.1.HasRef, q13.1.Seq.Level, q13.1.Seq.Bits, q13.1.Par.Qp, q13.1.Par.Large, q13.1.Par.Exact, q13.1.Par.Confined, q13.1.Frame, q13.1.Got, q13.1.Now.Wide, q13.1.Now.High, q13.1.Now.Dots, q13.1.Ref.Wide, q13.1.Ref.High, q13.1.Ref.Dots, v6.2.2.2.2.2.2.2.2.2.2.2.2.2.2.2.2.2.2.1, (v6.2.2.2.2.2.2.2.2.2.2.2.2.2.2.2.2.2.2.2.1 ++ ([q13.2.1])), q13.1.Seq.Cols, q13.1.Seq.Rows))) fun v12 =>
 some (.go (Xaa .i64 (v6.1 + 1), v12.1, v12.2.1, v12.2.2.1, v12.2.2.2.1, v12.2.2.2.2.1, v12.2.2.2.2.2.1, v12.2.2.2.2.2.2.1, v12.2.2.2.2.2.2.2.1, v12.2.2.2.2.2.2.2.2.1, v12.2.2.2.2.2.2.2.2.2.1, v12.2.2.2.2.2.2.2.2.2.2.1, v12.2.2.2.2.2.2.2.2.2.2.2.1, v12.2.2.2.2.2.2.2.2.2.2.2.2.1, v12.2.2.2.2.2.2.2.2.2.2.2.2.2.1, v12.2.2.2.2.2.2.2.2.2.2.2.2.2.2.1, v12.2.2.2.2.2.2.2.2.2.2.2.2.2.2.2.1, v12.2.2.2.2.2.2.2.2.2.2.2.2.2.2.2.2.1, v12.2.2.2.2.2.2.2.2.2.2.2.2.2.2.2.2.2.1, v12.2.2.2.2.2.2.2.2.2.2.2.2.2.2.2.2.2.2.1, v12.2.2.2.2.2.2.2.2.2.2.2.2.2.2.2.2.2.2.2.1, v12.2.2.2.2.2.2.2.2.2.2.2.2.2.2.2.2.2.2.2.2))) (
 some (.done (v6.2.1, v6.2.2.1, v6.2.2.2.1, v6.2.2.2.2.1, v6.2.2.2.2.2.1, v6.2.2.2.2.2.2.1, v6.2.2.2.2.2.2.2.1, v6.2.2.2.2.2.2.2.2.1, v6.2.2.2.2.2.2.2.2.2.1, v6.2.2.2.2.2.2.2.2.2.2.1, v6.2.2.2.2.2.2.2.2.2.2.2.1, v6.2.2.2.2.2.2.2.2.2.2.2.2.1, v6.2.2.2.2.2.2.2.2.2.2.2.2.2.1, v6.2.2.2.2.2.2.2.2.2.2.2.2.2.2.1, v6.2.2.2.2.2.2.2.2.2.2.2.2.2.2.2.1, v6.2.2.2.2.2.2.2.2.2.2.2.2.2.2.2.2.1, v6.2.2.2.2.2.2.2.2.2.2.2.2.2.2.2.2.2.1, v6.2.2.2.2.2.2.2.2.2.2.2.2.2.2.2.2.2.2.1, v6.2.2.2.2.2.2.2.2.2.2.2.2.2.2.2.2.2.2.2.1, v6.2.2.2.2.2.2.2.2.2.2.2.2.2.2.2.2.2.2.2.2.1, v6.2.2.2.2.2.2.2.2.2.2.2.2.2.2.2.2.2.2.2.2.2)))
def Xmx (p0 : Xa0) (p1 : (List ByteArray)) : Option (Xa0 × (List Pic) × (List Int)) :=
 bnd (Xct p0) fun q1 =>
 sel (decide ((p1.length : Int) > 400)) (
 some (q1, ([] : List Pic), ([] : List Int))) (
 bnd (loop (Xf8 p1) (0, q1.HasSeq, q1.HasPar, q1.HasRef, q1.Seq.Level, q1.Seq.Bits, q1.Par.Qp, q1.Par.Large, q1.Par.Exact, q1.Par.Confined, q1.Frame, q1.Got, q1.Now.Wide, q1.Now.High, q1.Now.Dots, q1.Ref.Wide, q1.Ref.High, q1.Ref.Dots, ([] : List Pic), ([] : List Int), q1.Seq.Cols, q1.Seq.Rows)) fun v11 =>
 some ((⟨v11.1, v11.2.1, v11.2.2.1, (⟨v11.2.2.2.1, v11.2.2.2.2.1, v11.2.2.2.2.2.2.2.2.2.2.2.2.2.2.2.2.2.2.2.1, v11.2.2.2.2.2.2.2.2.2.2.2.2.2.2.2.2.2.2.2.2⟩ : Seq), (⟨v11.2.2.2.2.2.1, v11.2.2.2.2.2.2.1, v11.2.2.2.2.2.2.2.1, v11.2.2.2.2.2.2.2.2.1⟩ : Par), v11.2.2.2.2.2.2.2.2.2.1, v11.2.2.2.2.2.2.2.2.2.2.1, (⟨v11.2.2.2.2.2.2.2.2.2.2.2.1, v11.2.2.2.2.2.2.2.2.2.2.2.2.1, v11.2.2.2.2.2.2.2.2.2.2.2.2.2.1⟩ : Pic), (⟨v11.2.2.2.2.2.2.2.2.2.2.2.2.2.2.1, v11.2.2.2.2.2.2.2.2.2.2.2.2.2.2.2.1, v11.2.2.2.2.2.2.2.2.2.2.2.2.2.2.2.2.1⟩ : Pic)⟩ : Xa0), v11.2.2.2.2.2.2.2.2.2.2.2.2.2.2.2.2.2.1, v11.2.2.2.2.2.2.2.2.2.2.2.2.2.2.2.2.2.2.1))
def Xf9 (p0 : ByteArray) : Option ((List Pic) × (List Int)) :=
 bnd (Xmy) fun q1 =>
 bnd (Xll p0) fun q2 =>
 bnd (Xmx q1 q2) fun q3 =>
 some (q3.2.1, q3.2.2)
def Xib (p0 : (List Pic)) (p1 : (List Pic)) (v3 : Int) : Option (Lp Int (Ou Unit Bool)) :=
 sel (decide (v3 < (p0.length : Int))) (
 req (0 ≤ v3 ∧ v3 < p0.length) <|
 req (0 ≤ v3 ∧ v3 < p1.length) <|
 bnd (Xoy (⟨(p0.getD v3.toNat Yoz).Wide, (p0.getD v3.toNat Yoz).High, (p0.getD v3.toNat Yoz).Dots⟩ : Pic) (⟨(p1.getD v3.toNat Yoz).Wide, (p1.getD v3.toNat Yoz).High, (p1.getD v3.toNat Yoz).Dots⟩ : Pic)) fun q7 =>
 sel (!q7) (
 some (.done (.ret false))) (
 some (.go (Xaa .i64 (v3 + 1))))) (
 some (.done (.out ())))
def Xkp (p0 : (List Pic)) (p1 : (List Pic)) : Option Bool :=
 sel ((p0.length : Int) != (p1.length : Int)) (
 some false) (
 bnd (loop (Xib p0 p1) 0) fun o8 => match o8 with
| .out v6 => (
 some true)
| .ret r => some r)
def Xil (v2 : (Int × ByteArray)) : Option (Lp (Int × ByteArray) ByteArray) :=
 sel (decide (v2.1 > 0)) (
 req ((10 : Int) ≠ 0) <|
 req ((strOfNums ([Xaa .u8 (Xaa .i64 (48 + (v2.1.tmod 10)))])).size + v2.2.size ≤ 9223372036854775807) <|
 req ((10 : Int) ≠ 0) <|
 some (.go (Xaa .i64 (v2.1.tdiv 10), ((strOfNums ([Xaa .u8 (Xaa .i64 (48 + (v2.1.tmod 10)))])) ++ v2.2)))) (
 some (.done v2.2))
def Xep (p0 : Int) : Option ByteArray :=
 sel (decide (p0 ≤ 0)) (
 some ⟨#[109, 48]⟩) (
 bnd (loop (Xil) (p0, ⟨#[]⟩)) fun v4 =>
 req ((⟨#[109]⟩ : ByteArray).size + v4.size ≤ 9223372036854775807) <|
 some ((⟨#[109]⟩ : ByteArray) ++ v4))
def Xf4 (v6 : (Int × Int × (List Pic))) : Option (Lp (Int × Int × (List Pic)) (Int × (List Pic))) :=
 sel (decide (v6.2.1 < (v6.2.2.length : Int))) (
 req (0 ≤ v6.2.1 ∧ v6.2.1 < v6.2.2.length) <|
 req (v6.2.1.toNat < v6.2.2.length) <|
 bnd (some (v6.2.2.set v6.2.1.toNat (⟨v6.1, (v6.2.2.getD v6.2.1.toNat Yoz).High, (v6.2.2.getD v6.2.1.toNat Yoz).Dots⟩ : Pic))) fun s13 =>
 req (0 ≤ v6.2.1 ∧ v6.2.1 < s13.length) <|
 req (v6.2.1.toNat < s13.length) <|
 bnd (some (s13.set v6.2.1.toNat (⟨(s13.getD v6.2.1.toNat Yoz).Wide, Xaa .i64 (v6.1 + 1), (s13.getD v6.2.1.toNat Yoz).Dots⟩ : Pic))) fun s14 =>
 bnd (Xep (Xaa .i64 ((Xaa .i64 (v6.1 + 1)) + 1))) fun q15 =>
 req (0 ≤ v6.2.1 ∧ v6.2.1 < s14.length) <|
 req (v6.2.1.toNat < s14.length) <|
 bnd (some (s14.set v6.2.1.toNat (⟨(s14.getD v6.2.1.toNat Yoz).Wide, (s14.getD v6.2.1.toNat Yoz).High, q15⟩ : Pic))) fun s16 =>
 some (.go (Xaa .i64 ((Xaa .i64 ((Xaa .i64 (v6.1 + 1)) + 1)) + 1), Xaa .i64 (v6.2.1 + 1), s16))) (
 some (.done (v6.1, v6.2.2)))
def Xju (p0 : (List Pic)) (p1 : Int) : Option (Int × (List Pic)) :=
 bnd (loop (Xf4) (p1, 0, p0)) fun v12 =>
 some (v12.1, v12.2)
def Xf2 (p0 : (List Pic)) (v3 : (Int × Int)) : Option (Lp (Int × Int) (Ou Int Int)) :=
 sel (decide (v3.2 < (p0.length : Int))) (
 req (0 ≤ v3.2 ∧ v3.2 < p0.length) <|
 sel (((p0.getD v3.2.toNat Yoz).Wide) != v3.1) (
 some (.done (.ret (-1)))) (
 req (0 ≤ v3.2 ∧ v3.2 < p0.length) <|
 sel (((p0.getD v3.2.toNat Yoz).High) != (Xaa .i64 (v3.1 + 1))) (
 some (.done (.ret (-1)))) (
 req (0 ≤ v3.2 ∧ v3.2 < p0.length) <|
 bnd (Xep (Xaa .i64 ((Xaa .i64 (v3.1 + 1)) + 1))) fun q7 =>
 sel (!(((p0.getD v3.2.toNat Yoz).Dots).toList == q7.toList)) (
 some (.done (.ret (-1)))) (
 some (.go (Xaa .i64 ((Xaa .i64 ((Xaa .i64 (v3.1 + 1)) + 1)) + 1), Xaa .i64 (v3.2 + 1))))))) (
 some (.done (.out v3.1)))
def Xhl (p0 : (List Pic)) (p1 : Int) : Option Int :=
 bnd (loop (Xf2 p0) (p1, 0)) fun o8 => match o8 with
| .out v6 => (
 some v6)
| .ret r => some r
def Xeo (p0 : ByteArray) : Option Bool :=
 sel (decide ((p0.size : Int) > 1048576)) (
 some true) (
 bnd (Xid p0) fun q1 =>
 bnd (Xf9 p0) fun q2 =>
 bnd (
 bnd (Xkp q2.1 q1.1) fun q4 =>
 sel q4 (
 bnd (Xko q2.2 q1.2) fun q5 =>
 some (!q5)) (
 some true)) fun v3 =>
 sel v3 (
 some false) (
 bnd (Xju q2.1 1) fun q6 =>
 bnd (Xjt q2.2 q6.1) fun q7 =>
 bnd (Xhl q6.2 1) fun q8 =>
 sel (decide (q8 < 0)) (
 some false) (
 bnd (Xhk q7.2 q8) fun q9 =>
 sel (decide (q9 < 0)) (
 some false) (
 sel (q9 != q7.1) (
 some false) (
 bnd (Xf9 p0) fun q10 =>
 bnd (
 bnd (Xkp q10.1 q1.1) fun q12 =>
 sel q12 (
 bnd (Xko q10.2 q1.2) fun q13 =>
 some (!q13)) (
 some true)) fun v11 =>
 sel v11 (
 some false) (
 bnd (Xhl q6.2 1) fun q14 =>
 sel (decide (q14 < 0)) (
 some false) (
 bnd (Xhk q7.2 q14) fun q15 =>
 sel (decide (q15 < 0)) (
 some false) (
 sel (q15 != q7.1) (
 some false) (
 some true)))))))))
end
end Go.Proofs.YtjgbfopmjpkkhaaGreat.A
