/- What the functions that the law FnRefused reaches compute, over numbers, texts and lists. Written by a program of this session. Conditions: none. -/
import Derived.Test.YtjgbfopmjpkkhaaGreatAL2
namespace Go.Proofs.YtjgbfopmjpkkhaaGreat.A
open Go Go.Proofs Go.Proofs.YtjgbfopmjpkkhaaGreatAL Go.RowKit
set_option linter.unusedVariables false
set_option linter.unusedSimpArgs false
structure Seq where
 Level : Int
 Bits : Int
 Cols : (List Int)
 Rows : (List Int)
structure Par where
 Qp : Int
 Large : Bool
 Exact : Bool
 Confined : Bool
structure Pic where
 Wide : Int
 High : Int
 Dots : ByteArray
structure Xak where
 HasSeq : Bool
 HasPar : Bool
 HasRef : Bool
 Seq : Seq
 Par : Par
 Frame : Int
 Got : Int
 Now : Pic
 Ref : Pic
structure Xk7 where
 row_ : ByteArray
 at_ : Int
 bad_ : Bool
structure Xq8 where
 Tile : Int
 Frame : Int
 Qp : Int
structure Xf0 where
 Key : Bool
 Qp : Int
 Large : Bool
 Exact : Bool
structure Xpw where
 Left : Int
 Top : Int
 Wide : Int
 High : Int
structure Xa7 where
 b_ : (List Int)
 i_ : Int
 h_ : Int
structure Xar where
 Kind : Int
 Mode : Int
 Dx : Int
 Dy : Int
 Levels : (List Int)
structure Xl6 where
 Above : (List Int)
 Left : (List Int)
 Corner : Int
def Xb3 : ByteArray := ⟨#[]⟩
def Xms : (List Int) := []
def Zer : Pic := ⟨0, 0, ⟨#[]⟩⟩
def Xbx : Xar := ⟨0, 0, 0, 0, []⟩
noncomputable section
def Xfp (p0 : Pic) : Option Bool :=
 bnd (
 sel (p0.Wide == 0) (
 sel (p0.High == 0) (
 some ((p0.Dots.size : Int) == 0)) (
 some false)) (
 some false)) fun v1 =>
 some v1
def Xaw (p0 : Int) (p1 : Int) (p2 : Int) : Option Bool :=
 bnd (
 sel (decide (p0 ≥ p1)) (
 some (decide (p0 ≤ p2))) (
 some false)) fun v1 =>
 some v1
def Xhi (p0 : (List Int)) (v4 : (Int × Int)) : Option (Lp (Int × Int) (Ou Int Int)) :=
 sel (decide (v4.2 < (p0.length : Int))) (
 req (0 ≤ v4.2 ∧ v4.2 < p0.length) <|
 bnd (Xaw (p0.getD v4.2.toNat 0) 1 8) fun q8 =>
 sel (!q8) (
 some (.done (.ret 0))) (
 req (0 ≤ v4.2 ∧ v4.2 < p0.length) <|
 some (.go (Xaa .i64 (v4.1 + (p0.getD v4.2.toNat 0)), Xaa .i64 (v4.2 + 1))))) (
 some (.done (.out v4.1)))
def Xio (p0 : (List Int)) : Option Int :=
 bnd (
 sel (decide ((p0.length : Int) < 1)) (
 some true) (
 some (decide ((p0.length : Int) > 4)))) fun v1 =>
 sel v1 (
 some 0) (
 bnd (loop (Xhi p0) (0, 0)) fun o9 => match o9 with
| .out v7 => (
 some v7)
| .ret r => some r)
def Xjz (p0 : Seq) : Option Int :=
 bnd (Xio p0.Cols) fun q1 =>
 bnd (Xio p0.Rows) fun q2 =>
 some (Xaa .i64 (q1 * q2))
def Xgb (p0 : Int) : Option Int :=
 sel (p0 == 1) (
 some 16) (
 sel (p0 == 2) (
 some 64) (
 sel (p0 == 3) (
 some 256) (
 some 0)))
def Xje (p0 : Seq) : Option Bool :=
 bnd (
 bnd (Xjz p0) fun q2 =>
 bnd (Xgb p0.Level) fun q3 =>
 bnd (Xaw q2 1 q3) fun q4 =>
 sel q4 (
 bnd (Xaw p0.Bits 3 8) fun q5 =>
 some q5) (
 some false)) fun v1 =>
 some v1
def Xkw (p0 : Par) : Option Bool :=
 bnd (
 bnd (Xaw p0.Qp 0 40) fun q2 =>
 sel q2 (
 sel p0.Large (
 some (!p0.Exact)) (
 some true)) (
 some false)) fun v1 =>
 some v1
def Xfm (p0 : Seq) : Option Int :=
 bnd (Xje p0) fun q1 =>
 sel (!q1) (
 some 0) (
 some (Xaa .i64 ((p0.Cols.length : Int) * (p0.Rows.length : Int))))
def Xif (p0 : Seq) : Option (Int × Int) :=
 bnd (Xje p0) fun q1 =>
 sel (!q1) (
 some (0, 0)) (
 bnd (Xio p0.Cols) fun q2 =>
 bnd (Xio p0.Rows) fun q3 =>
 some (Xaa .i64 (8 * q2), Xaa .i64 (8 * q3)))
def Xhg (p0 : Pic) : Option Bool :=
 bnd (
 bnd (Xaw p0.Wide 1 256) fun q2 =>
 sel q2 (
 bnd (Xaw p0.High 1 256) fun q3 =>
 sel q3 (
 some ((p0.Dots.size : Int) == (Xaa .i64 (p0.Wide * p0.High)))) (
 some false)) (
 some false)) fun v1 =>
 some v1
def Xjj (p0 : Pic) (p1 : Seq) : Option Bool :=
 bnd (Xif p1) fun q1 =>
 bnd (
 bnd (Xhg p0) fun q3 =>
 sel q3 (
 sel (p0.Wide == q1.1) (
 some (p0.High == q1.2)) (
 some false)) (
 some false)) fun v2 =>
 some v2
def Xqv (p0 : Xak) : Option Bool :=
 sel (!p0.HasSeq) (
 bnd (
 sel p0.HasPar (
 some false) (
 sel p0.HasRef (
 some false) (
 sel (p0.Seq.Level == 0) (
 sel (p0.Seq.Bits == 0) (
 sel ((p0.Seq.Cols.length : Int) == 0) (
 sel ((p0.Seq.Rows.length : Int) == 0) (
 sel (((p0.Par.Qp == 0) && ((p0.Par.Large == false) && ((p0.Par.Exact == false) && (p0.Par.Confined == false)))) == true) (
 sel (p0.Frame == (-1)) (
 sel (p0.Got == 0) (
 bnd (Xfp p0.Now) fun q2 =>
 sel q2 (
 bnd (Xfp p0.Ref) fun q3 =>
 some q3) (
 some false)) (
 some false)) (
 some false)) (
 some false)) (
 some false)) (
 some false)) (
 some false)) (
 some false)))) fun v1 =>
 some v1) (
 bnd (
 bnd (Xje p0.Seq) fun q5 =>
 sel q5 (
 sel p0.HasPar (
 bnd (Xkw p0.Par) fun q6 =>
 sel q6 (
 some false) (
 some true)) (
 some (((p0.Par.Qp == 0) && ((p0.Par.Large == false) && ((p0.Par.Exact == false) && (p0.Par.Confined == false)))) == false))) (
 some true)) fun v4 =>
 sel v4 (
 some false) (
 bnd (
 sel (decide (p0.Frame < (-1))) (
 some true) (
 req (0 ≤ (Xaa .u64 (p0.Seq.Bits))) <|
 sel (decide (p0.Frame ≥ (Xaa .i64 (1 * 2 ^ min (Xaa .u64 (p0.Seq.Bits)).toNat (IntKind.bits .i64))))) (
 some true) (
 sel (decide (p0.Got < 0)) (
 some true) (
 bnd (Xfm p0.Seq) fun q8 =>
 sel (decide (p0.Got ≥ q8)) (
 some true) (
 sel p0.HasPar (
 some false) (
 sel (decide (p0.Got > 0)) (
 some true) (
 some p0.HasRef))))))) fun v7 =>
 sel v7 (
 some false) (
 bnd (
 sel (decide (p0.Got > 0)) (
 sel (p0.Frame == (-1)) (
 some true) (
 bnd (Xjj p0.Now p0.Seq) fun q10 =>
 sel q10 (
 sel (p0.Got == 0) (
 bnd (Xfp p0.Now) fun q11 =>
 some (!q11)) (
 some false)) (
 some true))) (
 sel (p0.Got == 0) (
 bnd (Xfp p0.Now) fun q12 =>
 some (!q12)) (
 some false))) fun v9 =>
 sel v9 (
 some false) (
 bnd (
 sel p0.HasRef (
 bnd (Xjj p0.Ref p0.Seq) fun q14 =>
 sel q14 (
 some true) (
 some false)) (
 bnd (Xfp p0.Ref) fun q15 =>
 some q15)) fun v13 =>
 some v13))))
def Xk1 (p0 : Int) : Option Bool :=
 bnd (
 sel (p0 == 1) (
 some true) (
 sel (p0 == 5) (
 some true) (
 sel (p0 == 7) (
 some true) (
 some (p0 == 8))))) fun v1 =>
 some v1
def Xj1 (v2 : (Int × Int × (List Int))) : Option (Lp (Int × Int × (List Int)) (List Int)) :=
 sel (decide (v2.2.1 ≥ 0)) (
 req ((2 : Int) ≠ 0) <|
 req (0 ≤ v2.2.1 ∧ v2.2.1 < v2.2.2.length) <|
 req (v2.2.1.toNat < v2.2.2.length) <|
 req ((2 : Int) ≠ 0) <|
 some (.go (Xaa .i64 (v2.1.tdiv 2), Xaa .i64 (v2.2.1 - 1), (v2.2.2.set v2.2.1.toNat (Xaa .u8 (Xaa .i64 (48 + (v2.1.tmod 2)))))))) (
 some (.done v2.2.2))
def Xik (p0 : Int) (p1 : Int) : Option ByteArray :=
 req (0 ≤ p1 ∧ p1 ≤ p1 ∧ p1 * 1 ≤ 281474976710656) <|
 bnd (loop (Xj1) (p0, Xaa .i64 (p1 - 1), (List.replicate p1.toNat (0 : Int)))) fun v4 =>
 some (strOfNums v4)
def Xe5 (p0 : ByteArray) (v4 : (Int × (List Int))) : Option (Lp (Int × (List Int)) (List Int)) :=
 sel (decide (v4.1 < (p0.size : Int))) (
 req (0 ≤ v4.1 ∧ v4.1 < p0.size) <|
 bnd (Xik (Xaa .i64 ((Xl2 p0 v4.1))) 8) fun q8 =>
 req ((v4.2.length + (Xa0 q8).length) * 1 ≤ 140737488355328 ∧ v4.2.length + (Xa0 q8).length ≤ maxLen) <|
 some (.go (Xaa .i64 (v4.1 + 1), (v4.2 ++ (Xa0 q8))))) (
 some (.done v4.2))
def Xe6 (v7 : (List Int)) (v12 : Int) : Option (Lp Int Int) :=
 bnd (
 sel (decide (v12 > 0)) (
 req (0 ≤ (Xaa .i64 (v12 - 1)) ∧ (Xaa .i64 (v12 - 1)) < v7.length) <|
 req ((Xaa .i64 (v12 - 1)).toNat < v7.length) <|
 some ((v7.getD ((Xaa .i64 (v12 - 1)).toNat) 0) == 48)) (
 some false)) fun v16 =>
 sel v16 (
 some (.go (Xaa .i64 (v12 - 1)))) (
 some (.done v12))
def Xjb (p0 : ByteArray) : Option (ByteArray × Bool) :=
 bnd (
 sel ((p0.size : Int) == 0) (
 some true) (
 sel (decide ((p0.size : Int) > 50001)) (
 some true) (
 req (0 ≤ (Xaa .i64 ((p0.size : Int) - 1)) ∧ (Xaa .i64 ((p0.size : Int) - 1)) < p0.size) <|
 some ((Xl2 p0 (Xaa .i64 ((p0.size : Int) - 1))) == 0)))) fun v1 =>
 sel v1 (
 some (⟨#[]⟩, false)) (
 bnd (loop (Xe5 p0) (0, ([] : List Int))) fun v7 =>
 bnd (loop (Xe6 v7) (v7.length : Int)) fun v15 =>
 sel (decide ((Xaa .i64 (v15 - 1)) > 400000)) (
 some (⟨#[]⟩, false)) (
 req (0 ≤ (0 : Int) ∧ (0 : Int) ≤ (Xaa .i64 (v15 - 1)) ∧ (Xaa .i64 (v15 - 1)) ≤ (v7.length : Int)) <|
 req ((0 : Int).toNat + ((Xaa .i64 (v15 - 1)).toNat - (0 : Int).toNat) ≤ v7.length) <|
 some ((strOfNums ((v7.drop ((0 : Int).toNat)).take ((Xaa .i64 (v15 - 1)).toNat - (0 : Int).toNat))), true)))
def Xkj (p0 : ByteArray) : Option (Int × ByteArray × Bool) :=
 bnd (
 sel (decide ((p0.size : Int) < 1)) (
 some true) (
 req (0 ≤ (0 : Int) ∧ (0 : Int) < p0.size) <|
 bnd (Xk1 (Xaa .i64 ((Xl2 p0 (0 : Int))))) fun q2 =>
 some (!q2))) fun v1 =>
 sel v1 (
 some (0, ⟨#[]⟩, false)) (
 req (0 ≤ (1 : Int) ∧ (1 : Int) ≤ (p0.size : Int) ∧ (p0.size : Int) ≤ (p0.size : Int)) <|
 bnd (Xjb (p0.extract (1 : Int).toNat (p0.size : Int).toNat)) fun q3 =>
 sel (!q3.2) (
 some (0, ⟨#[]⟩, false)) (
 req (0 ≤ (0 : Int) ∧ (0 : Int) < p0.size) <|
 some (Xaa .i64 ((Xl2 p0 (0 : Int))), q3.1, true)))
def Xil (p0 : ByteArray) (p1 : Int) (p2 : Int) (v2 : (Int × Int)) : Option (Lp (Int × Int) Int) :=
 sel (decide (v2.2 < (Xaa .i64 (p1 + p2)))) (
 req (0 ≤ v2.2 ∧ v2.2 < p0.size) <|
 some (.go (Xaa .i64 ((Xaa .i64 ((Xaa .i64 (2 * v2.1)) + (Xaa .i64 ((Xl2 p0 v2.2))))) - 48), Xaa .i64 (v2.2 + 1)))) (
 some (.done v2.1))
def Xci (p0 : ByteArray) (p1 : Int) (p2 : Int) : Option (Int × Int × Bool) :=
 sel (decide (p2 > (Xaa .i64 ((p0.size : Int) - p1)))) (
 some (0, 0, false)) (
 bnd (loop (Xil p0 p1 p2) (0, p1)) fun v4 =>
 some (v4, Xaa .i64 (p1 + p2), true))
def Xer (p0 : ByteArray) (p1 : Int) (v3 : Int) : Option (Lp Int Int) :=
 bnd (
 sel (decide ((Xaa .i64 (p1 + v3)) < (p0.size : Int))) (
 req (0 ≤ (Xaa .i64 (p1 + v3)) ∧ (Xaa .i64 (p1 + v3)) < p0.size) <|
 sel ((Xl2 p0 (Xaa .i64 (p1 + v3))) == 48) (
 some (decide (v3 < 21))) (
 some false)) (
 some false)) fun v7 =>
 sel v7 (
 some (.go (Xaa .i64 (v3 + 1)))) (
 some (.done v3))
def Xbh (p0 : ByteArray) (p1 : Int) : Option (Int × Int × Bool) :=
 bnd (loop (Xer p0 p1) 0) fun v6 =>
 bnd (Xci p0 (Xaa .i64 (p1 + v6)) (Xaa .i64 (v6 + 1))) fun q9 =>
 bnd (
 sel q9.2.2 (
 req (0 ≤ (Xaa .u64 (v6))) <|
 sel (decide (q9.1 < (Xaa .i64 (1 * 2 ^ min (Xaa .u64 (v6)).toNat (IntKind.bits .i64))))) (
 some true) (
 some (decide ((Xaa .i64 (q9.1 - 1)) > 1000000)))) (
 some true)) fun v10 =>
 sel v10 (
 some (0, 0, false)) (
 some (Xaa .i64 (q9.1 - 1), q9.2.1, true))
def Xb0 (p0 : ByteArray) (q1 : (Int × Int × Bool)) (v5 : (Int × Int × (List Int))) : Option (Lp (Int × Int × (List Int)) (Ou (Int × (List Int)) ((List Int) × Int × Bool))) :=
 sel (decide (v5.2.1 < q1.1)) (
 bnd (Xbh p0 v5.1) fun q9 =>
 sel (!q9.2.2) (
 some (.done (.ret (([] : List Int), 0, false)))) (
 req ((v5.2.2.length + ([q9.1]).length) * 8 ≤ 140737488355328 ∧ v5.2.2.length + ([q9.1]).length ≤ maxLen) <|
 some (.go (q9.2.1, Xaa .i64 (v5.2.1 + 1), (v5.2.2 ++ ([q9.1])))))) (
 some (.done (.out (v5.1, v5.2.2))))
def Xea (p0 : ByteArray) (p1 : Int) : Option ((List Int) × Int × Bool) :=
 bnd (Xbh p0 p1) fun q1 =>
 bnd (
 sel q1.2.2 (
 some (decide (q1.1 > 4))) (
 some true)) fun v2 =>
 sel v2 (
 some (([] : List Int), 0, false)) (
 bnd (loop (Xb0 p0 q1) (q1.2.1, 0, ([] : List Int))) fun o10 => match o10 with
| .out v8 => (
 some (v8.2, v8.1, true))
| .ret r => some r)
def Xd1 (p0 : ByteArray) (p1 : Int) : Option (Seq × Int × Bool) :=
 bnd (Xbh p0 p1) fun q1 =>
 sel (!q1.2.2) (
 some ((⟨0, 0, [], []⟩ : Seq), 0, false)) (
 bnd (Xci p0 q1.2.1 4) fun q2 =>
 sel (!q2.2.2) (
 some ((⟨0, 0, [], []⟩ : Seq), 0, false)) (
 bnd (Xea p0 q2.2.1) fun q3 =>
 sel (!q3.2.2) (
 some ((⟨0, 0, [], []⟩ : Seq), 0, false)) (
 bnd (Xea p0 q3.2.1) fun q4 =>
 bnd (
 sel q4.2.2 (
 bnd (Xje (⟨q1.1, q2.1, q3.1, q4.1⟩ : Seq)) fun q6 =>
 some (!q6)) (
 some true)) fun v5 =>
 sel v5 (
 some ((⟨0, 0, [], []⟩ : Seq), 0, false)) (
 some ((⟨q1.1, q2.1, q3.1, q4.1⟩ : Seq), q4.2.1, true)))))
def Xd0 (p0 : ByteArray) (p1 : Int) : Option (Par × Int × Bool) :=
 bnd (Xci p0 p1 6) fun q1 =>
 bnd (
 sel q1.2.2 (
 some (decide ((Xaa .i64 ((p0.size : Int) - q1.2.1)) < 3))) (
 some true)) fun v2 =>
 sel v2 (
 some ((⟨0, false, false, false⟩ : Par), 0, false)) (
 req (0 ≤ q1.2.1 ∧ q1.2.1 < p0.size) <|
 req (0 ≤ (Xaa .i64 (q1.2.1 + 1)) ∧ (Xaa .i64 (q1.2.1 + 1)) < p0.size) <|
 req (0 ≤ (Xaa .i64 (q1.2.1 + 2)) ∧ (Xaa .i64 (q1.2.1 + 2)) < p0.size) <|
 bnd (Xkw (⟨q1.1, ((Xl2 p0 q1.2.1) == 49), ((Xl2 p0 (Xaa .i64 (q1.2.1 + 1))) == 49), ((Xl2 p0 (Xaa .i64 (q1.2.1 + 2))) == 49)⟩ : Par)) fun q3 =>
 sel (!q3) (
 some ((⟨0, false, false, false⟩ : Par), 0, false)) (
 some ((⟨q1.1, ((Xl2 p0 q1.2.1) == 49), ((Xl2 p0 (Xaa .i64 (q1.2.1 + 1))) == 49), ((Xl2 p0 (Xaa .i64 (q1.2.1 + 2))) == 49)⟩ : Par), Xaa .i64 (q1.2.1 + 3), true)))
def Xdp (p0 : ByteArray) (v3 : Int) : Option (Lp Int (Ou Unit Bool)) :=
 sel (decide (v3 < (p0.size : Int))) (
 bnd (
 req (0 ≤ v3 ∧ v3 < p0.size) <|
 sel ((Xl2 p0 v3) != 48) (
 req (0 ≤ v3 ∧ v3 < p0.size) <|
 some ((Xl2 p0 v3) != 49)) (
 some false)) fun v7 =>
 sel v7 (
 some (.done (.ret false))) (
 some (.go (Xaa .i64 (v3 + 1))))) (
 some (.done (.out ())))
def Xmn (p0 : ByteArray) : Option Bool :=
 bnd (loop (Xdp p0) 0) fun o8 => match o8 with
| .out v6 => (
 some true)
| .ret r => some r
def Xhh (p0 : ByteArray) : Option Bool :=
 bnd (
 sel (decide ((p0.size : Int) ≤ 400000)) (
 bnd (Xmn p0) fun q2 =>
 some q2) (
 some false)) fun v1 =>
 some v1
def Xo3 (p0 : Int) : Option (Int × Bool) :=
 bnd (Xaw p0 0 1000000) fun q1 =>
 sel (!q1) (
 some (0, false)) (
 req ((2 : Int) ≠ 0) <|
 sel ((p0.tmod 2) == 1) (
 req ((2 : Int) ≠ 0) <|
 some (Xaa .i64 ((Xaa .i64 (p0 + 1)).tdiv 2), true)) (
 req ((2 : Int) ≠ 0) <|
 some (Xaa .i64 (0 - (Xaa .i64 (p0.tdiv 2))), true)))
def Xcg (p0 : ByteArray) (p1 : Int) : Option (Int × Int × Bool) :=
 bnd (Xbh p0 p1) fun q1 =>
 sel (!q1.2.2) (
 some (0, 0, false)) (
 bnd (Xo3 q1.1) fun q2 =>
 some (q2.1, q1.2.1, true))
def Xmj (p0 : Seq) (p1 : Par) (p2 : Xq8) : Option Bool :=
 bnd (
 bnd (Xkw p1) fun q2 =>
 sel q2 (
 sel (decide (p2.Tile ≥ 0)) (
 bnd (Xfm p0) fun q3 =>
 sel (decide (p2.Tile < q3)) (
 sel (decide (p2.Frame ≥ 0)) (
 req (0 ≤ (Xaa .u64 (p0.Bits))) <|
 sel (decide (p2.Frame < (Xaa .i64 (1 * 2 ^ min (Xaa .u64 (p0.Bits)).toNat (IntKind.bits .i64))))) (
 bnd (Xaw p2.Qp 0 40) fun q4 =>
 some q4) (
 some false)) (
 some false)) (
 some false)) (
 some false)) (
 some false)) fun v1 =>
 some v1
def Xfl (p0 : Seq) (p1 : Par) (p2 : ByteArray) : Option (Xq8 × Int × Bool) :=
 bnd (
 bnd (Xhh p2) fun q2 =>
 sel q2 (
 bnd (Xje p0) fun q3 =>
 sel q3 (
 bnd (Xkw p1) fun q4 =>
 some (!q4)) (
 some true)) (
 some true)) fun v1 =>
 sel v1 (
 some ((⟨0, 0, 0⟩ : Xq8), 0, false)) (
 bnd (Xbh p2 0) fun q5 =>
 sel (!q5.2.2) (
 some ((⟨0, 0, 0⟩ : Xq8), 0, false)) (
 bnd (Xci p2 q5.2.1 p0.Bits) fun q6 =>
 sel (!q6.2.2) (
 some ((⟨0, 0, 0⟩ : Xq8), 0, false)) (
 bnd (Xcg p2 q6.2.1) fun q7 =>
 bnd (
 sel q7.2.2 (
 bnd (Xmj p0 p1 (⟨q5.1, q6.1, Xaa .i64 (p1.Qp + q7.1)⟩ : Xq8)) fun q9 =>
 some (!q9)) (
 some true)) fun v8 =>
 sel v8 (
 some ((⟨0, 0, 0⟩ : Xq8), 0, false)) (
 some ((⟨q5.1, q6.1, Xaa .i64 (p1.Qp + q7.1)⟩ : Xq8), q7.2.1, true)))))
def Xgf (p0 : (List Int)) (p1 : Int) (v2 : (Int × Int)) : Option (Lp (Int × Int) Int) :=
 sel (decide (v2.2 < p1)) (
 req (0 ≤ v2.2 ∧ v2.2 < p0.length) <|
 some (.go (Xaa .i64 (v2.1 + (p0.getD v2.2.toNat 0)), Xaa .i64 (v2.2 + 1)))) (
 some (.done v2.1))
def Xj2 (p0 : (List Int)) (p1 : Int) : Option Int :=
 bnd (loop (Xgf p0 p1) (0, 0)) fun v4 =>
 some v4
def Xdn (p0 : Seq) (p1 : Int) : Option (Xpw × Bool) :=
 bnd (
 sel (decide (p1 < 0)) (
 some true) (
 bnd (Xfm p0) fun q2 =>
 some (decide (p1 ≥ q2)))) fun v1 =>
 sel v1 (
 some ((⟨0, 0, 0, 0⟩ : Xpw), false)) (
 req ((p0.Cols.length : Int) ≠ 0) <|
 req ((p0.Cols.length : Int) ≠ 0) <|
 bnd (Xj2 p0.Cols (p1.tmod (p0.Cols.length : Int))) fun q3 =>
 bnd (Xj2 p0.Rows (Xaa .i64 (p1.tdiv (p0.Cols.length : Int)))) fun q4 =>
 req (0 ≤ (p1.tmod (p0.Cols.length : Int)) ∧ (p1.tmod (p0.Cols.length : Int)) < p0.Cols.length) <|
 req (0 ≤ (Xaa .i64 (p1.tdiv (p0.Cols.length : Int))) ∧ (Xaa .i64 (p1.tdiv (p0.Cols.length : Int))) < p0.Rows.length) <|
 some ((⟨Xaa .i64 (8 * q3), Xaa .i64 (8 * q4), Xaa .i64 (8 * (p0.Cols.getD (p1.tmod (p0.Cols.length : Int)).toNat 0)), Xaa .i64 (8 * (p0.Rows.getD (Xaa .i64 (p1.tdiv (p0.Cols.length : Int))).toNat 0))⟩ : Xpw), true))
def Xb2 (p0 : Seq) (p1 : Int) : Option Int :=
 bnd (Xdn p0 p1) fun q1 =>
 req ((8 : Int) ≠ 0) <|
 req ((8 : Int) ≠ 0) <|
 some (Xaa .i64 ((Xaa .i64 (q1.1.Wide.tdiv 8)) * (Xaa .i64 (q1.1.High.tdiv 8))))
def Xh8 (p0 : Xf0) : Option Bool :=
 bnd (
 bnd (Xaw p0.Qp 0 40) fun q2 =>
 sel q2 (
 sel p0.Large (
 some (!p0.Exact)) (
 some true)) (
 some false)) fun v1 =>
 some v1
def Xcr (p0 : ByteArray) (p2 : Int) (q1 : (Int × Int × Bool)) (v9 : (Int × Int × Int × (List Int))) : Option (Lp (Int × Int × Int × (List Int)) (Ou (Int × (List Int)) ((List Int) × Int × Bool))) :=
 sel (decide (v9.2.2.1 < q1.1)) (
 bnd (Xbh p0 v9.1) fun q17 =>
 bnd (
 sel q17.2.2 (
 some (decide (q17.1 > (Xaa .i64 ((Xaa .i64 (p2 - 1)) - v9.2.1))))) (
 some true)) fun v18 =>
 sel v18 (
 some (.done (.ret (([] : List Int), 0, false)))) (
 bnd (Xcg p0 q17.2.1) fun q19 =>
 bnd (
 sel q19.2.2 (
 sel (q19.1 == 0) (
 some true) (
 bnd (Xaw q19.1 (-5000) 5000) fun q21 =>
 some (!q21))) (
 some true)) fun v20 =>
 sel v20 (
 some (.done (.ret (([] : List Int), 0, false)))) (
 req (0 ≤ (Xaa .i64 (v9.2.1 + q17.1)) ∧ (Xaa .i64 (v9.2.1 + q17.1)) < v9.2.2.2.length) <|
 req ((Xaa .i64 (v9.2.1 + q17.1)).toNat < v9.2.2.2.length) <|
 some (.go (q19.2.1, Xaa .i64 ((Xaa .i64 (v9.2.1 + q17.1)) + 1), Xaa .i64 (v9.2.2.1 + 1), (v9.2.2.2.set ((Xaa .i64 (v9.2.1 + q17.1)).toNat) q19.1)))))) (
 some (.done (.out (v9.1, v9.2.2.2))))
def Xiq (p0 : ByteArray) (p1 : Int) (p2 : Int) : Option ((List Int) × Int × Bool) :=
 req (0 ≤ p2 ∧ p2 ≤ p2 ∧ p2 * 8 ≤ 281474976710656) <|
 bnd (Xbh p0 p1) fun q1 =>
 bnd (
 sel q1.2.2 (
 some (decide (q1.1 > p2))) (
 some true)) fun v2 =>
 sel v2 (
 some (([] : List Int), 0, false)) (
 bnd (loop (Xcr p0 p2 q1) (q1.2.1, 0, 0, (List.replicate p2.toNat (0 : Int)))) fun o22 => match o22 with
| .out v16 => (
 some (v16.2, v16.1, true))
| .ret r => some r)
def Xd3 (p0 : ByteArray) (v5 : (Int × Int × (List Int))) : Option (Lp (Int × Int × (List Int)) (Ou (Int × (List Int)) ((List Int) × Int × Bool))) :=
 sel (decide (v5.2.1 < 4)) (
 bnd (Xiq p0 v5.1 16) fun q9 =>
 sel (!q9.2.2) (
 some (.done (.ret (([] : List Int), 0, false)))) (
 req ((v5.2.2.length + q9.1.length) * 8 ≤ 140737488355328 ∧ v5.2.2.length + q9.1.length ≤ maxLen) <|
 some (.go (q9.2.1, Xaa .i64 (v5.2.1 + 1), (v5.2.2 ++ q9.1))))) (
 some (.done (.out (v5.1, v5.2.2))))
def Xgr (p0 : ByteArray) (p1 : Int) (p2 : Xf0) : Option ((List Int) × Int × Bool) :=
 bnd (
 sel p2.Large (
 some true) (
 some p2.Exact)) fun v1 =>
 sel v1 (
 bnd (Xiq p0 p1 64) fun q2 =>
 some (q2.1, q2.2.1, q2.2.2)) (
 bnd (loop (Xd3 p0) (p1, 0, ([] : List Int))) fun o10 => match o10 with
| .out v8 => (
 some (v8.2, v8.1, true))
| .ret r => some r)
def Xel (p0 : (List Int)) (p1 : Int) (p2 : Int) (v3 : Int) : Option (Lp Int (Ou Unit Bool)) :=
 sel (decide (v3 < p1)) (
 req (0 ≤ v3 ∧ v3 < p0.length) <|
 bnd (Xaw (p0.getD v3.toNat 0) (Xaa .i64 (0 - p2)) p2) fun q7 =>
 sel (!q7) (
 some (.done (.ret false))) (
 some (.go (Xaa .i64 (v3 + 1))))) (
 some (.done (.out ())))
def Xeb (p0 : (List Int)) (p1 : Int) (p2 : Int) : Option Bool :=
 sel ((p0.length : Int) != p1) (
 some false) (
 bnd (loop (Xel p0 p1 p2) 0) fun o8 => match o8 with
| .out v6 => (
 some true)
| .ret r => some r)
def Xef (p0 : Xar) : Option Bool :=
 sel (p0.Kind == 0) (
 bnd (
 sel (p0.Mode == 0) (
 sel (p0.Dx == 0) (
 sel (p0.Dy == 0) (
 some ((p0.Levels.length : Int) == 0)) (
 some false)) (
 some false)) (
 some false)) fun v1 =>
 some v1) (
 sel (p0.Kind == 1) (
 bnd (
 sel (p0.Mode == 0) (
 bnd (Xaw p0.Dx (-16) 16) fun q3 =>
 sel q3 (
 bnd (Xaw p0.Dy (-16) 16) fun q4 =>
 sel q4 (
 bnd (Xeb p0.Levels 64 5000) fun q5 =>
 some q5) (
 some false)) (
 some false)) (
 some false)) fun v2 =>
 some v2) (
 sel (p0.Kind == 2) (
 bnd (
 bnd (Xaw p0.Mode 0 3) fun q7 =>
 sel q7 (
 sel (p0.Dx == 0) (
 sel (p0.Dy == 0) (
 bnd (Xeb p0.Levels 64 5000) fun q8 =>
 some q8) (
 some false)) (
 some false)) (
 some false)) fun v6 =>
 some v6) (
 some false)))
def Xk4 (p0 : ByteArray) (p1 : Int) (p2 : Xf0) : Option (Xar × Int × Bool) :=
 Yxo (fun (v1 : (Int × Int)) =>
 Yxo (fun (v4 : (Int × Bool × Int × Int × Int)) =>
 sel (!v4.2.1) (
 some ((⟨0, 0, 0, 0, []⟩ : Xar), 0, false)) (
 bnd (Xgr p0 v4.1 p2) fun q8 =>
 bnd (
 sel q8.2.2 (
 bnd (Xef (⟨v1.2, v4.2.2.1, v4.2.2.2.1, v4.2.2.2.2, q8.1⟩ : Xar)) fun q10 =>
 some (!q10)) (
 some true)) fun v9 =>
 sel v9 (
 some ((⟨0, 0, 0, 0, []⟩ : Xar), 0, false)) (
 some ((⟨v1.2, v4.2.2.1, v4.2.2.2.1, v4.2.2.2.2, q8.1⟩ : Xar), q8.2.1, true)))) fun j2 =>
 sel (v1.2 == 0) (
 some ((⟨v1.2, 0, 0, 0, []⟩ : Xar), v1.1, true)) (
 sel (v1.2 == 1) (
 bnd (Xcg p0 v1.1) fun q5 =>
 sel (!q5.2.2) (
 some ((⟨0, 0, 0, 0, []⟩ : Xar), 0, false)) (
 bnd (Xcg p0 q5.2.1) fun q6 =>
 j2 (q6.2.1, q6.2.2, 0, q5.1, q6.1))) (
 bnd (Xbh p0 v1.1) fun q7 =>
 j2 (q7.2.1, q7.2.2, q7.1, 0, 0)))) fun j1 =>
 sel (!p2.Key) (
 bnd (Xbh p0 p1) fun q2 =>
 bnd (
 sel q2.2.2 (
 some (decide (q2.1 > 2))) (
 some true)) fun v3 =>
 sel v3 (
 some ((⟨0, 0, 0, 0, []⟩ : Xar), 0, false)) (
 j1 (q2.2.1, q2.1))) (
 j1 (p1, 2))
def Xcf (p0 : ByteArray) (p2 : Int) (p3 : Xf0) (v8 : (Int × Int × (List Xar))) : Option (Lp (Int × Int × (List Xar)) (Ou (Int × (List Xar)) ((List Xar) × Bool))) :=
 sel (decide (v8.2.1 < p2)) (
 bnd (Xk4 p0 v8.1 p3) fun q12 =>
 sel (!q12.2.2) (
 some (.done (.ret (([] : List Xar), false)))) (
 req ((v8.2.2.length + ([q12.1]).length) * 56 ≤ 140737488355328 ∧ v8.2.2.length + ([q12.1]).length ≤ maxLen) <|
 some (.go (q12.2.1, Xaa .i64 (v8.2.1 + 1), (v8.2.2 ++ ([q12.1])))))) (
 some (.done (.out (v8.1, v8.2.2))))
def Xgz (p0 : ByteArray) (p1 : Int) (p2 : Int) (p3 : Xf0) : Option ((List Xar) × Bool) :=
 bnd (
 bnd (Xhh p0) fun q2 =>
 sel q2 (
 bnd (Xaw p1 0 (p0.size : Int)) fun q3 =>
 sel q3 (
 bnd (Xh8 p3) fun q4 =>
 sel q4 (
 bnd (Xaw p2 1 64) fun q5 =>
 some (!q5)) (
 some true)) (
 some true)) (
 some true)) fun v1 =>
 sel v1 (
 some (([] : List Xar), false)) (
 bnd (loop (Xcf p0 p2 p3) (p1, 0, ([] : List Xar))) fun o13 => match o13 with
| .out v11 => (
 sel (v11.1 != (p0.size : Int)) (
 some (([] : List Xar), false)) (
 some (v11.2, true)))
| .ret r => some r)
def Xk5 (p0 : Int) : Option Bool :=
 bnd (
 req ((8 : Int) ≠ 0) <|
 sel ((p0.tmod 8) == 0) (
 bnd (Xaw p0 8 64) fun q2 =>
 some q2) (
 some false)) fun v1 =>
 some v1
def Xg1 (p0 : (List Xar)) (p1 : Xf0) (v7 : Int) : Option (Lp Int (Ou Unit Bool)) :=
 sel (decide (v7 < (p0.length : Int))) (
 bnd (
 req (0 ≤ v7 ∧ v7 < p0.length) <|
 bnd (Xef (⟨(p0.getD v7.toNat Xbx).Kind, (p0.getD v7.toNat Xbx).Mode, (p0.getD v7.toNat Xbx).Dx, (p0.getD v7.toNat Xbx).Dy, (p0.getD v7.toNat Xbx).Levels⟩ : Xar)) fun q13 =>
 sel q13 (
 sel p1.Key (
 req (0 ≤ v7 ∧ v7 < p0.length) <|
 some (((p0.getD v7.toNat Xbx).Kind) != 2)) (
 some false)) (
 some true)) fun v12 =>
 sel v12 (
 some (.done (.ret false))) (
 some (.go (Xaa .i64 (v7 + 1))))) (
 some (.done (.out ())))
def Xq6 (p0 : (List Xar)) (p1 : Xf0) : Option Bool :=
 bnd (
 bnd (Xh8 p1) fun q2 =>
 sel q2 (
 bnd (Xaw (p0.length : Int) 1 64) fun q3 =>
 some (!q3)) (
 some true)) fun v1 =>
 sel v1 (
 some false) (
 bnd (loop (Xg1 p0 p1) 0) fun o14 => match o14 with
| .out v11 => (
 some true)
| .ret r => some r)
def Xcs (p0 : Pic) (p1 : Int) (p2 : Int) (p3 : Int) (p4 : Int) : Option Bool :=
 bnd (
 bnd (Xhg p0) fun q2 =>
 sel q2 (
 bnd (Xaw p3 1 p0.Wide) fun q3 =>
 sel q3 (
 bnd (Xaw p4 1 p0.High) fun q4 =>
 sel q4 (
 bnd (Xaw p1 0 (Xaa .i64 (p0.Wide - p3))) fun q5 =>
 sel q5 (
 bnd (Xaw p2 0 (Xaa .i64 (p0.High - p4))) fun q6 =>
 some q6) (
 some false)) (
 some false)) (
 some false)) (
 some false)) fun v1 =>
 some v1
def Xjc (p0 : Pic) (p1 : Xpw) (v3 : (Int × (List Int))) : Option (Lp (Int × (List Int)) (List Int)) :=
 sel (decide (v3.1 < (Xaa .i64 (p1.Top + p1.High)))) (
 req (0 ≤ (Xaa .i64 ((Xaa .i64 (v3.1 * p0.Wide)) + p1.Left)) ∧ (Xaa .i64 ((Xaa .i64 (v3.1 * p0.Wide)) + p1.Left)) ≤ (Xaa .i64 ((Xaa .i64 ((Xaa .i64 (v3.1 * p0.Wide)) + p1.Left)) + p1.Wide)) ∧ (Xaa .i64 ((Xaa .i64 ((Xaa .i64 (v3.1 * p0.Wide)) + p1.Left)) + p1.Wide)) ≤ (p0.Dots.size : Int)) <|
 req ((v3.2.length + (Xa0 (p0.Dots.extract (Xaa .i64 ((Xaa .i64 (v3.1 * p0.Wide)) + p1.Left)).toNat (Xaa .i64 ((Xaa .i64 ((Xaa .i64 (v3.1 * p0.Wide)) + p1.Left)) + p1.Wide)).toNat)).length) * 1 ≤ 140737488355328 ∧ v3.2.length + (Xa0 (p0.Dots.extract (Xaa .i64 ((Xaa .i64 (v3.1 * p0.Wide)) + p1.Left)).toNat (Xaa .i64 ((Xaa .i64 ((Xaa .i64 (v3.1 * p0.Wide)) + p1.Left)) + p1.Wide)).toNat)).length ≤ maxLen) <|
 some (.go (Xaa .i64 (v3.1 + 1), (v3.2 ++ (Xa0 (p0.Dots.extract (Xaa .i64 ((Xaa .i64 (v3.1 * p0.Wide)) + p1.Left)).toNat (Xaa .i64 ((Xaa .i64 ((Xaa .i64 (v3.1 * p0.Wide)) + p1.Left)) + p1.Wide)).toNat)))))) (
 some (.done v3.2))
def Xoq (p0 : Pic) (p1 : Xpw) : Option (Pic × Bool) :=
 bnd (Xcs p0 p1.Left p1.Top p1.Wide p1.High) fun q1 =>
 sel (!q1) (
 some ((⟨0, 0, ⟨#[]⟩⟩ : Pic), false)) (
 bnd (loop (Xjc p0 p1) (p1.Top, ([] : List Int))) fun v5 =>
 some ((⟨p1.Wide, p1.High, (strOfNums v5)⟩ : Pic), true))
def Xij (p0 : Int) (p1 : Int) (v2 : (Int × (List Int))) : Option (Lp (Int × (List Int)) (List Int)) :=
 sel (decide (v2.1 < p0)) (
 req (0 ≤ v2.1 ∧ v2.1 < v2.2.length) <|
 req (v2.1.toNat < v2.2.length) <|
 some (.go (Xaa .i64 (v2.1 + 1), (v2.2.set v2.1.toNat p1)))) (
 some (.done v2.2))
def Xkx (p0 : Int) (p1 : Int) : Option ByteArray :=
 req (0 ≤ p0 ∧ p0 ≤ p0 ∧ p0 * 1 ≤ 281474976710656) <|
 bnd (loop (Xij p0 p1) (0, (List.replicate p0.toNat (0 : Int)))) fun v4 =>
 some (strOfNums v4)
def Xnn (p0 : Int) (p1 : Int) : Option Pic :=
 bnd (
 bnd (Xaw p0 1 256) fun q2 =>
 sel q2 (
 bnd (Xaw p1 1 256) fun q3 =>
 some (!q3)) (
 some true)) fun v1 =>
 sel v1 (
 some (⟨0, 0, ⟨#[]⟩⟩ : Pic)) (
 bnd (Xkx (Xaa .i64 (p0 * p1)) 128) fun q4 =>
 some (⟨p0, p1, q4⟩ : Pic))
def Xk2 (p0 : Pic) (p1 : Int) (p2 : Int) : Option Bool :=
 bnd (
 req ((8 : Int) ≠ 0) <|
 sel ((p1.tmod 8) == 0) (
 req ((8 : Int) ≠ 0) <|
 sel ((p2.tmod 8) == 0) (
 bnd (Xcs p0 p1 p2 8 8) fun q2 =>
 some q2) (
 some false)) (
 some false)) fun v1 =>
 some v1
def Xfk (p0 : Int) (p1 : Int) (p2 : Int) : Option Int :=
 bnd (
 sel (decide (p2 < p1)) (
 some true) (
 some (decide (p0 < p1)))) fun v1 =>
 sel v1 (
 some p1) (
 sel (decide (p0 > p2)) (
 some p2) (
 some p0))
def Xf9 (p0 : Pic) (p1 : Int) (p2 : Int) : Option Int :=
 bnd (Xhg p0) fun q1 =>
 sel (!q1) (
 some (-1)) (
 bnd (Xfk p2 0 (Xaa .i64 (p0.High - 1))) fun q2 =>
 bnd (Xfk p1 0 (Xaa .i64 (p0.Wide - 1))) fun q3 =>
 req (0 ≤ (Xaa .i64 ((Xaa .i64 (q2 * p0.Wide)) + q3)) ∧ (Xaa .i64 ((Xaa .i64 (q2 * p0.Wide)) + q3)) < p0.Dots.size) <|
 some (Xaa .i64 ((Xl2 p0.Dots (Xaa .i64 ((Xaa .i64 (q2 * p0.Wide)) + q3))))))
def Xev (p0 : Pic) (p1 : Int) (p2 : Int) (v7 : (Int × (List Int) × (List Int))) : Option (Lp (Int × (List Int) × (List Int)) ((List Int) × (List Int))) :=
 sel (decide (v7.1 < 8)) (
 bnd (
 bnd (
 sel (decide (p2 > 0)) (
 bnd (Xf9 p0 (Xaa .i64 (p1 + v7.1)) (Xaa .i64 (p2 - 1))) fun q16 =>
 req ((v7.2.1.length + ([q16]).length) * 8 ≤ 140737488355328 ∧ v7.2.1.length + ([q16]).length ≤ maxLen) <|
 some (v7.2.1 ++ ([q16]))) (
 some v7.2.1)) fun v15 =>
 sel (decide (p1 > 0)) (
 bnd (Xf9 p0 (Xaa .i64 (p1 - 1)) (Xaa .i64 (p2 + v7.1))) fun q17 =>
 req ((v7.2.2.length + ([q17]).length) * 8 ≤ 140737488355328 ∧ v7.2.2.length + ([q17]).length ≤ maxLen) <|
 some (v15, (v7.2.2 ++ ([q17])))) (
 some (v15, v7.2.2))) fun v14 =>
 some (.go (Xaa .i64 (v7.1 + 1), v14.1, v14.2))) (
 some (.done (v7.2.1, v7.2.2)))
def Xib (p0 : Pic) (p1 : Int) (p2 : Int) : Option (Xl6 × Bool) :=
 bnd (Xk2 p0 p1 p2) fun q1 =>
 sel (!q1) (
 some ((⟨[], [], 0⟩ : Xl6), false)) (
 bnd (loop (Xev p0 p1 p2) (0, [], [])) fun v13 =>
 bnd (
 bnd (
 sel (decide (p1 > 0)) (
 some (decide (p2 > 0))) (
 some false)) fun v20 =>
 sel v20 (
 bnd (Xf9 p0 (Xaa .i64 (p1 - 1)) (Xaa .i64 (p2 - 1))) fun q21 =>
 some q21) (
 some (-1))) fun v19 =>
 some ((⟨v13.1, v13.2, v19⟩ : Xl6), true))
def Xo5 (p0 : Int) (p1 : Int) (v17 : (Int × Int)) (v38 : (Int × Int)) : Option (Lp (Int × Int) (Ou Int Int)) :=
 sel (decide (v38.2 < p0)) (
 Yxo (fun (v44 : Int) =>
 some (.go (v44, Xaa .i64 (v38.2 + 1)))) fun j36 =>
 bnd (
 req ((2 : Int) ≠ 0) <|
 sel ((v17.2.tmod 2) == 0) (
 some (Xaa .i64 ((Xaa .i64 (p0 - 1)) - v38.2))) (
 some v38.2)) fun v45 =>
 bnd (Xaw (Xaa .i64 (v17.2 - v45)) 0 (Xaa .i64 (p0 - 1))) fun q46 =>
 sel (!q46) (
 j36 v38.1) (
 sel (v38.1 == p1) (
 some (.done (.ret (Xaa .i64 ((Xaa .i64 ((Xaa .i64 (p0 * v45)) + v17.2)) - v45))))) (
 j36 (Xaa .i64 (v38.1 + 1))))) (
 some (.done (.out v38.1)))
def Xlt (p0 : Int) (p1 : Int) (v17 : (Int × Int)) : Option (Lp (Int × Int) (Ou Unit Int)) :=
 sel (decide (v17.2 ≤ (Xaa .i64 ((Xaa .i64 (2 * p0)) - 2)))) (
 bnd (loop (Xo5 p0 p1 v17) (v17.1, 0)) fun o47 => match o47 with
| .out v43 => (
 some (.go (v43, Xaa .i64 (v17.2 + 1))))
| .ret r => some (.done (.ret r))) (
 some (.done (.out ())))
def Xo4 (p0 : Int) (p1 : Int) : Option Int :=
 bnd (
 sel (p0 != 4) (
 sel (p0 != 8) (
 some true) (
 sel (decide (p1 < 0)) (
 some true) (
 some (decide (p1 ≥ (Xaa .i64 (p0 * p0))))))) (
 sel (decide (p1 < 0)) (
 some true) (
 some (decide (p1 ≥ (Xaa .i64 (p0 * p0))))))) fun v1 =>
 sel v1 (
 some (-1)) (
 bnd (loop (Xlt p0 p1) (0, 0)) fun o48 => match o48 with
| .out v33 => (
 some (-1))
| .ret r => some r)
def Xcy (p0 : Int) (p1 : (List Int)) (v4 : (Int × (List Int))) : Option (Lp (Int × (List Int)) (List Int)) :=
 sel (decide (v4.1 < (Xaa .i64 (p0 * p0)))) (
 bnd (Xo4 p0 v4.1) fun q8 =>
 req (0 ≤ v4.1 ∧ v4.1 < p1.length) <|
 req (0 ≤ q8 ∧ q8 < v4.2.length) <|
 req (q8.toNat < v4.2.length) <|
 some (.go (Xaa .i64 (v4.1 + 1), (v4.2.set q8.toNat (p1.getD v4.1.toNat 0))))) (
 some (.done v4.2))
def Xdo (p0 : Int) (p1 : (List Int)) : Option ((List Int) × Bool) :=
 bnd (
 sel (p0 != 4) (
 sel (p0 != 8) (
 some true) (
 some ((p1.length : Int) != (Xaa .i64 (p0 * p0))))) (
 some ((p1.length : Int) != (Xaa .i64 (p0 * p0))))) fun v1 =>
 sel v1 (
 some (([] : List Int), false)) (
 req (0 ≤ (p1.length : Int) ∧ (p1.length : Int) ≤ (p1.length : Int) ∧ (p1.length : Int) * 8 ≤ 281474976710656) <|
 bnd (loop (Xcy p0 p1) (0, (List.replicate (p1.length : Int).toNat (0 : Int)))) fun v7 =>
 some (v7, true))
def Xj0 (p0 : Int) (v4 : (Int × Int)) : Option (Lp (Int × Int) Int) :=
 req ((6 : Int) ≠ 0) <|
 sel (decide (v4.2 < (Xaa .i64 (p0.tdiv 6)))) (
 some (.go (Xaa .i64 (2 * v4.1), Xaa .i64 (v4.2 + 1)))) (
 some (.done v4.1))
def Xig (p0 : Int) : Option Int :=
 bnd (Xaw p0 0 40) fun q1 =>
 sel (!q1) (
 some 0) (
 bnd (
 req ((6 : Int) ≠ 0) <|
 sel ((p0.tmod 6) == 0) (
 some 10) (
 sel ((p0.tmod 6) == 1) (
 some 11) (
 sel ((p0.tmod 6) == 2) (
 some 13) (
 sel ((p0.tmod 6) == 3) (
 some 14) (
 sel ((p0.tmod 6) == 4) (
 some 16) (
 some 18)))))) fun v2 =>
 bnd (loop (Xj0 p0) (v2, 0)) fun v6 =>
 some v6)
def Xfw (p0 : Int) (p1 : Int) : Option Int :=
 bnd (Xaw p0 (-5000) 5000) fun q1 =>
 sel (!q1) (
 some 0) (
 bnd (Xig p1) fun q2 =>
 some (Xaa .i64 (p0 * q2)))
def Xjy (v6 : (Int × Int)) : Option (Lp (Int × Int) Int) :=
 sel (decide (v6.2 > 0)) (
 bnd (
 req ((2 : Int) ≠ 0) <|
 sel ((v6.2.tmod 2) == 1) (
 some (Xaa .i64 (0 - v6.1))) (
 some v6.1)) fun v10 =>
 req ((2 : Int) ≠ 0) <|
 some (.go (v10, Xaa .i64 (v6.2.tdiv 2)))) (
 some (.done v6.1))
def Xie (p0 : Int) (p1 : Int) : Option Int :=
 bnd (
 bnd (Xaw p0 0 7) fun q2 =>
 sel q2 (
 bnd (Xaw p1 0 7) fun q3 =>
 some (!q3)) (
 some true)) fun v1 =>
 sel v1 (
 some 0) (
 bnd (loop (Xjy) (1, (IntKind.wrap .i64 (BitVec.ofInt (IntKind.bits .i64) p0 &&& BitVec.ofInt (IntKind.bits .i64) p1).toNat))) fun v9 =>
 some v9)
def Xem (p0 : (List Int)) (p1 : Int) (p2 : Int) (v3 : (Int × Int)) : Option (Lp (Int × Int) Int) :=
 sel (decide (v3.2 < 8)) (
 req (0 ≤ (Xaa .i64 ((Xaa .i64 (8 * p1)) + v3.2)) ∧ (Xaa .i64 ((Xaa .i64 (8 * p1)) + v3.2)) < p0.length) <|
 bnd (Xie p2 v3.2) fun q7 =>
 some (.go (Xaa .i64 (v3.1 + (Xaa .i64 ((p0.getD (Xaa .i64 ((Xaa .i64 (8 * p1)) + v3.2)).toNat 0) * q7))), Xaa .i64 (v3.2 + 1)))) (
 some (.done v3.1))
def Xkl (p0 : (List Int)) (p1 : Int) (p2 : Int) : Option Int :=
 bnd (loop (Xem p0 p1 p2) (0, 0)) fun v6 =>
 some v6
def Xdh (p0 : (List Int)) (v10 : (Int × (List Int))) (v23 : (Int × (List Int))) : Option (Lp (Int × (List Int)) (List Int)) :=
 sel (decide (v23.1 < 8)) (
 bnd (Xkl p0 v10.1 v23.1) fun q27 =>
 req ((v23.2.length + ([q27]).length) * 8 ≤ 140737488355328 ∧ v23.2.length + ([q27]).length ≤ maxLen) <|
 some (.go (Xaa .i64 (v23.1 + 1), (v23.2 ++ ([q27]))))) (
 some (.done v23.2))
def Xdg (p0 : (List Int)) (v10 : (Int × (List Int))) : Option (Lp (Int × (List Int)) (List Int)) :=
 sel (decide (v10.1 < 8)) (
 bnd (loop (Xdh p0 v10) (0, v10.2)) fun v26 =>
 some (.go (Xaa .i64 (v10.1 + 1), v26))) (
 some (.done v10.2))
def Xc1 (v20 : (List Int)) (v60 : (Int × (List Int))) (v101 : (Int × (List Int))) (v114 : (Int × Int)) : Option (Lp (Int × Int) Int) :=
 sel (decide (v114.2 < 8)) (
 bnd (Xie v60.1 v114.2) fun q118 =>
 req (0 ≤ (Xaa .i64 ((Xaa .i64 (8 * v114.2)) + v101.1)) ∧ (Xaa .i64 ((Xaa .i64 (8 * v114.2)) + v101.1)) < v20.length) <|
 req ((Xaa .i64 ((Xaa .i64 (8 * v114.2)) + v101.1)).toNat < v20.length) <|
 some (.go (Xaa .i64 (v114.1 + (Xaa .i64 (q118 * (v20.getD ((Xaa .i64 ((Xaa .i64 (8 * v114.2)) + v101.1)).toNat) 0)))), Xaa .i64 (v114.2 + 1)))) (
 some (.done v114.1))
def Xc0 (v20 : (List Int)) (v60 : (Int × (List Int))) (v101 : (Int × (List Int))) : Option (Lp (Int × (List Int)) (List Int)) :=
 sel (decide (v101.1 < 8)) (
 bnd (loop (Xc1 v20 v60 v101) (0, 0)) fun v117 =>
 req ((v101.2.length + ([v117]).length) * 8 ≤ 140737488355328 ∧ v101.2.length + ([v117]).length ≤ maxLen) <|
 some (.go (Xaa .i64 (v101.1 + 1), (v101.2 ++ ([v117]))))) (
 some (.done v101.2))
def Xcz (v20 : (List Int)) (v60 : (Int × (List Int))) : Option (Lp (Int × (List Int)) (List Int)) :=
 sel (decide (v60.1 < 8)) (
 bnd (loop (Xc0 v20 v60) (0, v60.2)) fun v111 =>
 some (.go (Xaa .i64 (v60.1 + 1), v111))) (
 some (.done v60.2))
def Xip (p0 : (List Int)) : Option (List Int) :=
 bnd (loop (Xdg p0) (0, ([] : List Int))) fun v20 =>
 bnd (loop (Xcz v20) (0, ([] : List Int))) fun v91 =>
 some v91
def Xdf (p0 : Int) (p1 : Int) : Option Int :=
 req (p1 ≠ 0) <|
 bnd (
 req (p1 ≠ 0) <|
 sel (decide ((p0.tmod p1) < 0)) (
 some (Xaa .i64 ((Xaa .i64 (p0.tdiv p1)) - 1))) (
 some (Xaa .i64 (p0.tdiv p1)))) fun v1 =>
 some v1
def Xga (v5 : (Int × (List Int))) : Option (Lp (Int × (List Int)) (List Int)) :=
 sel (decide (v5.1 < 64)) (
 req (0 ≤ v5.1 ∧ v5.1 < v5.2.length) <|
 req (v5.1.toNat < v5.2.length) <|
 bnd (Xdf (Xaa .i64 ((v5.2.getD v5.1.toNat 0) + 32)) 64) fun q9 =>
 req (0 ≤ v5.1 ∧ v5.1 < v5.2.length) <|
 req (v5.1.toNat < v5.2.length) <|
 some (.go (Xaa .i64 (v5.1 + 1), (v5.2.set v5.1.toNat q9)))) (
 some (.done v5.2))
def Xfu (p0 : (List Int)) : Option (List Int) :=
 bnd (Xeb p0 64 10000000) fun q1 =>
 sel (!q1) (
 some ([] : List Int)) (
 bnd (Xip p0) fun q2 =>
 bnd (loop (Xga) (0, q2)) fun v8 =>
 some v8)
def Xmk (p0 : Int) : Option Int :=
 bnd (Xaw p0 0 15) fun q1 =>
 sel (!q1) (
 some (-1)) (
 req ((4 : Int) ≠ 0) <|
 req ((2 : Int) ≠ 0) <|
 req ((4 : Int) ≠ 0) <|
 req ((2 : Int) ≠ 0) <|
 bnd (
 sel (((Xaa .i64 (p0.tdiv 4)).tmod 2) == 0) (
 some (((p0.tmod 4).tmod 2) == 0)) (
 some false)) fun v2 =>
 sel v2 (
 some 0) (
 bnd (
 sel (((Xaa .i64 (p0.tdiv 4)).tmod 2) == 1) (
 some (((p0.tmod 4).tmod 2) == 1)) (
 some false)) fun v3 =>
 sel v3 (
 some 1) (
 some 2)))
def Xca (p0 : Int) (p1 : Int) (p2 : Int) (p3 : Int) : Option Int :=
 sel (p0 == 0) (
 some p1) (
 sel (p0 == 1) (
 some p2) (
 some p3))
def Xew (p0 : Int) (v12 : (Int × Int)) : Option (Lp (Int × Int) Int) :=
 req ((6 : Int) ≠ 0) <|
 sel (decide (v12.2 < (Xaa .i64 (p0.tdiv 6)))) (
 some (.go (Xaa .i64 (2 * v12.1), Xaa .i64 (v12.2 + 1)))) (
 some (.done v12.1))
def Xid (p0 : Int) (p1 : Int) : Option Int :=
 bnd (Xmk p1) fun q1 =>
 bnd (
 bnd (Xaw p0 0 40) fun q3 =>
 sel q3 (
 some (decide (q1 < 0))) (
 some true)) fun v2 =>
 sel v2 (
 some 0) (
 bnd (
 req ((6 : Int) ≠ 0) <|
 sel ((p0.tmod 6) == 0) (
 bnd (Xca q1 10 16 13) fun q5 =>
 some q5) (
 sel ((p0.tmod 6) == 1) (
 bnd (Xca q1 11 18 14) fun q6 =>
 some q6) (
 sel ((p0.tmod 6) == 2) (
 bnd (Xca q1 13 20 16) fun q7 =>
 some q7) (
 sel ((p0.tmod 6) == 3) (
 bnd (Xca q1 14 23 18) fun q8 =>
 some q8) (
 sel ((p0.tmod 6) == 4) (
 bnd (Xca q1 16 25 20) fun q9 =>
 some q9) (
 sel ((p0.tmod 6) == 5) (
 bnd (Xca q1 18 29 23) fun q10 =>
 some q10) (
 some 0))))))) fun v4 =>
 bnd (loop (Xew p0) (v4, 0)) fun v14 =>
 some v14)
def Xfx (p0 : Int) (p1 : Int) (p2 : Int) : Option Int :=
 bnd (Xaw p0 (-5000) 5000) fun q1 =>
 sel (!q1) (
 some 0) (
 bnd (Xid p1 p2) fun q2 =>
 some (Xaa .i64 (p0 * q2)))
def Xde (p0 : (List Int)) (v4 : (Int × (List Int))) : Option (Lp (Int × (List Int)) (List Int)) :=
 sel (decide (v4.1 < 4)) (
 req (0 ≤ (Xaa .i64 (4 * v4.1)) ∧ (Xaa .i64 (4 * v4.1)) < p0.length) <|
 req (0 ≤ (Xaa .i64 ((Xaa .i64 (4 * v4.1)) + 1)) ∧ (Xaa .i64 ((Xaa .i64 (4 * v4.1)) + 1)) < p0.length) <|
 req (0 ≤ (Xaa .i64 ((Xaa .i64 (4 * v4.1)) + 2)) ∧ (Xaa .i64 ((Xaa .i64 (4 * v4.1)) + 2)) < p0.length) <|
 req (0 ≤ (Xaa .i64 ((Xaa .i64 (4 * v4.1)) + 3)) ∧ (Xaa .i64 ((Xaa .i64 (4 * v4.1)) + 3)) < p0.length) <|
 bnd (Xdf (p0.getD (Xaa .i64 ((Xaa .i64 (4 * v4.1)) + 1)).toNat 0) 2) fun q9 =>
 bnd (Xdf (p0.getD (Xaa .i64 ((Xaa .i64 (4 * v4.1)) + 3)).toNat 0) 2) fun q10 =>
 req ((v4.2.length + ([Xaa .i64 ((Xaa .i64 ((p0.getD (Xaa .i64 (4 * v4.1)).toNat 0) + (p0.getD (Xaa .i64 ((Xaa .i64 (4 * v4.1)) + 2)).toNat 0))) + (Xaa .i64 ((p0.getD (Xaa .i64 ((Xaa .i64 (4 * v4.1)) + 1)).toNat 0) + q10))), Xaa .i64 ((Xaa .i64 ((p0.getD (Xaa .i64 (4 * v4.1)).toNat 0) - (p0.getD (Xaa .i64 ((Xaa .i64 (4 * v4.1)) + 2)).toNat 0))) + (Xaa .i64 (q9 - (p0.getD (Xaa .i64 ((Xaa .i64 (4 * v4.1)) + 3)).toNat 0)))), Xaa .i64 ((Xaa .i64 ((p0.getD (Xaa .i64 (4 * v4.1)).toNat 0) - (p0.getD (Xaa .i64 ((Xaa .i64 (4 * v4.1)) + 2)).toNat 0))) - (Xaa .i64 (q9 - (p0.getD (Xaa .i64 ((Xaa .i64 (4 * v4.1)) + 3)).toNat 0)))), Xaa .i64 ((Xaa .i64 ((p0.getD (Xaa .i64 (4 * v4.1)).toNat 0) + (p0.getD (Xaa .i64 ((Xaa .i64 (4 * v4.1)) + 2)).toNat 0))) - (Xaa .i64 ((p0.getD (Xaa .i64 ((Xaa .i64 (4 * v4.1)) + 1)).toNat 0) + q10)))]).length) * 8 ≤ 140737488355328 ∧ v4.2.length + ([Xaa .i64 ((Xaa .i64 ((p0.getD (Xaa .i64 (4 * v4.1)).toNat 0) + (p0.getD (Xaa .i64 ((Xaa .i64 (4 * v4.1)) + 2)).toNat 0))) + (Xaa .i64 ((p0.getD (Xaa .i64 ((Xaa .i64 (4 * v4.1)) + 1)).toNat 0) + q10))), Xaa .i64 ((Xaa .i64 ((p0.getD (Xaa .i64 (4 * v4.1)).toNat 0) - (p0.getD (Xaa .i64 ((Xaa .i64 (4 * v4.1)) + 2)).toNat 0))) + (Xaa .i64 (q9 - (p0.getD (Xaa .i64 ((Xaa .i64 (4 * v4.1)) + 3)).toNat 0)))), Xaa .i64 ((Xaa .i64 ((p0.getD (Xaa .i64 (4 * v4.1)).toNat 0) - (p0.getD (Xaa .i64 ((Xaa .i64 (4 * v4.1)) + 2)).toNat 0))) - (Xaa .i64 (q9 - (p0.getD (Xaa .i64 ((Xaa .i64 (4 * v4.1)) + 3)).toNat 0)))), Xaa .i64 ((Xaa .i64 ((p0.getD (Xaa .i64 (4 * v4.1)).toNat 0) + (p0.getD (Xaa .i64 ((Xaa .i64 (4 * v4.1)) + 2)).toNat 0))) - (Xaa .i64 ((p0.getD (Xaa .i64 ((Xaa .i64 (4 * v4.1)) + 1)).toNat 0) + q10)))]).length ≤ maxLen) <|
 some (.go (Xaa .i64 (v4.1 + 1), (v4.2 ++ ([Xaa .i64 ((Xaa .i64 ((p0.getD (Xaa .i64 (4 * v4.1)).toNat 0) + (p0.getD (Xaa .i64 ((Xaa .i64 (4 * v4.1)) + 2)).toNat 0))) + (Xaa .i64 ((p0.getD (Xaa .i64 ((Xaa .i64 (4 * v4.1)) + 1)).toNat 0) + q10))), Xaa .i64 ((Xaa .i64 ((p0.getD (Xaa .i64 (4 * v4.1)).toNat 0) - (p0.getD (Xaa .i64 ((Xaa .i64 (4 * v4.1)) + 2)).toNat 0))) + (Xaa .i64 (q9 - (p0.getD (Xaa .i64 ((Xaa .i64 (4 * v4.1)) + 3)).toNat 0)))), Xaa .i64 ((Xaa .i64 ((p0.getD (Xaa .i64 (4 * v4.1)).toNat 0) - (p0.getD (Xaa .i64 ((Xaa .i64 (4 * v4.1)) + 2)).toNat 0))) - (Xaa .i64 (q9 - (p0.getD (Xaa .i64 ((Xaa .i64 (4 * v4.1)) + 3)).toNat 0)))), Xaa .i64 ((Xaa .i64 ((p0.getD (Xaa .i64 (4 * v4.1)).toNat 0) + (p0.getD (Xaa .i64 ((Xaa .i64 (4 * v4.1)) + 2)).toNat 0))) - (Xaa .i64 ((p0.getD (Xaa .i64 ((Xaa .i64 (4 * v4.1)) + 1)).toNat 0) + q10)))]))))) (
 some (.done v4.2))
def Xfn (p0 : (List Int)) : Option (List Int) :=
 bnd (loop (Xde p0) (0, ([] : List Int))) fun v8 =>
 some v8
def Xd2 (p0 : (List Int)) (v2 : (Int × (List Int))) : Option (Lp (Int × (List Int)) (List Int)) :=
 sel (decide (v2.1 < 16)) (
 req ((4 : Int) ≠ 0) <|
 req ((4 : Int) ≠ 0) <|
 req (0 ≤ v2.1 ∧ v2.1 < p0.length) <|
 req (0 ≤ (Xaa .i64 ((Xaa .i64 ((v2.1.tmod 4) * 4)) + (Xaa .i64 (v2.1.tdiv 4)))) ∧ (Xaa .i64 ((Xaa .i64 ((v2.1.tmod 4) * 4)) + (Xaa .i64 (v2.1.tdiv 4)))) < v2.2.length) <|
 req ((Xaa .i64 ((Xaa .i64 ((v2.1.tmod 4) * 4)) + (Xaa .i64 (v2.1.tdiv 4)))).toNat < v2.2.length) <|
 some (.go (Xaa .i64 (v2.1 + 1), (v2.2.set ((Xaa .i64 ((Xaa .i64 ((v2.1.tmod 4) * 4)) + (Xaa .i64 (v2.1.tdiv 4)))).toNat) (p0.getD v2.1.toNat 0))))) (
 some (.done v2.2))
def Xgq (p0 : (List Int)) : Option (List Int) :=
 req (0 ≤ (16 : Int) ∧ (16 : Int) ≤ (16 : Int) ∧ (16 : Int) * 8 ≤ 281474976710656) <|
 bnd (loop (Xd2 p0) (0, (List.replicate (16 : Int).toNat (0 : Int)))) fun v4 =>
 some v4
def Xg8 (v8 : (Int × (List Int))) : Option (Lp (Int × (List Int)) (List Int)) :=
 sel (decide (v8.1 < 16)) (
 req (0 ≤ v8.1 ∧ v8.1 < v8.2.length) <|
 req (v8.1.toNat < v8.2.length) <|
 bnd (Xdf (Xaa .i64 ((v8.2.getD v8.1.toNat 0) + 32)) 64) fun q12 =>
 req (0 ≤ v8.1 ∧ v8.1 < v8.2.length) <|
 req (v8.1.toNat < v8.2.length) <|
 some (.go (Xaa .i64 (v8.1 + 1), (v8.2.set v8.1.toNat q12)))) (
 some (.done v8.2))
def Xgx (p0 : (List Int)) : Option (List Int) :=
 bnd (Xeb p0 16 10000000) fun q1 =>
 sel (!q1) (
 some ([] : List Int)) (
 bnd (Xfn p0) fun q2 =>
 bnd (Xgq q2) fun q3 =>
 bnd (Xfn q3) fun q4 =>
 bnd (Xgq q4) fun q5 =>
 bnd (loop (Xg8) (0, q5)) fun v11 =>
 some v11)
def Xbw (p1 : Xf0) (v8 : (Int × (List Int))) : Option (Lp (Int × (List Int)) (List Int)) :=
 sel (decide (v8.1 < 64)) (
 req (0 ≤ v8.1 ∧ v8.1 < v8.2.length) <|
 req (v8.1.toNat < v8.2.length) <|
 bnd (Xfw (v8.2.getD v8.1.toNat 0) p1.Qp) fun q12 =>
 req (0 ≤ v8.1 ∧ v8.1 < v8.2.length) <|
 req (v8.1.toNat < v8.2.length) <|
 some (.go (Xaa .i64 (v8.1 + 1), (v8.2.set v8.1.toNat q12)))) (
 some (.done v8.2))
def Xbq (p1 : Xf0) (v52 : (Int × (List Int))) : Option (Lp (Int × (List Int)) (List Int)) :=
 sel (decide (v52.1 < 16)) (
 req (0 ≤ v52.1 ∧ v52.1 < v52.2.length) <|
 req (v52.1.toNat < v52.2.length) <|
 bnd (Xfx (v52.2.getD v52.1.toNat 0) p1.Qp v52.1) fun q56 =>
 req (0 ≤ v52.1 ∧ v52.1 < v52.2.length) <|
 req (v52.1.toNat < v52.2.length) <|
 some (.go (Xaa .i64 (v52.1 + 1), (v52.2.set v52.1.toNat q56)))) (
 some (.done v52.2))
def Xbz (v31 : (Int × (List Int))) (q58 : (List Int)) (v60 : (Int × (List Int))) : Option (Lp (Int × (List Int)) (List Int)) :=
 sel (decide (v60.1 < 16)) (
 req ((2 : Int) ≠ 0) <|
 req ((4 : Int) ≠ 0) <|
 req ((2 : Int) ≠ 0) <|
 req ((4 : Int) ≠ 0) <|
 req (0 ≤ v60.1 ∧ v60.1 < q58.length) <|
 req (v60.1.toNat < q58.length) <|
 req (0 ≤ (Xaa .i64 ((Xaa .i64 ((Xaa .i64 (8 * (Xaa .i64 ((Xaa .i64 ((Xaa .i64 (v31.1.tdiv 2)) * 4)) + (Xaa .i64 (v60.1.tdiv 4)))))) + (Xaa .i64 ((v31.1.tmod 2) * 4)))) + (v60.1.tmod 4))) ∧ (Xaa .i64 ((Xaa .i64 ((Xaa .i64 (8 * (Xaa .i64 ((Xaa .i64 ((Xaa .i64 (v31.1.tdiv 2)) * 4)) + (Xaa .i64 (v60.1.tdiv 4)))))) + (Xaa .i64 ((v31.1.tmod 2) * 4)))) + (v60.1.tmod 4))) < v60.2.length) <|
 req ((Xaa .i64 ((Xaa .i64 ((Xaa .i64 (8 * (Xaa .i64 ((Xaa .i64 ((Xaa .i64 (v31.1.tdiv 2)) * 4)) + (Xaa .i64 (v60.1.tdiv 4)))))) + (Xaa .i64 ((v31.1.tmod 2) * 4)))) + (v60.1.tmod 4))).toNat < v60.2.length) <|
 some (.go (Xaa .i64 (v60.1 + 1), (v60.2.set ((Xaa .i64 ((Xaa .i64 ((Xaa .i64 (8 * (Xaa .i64 ((Xaa .i64 ((Xaa .i64 (v31.1.tdiv 2)) * 4)) + (Xaa .i64 (v60.1.tdiv 4)))))) + (Xaa .i64 ((v31.1.tmod 2) * 4)))) + (v60.1.tmod 4))).toNat) (q58.getD v60.1.toNat 0))))) (
 some (.done v60.2))
def Xcv (p0 : (List Int)) (p1 : Xf0) (v31 : (Int × (List Int))) : Option (Lp (Int × (List Int)) (List Int)) :=
 sel (decide (v31.1 < 4)) (
 req (0 ≤ (Xaa .i64 (16 * v31.1)) ∧ (Xaa .i64 (16 * v31.1)) ≤ (Xaa .i64 ((Xaa .i64 (16 * v31.1)) + 16)) ∧ (Xaa .i64 ((Xaa .i64 (16 * v31.1)) + 16)) ≤ (p0.length : Int)) <|
 bnd (Xdo 4 ((p0.drop (Xaa .i64 (16 * v31.1)).toNat).take ((Xaa .i64 ((Xaa .i64 (16 * v31.1)) + 16)).toNat - (Xaa .i64 (16 * v31.1)).toNat))) fun q49 =>
 bnd (loop (Xbq p1) (0, q49.1)) fun v55 =>
 bnd (Xgx v55) fun q58 =>
 bnd (loop (Xbz v31 q58) (0, v31.2)) fun v62 =>
 some (.go (Xaa .i64 (v31.1 + 1), v62))) (
 some (.done v31.2))
def Xdy (p0 : (List Int)) (p1 : Xf0) : Option ((List Int) × Bool) :=
 bnd (
 bnd (Xh8 p1) fun q2 =>
 sel q2 (
 bnd (Xeb p0 64 5000) fun q3 =>
 some (!q3)) (
 some true)) fun v1 =>
 sel v1 (
 some (([] : List Int), false)) (
 sel p1.Exact (
 bnd (Xdo 8 p0) fun q4 =>
 some (q4.1, q4.2)) (
 sel p1.Large (
 bnd (Xdo 8 p0) fun q5 =>
 bnd (loop (Xbw p1) (0, q5.1)) fun v11 =>
 bnd (Xfu v11) fun q14 =>
 some (q14, true)) (
 req (0 ≤ (64 : Int) ∧ (64 : Int) ≤ (64 : Int) ∧ (64 : Int) * 8 ≤ 281474976710656) <|
 bnd (loop (Xcv p0 p1) (0, (List.replicate (64 : Int).toNat (0 : Int)))) fun v48 =>
 some (v48, true))))
def Xiu (p0 : (List Int)) (v4 : Int) : Option (Lp Int (Ou Unit Bool)) :=
 sel (decide (v4 < (p0.length : Int))) (
 req (0 ≤ v4 ∧ v4 < p0.length) <|
 bnd (Xaw (p0.getD v4.toNat 0) 0 255) fun q8 =>
 sel (!q8) (
 some (.done (.ret false))) (
 some (.go (Xaa .i64 (v4 + 1))))) (
 some (.done (.out ())))
def Xk3 (p0 : (List Int)) : Option Bool :=
 bnd (
 sel ((p0.length : Int) != 0) (
 some ((p0.length : Int) != 8)) (
 some false)) fun v1 =>
 sel v1 (
 some false) (
 bnd (loop (Xiu p0) 0) fun o9 => match o9 with
| .out v7 => (
 some true)
| .ret r => some r)
def Xnm (p0 : Xl6) : Option Bool :=
 bnd (
 bnd (Xk3 p0.Above) fun q2 =>
 sel q2 (
 bnd (Xk3 p0.Left) fun q3 =>
 sel q3 (
 bnd (Xaw p0.Corner (-1) 255) fun q4 =>
 some q4) (
 some false)) (
 some false)) fun v1 =>
 some v1
def Xdq (p0 : (List Int)) (p1 : Int) : Option Int :=
 sel ((p0.length : Int) == 0) (
 some 128) (
 req (0 ≤ p1 ∧ p1 < p0.length) <|
 some (p0.getD p1.toNat 0))
def Xhl (p0 : Xl6) (v2 : (Int × Int)) : Option (Lp (Int × Int) Int) :=
 sel (decide (v2.2 < (p0.Above.length : Int))) (
 req (0 ≤ v2.2 ∧ v2.2 < p0.Above.length) <|
 some (.go (Xaa .i64 (v2.1 + (p0.Above.getD v2.2.toNat 0)), Xaa .i64 (v2.2 + 1)))) (
 some (.done v2.1))
def Xhm (p0 : Xl6) (v7 : (Int × Int)) : Option (Lp (Int × Int) Int) :=
 sel (decide (v7.2 < (p0.Left.length : Int))) (
 req (0 ≤ v7.2 ∧ v7.2 < p0.Left.length) <|
 some (.go (Xaa .i64 (v7.1 + (p0.Left.getD v7.2.toNat 0)), Xaa .i64 (v7.2 + 1)))) (
 some (.done v7.1))
def Xkm (p0 : Xl6) : Option Int :=
 sel ((Xaa .i64 ((p0.Above.length : Int) + (p0.Left.length : Int))) == 0) (
 some 128) (
 req ((2 : Int) ≠ 0) <|
 bnd (loop (Xhl p0) (Xaa .i64 ((Xaa .i64 ((p0.Above.length : Int) + (p0.Left.length : Int))).tdiv 2), 0)) fun v4 =>
 bnd (loop (Xhm p0) (v4, 0)) fun v9 =>
 req ((Xaa .i64 ((p0.Above.length : Int) + (p0.Left.length : Int))) ≠ 0) <|
 some (Xaa .i64 (v9.tdiv (Xaa .i64 ((p0.Above.length : Int) + (p0.Left.length : Int))))))
def Xdx (p0 : Int) (p1 : Xl6) (v4 : Int) (v11 : (Int × (List Int))) : Option (Lp (Int × (List Int)) (List Int)) :=
 sel (decide (v11.1 < 64)) (
 bnd (
 req ((8 : Int) ≠ 0) <|
 bnd (Xdq p1.Above (v11.1.tmod 8)) fun q20 =>
 req ((8 : Int) ≠ 0) <|
 bnd (Xdq p1.Left (Xaa .i64 (v11.1.tdiv 8))) fun q21 =>
 sel (p0 == 0) (
 bnd (Xkm p1) fun q22 =>
 req ((v11.2.length + ([q22]).length) * 8 ≤ 140737488355328 ∧ v11.2.length + ([q22]).length ≤ maxLen) <|
 some (v11.2 ++ ([q22]))) (
 sel (p0 == 1) (
 req ((v11.2.length + ([q20]).length) * 8 ≤ 140737488355328 ∧ v11.2.length + ([q20]).length ≤ maxLen) <|
 some (v11.2 ++ ([q20]))) (
 sel (p0 == 2) (
 req ((v11.2.length + ([q21]).length) * 8 ≤ 140737488355328 ∧ v11.2.length + ([q21]).length ≤ maxLen) <|
 some (v11.2 ++ ([q21]))) (
 bnd (Xfk (Xaa .i64 ((Xaa .i64 (q21 + q20)) - v4)) 0 255) fun q23 =>
 req ((v11.2.length + ([q23]).length) * 8 ≤ 140737488355328 ∧ v11.2.length + ([q23]).length ≤ maxLen) <|
 some (v11.2 ++ ([q23])))))) fun v19 =>
 some (.go (Xaa .i64 (v11.1 + 1), v19))) (
 some (.done v11.2))
def Xgp (p0 : Int) (p1 : Xl6) : Option (List Int) :=
 bnd (
 bnd (Xnm p1) fun q2 =>
 sel q2 (
 bnd (Xaw p0 0 3) fun q3 =>
 some (!q3)) (
 some true)) fun v1 =>
 sel v1 (
 some ([] : List Int)) (
 bnd (
 sel (decide (p1.Corner < 0)) (
 some 128) (
 some p1.Corner)) fun v4 =>
 bnd (loop (Xdx p0 p1 v4) (0, ([] : List Int))) fun v18 =>
 some v18)
def Xit (p0 : (List Int)) (v3 : Int) : Option (Lp Int (Ou Unit Bool)) :=
 sel (decide (v3 < 64)) (
 req (0 ≤ v3 ∧ v3 < p0.length) <|
 bnd (Xaw (p0.getD v3.toNat 0) 0 255) fun q7 =>
 sel (!q7) (
 some (.done (.ret false))) (
 some (.go (Xaa .i64 (v3 + 1))))) (
 some (.done (.out ())))
def Xnp (p0 : (List Int)) : Option Bool :=
 sel ((p0.length : Int) != 64) (
 some false) (
 bnd (loop (Xit p0) 0) fun o8 => match o8 with
| .out v6 => (
 some true)
| .ret r => some r)
def Xfv (p0 : (List Int)) (p1 : (List Int)) (v6 : (Int × (List Int))) : Option (Lp (Int × (List Int)) (List Int)) :=
 sel (decide (v6.1 < 64)) (
 req (0 ≤ v6.1 ∧ v6.1 < p0.length) <|
 req (0 ≤ v6.1 ∧ v6.1 < p1.length) <|
 bnd (Xfk (Xaa .i64 ((p0.getD v6.1.toNat 0) + (p1.getD v6.1.toNat 0))) 0 255) fun q10 =>
 req ((v6.2.length + ([q10]).length) * 8 ≤ 140737488355328 ∧ v6.2.length + ([q10]).length ≤ maxLen) <|
 some (.go (Xaa .i64 (v6.1 + 1), (v6.2 ++ ([q10]))))) (
 some (.done v6.2))
def Xic (p0 : (List Int)) (p1 : (List Int)) : Option (List Int) :=
 bnd (
 bnd (Xnp p0) fun q2 =>
 sel q2 (
 bnd (Xeb p1 64 10000000) fun q3 =>
 some (!q3)) (
 some true)) fun v1 =>
 sel v1 (
 some ([] : List Int)) (
 bnd (loop (Xfv p0 p1) (0, ([] : List Int))) fun v9 =>
 some v9)
def Xh7 (p0 : Pic) (p1 : Int) (p2 : Int) (v7 : (Int × (List Int))) : Option (Lp (Int × (List Int)) (List Int)) :=
 sel (decide (v7.1 < 64)) (
 req ((8 : Int) ≠ 0) <|
 req ((8 : Int) ≠ 0) <|
 bnd (Xf9 p0 (Xaa .i64 (p1 + (v7.1.tmod 8))) (Xaa .i64 (p2 + (Xaa .i64 (v7.1.tdiv 8))))) fun q11 =>
 req ((v7.2.length + ([q11]).length) * 8 ≤ 140737488355328 ∧ v7.2.length + ([q11]).length ≤ maxLen) <|
 some (.go (Xaa .i64 (v7.1 + 1), (v7.2 ++ ([q11]))))) (
 some (.done v7.2))
def Xnl (p0 : Pic) (p1 : Int) (p2 : Int) : Option (List Int) :=
 bnd (
 bnd (Xhg p0) fun q2 =>
 sel q2 (
 bnd (Xaw p1 (-1000) 1000) fun q3 =>
 sel q3 (
 bnd (Xaw p2 (-1000) 1000) fun q4 =>
 some (!q4)) (
 some true)) (
 some true)) fun v1 =>
 sel v1 (
 some ([] : List Int)) (
 bnd (loop (Xh7 p0 p1 p2) (0, ([] : List Int))) fun v10 =>
 some v10)
def Xda (p0 : Pic) (p1 : Pic) (p2 : Int) (p3 : Int) (p4 : Xf0) (p5 : Int) (p6 : Int) (p7 : Xar) : Option ((List Int) × Bool) :=
 bnd (
 bnd (Xk2 p0 p5 p6) fun q2 =>
 sel q2 (
 bnd (Xaw p2 0 256) fun q3 =>
 sel q3 (
 bnd (Xaw p3 0 256) fun q4 =>
 sel q4 (
 bnd (Xef p7) fun q5 =>
 sel q5 (
 bnd (Xh8 p4) fun q6 =>
 some (!q6)) (
 some true)) (
 some true)) (
 some true)) (
 some true)) fun v1 =>
 sel v1 (
 some (([] : List Int), false)) (
 sel (p7.Kind == 2) (
 bnd (Xib p0 p5 p6) fun q7 =>
 bnd (Xdy p7.Levels p4) fun q8 =>
 bnd (Xgp p7.Mode q7.1) fun q9 =>
 bnd (Xic q9 q8.1) fun q10 =>
 some (q10, true)) (
 bnd (
 sel p4.Key (
 some true) (
 bnd (Xhg p1) fun q12 =>
 some (!q12))) fun v11 =>
 sel v11 (
 some (([] : List Int), false)) (
 bnd (Xnl p1 (Xaa .i64 ((Xaa .i64 (p2 + p5)) + p7.Dx)) (Xaa .i64 ((Xaa .i64 (p3 + p6)) + p7.Dy))) fun q13 =>
 sel (p7.Kind == 0) (
 some (q13, true)) (
 bnd (Xdy p7.Levels p4) fun q14 =>
 bnd (Xic q13 q14.1) fun q15 =>
 some (q15, true)))))
def Xfy (p0 : Pic) (p1 : Int) (p2 : Int) (p3 : (List Int)) (v2 : (Int × (List Int))) : Option (Lp (Int × (List Int)) (List Int)) :=
 sel (decide (v2.1 < 64)) (
 req ((8 : Int) ≠ 0) <|
 req ((8 : Int) ≠ 0) <|
 req (0 ≤ v2.1 ∧ v2.1 < p3.length) <|
 req (0 ≤ (Xaa .i64 ((Xaa .i64 ((Xaa .i64 ((Xaa .i64 (p2 + (Xaa .i64 (v2.1.tdiv 8)))) * p0.Wide)) + p1)) + (v2.1.tmod 8))) ∧ (Xaa .i64 ((Xaa .i64 ((Xaa .i64 ((Xaa .i64 (p2 + (Xaa .i64 (v2.1.tdiv 8)))) * p0.Wide)) + p1)) + (v2.1.tmod 8))) < v2.2.length) <|
 req ((Xaa .i64 ((Xaa .i64 ((Xaa .i64 ((Xaa .i64 (p2 + (Xaa .i64 (v2.1.tdiv 8)))) * p0.Wide)) + p1)) + (v2.1.tmod 8))).toNat < v2.2.length) <|
 some (.go (Xaa .i64 (v2.1 + 1), (v2.2.set ((Xaa .i64 ((Xaa .i64 ((Xaa .i64 ((Xaa .i64 (p2 + (Xaa .i64 (v2.1.tdiv 8)))) * p0.Wide)) + p1)) + (v2.1.tmod 8))).toNat) (Xaa .u8 ((p3.getD v2.1.toNat 0))))))) (
 some (.done v2.2))
def Xiv (p0 : Pic) (p1 : Int) (p2 : Int) (p3 : (List Int)) : Option Pic :=
 req (p0.Dots.size ≤ maxLen) <|
 bnd (loop (Xfy p0 p1 p2 p3) (0, (Xa0 p0.Dots))) fun v4 =>
 some (⟨p0.Wide, p0.High, (strOfNums v4)⟩ : Pic)
def Xbp (p1 : Xpw) (p2 : Xf0) (p4 : (List Xar)) (v9 : (Int × Int × Int × Int × ByteArray)) (v16 : (Int × Int × Int × ByteArray)) : Option (Lp (Int × Int × Int × ByteArray) (Int × Int × ByteArray)) :=
 sel (decide (v16.1 < (p4.length : Int))) (
 req ((8 : Int) ≠ 0) <|
 req ((Xaa .i64 (p1.Wide.tdiv 8)) ≠ 0) <|
 req ((8 : Int) ≠ 0) <|
 req ((Xaa .i64 (p1.Wide.tdiv 8)) ≠ 0) <|
 req (0 ≤ v16.1 ∧ v16.1 < p4.length) <|
 bnd (Xda (⟨v16.2.1, v16.2.2.1, v16.2.2.2⟩ : Pic) (⟨v9.2.2.1, v9.2.2.2.1, v9.2.2.2.2⟩ : Pic) v9.1 v9.2.1 p2 (Xaa .i64 (8 * (v16.1.tmod (Xaa .i64 (p1.Wide.tdiv 8))))) (Xaa .i64 (8 * (Xaa .i64 (v16.1.tdiv (Xaa .i64 (p1.Wide.tdiv 8)))))) (⟨(p4.getD v16.1.toNat Xbx).Kind, (p4.getD v16.1.toNat Xbx).Mode, (p4.getD v16.1.toNat Xbx).Dx, (p4.getD v16.1.toNat Xbx).Dy, (p4.getD v16.1.toNat Xbx).Levels⟩ : Xar)) fun q21 =>
 bnd (Xiv (⟨v16.2.1, v16.2.2.1, v16.2.2.2⟩ : Pic) (Xaa .i64 (8 * (v16.1.tmod (Xaa .i64 (p1.Wide.tdiv 8))))) (Xaa .i64 (8 * (Xaa .i64 (v16.1.tdiv (Xaa .i64 (p1.Wide.tdiv 8)))))) q21.1) fun q22 =>
 some (.go (Xaa .i64 (v16.1 + 1), q22.Wide, q22.High, q22.Dots))) (
 some (.done (v16.2.1, v16.2.2.1, v16.2.2.2)))
def Xg0 (p0 : Pic) (p1 : Xpw) (p2 : Xf0) (p3 : Bool) (p4 : (List Xar)) : Option (Pic × Bool) :=
 bnd (
 bnd (Xk5 p1.Wide) fun q2 =>
 sel q2 (
 bnd (Xk5 p1.High) fun q3 =>
 sel q3 (
 bnd (Xaw p1.Left 0 256) fun q4 =>
 sel q4 (
 bnd (Xaw p1.Top 0 256) fun q5 =>
 sel q5 (
 bnd (Xq6 p4 p2) fun q6 =>
 sel q6 (
 req ((8 : Int) ≠ 0) <|
 req ((8 : Int) ≠ 0) <|
 some ((p4.length : Int) != (Xaa .i64 ((Xaa .i64 (p1.Wide.tdiv 8)) * (Xaa .i64 (p1.High.tdiv 8)))))) (
 some true)) (
 some true)) (
 some true)) (
 some true)) (
 some true)) fun v1 =>
 sel v1 (
 some ((⟨0, 0, ⟨#[]⟩⟩ : Pic), false)) (
 bnd (
 sel p2.Key (
 some false) (
 bnd (Xcs p0 p1.Left p1.Top p1.Wide p1.High) fun q8 =>
 some (!q8))) fun v7 =>
 sel v7 (
 some ((⟨0, 0, ⟨#[]⟩⟩ : Pic), false)) (
 bnd (
 bnd (
 sel p2.Key (
 some false) (
 some p3)) fun v10 =>
 sel v10 (
 bnd (Xoq p0 p1) fun q11 =>
 some (0, 0, q11.1.Wide, q11.1.High, q11.1.Dots)) (
 some (p1.Left, p1.Top, p0.Wide, p0.High, p0.Dots))) fun v9 =>
 bnd (Xnn p1.Wide p1.High) fun q12 =>
 bnd (loop (Xbp p1 p2 p4 v9) (0, q12.Wide, q12.High, q12.Dots)) fun v20 =>
 some ((⟨v20.1, v20.2.1, v20.2.2⟩ : Pic), true)))
def Xb6 (p0 : Pic) (p1 : Pic) (p2 : Int) (p3 : Int) (v10 : (Int × (List Int))) (v19 : (Int × (List Int))) : Option (Lp (Int × (List Int)) (List Int)) :=
 sel (decide (v19.1 < p1.Wide)) (
 req (0 ≤ (Xaa .i64 ((Xaa .i64 (v10.1 * p1.Wide)) + v19.1)) ∧ (Xaa .i64 ((Xaa .i64 (v10.1 * p1.Wide)) + v19.1)) < p1.Dots.size) <|
 req (0 ≤ (Xaa .i64 ((Xaa .i64 ((Xaa .i64 ((Xaa .i64 (p3 + v10.1)) * p0.Wide)) + p2)) + v19.1)) ∧ (Xaa .i64 ((Xaa .i64 ((Xaa .i64 ((Xaa .i64 (p3 + v10.1)) * p0.Wide)) + p2)) + v19.1)) < v19.2.length) <|
 req ((Xaa .i64 ((Xaa .i64 ((Xaa .i64 ((Xaa .i64 (p3 + v10.1)) * p0.Wide)) + p2)) + v19.1)).toNat < v19.2.length) <|
 some (.go (Xaa .i64 (v19.1 + 1), (v19.2.set ((Xaa .i64 ((Xaa .i64 ((Xaa .i64 ((Xaa .i64 (p3 + v10.1)) * p0.Wide)) + p2)) + v19.1)).toNat) (Xl2 p1.Dots (Xaa .i64 ((Xaa .i64 (v10.1 * p1.Wide)) + v19.1))))))) (
 some (.done v19.2))
def Xdz (p0 : Pic) (p1 : Pic) (p2 : Int) (p3 : Int) (v10 : (Int × (List Int))) : Option (Lp (Int × (List Int)) (List Int)) :=
 sel (decide (v10.1 < p1.High)) (
 bnd (loop (Xb6 p0 p1 p2 p3 v10) (0, v10.2)) fun v21 =>
 some (.go (Xaa .i64 (v10.1 + 1), v21))) (
 some (.done v10.2))
def Xki (p0 : Pic) (p1 : Pic) (p2 : Int) (p3 : Int) : Option (Pic × Bool) :=
 bnd (
 bnd (Xhg p1) fun q2 =>
 sel q2 (
 bnd (Xcs p0 p2 p3 p1.Wide p1.High) fun q3 =>
 some (!q3)) (
 some true)) fun v1 =>
 sel v1 (
 some (p0, false)) (
 req (p0.Dots.size ≤ maxLen) <|
 bnd (loop (Xdz p0 p1 p2 p3) (0, (Xa0 p0.Dots))) fun v17 =>
 some ((⟨p0.Wide, p0.High, (strOfNums v17)⟩ : Pic), true))
def Xcb (p0 : Xak) (p1 : Int) (p2 : ByteArray) : Option (Xak × Int × Pic) :=
 sel (!p0.HasPar) (
 some (p0, 4, (⟨0, 0, ⟨#[]⟩⟩ : Pic))) (
 bnd (Xfl p0.Seq p0.Par p2) fun q1 =>
 sel (!q1.2.2) (
 some (p0, 5, (⟨0, 0, ⟨#[]⟩⟩ : Pic))) (
 sel (q1.1.Tile != p0.Got) (
 some (p0, 6, (⟨0, 0, ⟨#[]⟩⟩ : Pic))) (
 bnd (
 sel (p0.Frame != (-1)) (
 some (p0.Frame != q1.1.Frame)) (
 some false)) fun v2 =>
 sel v2 (
 some (p0, 7, (⟨0, 0, ⟨#[]⟩⟩ : Pic))) (
 bnd (
 sel (p1 == 1) (
 some (!p0.HasRef)) (
 some false)) fun v3 =>
 sel v3 (
 some (p0, 8, (⟨0, 0, ⟨#[]⟩⟩ : Pic))) (
 bnd (Xb2 p0.Seq q1.1.Tile) fun q4 =>
 bnd (Xgz p2 q1.2.1 q4 (⟨(p1 == 5), q1.1.Qp, p0.Par.Large, p0.Par.Exact⟩ : Xf0)) fun q5 =>
 sel (!q5.2) (
 some (p0, 9, (⟨0, 0, ⟨#[]⟩⟩ : Pic))) (
 bnd (Xdn p0.Seq q1.1.Tile) fun q6 =>
 bnd (Xg0 p0.Ref q6.1 (⟨(p1 == 5), q1.1.Qp, p0.Par.Large, p0.Par.Exact⟩ : Xf0) p0.Par.Confined q5.1) fun q7 =>
 bnd (
 sel (p0.Got == 0) (
 bnd (Xif p0.Seq) fun q9 =>
 bnd (Xnn q9.1 q9.2) fun q10 =>
 some (q10.Wide, q10.High, q10.Dots)) (
 some (p0.Now.Wide, p0.Now.High, p0.Now.Dots))) fun v8 =>
 bnd (Xki (⟨v8.1, v8.2.1, v8.2.2⟩ : Pic) q7.1 q6.1.Left q6.1.Top) fun q11 =>
 bnd (Xfm p0.Seq) fun q12 =>
 sel (decide ((Xaa .i64 (p0.Got + 1)) < q12)) (
 some ((⟨p0.HasSeq, p0.HasPar, p0.HasRef, p0.Seq, p0.Par, q1.1.Frame, Xaa .i64 (p0.Got + 1), q11.1, p0.Ref⟩ : Xak), 0, (⟨0, 0, ⟨#[]⟩⟩ : Pic))) (
 req (0 ≤ (Xaa .u64 (p0.Seq.Bits))) <|
 req ((Xaa .i64 (1 * 2 ^ min (Xaa .u64 (p0.Seq.Bits)).toNat (IntKind.bits .i64))) ≠ 0) <|
 some ((⟨p0.HasSeq, p0.HasPar, true, p0.Seq, p0.Par, ((Xaa .i64 (q1.1.Frame + 1)).tmod (Xaa .i64 (1 * 2 ^ min (Xaa .u64 (p0.Seq.Bits)).toNat (IntKind.bits .i64)))), 0, (⟨0, 0, ⟨#[]⟩⟩ : Pic), q11.1⟩ : Xak), 0, q11.1))))))))
def Xen (p0 : Xak) (p1 : ByteArray) : Option (Xak × Int × Pic) :=
 bnd (Xqv p0) fun q1 =>
 sel (!q1) (
 some (p0, 1, (⟨0, 0, ⟨#[]⟩⟩ : Pic))) (
 bnd (Xkj p1) fun q2 =>
 sel (!q2.2.2) (
 some (p0, 2, (⟨0, 0, ⟨#[]⟩⟩ : Pic))) (
 sel (q2.1 == 7) (
 bnd (Xd1 q2.2.1 0) fun q3 =>
 bnd (
 sel q3.2.2 (
 some (q3.2.1 != (q2.2.1.size : Int))) (
 some true)) fun v4 =>
 sel v4 (
 some (p0, 3, (⟨0, 0, ⟨#[]⟩⟩ : Pic))) (
 some ((⟨true, false, false, q3.1, (⟨0, false, false, false⟩ : Par), (-1), 0, (⟨0, 0, ⟨#[]⟩⟩ : Pic), (⟨0, 0, ⟨#[]⟩⟩ : Pic)⟩ : Xak), 0, (⟨0, 0, ⟨#[]⟩⟩ : Pic)))) (
 sel (q2.1 == 8) (
 bnd (Xd0 q2.2.1 0) fun q5 =>
 bnd (
 sel q5.2.2 (
 some (q5.2.1 != (q2.2.1.size : Int))) (
 some true)) fun v6 =>
 sel v6 (
 some (p0, 3, (⟨0, 0, ⟨#[]⟩⟩ : Pic))) (
 bnd (
 sel p0.HasSeq (
 some (decide (p0.Got > 0))) (
 some true)) fun v7 =>
 sel v7 (
 some (p0, 4, (⟨0, 0, ⟨#[]⟩⟩ : Pic))) (
 some ((⟨p0.HasSeq, true, p0.HasRef, p0.Seq, q5.1, p0.Frame, p0.Got, p0.Now, p0.Ref⟩ : Xak), 0, (⟨0, 0, ⟨#[]⟩⟩ : Pic))))) (
 bnd (Xcb p0 q2.1 q2.2.1) fun q8 =>
 some (q8.1, q8.2.1, q8.2.2)))))
def Xim (p0 : Seq) : Option Seq :=
 req ((([] : List Int).length + p0.Cols.length) * 8 ≤ 140737488355328 ∧ ([] : List Int).length + p0.Cols.length ≤ maxLen) <|
 req ((([] : List Int).length + p0.Rows.length) * 8 ≤ 140737488355328 ∧ ([] : List Int).length + p0.Rows.length ≤ maxLen) <|
 some (⟨p0.Level, p0.Bits, (([] : List Int) ++ p0.Cols), (([] : List Int) ++ p0.Rows)⟩ : Seq)
def Xb9 (p0 : Xak) (p1 : ByteArray) : Option (Xak × Int × Pic) :=
 bnd (Xen p0 p1) fun q1 =>
 bnd (Xim q1.1.Seq) fun q2 =>
 some ((⟨q1.1.HasSeq, q1.1.HasPar, q1.1.HasRef, q2, q1.1.Par, q1.1.Frame, q1.1.Got, q1.1.Now, q1.1.Ref⟩ : Xak), q1.2.1, q1.2.2)
def Xfh (p0 : (List Int)) : Option (List Int) :=
 req ((([] : List Int).length + p0.length) * 8 ≤ 140737488355328 ∧ ([] : List Int).length + p0.length ≤ maxLen) <|
 some (([] : List Int) ++ p0)
def Xnc (p0 : Seq) : Option Seq :=
 bnd (Xfh p0.Cols) fun q1 =>
 bnd (Xfh p0.Rows) fun q2 =>
 some (⟨p0.Level, p0.Bits, q1, q2⟩ : Seq)
def Xdd (p0 : Xak) : Option Xak :=
 bnd (Xnc p0.Seq) fun q1 =>
 some (⟨p0.HasSeq, p0.HasPar, p0.HasRef, q1, p0.Par, p0.Frame, p0.Got, p0.Now, p0.Ref⟩ : Xak)
def Xnd (p0 : Seq) : Option Bool :=
 bnd (
 sel (p0.Level == 0) (
 sel (p0.Bits == 0) (
 sel ((p0.Cols.length : Int) == 0) (
 some ((p0.Rows.length : Int) == 0)) (
 some false)) (
 some false)) (
 some false)) fun v1 =>
 some v1
def Xau (p0 : Int) (p1 : Int) (p2 : Int) : Option Bool :=
 bnd (
 sel (decide (p0 ≥ p1)) (
 some (decide (p0 ≤ p2))) (
 some false)) fun v1 =>
 some v1
def Xed (p0 : (List Int)) (v2 : (Int × Int)) : Option (Lp (Int × Int) Int) :=
 sel (decide (v2.2 < (p0.length : Int))) (
 req (0 ≤ v2.2 ∧ v2.2 < p0.length) <|
 some (.go (Xaa .i64 (v2.1 + (p0.getD v2.2.toNat 0)), Xaa .i64 (v2.2 + 1)))) (
 some (.done v2.1))
def Xcx (p0 : (List Int)) : Option Int :=
 bnd (loop (Xed p0) (0, 0)) fun v4 =>
 some v4
def Xc6 (p0 : Seq) (v11 : Int) (v26 : Int) : Option (Lp Int (Ou Unit Int)) :=
 sel (decide (v26 < ((([p0.Cols, p0.Rows]).getD v11.toNat Xms).length : Int))) (
 req (0 ≤ v26 ∧ v26 < (([p0.Cols, p0.Rows]).getD v11.toNat Xms).length) <|
 bnd (Xau ((([p0.Cols, p0.Rows]).getD v11.toNat Xms).getD v26.toNat 0) 1 8) fun q30 =>
 sel (!q30) (
 some (.done (.ret 0))) (
 some (.go (Xaa .i64 (v26 + 1))))) (
 some (.done (.out ())))
def Xd5 (p0 : Seq) (v11 : Int) : Option (Lp Int (Ou Unit Int)) :=
 sel (decide (v11 < (([p0.Cols, p0.Rows]).length : Int))) (
 req (0 ≤ v11 ∧ v11 < ([p0.Cols, p0.Rows]).length) <|
 req (v11.toNat < ([p0.Cols, p0.Rows]).length) <|
 bnd (Xau ((([p0.Cols, p0.Rows]).getD v11.toNat Xms).length : Int) 1 4) fun q23 =>
 sel (!q23) (
 some (.done (.ret 0))) (
 bnd (loop (Xc6 p0 v11) 0) fun o31 => match o31 with
| .out v29 => (
 some (.go (Xaa .i64 (v11 + 1))))
| .ret r => some (.done (.ret r)))) (
 some (.done (.out ())))
def Xjt (p0 : Seq) : Option Int :=
 bnd (loop (Xd5 p0) 0) fun o32 => match o32 with
| .out v22 => (
 bnd (Xcx p0.Cols) fun q33 =>
 bnd (Xcx p0.Rows) fun q34 =>
 some (Xaa .i64 (q33 * q34)))
| .ret r => some r
def Xf3 (p0 : Int) : Option Int :=
 bnd (Xau p0 1 3) fun q1 =>
 sel (!q1) (
 some 0) (
 req (0 ≤ (Xaa .i64 (p0 - 1)) ∧ (Xaa .i64 (p0 - 1)) < ([16, 64, 256]).length) <|
 req ((Xaa .i64 (p0 - 1)).toNat < ([16, 64, 256]).length) <|
 some (([16, 64, 256]).getD ((Xaa .i64 (p0 - 1)).toNat) 0))
def Xhe (p0 : Seq) : Option Bool :=
 bnd (
 bnd (Xjt p0) fun q2 =>
 bnd (Xf3 p0.Level) fun q3 =>
 bnd (Xau q2 1 q3) fun q4 =>
 sel q4 (
 bnd (Xau p0.Bits 3 8) fun q5 =>
 some q5) (
 some false)) fun v1 =>
 some v1
def Xkp (p0 : Par) : Option Bool :=
 bnd (
 bnd (Xau p0.Qp 0 40) fun q2 =>
 sel q2 (
 sel p0.Large (
 some (!p0.Exact)) (
 some true)) (
 some false)) fun v1 =>
 some v1
def Xgm (p0 : Seq) : Option Int :=
 bnd (Xhe p0) fun q1 =>
 sel (!q1) (
 some 0) (
 some (Xaa .i64 ((p0.Cols.length : Int) * (p0.Rows.length : Int))))
def Xkh (p0 : Seq) : Option (Int × Int) :=
 bnd (Xhe p0) fun q1 =>
 sel (!q1) (
 some (0, 0)) (
 bnd (Xcx p0.Cols) fun q2 =>
 bnd (Xcx p0.Rows) fun q3 =>
 some (Xaa .i64 (8 * q2), Xaa .i64 (8 * q3)))
def Xd4 (p0 : Pic) : Option Bool :=
 bnd (
 bnd (Xau p0.Wide 1 256) fun q2 =>
 sel q2 (
 bnd (Xau p0.High 1 256) fun q3 =>
 sel q3 (
 some ((p0.Dots.size : Int) == (Xaa .i64 (p0.Wide * p0.High)))) (
 some false)) (
 some false)) fun v1 =>
 some v1
def Xqn (p0 : Pic) (p1 : Seq) : Option Bool :=
 bnd (Xkh p1) fun q1 =>
 bnd (
 bnd (Xd4 p0) fun q3 =>
 sel q3 (
 sel (p0.Wide == q1.1) (
 some (p0.High == q1.2)) (
 some false)) (
 some false)) fun v2 =>
 some v2
def Xoo (p0 : Xak) : Option Bool :=
 sel (!p0.HasSeq) (
 bnd (
 sel p0.HasPar (
 some false) (
 sel p0.HasRef (
 some false) (
 bnd (Xnd p0.Seq) fun q2 =>
 sel q2 (
 sel (((p0.Par.Qp == 0) && ((p0.Par.Large == false) && ((p0.Par.Exact == false) && (p0.Par.Confined == false)))) == true) (
 sel (p0.Frame == (-1)) (
 sel (p0.Got == 0) (
 sel (((p0.Now.Wide == 0) && ((p0.Now.High == 0) && (p0.Now.Dots.toList == (⟨#[]⟩ : ByteArray).toList))) == true) (
 some (((p0.Ref.Wide == 0) && ((p0.Ref.High == 0) && (p0.Ref.Dots.toList == (⟨#[]⟩ : ByteArray).toList))) == true)) (
 some false)) (
 some false)) (
 some false)) (
 some false)) (
 some false)))) fun v1 =>
 some v1) (
 bnd (
 bnd (Xhe p0.Seq) fun q4 =>
 sel q4 (
 sel p0.HasPar (
 bnd (Xkp p0.Par) fun q5 =>
 sel q5 (
 some false) (
 some true)) (
 sel (((p0.Par.Qp == 0) && ((p0.Par.Large == false) && ((p0.Par.Exact == false) && (p0.Par.Confined == false)))) == false) (
 some true) (
 sel (p0.Got != 0) (
 some true) (
 some p0.HasRef)))) (
 some true)) fun v3 =>
 sel v3 (
 some false) (
 bnd (
 req (0 ≤ p0.Seq.Bits) <|
 bnd (Xau p0.Frame (-1) (Xaa .i64 ((Xaa .i64 (1 * 2 ^ min p0.Seq.Bits.toNat (IntKind.bits .i64))) - 1))) fun q7 =>
 sel q7 (
 bnd (Xgm p0.Seq) fun q8 =>
 bnd (Xau p0.Got 0 (Xaa .i64 (q8 - 1))) fun q9 =>
 some (!q9)) (
 some true)) fun v6 =>
 sel v6 (
 some false) (
 bnd (
 sel (decide (p0.Got > 0)) (
 sel (p0.Frame == (-1)) (
 some true) (
 bnd (Xqn p0.Now p0.Seq) fun q11 =>
 sel q11 (
 sel (p0.Got == 0) (
 some (((p0.Now.Wide == 0) && ((p0.Now.High == 0) && (p0.Now.Dots.toList == (⟨#[]⟩ : ByteArray).toList))) == false)) (
 some false)) (
 some true))) (
 sel (p0.Got == 0) (
 some (((p0.Now.Wide == 0) && ((p0.Now.High == 0) && (p0.Now.Dots.toList == (⟨#[]⟩ : ByteArray).toList))) == false)) (
 some false))) fun v10 =>
 sel v10 (
 some false) (
 sel p0.HasRef (
 bnd (Xqn p0.Ref p0.Seq) fun q12 =>
 some q12) (
 some (((p0.Ref.Wide == 0) && ((p0.Ref.High == 0) && (p0.Ref.Dots.toList == (⟨#[]⟩ : ByteArray).toList))) == true))))))
def Xov (p0 : Int) : Option Bool :=
 bnd (
 sel (p0 == 1) (
 some true) (
 sel (p0 == 5) (
 some true) (
 sel (p0 == 7) (
 some true) (
 some (p0 == 8))))) fun v1 =>
 some v1
def Xe2 (p0 : ByteArray) (v3 : (Int × (List Int))) : Option (Lp (Int × (List Int)) (List Int)) :=
 sel (decide (v3.1 < (Xaa .i64 (8 * (p0.size : Int))))) (
 req ((8 : Int) ≠ 0) <|
 req (0 ≤ (Xaa .i64 (v3.1.tdiv 8)) ∧ (Xaa .i64 (v3.1.tdiv 8)) < p0.size) <|
 req ((8 : Int) ≠ 0) <|
 req (0 ≤ (Xaa .i64 (7 - (v3.1.tmod 8)))) <|
 req ((v3.2.length + ([Xaa .u8 (48 + (IntKind.wrap .u8 (BitVec.ofInt (IntKind.bits .u8) ((Xl2 p0 (Xaa .i64 (v3.1.tdiv 8))) / 2 ^ min (Xaa .i64 (7 - (v3.1.tmod 8))).toNat (IntKind.bits .u8)) &&& BitVec.ofInt (IntKind.bits .u8) 1).toNat))]).length) * 1 ≤ 140737488355328 ∧ v3.2.length + ([Xaa .u8 (48 + (IntKind.wrap .u8 (BitVec.ofInt (IntKind.bits .u8) ((Xl2 p0 (Xaa .i64 (v3.1.tdiv 8))) / 2 ^ min (Xaa .i64 (7 - (v3.1.tmod 8))).toNat (IntKind.bits .u8)) &&& BitVec.ofInt (IntKind.bits .u8) 1).toNat))]).length ≤ maxLen) <|
 some (.go (Xaa .i64 (v3.1 + 1), (v3.2 ++ ([Xaa .u8 (48 + (IntKind.wrap .u8 (BitVec.ofInt (IntKind.bits .u8) ((Xl2 p0 (Xaa .i64 (v3.1.tdiv 8))) / 2 ^ min (Xaa .i64 (7 - (v3.1.tmod 8))).toNat (IntKind.bits .u8)) &&& BitVec.ofInt (IntKind.bits .u8) 1).toNat))]))))) (
 some (.done v3.2))
def Xcd (v5 : (List Int)) (v8 : Int) : Option (Lp Int Int) :=
 req (0 ≤ (Xaa .i64 (v8 - 1)) ∧ (Xaa .i64 (v8 - 1)) < v5.length) <|
 req ((Xaa .i64 (v8 - 1)).toNat < v5.length) <|
 sel ((v5.getD ((Xaa .i64 (v8 - 1)).toNat) 0) == 48) (
 some (.go (Xaa .i64 (v8 - 1)))) (
 some (.done v8))
def Xe8 (p0 : ByteArray) : Option (ByteArray × Bool) :=
 bnd (
 sel ((Xaa .i64 (8 * (p0.size : Int))) == 0) (
 some true) (
 req (0 ≤ (Xaa .i64 ((p0.size : Int) - 1)) ∧ (Xaa .i64 ((p0.size : Int) - 1)) < p0.size) <|
 sel ((Xl2 p0 (Xaa .i64 ((p0.size : Int) - 1))) == 0) (
 some true) (
 some (decide ((Xaa .i64 (8 * (p0.size : Int))) > 400008))))) fun v1 =>
 sel v1 (
 some (⟨#[]⟩, false)) (
 req (0 ≤ (0 : Int) ∧ (0 : Int) ≤ (Xaa .i64 (8 * (p0.size : Int))) ∧ (Xaa .i64 (8 * (p0.size : Int))) * 1 ≤ 281474976710656) <|
 bnd (loop (Xe2 p0) (0, (List.replicate (0 : Int).toNat (0 : Int)))) fun v5 =>
 bnd (loop (Xcd v5) (Xaa .i64 (8 * (p0.size : Int)))) fun v10 =>
 sel (decide ((Xaa .i64 (v10 - 1)) > 400000)) (
 some (⟨#[]⟩, false)) (
 req (0 ≤ (0 : Int) ∧ (0 : Int) ≤ (Xaa .i64 (v10 - 1)) ∧ (Xaa .i64 (v10 - 1)) ≤ (v5.length : Int)) <|
 req ((0 : Int).toNat + ((Xaa .i64 (v10 - 1)).toNat - (0 : Int).toNat) ≤ v5.length) <|
 some ((strOfNums ((v5.drop ((0 : Int).toNat)).take ((Xaa .i64 (v10 - 1)).toNat - (0 : Int).toNat))), true)))
def Xgw (p0 : ByteArray) : Option (Int × ByteArray × Bool) :=
 bnd (
 sel (p0.toList == (⟨#[]⟩ : ByteArray).toList) (
 some true) (
 req (0 ≤ (0 : Int) ∧ (0 : Int) < p0.size) <|
 bnd (Xov (Xaa .i64 ((Xl2 p0 (0 : Int))))) fun q2 =>
 some (!q2))) fun v1 =>
 sel v1 (
 some (0, ⟨#[]⟩, false)) (
 req (0 ≤ (1 : Int) ∧ (1 : Int) ≤ (p0.size : Int) ∧ (p0.size : Int) ≤ (p0.size : Int)) <|
 bnd (Xe8 (p0.extract (1 : Int).toNat (p0.size : Int).toNat)) fun q3 =>
 sel (!q3.2) (
 some (0, ⟨#[]⟩, false)) (
 req (0 ≤ (0 : Int) ∧ (0 : Int) < p0.size) <|
 some (Xaa .i64 ((Xl2 p0 (0 : Int))), q3.1, true)))
def Xi3 (p0 : ByteArray) (v3 : Int) : Option (Lp Int (Ou Unit Bool)) :=
 sel (decide (v3 < (p0.size : Int))) (
 bnd (
 req (0 ≤ v3 ∧ v3 < p0.size) <|
 sel ((Xl2 p0 v3) != 48) (
 req (0 ≤ v3 ∧ v3 < p0.size) <|
 some ((Xl2 p0 v3) != 49)) (
 some false)) fun v7 =>
 sel v7 (
 some (.done (.ret false))) (
 some (.go (Xaa .i64 (v3 + 1))))) (
 some (.done (.out ())))
def Xkq (p0 : ByteArray) : Option Bool :=
 sel (decide ((p0.size : Int) > 400000)) (
 some false) (
 bnd (loop (Xi3 p0) 0) fun o8 => match o8 with
| .out v6 => (
 some true)
| .ret r => some r)
def Xfs (p0 : ByteArray) (p1 : Int) : Option Xk7 :=
 bnd (
 bnd (Xkq p0) fun q2 =>
 sel q2 (
 bnd (Xau p1 0 (p0.size : Int)) fun q3 =>
 some (!q3)) (
 some true)) fun v1 =>
 some (⟨p0, p1, v1⟩ : Xk7)
def Xg6 (p0 : Xk7) (p1 : Int) (v3 : (Int × Int)) : Option (Lp (Int × Int) Int) :=
 sel (decide (v3.2 < p1)) (
 req (0 ≤ (1 : Int)) <|
 req (0 ≤ (Xaa .i64 (p0.at_ + v3.2)) ∧ (Xaa .i64 (p0.at_ + v3.2)) < p0.row_.size) <|
 some (.go ((IntKind.wrap .i64 (BitVec.ofInt (IntKind.bits .i64) (Xaa .i64 (v3.1 * 2 ^ min (1 : Int).toNat (IntKind.bits .i64))) ||| BitVec.ofInt (IntKind.bits .i64) (Xaa .i64 (Xaa .u8 ((Xl2 p0.row_ (Xaa .i64 (p0.at_ + v3.2))) - 48)))).toNat), Xaa .i64 (v3.2 + 1)))) (
 some (.done v3.1))
def Xa5 (p0 : Xk7) (p1 : Int) : Option (Int × Xk7) :=
 bnd (
 sel p0.bad_ (
 some true) (
 some (decide ((Xaa .i64 ((p0.row_.size : Int) - p0.at_)) < p1)))) fun v1 =>
 sel v1 (
 some (0, (⟨p0.row_, p0.at_, true⟩ : Xk7))) (
 bnd (loop (Xg6 p0 p1) (0, 0)) fun v5 =>
 some (v5, (⟨p0.row_, Xaa .i64 (p0.at_ + p1), p0.bad_⟩ : Xk7)))
def Xcm (p0 : Xk7) (v3 : Int) : Option (Lp Int Int) :=
 bnd (
 sel p0.bad_ (
 some false) (
 sel (decide ((Xaa .i64 (p0.at_ + v3)) < (p0.row_.size : Int))) (
 req (0 ≤ (Xaa .i64 (p0.at_ + v3)) ∧ (Xaa .i64 (p0.at_ + v3)) < p0.row_.size) <|
 some ((Xl2 p0.row_ (Xaa .i64 (p0.at_ + v3))) == 48)) (
 some false))) fun v7 =>
 sel v7 (
 some (.go (Xaa .i64 (v3 + 1)))) (
 some (.done v3))
def Xbk (p0 : Xk7) : Option (Int × Xk7) :=
 bnd (loop (Xcm p0) 0) fun v6 =>
 bnd (
 sel (decide (v6 > 20)) (
 some true) (
 some p0.bad_)) fun v9 =>
 bnd (Xa5 (⟨p0.row_, p0.at_, v9⟩ : Xk7) (Xaa .i64 ((Xaa .i64 (2 * v6)) + 1))) fun q10 =>
 bnd (
 sel q10.2.bad_ (
 some true) (
 some (decide ((Xaa .i64 (q10.1 - 1)) > 1000000)))) fun v11 =>
 sel v11 (
 some (0, (⟨q10.2.row_, q10.2.at_, true⟩ : Xk7))) (
 some (Xaa .i64 (q10.1 - 1), q10.2))
def Xa4 (q1 : (Int × Xk7)) (v6 : (Int × ByteArray × Int × Bool × (List Int))) : Option (Lp (Int × ByteArray × Int × Bool × (List Int)) ((List Int) × ByteArray × Int × Bool)) :=
 bnd (
 sel (decide (v6.1 < q1.1)) (
 some (!v6.2.2.2.1)) (
 some false)) fun v11 =>
 sel v11 (
 bnd (Xbk (⟨v6.2.1, v6.2.2.1, v6.2.2.2.1⟩ : Xk7)) fun q12 =>
 req ((v6.2.2.2.2.length + ([q12.1]).length) * 8 ≤ 140737488355328 ∧ v6.2.2.2.2.length + ([q12.1]).length ≤ maxLen) <|
 some (.go (Xaa .i64 (v6.1 + 1), q12.2.row_, q12.2.at_, q12.2.bad_, (v6.2.2.2.2 ++ ([q12.1]))))) (
 some (.done (v6.2.2.2.2, v6.2.1, v6.2.2.1, v6.2.2.2.1)))
def Xck (p0 : Xk7) : Option ((List Int) × Xk7) :=
 bnd (Xbk p0) fun q1 =>
 bnd (
 sel (decide (q1.1 > 4)) (
 some true) (
 some q1.2.bad_)) fun v2 =>
 bnd (loop (Xa4 q1) (0, q1.2.row_, q1.2.at_, v2, ([] : List Int))) fun v10 =>
 some (v10.1, (⟨v10.2.1, v10.2.2.1, v10.2.2.2⟩ : Xk7))
def Xdv (p0 : ByteArray) (p1 : Int) : Option (Seq × Int × Bool) :=
 bnd (Xfs p0 p1) fun q1 =>
 bnd (Xbk q1) fun q2 =>
 bnd (Xa5 q2.2 4) fun q3 =>
 bnd (Xck q3.2) fun q4 =>
 bnd (Xck q4.2) fun q5 =>
 bnd (
 sel q5.2.bad_ (
 some true) (
 bnd (Xhe (⟨q2.1, q3.1, q4.1, q5.1⟩ : Seq)) fun q7 =>
 some (!q7))) fun v6 =>
 sel v6 (
 some ((⟨0, 0, [], []⟩ : Seq), 0, false)) (
 some ((⟨q2.1, q3.1, q4.1, q5.1⟩ : Seq), q5.2.at_, true))
def Xwi : Option Xak :=
 some (⟨false, false, false, (⟨0, 0, [], []⟩ : Seq), (⟨0, false, false, false⟩ : Par), (-1), 0, (⟨0, 0, ⟨#[]⟩⟩ : Pic), (⟨0, 0, ⟨#[]⟩⟩ : Pic)⟩ : Xak)
def Xdu (p0 : ByteArray) (p1 : Int) : Option (Par × Int × Bool) :=
 bnd (Xfs p0 p1) fun q1 =>
 bnd (Xa5 q1 6) fun q2 =>
 bnd (Xa5 q2.2 1) fun q3 =>
 bnd (Xa5 q3.2 1) fun q4 =>
 bnd (Xa5 q4.2 1) fun q5 =>
 bnd (
 sel q5.2.bad_ (
 some true) (
 bnd (Xkp (⟨q2.1, (q3.1 == 1), (q4.1 == 1), (q5.1 == 1)⟩ : Par)) fun q7 =>
 some (!q7))) fun v6 =>
 sel v6 (
 some ((⟨0, false, false, false⟩ : Par), 0, false)) (
 some ((⟨q2.1, (q3.1 == 1), (q4.1 == 1), (q5.1 == 1)⟩ : Par), q5.2.at_, true))
def Xkg (p0 : Int) : Option (Int × Bool) :=
 bnd (Xau p0 0 1000000) fun q1 =>
 sel (!q1) (
 some (0, false)) (
 req ((2 : Int) ≠ 0) <|
 sel ((p0.tmod 2) == 1) (
 req ((2 : Int) ≠ 0) <|
 some (Xaa .i64 ((Xaa .i64 (p0 + 1)).tdiv 2), true)) (
 req ((2 : Int) ≠ 0) <|
 some (Xaa .i64 ((Xaa .i64 (0 - p0)).tdiv 2), true)))
def Xb1 (p0 : Xk7) : Option (Int × Xk7) :=
 bnd (Xbk p0) fun q1 =>
 bnd (Xkg q1.1) fun q2 =>
 bnd (
 sel q1.2.bad_ (
 some true) (
 some (!q2.2))) fun v3 =>
 some (q2.1, (⟨q1.2.row_, q1.2.at_, v3⟩ : Xk7))
def Xot (p0 : Seq) (p1 : Par) (p2 : Xq8) : Option Bool :=
 bnd (
 bnd (Xhe p0) fun q2 =>
 sel q2 (
 bnd (Xkp p1) fun q3 =>
 sel q3 (
 bnd (Xgm p0) fun q4 =>
 bnd (Xau p2.Tile 0 (Xaa .i64 (q4 - 1))) fun q5 =>
 sel q5 (
 req (0 ≤ p0.Bits) <|
 bnd (Xau p2.Frame 0 (Xaa .i64 ((Xaa .i64 (1 * 2 ^ min p0.Bits.toNat (IntKind.bits .i64))) - 1))) fun q6 =>
 sel q6 (
 bnd (Xau p2.Qp 0 40) fun q7 =>
 some q7) (
 some false)) (
 some false)) (
 some false)) (
 some false)) fun v1 =>
 some v1
def Xec (p0 : Seq) (p1 : Par) (p2 : ByteArray) : Option (Xq8 × Int × Bool) :=
 bnd (Xfs p2 0) fun q1 =>
 bnd (
 bnd (Xhe p0) fun q3 =>
 sel q3 (
 bnd (Xkp p1) fun q4 =>
 some (!q4)) (
 some true)) fun v2 =>
 sel v2 (
 some ((⟨0, 0, 0⟩ : Xq8), 0, false)) (
 bnd (Xbk q1) fun q5 =>
 bnd (Xa5 q5.2 p0.Bits) fun q6 =>
 bnd (Xb1 q6.2) fun q7 =>
 bnd (
 sel q7.2.bad_ (
 some true) (
 bnd (Xot p0 p1 (⟨q5.1, q6.1, Xaa .i64 (q7.1 + p1.Qp)⟩ : Xq8)) fun q9 =>
 some (!q9))) fun v8 =>
 sel v8 (
 some ((⟨0, 0, 0⟩ : Xq8), 0, false)) (
 some ((⟨q5.1, q6.1, Xaa .i64 (q7.1 + p1.Qp)⟩ : Xq8), q7.2.at_, true)))
def Xfg (p0 : Seq) (p1 : Int) : Option (Xpw × Bool) :=
 bnd (Xgm p0) fun q1 =>
 bnd (Xau p1 0 (Xaa .i64 (q1 - 1))) fun q2 =>
 sel (!q2) (
 some ((⟨0, 0, 0, 0⟩ : Xpw), false)) (
 req ((p0.Cols.length : Int) ≠ 0) <|
 req ((p0.Cols.length : Int) ≠ 0) <|
 req (0 ≤ (0 : Int) ∧ (0 : Int) ≤ (p1.tmod (p0.Cols.length : Int)) ∧ (p1.tmod (p0.Cols.length : Int)) ≤ (p0.Cols.length : Int)) <|
 bnd (Xcx ((p0.Cols.drop (0 : Int).toNat).take ((p1.tmod (p0.Cols.length : Int)).toNat - (0 : Int).toNat))) fun q3 =>
 req (0 ≤ (0 : Int) ∧ (0 : Int) ≤ (Xaa .i64 (p1.tdiv (p0.Cols.length : Int))) ∧ (Xaa .i64 (p1.tdiv (p0.Cols.length : Int))) ≤ (p0.Rows.length : Int)) <|
 bnd (Xcx ((p0.Rows.drop (0 : Int).toNat).take ((Xaa .i64 (p1.tdiv (p0.Cols.length : Int))).toNat - (0 : Int).toNat))) fun q4 =>
 req (0 ≤ (p1.tmod (p0.Cols.length : Int)) ∧ (p1.tmod (p0.Cols.length : Int)) < p0.Cols.length) <|
 req (0 ≤ (Xaa .i64 (p1.tdiv (p0.Cols.length : Int))) ∧ (Xaa .i64 (p1.tdiv (p0.Cols.length : Int))) < p0.Rows.length) <|
 some ((⟨Xaa .i64 (8 * q3), Xaa .i64 (8 * q4), Xaa .i64 (8 * (p0.Cols.getD (p1.tmod (p0.Cols.length : Int)).toNat 0)), Xaa .i64 (8 * (p0.Rows.getD (Xaa .i64 (p1.tdiv (p0.Cols.length : Int))).toNat 0))⟩ : Xpw), true))
def Xg5 (p0 : Seq) (p1 : Int) : Option Int :=
 bnd (Xfg p0 p1) fun q1 =>
 req ((8 : Int) ≠ 0) <|
 req ((8 : Int) ≠ 0) <|
 some (Xaa .i64 ((Xaa .i64 (q1.1.Wide.tdiv 8)) * (Xaa .i64 (q1.1.High.tdiv 8))))
def Xhv (p0 : Xf0) : Option Bool :=
 bnd (
 bnd (Xau p0.Qp 0 40) fun q2 =>
 sel q2 (
 sel p0.Large (
 some (!p0.Exact)) (
 some true)) (
 some false)) fun v1 =>
 some v1
def Xbg (p1 : Int) (v8 : (Int × Int × ByteArray × Int × Bool × (List Int))) : Option (Lp (Int × Int × ByteArray × Int × Bool × (List Int)) ((List Int) × ByteArray × Int × Bool)) :=
 bnd (
 sel (decide (v8.2.1 > 0)) (
 some (!v8.2.2.2.2.1)) (
 some false)) fun v16 =>
 sel v16 (
 bnd (Xbk (⟨v8.2.2.1, v8.2.2.2.1, v8.2.2.2.2.1⟩ : Xk7)) fun q17 =>
 bnd (Xb1 q17.2) fun q18 =>
 bnd (
 sel (decide ((Xaa .i64 (v8.1 + q17.1)) ≥ p1)) (
 some true) (
 sel (q18.1 == 0) (
 some true) (
 bnd (Xau q18.1 (-5000) 5000) fun q20 =>
 some (!q20)))) fun v19 =>
 sel v19 (
 some (.done (v8.2.2.2.2.2, q18.2.row_, q18.2.at_, true))) (
 req (0 ≤ (Xaa .i64 (v8.1 + q17.1)) ∧ (Xaa .i64 (v8.1 + q17.1)) < v8.2.2.2.2.2.length) <|
 req ((Xaa .i64 (v8.1 + q17.1)).toNat < v8.2.2.2.2.2.length) <|
 some (.go (Xaa .i64 ((Xaa .i64 (v8.1 + q17.1)) + 1), Xaa .i64 (v8.2.1 - 1), q18.2.row_, q18.2.at_, q18.2.bad_, (v8.2.2.2.2.2.set ((Xaa .i64 (v8.1 + q17.1)).toNat) q18.1))))) (
 some (.done (v8.2.2.2.2.2, v8.2.2.1, v8.2.2.2.1, v8.2.2.2.2.1)))
def Xcl (p0 : Xk7) (p1 : Int) : Option ((List Int) × Xk7) :=
 req (0 ≤ p1 ∧ p1 ≤ p1 ∧ p1 * 8 ≤ 281474976710656) <|
 bnd (Xbk p0) fun q1 =>
 bnd (loop (Xbg p1) (0, q1.1, q1.2.row_, q1.2.at_, q1.2.bad_, (List.replicate p1.toNat (0 : Int)))) fun v15 =>
 some (v15.1, (⟨v15.2.1, v15.2.2.1, v15.2.2.2⟩ : Xk7))
def Xa8 (v5 : (Int × ByteArray × Int × Bool × (List Int))) : Option (Lp (Int × ByteArray × Int × Bool × (List Int)) ((List Int) × ByteArray × Int × Bool)) :=
 sel (decide (v5.1 < 4)) (
 bnd (Xcl (⟨v5.2.1, v5.2.2.1, v5.2.2.2.1⟩ : Xk7) 16) fun q9 =>
 req ((v5.2.2.2.2.length + q9.1.length) * 8 ≤ 140737488355328 ∧ v5.2.2.2.2.length + q9.1.length ≤ maxLen) <|
 some (.go (Xaa .i64 (v5.1 + 1), q9.2.row_, q9.2.at_, q9.2.bad_, (v5.2.2.2.2 ++ q9.1)))) (
 some (.done (v5.2.2.2.2, v5.2.1, v5.2.2.1, v5.2.2.2.1)))
def Xbi (p0 : Xk7) (p1 : Xf0) : Option ((List Int) × Xk7) :=
 bnd (
 sel p1.Large (
 some true) (
 some p1.Exact)) fun v1 =>
 sel v1 (
 bnd (Xcl p0 64) fun q2 =>
 some (q2.1, q2.2)) (
 bnd (loop (Xa8) (0, p0.row_, p0.at_, p0.bad_, ([] : List Int))) fun v8 =>
 some (v8.1, (⟨v8.2.1, v8.2.2.1, v8.2.2.2⟩ : Xk7)))
def Xli (p0 : (List Int)) (p2 : Int) (p3 : Int) (v3 : Int) : Option (Lp Int (Ou Unit Bool)) :=
 sel (decide (v3 < (p0.length : Int))) (
 req (0 ≤ v3 ∧ v3 < p0.length) <|
 bnd (Xau (p0.getD v3.toNat 0) p2 p3) fun q7 =>
 sel (!q7) (
 some (.done (.ret false))) (
 some (.go (Xaa .i64 (v3 + 1))))) (
 some (.done (.out ())))
def Xep (p0 : (List Int)) (p1 : Int) (p2 : Int) (p3 : Int) : Option Bool :=
 bnd (loop (Xli p0 p2 p3) 0) fun o8 => match o8 with
| .out v6 => (
 some ((p0.length : Int) == p1))
| .ret r => some r
def Xfr (p0 : (List Int)) : Option Bool :=
 bnd (Xep p0 64 (-5000) 5000) fun q1 =>
 some q1
def Xgv (p0 : Xar) : Option Bool :=
 sel (p0.Kind == 0) (
 bnd (
 sel (p0.Mode == 0) (
 sel (p0.Dx == 0) (
 sel (p0.Dy == 0) (
 some ((p0.Levels.length : Int) == 0)) (
 some false)) (
 some false)) (
 some false)) fun v1 =>
 some v1) (
 sel (p0.Kind == 1) (
 bnd (
 sel (p0.Mode == 0) (
 bnd (Xau p0.Dx (-16) 16) fun q3 =>
 sel q3 (
 bnd (Xau p0.Dy (-16) 16) fun q4 =>
 sel q4 (
 bnd (Xfr p0.Levels) fun q5 =>
 some q5) (
 some false)) (
 some false)) (
 some false)) fun v2 =>
 some v2) (
 sel (p0.Kind == 2) (
 bnd (
 bnd (Xau p0.Mode 0 3) fun q7 =>
 sel q7 (
 sel (p0.Dx == 0) (
 sel (p0.Dy == 0) (
 bnd (Xfr p0.Levels) fun q8 =>
 some q8) (
 some false)) (
 some false)) (
 some false)) fun v6 =>
 some v6) (
 some false)))
def Xce (p0 : Xk7) (p1 : Xf0) : Option (Xar × Xk7) :=
 bnd (
 sel (!p1.Key) (
 bnd (Xbk p0) fun q2 =>
 some (q2.2.row_, q2.2.at_, q2.2.bad_, q2.1)) (
 some (p0.row_, p0.at_, p0.bad_, 2))) fun v1 =>
 bnd (
 sel v1.2.2.1 (
 some (v1.1, v1.2.1, v1.2.2.1, 0, 0, 0, [])) (
 sel (v1.2.2.2 == 1) (
 bnd (Xb1 (⟨v1.1, v1.2.1, v1.2.2.1⟩ : Xk7)) fun q4 =>
 bnd (Xb1 q4.2) fun q5 =>
 bnd (Xbi q5.2 p1) fun q6 =>
 some (q6.2.row_, q6.2.at_, q6.2.bad_, 0, q4.1, q5.1, q6.1)) (
 sel (v1.2.2.2 == 2) (
 bnd (Xbk (⟨v1.1, v1.2.1, v1.2.2.1⟩ : Xk7)) fun q7 =>
 bnd (Xbi q7.2 p1) fun q8 =>
 some (q8.2.row_, q8.2.at_, q8.2.bad_, q7.1, 0, 0, q8.1)) (
 some (v1.1, v1.2.1, v1.2.2.1, 0, 0, 0, []))))) fun v3 =>
 bnd (
 sel v3.2.2.1 (
 some true) (
 bnd (Xgv (⟨v1.2.2.2, v3.2.2.2.1, v3.2.2.2.2.1, v3.2.2.2.2.2.1, v3.2.2.2.2.2.2⟩ : Xar)) fun q10 =>
 some (!q10))) fun v9 =>
 some ((⟨v1.2.2.2, v3.2.2.2.1, v3.2.2.2.2.1, v3.2.2.2.2.2.1, v3.2.2.2.2.2.2⟩ : Xar), (⟨v3.1, v3.2.1, v9⟩ : Xk7))
def Xbe (p2 : Int) (p3 : Xf0) (v7 : (Int × ByteArray × Int × Bool × (List Xar))) : Option (Lp (Int × ByteArray × Int × Bool × (List Xar)) (Ou (ByteArray × Int × Bool × (List Xar)) ((List Xar) × Bool))) :=
 sel (decide (v7.1 < p2)) (
 bnd (Xce (⟨v7.2.1, v7.2.2.1, v7.2.2.2.1⟩ : Xk7) p3) fun q11 =>
 req ((v7.2.2.2.2.length + ([q11.1]).length) * 56 ≤ 140737488355328 ∧ v7.2.2.2.2.length + ([q11.1]).length ≤ maxLen) <|
 sel q11.2.bad_ (
 some (.done (.ret (([] : List Xar), false)))) (
 some (.go (Xaa .i64 (v7.1 + 1), q11.2.row_, q11.2.at_, q11.2.bad_, (v7.2.2.2.2 ++ ([q11.1])))))) (
 some (.done (.out (v7.2.1, v7.2.2.1, v7.2.2.2.1, v7.2.2.2.2))))
def Xfe (p0 : ByteArray) (p1 : Int) (p2 : Int) (p3 : Xf0) : Option ((List Xar) × Bool) :=
 bnd (Xfs p0 p1) fun q1 =>
 bnd (
 bnd (Xau p2 1 64) fun q3 =>
 sel q3 (
 bnd (Xhv p3) fun q4 =>
 some (!q4)) (
 some true)) fun v2 =>
 sel v2 (
 some (([] : List Xar), false)) (
 bnd (loop (Xbe p2 p3) (0, q1.row_, q1.at_, q1.bad_, ([] : List Xar))) fun o12 => match o12 with
| .out v10 => (
 sel (v10.2.1 != (p0.size : Int)) (
 some (([] : List Xar), false)) (
 some (v10.2.2.2, true)))
| .ret r => some r)
def Xmd (p0 : Int) : Option Bool :=
 bnd (
 req ((8 : Int) ≠ 0) <|
 sel ((p0.tmod 8) == 0) (
 bnd (Xau p0 8 64) fun q2 =>
 some q2) (
 some false)) fun v1 =>
 some v1
def Xej (p0 : Pic) (p1 : Xpw) : Option Bool :=
 bnd (
 bnd (Xau p1.Wide 1 p0.Wide) fun q2 =>
 sel q2 (
 bnd (Xau p1.High 1 p0.High) fun q3 =>
 sel q3 (
 bnd (Xau p1.Left 0 (Xaa .i64 (p0.Wide - p1.Wide))) fun q4 =>
 sel q4 (
 bnd (Xau p1.Top 0 (Xaa .i64 (p0.High - p1.High))) fun q5 =>
 some q5) (
 some false)) (
 some false)) (
 some false)) fun v1 =>
 some v1
def Xri (p0 : Pic) (p1 : Xpw) (v5 : (Int × (List Int))) : Option (Lp (Int × (List Int)) (List Int)) :=
 sel (decide (v5.1 < (Xaa .i64 (p1.Top + p1.High)))) (
 req (0 ≤ (Xaa .i64 ((Xaa .i64 (v5.1 * p0.Wide)) + p1.Left)) ∧ (Xaa .i64 ((Xaa .i64 (v5.1 * p0.Wide)) + p1.Left)) ≤ (Xaa .i64 ((Xaa .i64 ((Xaa .i64 (v5.1 * p0.Wide)) + p1.Left)) + p1.Wide)) ∧ (Xaa .i64 ((Xaa .i64 ((Xaa .i64 (v5.1 * p0.Wide)) + p1.Left)) + p1.Wide)) ≤ (p0.Dots.size : Int)) <|
 req ((v5.2.length + (Xa0 (p0.Dots.extract (Xaa .i64 ((Xaa .i64 (v5.1 * p0.Wide)) + p1.Left)).toNat (Xaa .i64 ((Xaa .i64 ((Xaa .i64 (v5.1 * p0.Wide)) + p1.Left)) + p1.Wide)).toNat)).length) * 1 ≤ 140737488355328 ∧ v5.2.length + (Xa0 (p0.Dots.extract (Xaa .i64 ((Xaa .i64 (v5.1 * p0.Wide)) + p1.Left)).toNat (Xaa .i64 ((Xaa .i64 ((Xaa .i64 (v5.1 * p0.Wide)) + p1.Left)) + p1.Wide)).toNat)).length ≤ maxLen) <|
 some (.go (Xaa .i64 (v5.1 + 1), (v5.2 ++ (Xa0 (p0.Dots.extract (Xaa .i64 ((Xaa .i64 (v5.1 * p0.Wide)) + p1.Left)).toNat (Xaa .i64 ((Xaa .i64 ((Xaa .i64 (v5.1 * p0.Wide)) + p1.Left)) + p1.Wide)).toNat)))))) (
 some (.done v5.2))
def Xon (p0 : Pic) (p1 : Xpw) : Option (Pic × Bool) :=
 bnd (
 bnd (Xd4 p0) fun q2 =>
 sel q2 (
 bnd (Xej p0 p1) fun q3 =>
 some (!q3)) (
 some true)) fun v1 =>
 sel v1 (
 some ((⟨0, 0, ⟨#[]⟩⟩ : Pic), false)) (
 req (0 ≤ (0 : Int) ∧ (0 : Int) ≤ (Xaa .i64 (p1.Wide * p1.High)) ∧ (Xaa .i64 (p1.Wide * p1.High)) * 1 ≤ 281474976710656) <|
 bnd (loop (Xri p0 p1) (p1.Top, (List.replicate (0 : Int).toNat (0 : Int)))) fun v7 =>
 some ((⟨p1.Wide, p1.High, (strOfNums v7)⟩ : Pic), true))
def Xna (p0 : Int) (p1 : Int) (v5 : (Int × (List Int))) : Option (Lp (Int × (List Int)) (List Int)) :=
 sel (decide (v5.1 < ((List.replicate (Xaa .i64 (p0 * p1)).toNat (0 : Int)).length : Int))) (
 req (0 ≤ v5.1 ∧ v5.1 < v5.2.length) <|
 req (v5.1.toNat < v5.2.length) <|
 some (.go (Xaa .i64 (v5.1 + 1), (v5.2.set v5.1.toNat 128)))) (
 some (.done v5.2))
def Xos (p0 : Int) (p1 : Int) : Option Pic :=
 bnd (
 bnd (Xau p0 1 256) fun q2 =>
 sel q2 (
 bnd (Xau p1 1 256) fun q3 =>
 some (!q3)) (
 some true)) fun v1 =>
 sel v1 (
 some (⟨0, 0, ⟨#[]⟩⟩ : Pic)) (
 req (0 ≤ (Xaa .i64 (p0 * p1)) ∧ (Xaa .i64 (p0 * p1)) ≤ (Xaa .i64 (p0 * p1)) ∧ (Xaa .i64 (p0 * p1)) * 1 ≤ 281474976710656) <|
 bnd (loop (Xna p0 p1) (0, (List.replicate (Xaa .i64 (p0 * p1)).toNat (0 : Int)))) fun v7 =>
 some (⟨p0, p1, (strOfNums v7)⟩ : Pic))
def Xdk (p0 : Pic) (p1 : Int) (p2 : Int) : Option Bool :=
 bnd (
 req ((8 : Int) ≠ 0) <|
 sel ((p1.tmod 8) == 0) (
 req ((8 : Int) ≠ 0) <|
 sel ((p2.tmod 8) == 0) (
 bnd (Xau p1 0 (Xaa .i64 (p0.Wide - 8))) fun q2 =>
 sel q2 (
 bnd (Xau p2 0 (Xaa .i64 (p0.High - 8))) fun q3 =>
 some q3) (
 some false)) (
 some false)) (
 some false)) fun v1 =>
 some v1
def Xhx (p0 : Xar) (p1 : Xf0) : Option Bool :=
 bnd (
 sel p1.Key (
 some (p0.Kind == 2)) (
 some true)) fun v1 =>
 some v1
def Xe7 (p0 : Int) (p1 : Int) (p2 : Int) : Option Int :=
 some (if (if p2 < p0 then p2 else p0) > p1 then (if p2 < p0 then p2 else p0) else p1)
def Xfd (p0 : Pic) (p1 : Int) (p2 : Int) : Option Int :=
 bnd (Xe7 p2 0 (Xaa .i64 (p0.High - 1))) fun q1 =>
 bnd (Xe7 p1 0 (Xaa .i64 (p0.Wide - 1))) fun q2 =>
 req (0 ≤ (Xaa .i64 ((Xaa .i64 (q1 * p0.Wide)) + q2)) ∧ (Xaa .i64 ((Xaa .i64 (q1 * p0.Wide)) + q2)) < p0.Dots.size) <|
 some (Xaa .i64 ((Xl2 p0.Dots (Xaa .i64 ((Xaa .i64 (q1 * p0.Wide)) + q2)))))
def Xfc (p0 : Pic) (p1 : Int) (p2 : Int) (v10 : (Int × (List Int))) (v23 : (Int × (List Int))) : Option (Lp (Int × (List Int)) (List Int)) :=
 sel (decide (v23.1 < 8)) (
 bnd (Xfd p0 (Xaa .i64 (p1 + v23.1)) (Xaa .i64 (p2 + v10.1))) fun q27 =>
 req ((v23.2.length + ([q27]).length) * 8 ≤ 140737488355328 ∧ v23.2.length + ([q27]).length ≤ maxLen) <|
 some (.go (Xaa .i64 (v23.1 + 1), (v23.2 ++ ([q27]))))) (
 some (.done v23.2))
def Xfb (p0 : Pic) (p1 : Int) (p2 : Int) (v10 : (Int × (List Int))) : Option (Lp (Int × (List Int)) (List Int)) :=
 sel (decide (v10.1 < 8)) (
 bnd (loop (Xfc p0 p1 p2 v10) (0, v10.2)) fun v26 =>
 some (.go (Xaa .i64 (v10.1 + 1), v26))) (
 some (.done v10.2))
def Xhd (p0 : Pic) (p1 : Int) (p2 : Int) : Option (List Int) :=
 req (0 ≤ (0 : Int) ∧ (0 : Int) ≤ (64 : Int) ∧ (64 : Int) * 8 ≤ 281474976710656) <|
 bnd (loop (Xfb p0 p1 p2) (0, (List.replicate (0 : Int).toNat (0 : Int)))) fun v20 =>
 some v20
def Xlj (p0 : Int) (v16 : (Int × (List Int))) (v37 : (Int × (List Int))) : Option (Lp (Int × (List Int)) (List Int)) :=
 sel (decide (v37.1 ≤ v16.1)) (
 bnd (
 bnd (
 req ((2 : Int) ≠ 0) <|
 sel ((v16.1.tmod 2) == 0) (
 some (Xaa .i64 (v16.1 - v37.1))) (
 some v37.1)) fun v44 =>
 bnd (
 sel (decide (v44 < p0)) (
 some (decide ((Xaa .i64 (v16.1 - v44)) < p0))) (
 some false)) fun v45 =>
 sel v45 (
 req ((v37.2.length + ([Xaa .i64 ((Xaa .i64 (v44 * p0)) + (Xaa .i64 (v16.1 - v44)))]).length) * 8 ≤ 140737488355328 ∧ v37.2.length + ([Xaa .i64 ((Xaa .i64 (v44 * p0)) + (Xaa .i64 (v16.1 - v44)))]).length ≤ maxLen) <|
 some (v37.2 ++ ([Xaa .i64 ((Xaa .i64 (v44 * p0)) + (Xaa .i64 (v16.1 - v44)))]))) (
 some v37.2)) fun v43 =>
 some (.go (Xaa .i64 (v37.1 + 1), v43))) (
 some (.done v37.2))
def Xhp (p0 : Int) (v16 : (Int × (List Int))) : Option (Lp (Int × (List Int)) (List Int)) :=
 sel (decide (v16.1 ≤ (Xaa .i64 ((Xaa .i64 (2 * p0)) - 2)))) (
 bnd (loop (Xlj p0 v16) (0, v16.2)) fun v42 =>
 some (.go (Xaa .i64 (v16.1 + 1), v42))) (
 some (.done v16.2))
def Xju (p0 : Int) : Option (List Int) :=
 bnd (loop (Xhp p0) (0, ([] : List Int))) fun v32 =>
 some v32
def Xi5 (p1 : (List Int)) (q2 : (List Int)) (v4 : (Int × (List Int))) : Option (Lp (Int × (List Int)) (List Int)) :=
 sel (decide (v4.1 < (q2.length : Int))) (
 req (0 ≤ v4.1 ∧ v4.1 < q2.length) <|
 req (v4.1.toNat < q2.length) <|
 req (0 ≤ v4.1 ∧ v4.1 < p1.length) <|
 req (0 ≤ (q2.getD v4.1.toNat 0) ∧ (q2.getD v4.1.toNat 0) < v4.2.length) <|
 req ((q2.getD v4.1.toNat 0).toNat < v4.2.length) <|
 some (.go (Xaa .i64 (v4.1 + 1), (v4.2.set ((q2.getD v4.1.toNat 0).toNat) (p1.getD v4.1.toNat 0))))) (
 some (.done v4.2))
def Xfq (p0 : Int) (p1 : (List Int)) : Option ((List Int) × Bool) :=
 bnd (
 sel (p0 != 4) (
 sel (p0 != 8) (
 some true) (
 some ((p1.length : Int) != (Xaa .i64 (p0 * p0))))) (
 some ((p1.length : Int) != (Xaa .i64 (p0 * p0))))) fun v1 =>
 sel v1 (
 some (([] : List Int), false)) (
 req (0 ≤ (p1.length : Int) ∧ (p1.length : Int) ≤ (p1.length : Int) ∧ (p1.length : Int) * 8 ≤ 281474976710656) <|
 bnd (Xju p0) fun q2 =>
 bnd (loop (Xi5 p1 q2) (0, (List.replicate (p1.length : Int).toNat (0 : Int)))) fun v6 =>
 some (v6, true))
def Xma (p0 : Int) : Option Int :=
 bnd (Xau p0 0 40) fun q1 =>
 sel (!q1) (
 some 0) (
 req ((6 : Int) ≠ 0) <|
 req (0 ≤ (p0.tmod 6) ∧ (p0.tmod 6) < ([10, 11, 13, 14, 16, 18]).length) <|
 req ((p0.tmod 6).toNat < ([10, 11, 13, 14, 16, 18]).length) <|
 req ((6 : Int) ≠ 0) <|
 req (0 ≤ (Xaa .i64 (p0.tdiv 6))) <|
 some (Xaa .i64 ((([10, 11, 13, 14, 16, 18]).getD ((p0.tmod 6).toNat) 0) * 2 ^ min (Xaa .i64 (p0.tdiv 6)).toNat (IntKind.bits .i64))))
def Xjr (p0 : Int) (p1 : Int) : Option Int :=
 bnd (Xau p0 (-5000) 5000) fun q1 =>
 sel (!q1) (
 some 0) (
 bnd (Xma p1) fun q2 =>
 some (Xaa .i64 (p0 * q2)))
def Xl9 (p0 : Int) (p1 : Int) : Option Int :=
 bnd (
 bnd (Xau p0 0 7) fun q2 =>
 sel q2 (
 bnd (Xau p1 0 7) fun q3 =>
 some (!q3)) (
 some true)) fun v1 =>
 sel v1 (
 some 0) (
 req (0 ≤ (1 : Int)) <|
 req (0 ≤ (2 : Int)) <|
 req ((2 : Int) ≠ 0) <|
 sel (((Xaa .i64 ((Xaa .i64 ((IntKind.wrap .i64 (BitVec.ofInt (IntKind.bits .i64) (IntKind.wrap .i64 (BitVec.ofInt (IntKind.bits .i64) p0 &&& BitVec.ofInt (IntKind.bits .i64) p1).toNat) &&& BitVec.ofInt (IntKind.bits .i64) 1).toNat) + (IntKind.wrap .i64 (BitVec.ofInt (IntKind.bits .i64) ((IntKind.wrap .i64 (BitVec.ofInt (IntKind.bits .i64) p0 &&& BitVec.ofInt (IntKind.bits .i64) p1).toNat) / 2 ^ min (1 : Int).toNat (IntKind.bits .i64)) &&& BitVec.ofInt (IntKind.bits .i64) 1).toNat))) + (IntKind.wrap .i64 (BitVec.ofInt (IntKind.bits .i64) ((IntKind.wrap .i64 (BitVec.ofInt (IntKind.bits .i64) p0 &&& BitVec.ofInt (IntKind.bits .i64) p1).toNat) / 2 ^ min (2 : Int).toNat (IntKind.bits .i64)) &&& BitVec.ofInt (IntKind.bits .i64) 1).toNat))).tmod 2) == 0) (
 some 1) (
 some (-1)))
def Xll (p0 : (List Int)) (v31 : (Int × (List Int))) (v72 : (Int × (List Int))) (v85 : (Int × (List Int))) : Option (Lp (Int × (List Int)) (List Int)) :=
 sel (decide (v85.1 < 8)) (
 req (0 ≤ (Xaa .i64 ((Xaa .i64 (8 * v31.1)) + v72.1)) ∧ (Xaa .i64 ((Xaa .i64 (8 * v31.1)) + v72.1)) < v85.2.length) <|
 req ((Xaa .i64 ((Xaa .i64 (8 * v31.1)) + v72.1)).toNat < v85.2.length) <|
 bnd (Xl9 v72.1 v85.1) fun q89 =>
 req (0 ≤ (Xaa .i64 ((Xaa .i64 (8 * v31.1)) + v85.1)) ∧ (Xaa .i64 ((Xaa .i64 (8 * v31.1)) + v85.1)) < p0.length) <|
 req (0 ≤ (Xaa .i64 ((Xaa .i64 (8 * v31.1)) + v72.1)) ∧ (Xaa .i64 ((Xaa .i64 (8 * v31.1)) + v72.1)) < v85.2.length) <|
 req ((Xaa .i64 ((Xaa .i64 (8 * v31.1)) + v72.1)).toNat < v85.2.length) <|
 some (.go (Xaa .i64 (v85.1 + 1), (v85.2.set ((Xaa .i64 ((Xaa .i64 (8 * v31.1)) + v72.1)).toNat) (Xaa .i64 ((v85.2.getD ((Xaa .i64 ((Xaa .i64 (8 * v31.1)) + v72.1)).toNat) 0) + (Xaa .i64 (q89 * (p0.getD (Xaa .i64 ((Xaa .i64 (8 * v31.1)) + v85.1)).toNat 0))))))))) (
 some (.done v85.2))
def Xrn (p0 : (List Int)) (v31 : (Int × (List Int))) (v72 : (Int × (List Int))) : Option (Lp (Int × (List Int)) (List Int)) :=
 sel (decide (v72.1 < 8)) (
 bnd (loop (Xll p0 v31 v72) (0, v72.2)) fun v88 =>
 some (.go (Xaa .i64 (v72.1 + 1), v88))) (
 some (.done v72.2))
def Xrm (p0 : (List Int)) (v31 : (Int × (List Int))) : Option (Lp (Int × (List Int)) (List Int)) :=
 sel (decide (v31.1 < 8)) (
 bnd (loop (Xrn p0 v31) (0, v31.2)) fun v82 =>
 some (.go (Xaa .i64 (v31.1 + 1), v82))) (
 some (.done v31.2))
def Xjv (v62 : (List Int)) (v123 : (Int × (List Int))) (v164 : (Int × (List Int))) (v177 : (Int × (List Int))) : Option (Lp (Int × (List Int)) (List Int)) :=
 sel (decide (v177.1 < 8)) (
 req (0 ≤ (Xaa .i64 ((Xaa .i64 (8 * v123.1)) + v164.1)) ∧ (Xaa .i64 ((Xaa .i64 (8 * v123.1)) + v164.1)) < v177.2.length) <|
 req ((Xaa .i64 ((Xaa .i64 (8 * v123.1)) + v164.1)).toNat < v177.2.length) <|
 bnd (Xl9 v123.1 v177.1) fun q181 =>
 req (0 ≤ (Xaa .i64 ((Xaa .i64 (8 * v177.1)) + v164.1)) ∧ (Xaa .i64 ((Xaa .i64 (8 * v177.1)) + v164.1)) < v62.length) <|
 req ((Xaa .i64 ((Xaa .i64 (8 * v177.1)) + v164.1)).toNat < v62.length) <|
 req (0 ≤ (Xaa .i64 ((Xaa .i64 (8 * v123.1)) + v164.1)) ∧ (Xaa .i64 ((Xaa .i64 (8 * v123.1)) + v164.1)) < v177.2.length) <|
 req ((Xaa .i64 ((Xaa .i64 (8 * v123.1)) + v164.1)).toNat < v177.2.length) <|
 some (.go (Xaa .i64 (v177.1 + 1), (v177.2.set ((Xaa .i64 ((Xaa .i64 (8 * v123.1)) + v164.1)).toNat) (Xaa .i64 ((v177.2.getD ((Xaa .i64 ((Xaa .i64 (8 * v123.1)) + v164.1)).toNat) 0) + (Xaa .i64 (q181 * (v62.getD ((Xaa .i64 ((Xaa .i64 (8 * v177.1)) + v164.1)).toNat) 0))))))))) (
 some (.done v177.2))
def Xp1 (v62 : (List Int)) (v123 : (Int × (List Int))) (v164 : (Int × (List Int))) : Option (Lp (Int × (List Int)) (List Int)) :=
 sel (decide (v164.1 < 8)) (
 bnd (loop (Xjv v62 v123 v164) (0, v164.2)) fun v180 =>
 some (.go (Xaa .i64 (v164.1 + 1), v180))) (
 some (.done v164.2))
def Xp0 (v62 : (List Int)) (v123 : (Int × (List Int))) : Option (Lp (Int × (List Int)) (List Int)) :=
 sel (decide (v123.1 < 8)) (
 bnd (loop (Xp1 v62 v123) (0, v123.2)) fun v174 =>
 some (.go (Xaa .i64 (v123.1 + 1), v174))) (
 some (.done v123.2))
def Xs5 (p0 : (List Int)) : Option (List Int) :=
 req (0 ≤ (64 : Int) ∧ (64 : Int) ≤ (64 : Int) ∧ (64 : Int) * 8 ≤ 281474976710656) <|
 bnd (loop (Xrm p0) (0, (List.replicate (64 : Int).toNat (0 : Int)))) fun v62 =>
 req (0 ≤ (64 : Int) ∧ (64 : Int) ≤ (64 : Int) ∧ (64 : Int) * 8 ≤ 281474976710656) <|
 bnd (loop (Xp0 v62) (0, (List.replicate (64 : Int).toNat (0 : Int)))) fun v154 =>
 some v154
def Xop (p0 : Int) (p1 : Int) : Option Int :=
 req (p1 ≠ 0) <|
 bnd (
 req (p1 ≠ 0) <|
 sel (decide ((p0.tmod p1) < 0)) (
 some (Xaa .i64 ((Xaa .i64 (p0.tdiv p1)) - 1))) (
 some (Xaa .i64 (p0.tdiv p1)))) fun v1 =>
 some v1
def Xox (p0 : (List Int)) (v3 : (Int × (List Int))) : Option (Lp (Int × (List Int)) (List Int)) :=
 sel (decide (v3.1 < (p0.length : Int))) (
 req (0 ≤ v3.1 ∧ v3.1 < v3.2.length) <|
 req (v3.1.toNat < v3.2.length) <|
 bnd (Xop (Xaa .i64 ((v3.2.getD v3.1.toNat 0) + 32)) 64) fun q7 =>
 req (0 ≤ v3.1 ∧ v3.1 < v3.2.length) <|
 req (v3.1.toNat < v3.2.length) <|
 some (.go (Xaa .i64 (v3.1 + 1), (v3.2.set v3.1.toNat q7)))) (
 some (.done v3.2))
def Xkr (p0 : (List Int)) : Option ((List Int) × (List Int)) :=
 bnd (loop (Xox p0) (0, p0)) fun v6 =>
 some (v6, v6)
def Xjq (p0 : (List Int)) : Option (List Int) :=
 bnd (Xep p0 64 (-10000000) 10000000) fun q1 =>
 sel (!q1) (
 some ([] : List Int)) (
 bnd (Xs5 p0) fun q2 =>
 bnd (Xkr q2) fun q3 =>
 some q3.2)
def Xwl (p0 : Int) : Option Int :=
 bnd (Xau p0 0 15) fun q1 =>
 sel (!q1) (
 some (-1)) (
 req ((4 : Int) ≠ 0) <|
 req ((2 : Int) ≠ 0) <|
 req ((4 : Int) ≠ 0) <|
 req ((2 : Int) ≠ 0) <|
 bnd (
 sel (((Xaa .i64 (p0.tdiv 4)).tmod 2) == 0) (
 some (((p0.tmod 4).tmod 2) == 0)) (
 some false)) fun v2 =>
 sel v2 (
 some 0) (
 bnd (
 sel (((Xaa .i64 (p0.tdiv 4)).tmod 2) == 1) (
 some (((p0.tmod 4).tmod 2) == 1)) (
 some false)) fun v3 =>
 sel v3 (
 some 1) (
 some 2)))
def Xnb (p0 : Int) (p1 : Int) : Option Int :=
 bnd (
 bnd (Xau p0 0 40) fun q2 =>
 sel q2 (
 bnd (Xau p1 0 15) fun q3 =>
 some (!q3)) (
 some true)) fun v1 =>
 sel v1 (
 some 0) (
 req ((6 : Int) ≠ 0) <|
 bnd (Xwl p1) fun q4 =>
 req (0 ≤ (p0.tmod 6) ∧ (p0.tmod 6) < 6) <|
 req (0 ≤ q4 ∧ q4 < 3) <|
 req (((0 + (p0.tmod 6).toNat * 3) + q4.toNat * 1) < ([10, 16, 13, 11, 18, 14, 13, 20, 16, 14, 23, 18, 16, 25, 20, 18, 29, 23] : List Int).length) <|
 req ((6 : Int) ≠ 0) <|
 req (0 ≤ (Xaa .i64 (p0.tdiv 6))) <|
 some (Xaa .i64 ((([10, 16, 13, 11, 18, 14, 13, 20, 16, 14, 23, 18, 16, 25, 20, 18, 29, 23] : List Int).getD ((0 + (p0.tmod 6).toNat * 3) + q4.toNat * 1) 0) * 2 ^ min (Xaa .i64 (p0.tdiv 6)).toNat (IntKind.bits .i64))))
def Xjs (p0 : Int) (p1 : Int) (p2 : Int) : Option Int :=
 bnd (Xau p0 (-5000) 5000) fun q1 =>
 sel (!q1) (
 some 0) (
 bnd (Xnb p1 p2) fun q2 =>
 some (Xaa .i64 (p0 * q2)))
def Xes (p0 : Int) (p1 : Int) (p2 : Int) (p3 : Int) : Option (Int × Int × Int × Int) :=
 bnd (Xop p1 2) fun q1 =>
 bnd (Xop p3 2) fun q2 =>
 some (Xaa .i64 ((Xaa .i64 (p0 + p2)) + (Xaa .i64 (p1 + q2))), Xaa .i64 ((Xaa .i64 (p0 - p2)) + (Xaa .i64 (q1 - p3))), Xaa .i64 ((Xaa .i64 (p0 - p2)) - (Xaa .i64 (q1 - p3))), Xaa .i64 ((Xaa .i64 (p0 + p2)) - (Xaa .i64 (p1 + q2))))
def Xgn (v4 : (Int × (List Int))) : Option (Lp (Int × (List Int)) (List Int)) :=
 sel (decide (v4.1 < 16)) (
 req (0 ≤ v4.1 ∧ v4.1 < v4.2.length) <|
 req (v4.1.toNat < v4.2.length) <|
 req (0 ≤ (Xaa .i64 (v4.1 + 1)) ∧ (Xaa .i64 (v4.1 + 1)) < v4.2.length) <|
 req ((Xaa .i64 (v4.1 + 1)).toNat < v4.2.length) <|
 req (0 ≤ (Xaa .i64 (v4.1 + 2)) ∧ (Xaa .i64 (v4.1 + 2)) < v4.2.length) <|
 req ((Xaa .i64 (v4.1 + 2)).toNat < v4.2.length) <|
 req (0 ≤ (Xaa .i64 (v4.1 + 3)) ∧ (Xaa .i64 (v4.1 + 3)) < v4.2.length) <|
 req ((Xaa .i64 (v4.1 + 3)).toNat < v4.2.length) <|
 bnd (Xes (v4.2.getD v4.1.toNat 0) (v4.2.getD ((Xaa .i64 (v4.1 + 1)).toNat) 0) (v4.2.getD ((Xaa .i64 (v4.1 + 2)).toNat) 0) (v4.2.getD ((Xaa .i64 (v4.1 + 3)).toNat) 0)) fun q8 =>
 req (0 ≤ v4.1 ∧ v4.1 ≤ (Xaa .i64 (v4.1 + 4)) ∧ (Xaa .i64 (v4.1 + 4)) ≤ (v4.2.length : Int)) <|
 req ((v4.1.toNat + ((Xaa .i64 (v4.1 + 4)).toNat - v4.1.toNat) ≤ v4.2.length ∧ ([q8.1, q8.2.1, q8.2.2.1, q8.2.2.2]).length ≤ ((Xaa .i64 (v4.1 + 4)).toNat - v4.1.toNat))) <|
 some (.go (Xaa .i64 (v4.1 + 4), (over v4.2 v4.1.toNat ([q8.1, q8.2.1, q8.2.2.1, q8.2.2.2]))))) (
 some (.done v4.2))
def Xf5 (v17 : (Int × (List Int))) (q26 : (Int × Int × Int × Int)) (v28 : (Int × (List Int))) : Option (Lp (Int × (List Int)) (List Int)) :=
 sel (decide (v28.1 < 4)) (
 req (0 ≤ v28.1 ∧ v28.1 < ([q26.1, q26.2.1, q26.2.2.1, q26.2.2.2] : List Int).length) <|
 req (0 ≤ (Xaa .i64 (v17.1 + (Xaa .i64 (4 * v28.1)))) ∧ (Xaa .i64 (v17.1 + (Xaa .i64 (4 * v28.1)))) < v28.2.length) <|
 req ((Xaa .i64 (v17.1 + (Xaa .i64 (4 * v28.1)))).toNat < v28.2.length) <|
 some (.go (Xaa .i64 (v28.1 + 1), (v28.2.set ((Xaa .i64 (v17.1 + (Xaa .i64 (4 * v28.1)))).toNat) (([q26.1, q26.2.1, q26.2.2.1, q26.2.2.2] : List Int).getD v28.1.toNat 0))))) (
 some (.done v28.2))
def Xf4 (v17 : (Int × (List Int))) : Option (Lp (Int × (List Int)) (List Int)) :=
 sel (decide (v17.1 < 4)) (
 req (0 ≤ v17.1 ∧ v17.1 < v17.2.length) <|
 req (v17.1.toNat < v17.2.length) <|
 req (0 ≤ (Xaa .i64 (v17.1 + 4)) ∧ (Xaa .i64 (v17.1 + 4)) < v17.2.length) <|
 req ((Xaa .i64 (v17.1 + 4)).toNat < v17.2.length) <|
 req (0 ≤ (Xaa .i64 (v17.1 + 8)) ∧ (Xaa .i64 (v17.1 + 8)) < v17.2.length) <|
 req ((Xaa .i64 (v17.1 + 8)).toNat < v17.2.length) <|
 req (0 ≤ (Xaa .i64 (v17.1 + 12)) ∧ (Xaa .i64 (v17.1 + 12)) < v17.2.length) <|
 req ((Xaa .i64 (v17.1 + 12)).toNat < v17.2.length) <|
 bnd (Xes (v17.2.getD v17.1.toNat 0) (v17.2.getD ((Xaa .i64 (v17.1 + 4)).toNat) 0) (v17.2.getD ((Xaa .i64 (v17.1 + 8)).toNat) 0) (v17.2.getD ((Xaa .i64 (v17.1 + 12)).toNat) 0)) fun q26 =>
 bnd (loop (Xf5 v17 q26) (0, v17.2)) fun v30 =>
 some (.go (Xaa .i64 (v17.1 + 1), v30))) (
 some (.done v17.2))
def Xc8 (p0 : (List Int)) : Option (List Int) :=
 bnd (Xfh p0) fun q1 =>
 bnd (loop (Xgn) (0, q1)) fun v7 =>
 bnd (loop (Xf4) (0, v7)) fun v25 =>
 some v25
def Xlc (p0 : (List Int)) : Option (List Int) :=
 bnd (Xep p0 16 (-10000000) 10000000) fun q1 =>
 sel (!q1) (
 some ([] : List Int)) (
 bnd (Xc8 p0) fun q2 =>
 bnd (Xkr q2) fun q3 =>
 some q3.2)
def Xnw (p0 : Int) (v7 : (Int × (List Int))) (v16 : (Int × (List Int))) : Option (Lp (Int × (List Int)) (List Int)) :=
 sel (decide (v16.1 < 4)) (
 req ((2 : Int) ≠ 0) <|
 req ((2 : Int) ≠ 0) <|
 req ((v16.2.length + ([Xaa .i64 ((Xaa .i64 ((Xaa .i64 ((Xaa .i64 (v7.1 + (Xaa .i64 ((Xaa .i64 (p0.tdiv 2)) * 4)))) * 8)) + v16.1)) + (Xaa .i64 ((p0.tmod 2) * 4)))]).length) * 8 ≤ 140737488355328 ∧ v16.2.length + ([Xaa .i64 ((Xaa .i64 ((Xaa .i64 ((Xaa .i64 (v7.1 + (Xaa .i64 ((Xaa .i64 (p0.tdiv 2)) * 4)))) * 8)) + v16.1)) + (Xaa .i64 ((p0.tmod 2) * 4)))]).length ≤ maxLen) <|
 some (.go (Xaa .i64 (v16.1 + 1), (v16.2 ++ ([Xaa .i64 ((Xaa .i64 ((Xaa .i64 ((Xaa .i64 (v7.1 + (Xaa .i64 ((Xaa .i64 (p0.tdiv 2)) * 4)))) * 8)) + v16.1)) + (Xaa .i64 ((p0.tmod 2) * 4)))]))))) (
 some (.done v16.2))
def Xj9 (p0 : Int) (v7 : (Int × (List Int))) : Option (Lp (Int × (List Int)) (List Int)) :=
 sel (decide (v7.1 < 4)) (
 bnd (loop (Xnw p0 v7) (0, v7.2)) fun v18 =>
 some (.go (Xaa .i64 (v7.1 + 1), v18))) (
 some (.done v7.2))
def Xne (p0 : Int) : Option (List Int) :=
 bnd (loop (Xj9 p0) (0, ([] : List Int))) fun v14 =>
 some v14
def Xe9 (p1 : Xf0) (q5 : ((List Int) × Bool)) (v8 : (Int × (List Int))) : Option (Lp (Int × (List Int)) (List Int)) :=
 sel (decide (v8.1 < (q5.1.length : Int))) (
 req (0 ≤ v8.1 ∧ v8.1 < v8.2.length) <|
 req (v8.1.toNat < v8.2.length) <|
 bnd (Xjr (v8.2.getD v8.1.toNat 0) p1.Qp) fun q12 =>
 req (0 ≤ v8.1 ∧ v8.1 < v8.2.length) <|
 req (v8.1.toNat < v8.2.length) <|
 some (.go (Xaa .i64 (v8.1 + 1), (v8.2.set v8.1.toNat q12)))) (
 some (.done v8.2))
def Xet (p1 : Xf0) (q51 : ((List Int) × Bool)) (v54 : (Int × (List Int))) : Option (Lp (Int × (List Int)) (List Int)) :=
 sel (decide (v54.1 < (q51.1.length : Int))) (
 req (0 ≤ v54.1 ∧ v54.1 < v54.2.length) <|
 req (v54.1.toNat < v54.2.length) <|
 bnd (Xjs (v54.2.getD v54.1.toNat 0) p1.Qp v54.1) fun q58 =>
 req (0 ≤ v54.1 ∧ v54.1 < v54.2.length) <|
 req (v54.1.toNat < v54.2.length) <|
 some (.go (Xaa .i64 (v54.1 + 1), (v54.2.set v54.1.toNat q58)))) (
 some (.done v54.2))
def Xgu (q60 : (List Int)) (q61 : (List Int)) (v63 : (Int × (List Int))) : Option (Lp (Int × (List Int)) (List Int)) :=
 sel (decide (v63.1 < (q61.length : Int))) (
 req (0 ≤ v63.1 ∧ v63.1 < q61.length) <|
 req (v63.1.toNat < q61.length) <|
 req (0 ≤ v63.1 ∧ v63.1 < q60.length) <|
 req (v63.1.toNat < q60.length) <|
 req (0 ≤ (q61.getD v63.1.toNat 0) ∧ (q61.getD v63.1.toNat 0) < v63.2.length) <|
 req ((q61.getD v63.1.toNat 0).toNat < v63.2.length) <|
 some (.go (Xaa .i64 (v63.1 + 1), (v63.2.set ((q61.getD v63.1.toNat 0).toNat) (q60.getD v63.1.toNat 0))))) (
 some (.done v63.2))
def Xkf (p0 : (List Int)) (p1 : Xf0) (v32 : (Int × (List Int))) : Option (Lp (Int × (List Int)) (List Int)) :=
 sel (decide (v32.1 < 4)) (
 req (0 ≤ (Xaa .i64 (16 * v32.1)) ∧ (Xaa .i64 (16 * v32.1)) ≤ (Xaa .i64 ((Xaa .i64 (16 * v32.1)) + 16)) ∧ (Xaa .i64 ((Xaa .i64 (16 * v32.1)) + 16)) ≤ (p0.length : Int)) <|
 bnd (Xfq 4 ((p0.drop (Xaa .i64 (16 * v32.1)).toNat).take ((Xaa .i64 ((Xaa .i64 (16 * v32.1)) + 16)).toNat - (Xaa .i64 (16 * v32.1)).toNat))) fun q51 =>
 bnd (loop (Xet p1 q51) (0, q51.1)) fun v57 =>
 bnd (Xlc v57) fun q60 =>
 bnd (Xne v32.1) fun q61 =>
 bnd (loop (Xgu q60 q61) (0, v32.2)) fun v65 =>
 some (.go (Xaa .i64 (v32.1 + 1), v65))) (
 some (.done v32.2))
def Xhw (p0 : (List Int)) (p1 : Xf0) : Option ((List Int) × Bool) :=
 bnd (
 bnd (Xfr p0) fun q2 =>
 sel q2 (
 bnd (Xhv p1) fun q3 =>
 some (!q3)) (
 some true)) fun v1 =>
 sel v1 (
 some (([] : List Int), false)) (
 sel p1.Exact (
 bnd (Xfq 8 p0) fun q4 =>
 some (q4.1, q4.2)) (
 sel p1.Large (
 bnd (Xfq 8 p0) fun q5 =>
 bnd (loop (Xe9 p1 q5) (0, q5.1)) fun v11 =>
 bnd (Xjq v11) fun q14 =>
 some (q14, true)) (
 req (0 ≤ (64 : Int) ∧ (64 : Int) ≤ (64 : Int) ∧ (64 : Int) * 8 ≤ 281474976710656) <|
 bnd (loop (Xkf p0 p1) (0, (List.replicate (64 : Int).toNat (0 : Int)))) fun v50 =>
 some (v50, true))))
def Xmu (p0 : (List Int)) (p1 : (List Int)) (v6 : (Int × (List Int))) : Option (Lp (Int × (List Int)) (List Int)) :=
 sel (decide (v6.1 < (p0.length : Int))) (
 req (0 ≤ v6.1 ∧ v6.1 < p0.length) <|
 req (0 ≤ v6.1 ∧ v6.1 < p1.length) <|
 bnd (Xe7 (Xaa .i64 ((p0.getD v6.1.toNat 0) + (p1.getD v6.1.toNat 0))) 0 255) fun q10 =>
 req ((v6.2.length + ([q10]).length) * 8 ≤ 140737488355328 ∧ v6.2.length + ([q10]).length ≤ maxLen) <|
 some (.go (Xaa .i64 (v6.1 + 1), (v6.2 ++ ([q10]))))) (
 some (.done v6.2))
def Xl7 (p0 : (List Int)) (p1 : (List Int)) : Option (List Int) :=
 bnd (
 bnd (Xep p0 64 0 255) fun q2 =>
 sel q2 (
 bnd (Xep p1 64 (-10000000) 10000000) fun q3 =>
 some (!q3)) (
 some true)) fun v1 =>
 sel v1 (
 some ([] : List Int)) (
 bnd (loop (Xmu p0 p1) (0, ([] : List Int))) fun v9 =>
 some v9)
def Xlb (p0 : Pic) (p1 : Int) (p2 : Int) (v9 : (Int × (List Int) × (List Int))) : Option (Lp (Int × (List Int) × (List Int)) ((List Int) × (List Int))) :=
 sel (decide (v9.1 < 8)) (
 bnd (
 bnd (
 sel (decide (p2 > 0)) (
 bnd (Xfd p0 (Xaa .i64 (p1 + v9.1)) (Xaa .i64 (p2 - 1))) fun q18 =>
 req ((v9.2.1.length + ([q18]).length) * 8 ≤ 140737488355328 ∧ v9.2.1.length + ([q18]).length ≤ maxLen) <|
 some (v9.2.1 ++ ([q18]))) (
 some v9.2.1)) fun v17 =>
 sel (decide (p1 > 0)) (
 bnd (Xfd p0 (Xaa .i64 (p1 - 1)) (Xaa .i64 (p2 + v9.1))) fun q19 =>
 req ((v9.2.2.length + ([q19]).length) * 8 ≤ 140737488355328 ∧ v9.2.2.length + ([q19]).length ≤ maxLen) <|
 some (v17, (v9.2.2 ++ ([q19])))) (
 some (v17, v9.2.2))) fun v16 =>
 some (.go (Xaa .i64 (v9.1 + 1), v16.1, v16.2))) (
 some (.done (v9.2.1, v9.2.2)))
def Xm8 (p0 : Pic) (p1 : Int) (p2 : Int) : Option (Xl6 × Bool) :=
 bnd (
 bnd (Xd4 p0) fun q2 =>
 sel q2 (
 bnd (Xdk p0 p1 p2) fun q3 =>
 some (!q3)) (
 some true)) fun v1 =>
 sel v1 (
 some ((⟨[], [], 0⟩ : Xl6), false)) (
 bnd (loop (Xlb p0 p1 p2) (0, [], [])) fun v15 =>
 bnd (
 bnd (
 sel (decide (p1 > 0)) (
 some (decide (p2 > 0))) (
 some false)) fun v22 =>
 sel v22 (
 bnd (Xfd p0 (Xaa .i64 (p1 - 1)) (Xaa .i64 (p2 - 1))) fun q23 =>
 some q23) (
 some (-1))) fun v21 =>
 some ((⟨v15.1, v15.2, v21⟩ : Xl6), true))
def Xf2 (p0 : Xl6) (v4 : Int) : Option (Lp Int (Ou Unit Bool)) :=
 sel (decide (v4 < (([p0.Above, p0.Left]).length : Int))) (
 req (0 ≤ v4 ∧ v4 < ([p0.Above, p0.Left]).length) <|
 req (v4.toNat < ([p0.Above, p0.Left]).length) <|
 bnd (
 sel (decide (((([p0.Above, p0.Left]).getD v4.toNat Xms).length : Int) > 0)) (
 bnd (Xep (([p0.Above, p0.Left]).getD v4.toNat Xms) 8 0 255) fun q10 =>
 some (!q10)) (
 some false)) fun v9 =>
 sel v9 (
 some (.done (.ret false))) (
 some (.go (Xaa .i64 (v4 + 1))))) (
 some (.done (.out ())))
def Xm9 (p0 : Xl6) : Option Bool :=
 bnd (loop (Xf2 p0) 0) fun o11 => match o11 with
| .out v8 => (
 bnd (Xau p0.Corner (-1) 255) fun q12 =>
 some q12)
| .ret r => some r
def Xme (p0 : (List Int)) : Option (List Int) :=
 sel ((p0.length : Int) == 0) (
 some ([128, 128, 128, 128, 128, 128, 128, 128])) (
 some p0)
def Xg4 (p0 : Int) (v4 : Int) (q7 : (List Int)) (q8 : (List Int)) (v9 : Int) (v22 : (Int × (List Int))) (v39 : (Int × (List Int))) : Option (Lp (Int × (List Int)) (List Int)) :=
 sel (decide (v39.1 < 8)) (
 bnd (
 sel (p0 == 0) (
 req ((v39.2.length + ([v4]).length) * 8 ≤ 140737488355328 ∧ v39.2.length + ([v4]).length ≤ maxLen) <|
 some (v39.2 ++ ([v4]))) (
 sel (p0 == 1) (
 req (0 ≤ v39.1 ∧ v39.1 < q7.length) <|
 req ((v39.2.length + ([(q7.getD v39.1.toNat 0)]).length) * 8 ≤ 140737488355328 ∧ v39.2.length + ([(q7.getD v39.1.toNat 0)]).length ≤ maxLen) <|
 some (v39.2 ++ ([(q7.getD v39.1.toNat 0)]))) (
 sel (p0 == 2) (
 req (0 ≤ v22.1 ∧ v22.1 < q8.length) <|
 req ((v39.2.length + ([(q8.getD v22.1.toNat 0)]).length) * 8 ≤ 140737488355328 ∧ v39.2.length + ([(q8.getD v22.1.toNat 0)]).length ≤ maxLen) <|
 some (v39.2 ++ ([(q8.getD v22.1.toNat 0)]))) (
 req (0 ≤ v22.1 ∧ v22.1 < q8.length) <|
 req (0 ≤ v39.1 ∧ v39.1 < q7.length) <|
 bnd (Xe7 (Xaa .i64 ((Xaa .i64 ((q8.getD v22.1.toNat 0) + (q7.getD v39.1.toNat 0))) - v9)) 0 255) fun q45 =>
 req ((v39.2.length + ([q45]).length) * 8 ≤ 140737488355328 ∧ v39.2.length + ([q45]).length ≤ maxLen) <|
 some (v39.2 ++ ([q45])))))) fun v44 =>
 some (.go (Xaa .i64 (v39.1 + 1), v44))) (
 some (.done v39.2))
def Xnu (p0 : Int) (v4 : Int) (q7 : (List Int)) (q8 : (List Int)) (v9 : Int) (v22 : (Int × (List Int))) : Option (Lp (Int × (List Int)) (List Int)) :=
 sel (decide (v22.1 < 8)) (
 bnd (loop (Xg4 p0 v4 q7 q8 v9 v22) (0, v22.2)) fun v43 =>
 some (.go (Xaa .i64 (v22.1 + 1), v43))) (
 some (.done v22.2))
def Xko (p0 : Int) (p1 : Xl6) : Option (List Int) :=
 bnd (
 bnd (Xm9 p1) fun q2 =>
 sel q2 (
 bnd (Xau p0 0 3) fun q3 =>
 some (!q3)) (
 some true)) fun v1 =>
 sel v1 (
 some ([] : List Int)) (
 bnd (
 sel (decide ((Xaa .i64 ((p1.Above.length : Int) + (p1.Left.length : Int))) > 0)) (
 bnd (Xcx p1.Above) fun q5 =>
 bnd (Xcx p1.Left) fun q6 =>
 req ((2 : Int) ≠ 0) <|
 req ((Xaa .i64 ((p1.Above.length : Int) + (p1.Left.length : Int))) ≠ 0) <|
 some (Xaa .i64 ((Xaa .i64 ((Xaa .i64 (q5 + q6)) + (Xaa .i64 ((Xaa .i64 ((p1.Above.length : Int) + (p1.Left.length : Int))).tdiv 2)))).tdiv (Xaa .i64 ((p1.Above.length : Int) + (p1.Left.length : Int)))))) (
 some 128)) fun v4 =>
 bnd (Xme p1.Above) fun q7 =>
 bnd (Xme p1.Left) fun q8 =>
 bnd (
 sel (decide (p1.Corner < 0)) (
 some 128) (
 some p1.Corner)) fun v9 =>
 bnd (loop (Xnu p0 v4 q7 q8 v9) (0, ([] : List Int))) fun v35 =>
 some v35)
def Xdw (p0 : Pic) (p1 : Pic) (p2 : Int) (p3 : Int) (p4 : Xf0) (p5 : Int) (p6 : Int) (p7 : Xar) : Option ((List Int) × Bool) :=
 bnd (
 bnd (Xd4 p0) fun q2 =>
 sel q2 (
 bnd (Xdk p0 p5 p6) fun q3 =>
 sel q3 (
 bnd (Xau p2 0 256) fun q4 =>
 sel q4 (
 bnd (Xau p3 0 256) fun q5 =>
 sel q5 (
 bnd (Xgv p7) fun q6 =>
 sel q6 (
 bnd (Xhv p4) fun q7 =>
 sel q7 (
 bnd (Xhx p7 p4) fun q8 =>
 sel q8 (
 sel (p7.Kind != 2) (
 bnd (Xd4 p1) fun q9 =>
 some (!q9)) (
 some false)) (
 some true)) (
 some true)) (
 some true)) (
 some true)) (
 some true)) (
 some true)) (
 some true)) fun v1 =>
 sel v1 (
 some (([] : List Int), false)) (
 sel (p7.Kind == 0) (
 bnd (Xhd p1 (Xaa .i64 (p2 + p5)) (Xaa .i64 (p3 + p6))) fun q10 =>
 some (q10, true)) (
 bnd (Xhw p7.Levels p4) fun q11 =>
 sel (p7.Kind == 1) (
 bnd (Xhd p1 (Xaa .i64 ((Xaa .i64 (p2 + p5)) + p7.Dx)) (Xaa .i64 ((Xaa .i64 (p3 + p6)) + p7.Dy))) fun q12 =>
 bnd (Xl7 q12 q11.1) fun q13 =>
 some (q13, true)) (
 bnd (Xm8 p0 p5 p6) fun q14 =>
 bnd (Xko p7.Mode q14.1) fun q15 =>
 bnd (Xl7 q15 q11.1) fun q16 =>
 some (q16, true))))
def Xqm (p0 : Pic) : Option (List Int) :=
 req (p0.Dots.size ≤ maxLen) <|
 some (Xa0 p0.Dots)
def Xrl (p0 : Pic) (p1 : Int) (p2 : Int) (p3 : (List Int)) (v3 : (Int × (List Int))) : Option (Lp (Int × (List Int)) (List Int)) :=
 sel (decide (v3.1 < (p3.length : Int))) (
 req (0 ≤ v3.1 ∧ v3.1 < p3.length) <|
 req ((8 : Int) ≠ 0) <|
 req ((8 : Int) ≠ 0) <|
 req (0 ≤ (Xaa .i64 ((Xaa .i64 ((Xaa .i64 ((Xaa .i64 (p2 + (Xaa .i64 (v3.1.tdiv 8)))) * p0.Wide)) + p1)) + (v3.1.tmod 8))) ∧ (Xaa .i64 ((Xaa .i64 ((Xaa .i64 ((Xaa .i64 (p2 + (Xaa .i64 (v3.1.tdiv 8)))) * p0.Wide)) + p1)) + (v3.1.tmod 8))) < v3.2.length) <|
 req ((Xaa .i64 ((Xaa .i64 ((Xaa .i64 ((Xaa .i64 (p2 + (Xaa .i64 (v3.1.tdiv 8)))) * p0.Wide)) + p1)) + (v3.1.tmod 8))).toNat < v3.2.length) <|
 some (.go (Xaa .i64 (v3.1 + 1), (v3.2.set ((Xaa .i64 ((Xaa .i64 ((Xaa .i64 ((Xaa .i64 (p2 + (Xaa .i64 (v3.1.tdiv 8)))) * p0.Wide)) + p1)) + (v3.1.tmod 8))).toNat) (Xaa .u8 ((p3.getD v3.1.toNat 0))))))) (
 some (.done v3.2))
def Xt7 (p0 : Pic) (p1 : Int) (p2 : Int) (p3 : (List Int)) : Option Pic :=
 bnd (Xqm p0) fun q1 =>
 bnd (loop (Xrl p0 p1 p2 p3) (0, q1)) fun v5 =>
 some (⟨p0.Wide, p0.High, (strOfNums v5)⟩ : Pic)
def Xb5 (p1 : Xpw) (p2 : Xf0) (p4 : (List Xar)) (v10 : (Int × Int × Int × Int × ByteArray)) (v16 : (Int × Int × Int × ByteArray)) : Option (Lp (Int × Int × Int × ByteArray) (Ou (Int × Int × ByteArray) (Pic × Bool))) :=
 sel (decide (v16.1 < (p4.length : Int))) (
 req (0 ≤ v16.1 ∧ v16.1 < p4.length) <|
 req ((8 : Int) ≠ 0) <|
 req ((Xaa .i64 (p1.Wide.tdiv 8)) ≠ 0) <|
 req ((8 : Int) ≠ 0) <|
 req ((Xaa .i64 (p1.Wide.tdiv 8)) ≠ 0) <|
 bnd (Xdw (⟨v16.2.1, v16.2.2.1, v16.2.2.2⟩ : Pic) (⟨v10.2.2.1, v10.2.2.2.1, v10.2.2.2.2⟩ : Pic) v10.1 v10.2.1 p2 (Xaa .i64 ((v16.1.tmod (Xaa .i64 (p1.Wide.tdiv 8))) * 8)) (Xaa .i64 ((Xaa .i64 (v16.1.tdiv (Xaa .i64 (p1.Wide.tdiv 8)))) * 8)) (⟨(p4.getD v16.1.toNat Xbx).Kind, (p4.getD v16.1.toNat Xbx).Mode, (p4.getD v16.1.toNat Xbx).Dx, (p4.getD v16.1.toNat Xbx).Dy, (p4.getD v16.1.toNat Xbx).Levels⟩ : Xar)) fun q21 =>
 sel (!q21.2) (
 some (.done (.ret ((⟨0, 0, ⟨#[]⟩⟩ : Pic), false)))) (
 bnd (Xt7 (⟨v16.2.1, v16.2.2.1, v16.2.2.2⟩ : Pic) (Xaa .i64 ((v16.1.tmod (Xaa .i64 (p1.Wide.tdiv 8))) * 8)) (Xaa .i64 ((Xaa .i64 (v16.1.tdiv (Xaa .i64 (p1.Wide.tdiv 8)))) * 8)) q21.1) fun q22 =>
 some (.go (Xaa .i64 (v16.1 + 1), q22.Wide, q22.High, q22.Dots)))) (
 some (.done (.out (v16.2.1, v16.2.2.1, v16.2.2.2))))
def Xlg (p0 : Pic) (p1 : Xpw) (p2 : Xf0) (p3 : Bool) (p4 : (List Xar)) : Option (Pic × Bool) :=
 bnd (
 bnd (Xmd p1.Wide) fun q2 =>
 sel q2 (
 bnd (Xmd p1.High) fun q3 =>
 sel q3 (
 bnd (Xau p1.Left 0 256) fun q4 =>
 sel q4 (
 bnd (Xau p1.Top 0 256) fun q5 =>
 sel q5 (
 bnd (Xhv p2) fun q6 =>
 sel q6 (
 req ((8 : Int) ≠ 0) <|
 req ((8 : Int) ≠ 0) <|
 some ((p4.length : Int) != (Xaa .i64 ((Xaa .i64 (p1.Wide.tdiv 8)) * (Xaa .i64 (p1.High.tdiv 8)))))) (
 some true)) (
 some true)) (
 some true)) (
 some true)) (
 some true)) fun v1 =>
 sel v1 (
 some ((⟨0, 0, ⟨#[]⟩⟩ : Pic), false)) (
 bnd (
 sel p2.Key (
 some false) (
 bnd (Xd4 p0) fun q8 =>
 sel q8 (
 bnd (Xej p0 p1) fun q9 =>
 some (!q9)) (
 some true))) fun v7 =>
 sel v7 (
 some ((⟨0, 0, ⟨#[]⟩⟩ : Pic), false)) (
 bnd (
 sel p3 (
 sel (!p2.Key) (
 bnd (Xon p0 p1) fun q11 =>
 some (0, 0, q11.1.Wide, q11.1.High, q11.1.Dots)) (
 some (0, 0, p0.Wide, p0.High, p0.Dots))) (
 some (p1.Left, p1.Top, p0.Wide, p0.High, p0.Dots))) fun v10 =>
 bnd (Xos p1.Wide p1.High) fun q12 =>
 bnd (loop (Xb5 p1 p2 p4 v10) (0, q12.Wide, q12.High, q12.Dots)) fun o23 => match o23 with
| .out v20 => (
 some ((⟨v20.1, v20.2.1, v20.2.2⟩ : Pic), true))
| .ret r => some r))
def Xmv (p0 : Pic) (p1 : Pic) (p2 : Int) (p3 : Int) (v7 : (Int × (List Int))) : Option (Lp (Int × (List Int)) (List Int)) :=
 sel (decide (v7.1 < p1.High)) (
 req (0 ≤ (Xaa .i64 ((Xaa .i64 ((Xaa .i64 (p3 + v7.1)) * p0.Wide)) + p2)) ∧ (Xaa .i64 ((Xaa .i64 ((Xaa .i64 (p3 + v7.1)) * p0.Wide)) + p2)) ≤ (v7.2.length : Int) ∧ (v7.2.length : Int) ≤ (v7.2.length : Int)) <|
 req (0 ≤ (Xaa .i64 (v7.1 * p1.Wide)) ∧ (Xaa .i64 (v7.1 * p1.Wide)) ≤ (Xaa .i64 ((Xaa .i64 (v7.1 + 1)) * p1.Wide)) ∧ (Xaa .i64 ((Xaa .i64 (v7.1 + 1)) * p1.Wide)) ≤ (p1.Dots.size : Int)) <|
 req (((Xaa .i64 ((Xaa .i64 ((Xaa .i64 (p3 + v7.1)) * p0.Wide)) + p2)).toNat + ((v7.2.length : Int).toNat - (Xaa .i64 ((Xaa .i64 ((Xaa .i64 (p3 + v7.1)) * p0.Wide)) + p2)).toNat) ≤ v7.2.length ∧ (Xa0 (p1.Dots.extract (Xaa .i64 (v7.1 * p1.Wide)).toNat (Xaa .i64 ((Xaa .i64 (v7.1 + 1)) * p1.Wide)).toNat)).length ≤ ((v7.2.length : Int).toNat - (Xaa .i64 ((Xaa .i64 ((Xaa .i64 (p3 + v7.1)) * p0.Wide)) + p2)).toNat))) <|
 some (.go (Xaa .i64 (v7.1 + 1), (over v7.2 ((Xaa .i64 ((Xaa .i64 ((Xaa .i64 (p3 + v7.1)) * p0.Wide)) + p2)).toNat) (Xa0 (p1.Dots.extract (Xaa .i64 (v7.1 * p1.Wide)).toNat (Xaa .i64 ((Xaa .i64 (v7.1 + 1)) * p1.Wide)).toNat)))))) (
 some (.done v7.2))
def Xou (p0 : Pic) (p1 : Pic) (p2 : Int) (p3 : Int) : Option (Pic × Bool) :=
 bnd (
 bnd (Xd4 p0) fun q2 =>
 sel q2 (
 bnd (Xd4 p1) fun q3 =>
 sel q3 (
 bnd (Xej p0 (⟨p2, p3, p1.Wide, p1.High⟩ : Xpw)) fun q4 =>
 some (!q4)) (
 some true)) (
 some true)) fun v1 =>
 sel v1 (
 some (p0, false)) (
 bnd (Xqm p0) fun q5 =>
 bnd (loop (Xmv p0 p1 p2 p3) (0, q5)) fun v9 =>
 some ((⟨p0.Wide, p0.High, (strOfNums v9)⟩ : Pic), true))
def Xt6 (p0 : Int) (p1 : Int) : Option Int :=
 req (0 ≤ p1) <|
 req ((Xaa .i64 (1 * 2 ^ min p1.toNat (IntKind.bits .i64))) ≠ 0) <|
 some ((Xaa .i64 (p0 + 1)).tmod (Xaa .i64 (1 * 2 ^ min p1.toNat (IntKind.bits .i64))))
def Xdt (p0 : Xak) (p1 : Bool) (p2 : ByteArray) : Option (Xak × Int × Pic × Xak) :=
 bnd (
 sel p0.HasSeq (
 some (!p0.HasPar)) (
 some true)) fun v1 =>
 sel v1 (
 some (p0, 4, (⟨0, 0, ⟨#[]⟩⟩ : Pic), p0)) (
 bnd (Xec p0.Seq p0.Par p2) fun q2 =>
 sel (!q2.2.2) (
 some (p0, 5, (⟨0, 0, ⟨#[]⟩⟩ : Pic), p0)) (
 sel (q2.1.Tile != p0.Got) (
 some (p0, 6, (⟨0, 0, ⟨#[]⟩⟩ : Pic), p0)) (
 bnd (
 sel (p0.Frame != (-1)) (
 some (p0.Frame != q2.1.Frame)) (
 some false)) fun v3 =>
 sel v3 (
 some (p0, 7, (⟨0, 0, ⟨#[]⟩⟩ : Pic), p0)) (
 bnd (
 sel p1 (
 some false) (
 some (!p0.HasRef))) fun v4 =>
 sel v4 (
 some (p0, 8, (⟨0, 0, ⟨#[]⟩⟩ : Pic), p0)) (
 bnd (Xg5 p0.Seq q2.1.Tile) fun q5 =>
 bnd (Xfe p2 q2.2.1 q5 (⟨p1, q2.1.Qp, p0.Par.Large, p0.Par.Exact⟩ : Xf0)) fun q6 =>
 sel (!q6.2) (
 some (p0, 9, (⟨0, 0, ⟨#[]⟩⟩ : Pic), p0)) (
 bnd (Xfg p0.Seq q2.1.Tile) fun q7 =>
 bnd (Xlg p0.Ref q7.1 (⟨p1, q2.1.Qp, p0.Par.Large, p0.Par.Exact⟩ : Xf0) p0.Par.Confined q6.1) fun q8 =>
 bnd (
 sel (p0.Got == 0) (
 bnd (Xkh p0.Seq) fun q10 =>
 bnd (Xos q10.1 q10.2) fun q11 =>
 some (q11.Wide, q11.High, q11.Dots)) (
 some (p0.Now.Wide, p0.Now.High, p0.Now.Dots))) fun v9 =>
 bnd (Xou (⟨v9.1, v9.2.1, v9.2.2⟩ : Pic) q8.1 q7.1.Left q7.1.Top) fun q12 =>
 bnd (Xgm p0.Seq) fun q13 =>
 sel (decide ((Xaa .i64 (p0.Got + 1)) < q13)) (
 some ((⟨p0.HasSeq, p0.HasPar, p0.HasRef, p0.Seq, p0.Par, q2.1.Frame, Xaa .i64 (p0.Got + 1), q12.1, p0.Ref⟩ : Xak), 0, (⟨0, 0, ⟨#[]⟩⟩ : Pic), p0)) (
 bnd (Xt6 q2.1.Frame p0.Seq.Bits) fun q14 =>
 some ((⟨p0.HasSeq, p0.HasPar, true, p0.Seq, p0.Par, q14, 0, (⟨0, 0, ⟨#[]⟩⟩ : Pic), q12.1⟩ : Xak), 0, q12.1, p0))))))))
def Xgl (p0 : Xak) (p1 : ByteArray) : Option (Xak × Int × Pic) :=
 bnd (Xdd p0) fun q1 =>
 bnd (Xoo q1) fun q2 =>
 sel (!q2) (
 some (q1, 1, (⟨0, 0, ⟨#[]⟩⟩ : Pic))) (
 bnd (Xgw p1) fun q3 =>
 sel (!q3.2.2) (
 some (q1, 2, (⟨0, 0, ⟨#[]⟩⟩ : Pic))) (
 sel (q3.1 == 7) (
 bnd (Xdv q3.2.1 0) fun q4 =>
 bnd (
 sel q4.2.2 (
 some (q4.2.1 != (q3.2.1.size : Int))) (
 some true)) fun v5 =>
 sel v5 (
 some (q1, 3, (⟨0, 0, ⟨#[]⟩⟩ : Pic))) (
 bnd (Xwi) fun q6 =>
 some ((⟨true, q6.HasPar, q6.HasRef, q4.1, q6.Par, q6.Frame, q6.Got, q6.Now, q6.Ref⟩ : Xak), 0, (⟨0, 0, ⟨#[]⟩⟩ : Pic)))) (
 sel (q3.1 == 8) (
 bnd (Xdu q3.2.1 0) fun q7 =>
 bnd (
 sel q7.2.2 (
 some (q7.2.1 != (q3.2.1.size : Int))) (
 some true)) fun v8 =>
 sel v8 (
 some (q1, 3, (⟨0, 0, ⟨#[]⟩⟩ : Pic))) (
 bnd (
 sel q1.HasSeq (
 some (decide (q1.Got > 0))) (
 some true)) fun v9 =>
 sel v9 (
 some (q1, 4, (⟨0, 0, ⟨#[]⟩⟩ : Pic))) (
 some ((⟨q1.HasSeq, true, q1.HasRef, q1.Seq, q7.1, q1.Frame, q1.Got, q1.Now, q1.Ref⟩ : Xak), 0, (⟨0, 0, ⟨#[]⟩⟩ : Pic))))) (
 bnd (Xdt q1 (q3.1 == 5) q3.2.1) fun q11 =>
 some ((⟨q11.1.HasSeq, q11.1.HasPar, q11.1.HasRef, (⟨q11.1.Seq.Level, q11.1.Seq.Bits, q11.2.2.2.Seq.Cols, q11.2.2.2.Seq.Rows⟩ : Seq), q11.1.Par, q11.1.Frame, q11.1.Got, q11.1.Now, q11.1.Ref⟩ : Xak), q11.2.1, q11.2.2.1)))))
def Xry : Option Xak :=
 some (⟨false, false, false, (⟨0, 0, [], []⟩ : Seq), (⟨0, false, false, false⟩ : Par), (-1), 0, (⟨0, 0, ⟨#[]⟩⟩ : Pic), (⟨0, 0, ⟨#[]⟩⟩ : Pic)⟩ : Xak)
def Xc3 (p1 : (List ByteArray)) (v5 : (Int × Bool × Bool × Bool × Int × Int × Int × Bool × Bool × Bool × Int × Int × Int × Int × ByteArray × Int × Int × ByteArray × (List Pic) × (List Int) × (List Int) × (List Int))) : Option (Lp (Int × Bool × Bool × Bool × Int × Int × Int × Bool × Bool × Bool × Int × Int × Int × Int × ByteArray × Int × Int × ByteArray × (List Pic) × (List Int) × (List Int) × (List Int)) (Bool × Bool × Bool × Int × Int × Int × Bool × Bool × Bool × Int × Int × Int × Int × ByteArray × Int × Int × ByteArray × (List Pic) × (List Int) × (List Int) × (List Int))) :=
 sel (decide (v5.1 < (p1.length : Int))) (
 bnd (
 req (0 ≤ v5.1 ∧ v5.1 < p1.length) <|
 bnd (Xb9 (⟨v5.2.1, v5.2.2.1, v5.2.2.2.1, (⟨v5.2.2.2.2.1, v5.2.2.2.2.2.1, v5.2.2.2.2.2.2.2.2.2.2.2.2.2.2.2.2.2.2.2.2.1, v5.2.2.2.2.2.2.2.2.2.2.2.2.2.2.2.2.2.2.2.2.2⟩ : Seq), (⟨v5.2.2.2.2.2.2.1, v5.2.2.2.2.2.2.2.1, v5.2.2.2.2.2.2.2.2.1, v5.2.2.2.2.2.2.2.2.2.1⟩ : Par), v5.2.2.2.2.2.2.2.2.2.2.1, v5.2.2.2.2.2.2.2.2.2.2.2.1, (⟨v5.2.2.2.2.2.2.2.2.2.2.2.2.1, v5.2.2.2.2.2.2.2.2.2.2.2.2.2.1, v5.2.2.2.2.2.2.2.2.2.2.2.2.2.2.1⟩ : Pic), (⟨v5.2.2.2.2.2.2.2.2.2.2.2.2.2.2.2.1, v5.2.2.2.2.2.2.2.2.2.2.2.2.2.2.2.2.1, v5.2.2.2.2.2.2.2.2.2.2.2.2.2.2.2.2.2.1⟩ : Pic)⟩ : Xak) (p1.getD v5.1.toNat Xb3)) fun q11 =>
 req ((v5.2.2.2.2.2.2.2.2.2.2.2.2.2.2.2.2.2.2.2.1.length + ([q11.2.1]).length) * 8 ≤ 140737488355328 ∧ v5.2.2.2.2.2.2.2.2.2.2.2.2.2.2.2.2.2.2.2.1.length + ([q11.2.1]).length ≤ maxLen) <|
 sel (decide (q11.2.2.Wide > 0)) (
 req ((v5.2.2.2.2.2.2.2.2.2.2.2.2.2.2.2.2.2.2.1.length + ([q11.2.2]).length) * 32 ≤ 140737488355328 ∧ v5.2.2.2.2.2.2.2.2.2.2.2.2.2.2.2.2.2.2.1.length + ([q11.2.2]).length ≤ maxLen) <|
 some (q11.1.HasSeq, q11.1.HasPar, q11.1.HasRef, q11.1.Seq.Level, q11.1.Seq.Bits, q11.1.Par.Qp, q11.1.Par.Large, q11.1.Par.Exact, q11.1.Par.Confined, q11.1.Frame, q11.1.Got, q11.1.Now.Wide, q11.1.Now.High, q11.1.Now.Dots, q11.1.Ref.Wide, q11.1.Ref.High, q11.1.Ref.Dots, (v5.2.2.2.2.2.2.2.2.2.2.2.2.2.2.2.2.2.2.1 ++ ([q11.2.2])), (v5.2.2.2.2.2.2.2.2.2.2.2.2.2.2.2.2.2.2.2.1 ++ ([q11.2.1])), q11.1.Seq.Cols, q11.1.Seq.Rows)) (
 some (q11.1.HasSeq, q11.1.HasPar, q11.1.HasRef, q11.1.Seq.Level, q11.1.Seq.Bits, q11.1.Par.Qp, q11.1.Par.Large, q11.1.Par.Exact, q11.1.Par.Confined, q11.1.Frame, q11.1.Got, q11.1.Now.Wide, q11.1.Now.High, q11.1.Now.Dots, q11.1.Ref.Wide, q11.1.Ref.High, q11.1.Ref.Dots, v5.2.2.2.2.2.2.2.2.2.2.2.2.2.2.2.2.2.2.1, (v5.2.2.2.2.2.2.2.2.2.2.2.2.2.2.2.2.2.2.2.1 ++ ([q11.2.1])), q11.1.Seq.Cols, q11.1.Seq.Rows))) fun v10 =>
 some (.go (Xaa .i64 (v5.1 + 1), v10.1, v10.2.1, v10.2.2.1, v10.2.2.2.1, v10.2.2.2.2.1, v10.2.2.2.2.2.1, v10.2.2.2.2.2.2.1, v10.2.2.2.2.2.2.2.1, v10.2.2.2.2.2.2.2.2.1, v10.2.2.2.2.2.2.2.2.2.1, v10.2.2.2.2.2.2.2.2.2.2.1, v10.2.2.2.2.2.2.2.2.2.2.2.1, v10.2.2.2.2.2.2.2.2.2.2.2.2.1, v10.2.2.2.2.2.2.2.2.2.2.2.2.2.1, v10.2.2.2.2.2.2.2.2.2.2.2.2.2.2.1, v10.2.2.2.2.2.2.2.2.2.2.2.2.2.2.2.1, v10.2.2.2.2.2.2.2.2.2.2.2.2.2.2.2.2.1, v10.2.2.2.2.2.2.2.2.2.2.2.2.2.2.2.2.2.1, v10.2.2.2.2.2.2.2.2.2.2.2.2.2.2.2.2.2.2.1, v10.2.2.2.2.2.2.2.2.2.2.2.2.2.2.2.2.2.2.2.1, v10.2.2.2.2.2.2.2.2.2.2.2.2.2.2.2.2.2.2.2.2))) (
 some (.done (v5.2.1, v5.2.2.1, v5.2.2.2.1, v5.2.2.2.2.1, v5.2.2.2.2.2.1, v5.2.2.2.2.2.2.1, v5.2.2.2.2.2.2.2.1, v5.2.2.2.2.2.2.2.2.1, v5.2.2.2.2.2.2.2.2.2.1, v5.2.2.2.2.2.2.2.2.2.2.1, v5.2.2.2.2.2.2.2.2.2.2.2.1, v5.2.2.2.2.2.2.2.2.2.2.2.2.1, v5.2.2.2.2.2.2.2.2.2.2.2.2.2.1, v5.2.2.2.2.2.2.2.2.2.2.2.2.2.2.1, v5.2.2.2.2.2.2.2.2.2.2.2.2.2.2.2.1, v5.2.2.2.2.2.2.2.2.2.2.2.2.2.2.2.2.1, v5.2.2.2.2.2.2.2.2.2.2.2.2.2.2.2.2.2.1, v5.2.2.2.2.2.2.2.2.2.2.2.2.2.2.2.2.2.2.1, v5.2.2.2.2.2.2.2.2.2.2.2.2.2.2.2.2.2.2.2.1, v5.2.2.2.2.2.2.2.2.2.2.2.2.2.2.2.2.2.2.2.2.1, v5.2.2.2.2.2.2.2.2.2.2.2.2.2.2.2.2.2.2.2.2.2)))
def Xh9 (p0 : Xak) (p1 : (List ByteArray)) : Option (Xak × (List Pic) × (List Int)) :=
 bnd (Xim p0.Seq) fun q1 =>
 sel (decide ((p1.length : Int) > 400)) (
 some ((⟨p0.HasSeq, p0.HasPar, p0.HasRef, q1, p0.Par, p0.Frame, p0.Got, p0.Now, p0.Ref⟩ : Xak), ([] : List Pic), ([] : List Int))) (
 bnd (loop (Xc3 p1) (0, p0.HasSeq, p0.HasPar, p0.HasRef, q1.Level, q1.Bits, p0.Par.Qp, p0.Par.Large, p0.Par.Exact, p0.Par.Confined, p0.Frame, p0.Got, p0.Now.Wide, p0.Now.High, p0.Now.Dots, p0.Ref.Wide, p0.Ref.High, p0.Ref.Dots, ([] : List Pic), ([] : List Int), q1.Cols, q1.Rows)) fun v9 =>
 some ((⟨v9.1, v9.2.1, v9.2.2.1, (⟨v9.2.2.2.1, v9.2.2.2.2.1, v9.2.2.2.2.2.2.2.2.2.2.2.2.2.2.2.2.2.2.2.1, v9.2.2.2.2.2.2.2.2.2.2.2.2.2.2.2.2.2.2.2.2⟩ : Seq), (⟨v9.2.2.2.2.2.1, v9.2.2.2.2.2.2.1, v9.2.2.2.2.2.2.2.1, v9.2.2.2.2.2.2.2.2.1⟩ : Par), v9.2.2.2.2.2.2.2.2.2.1, v9.2.2.2.2.2.2.2.2.2.2.1, (⟨v9.2.2.2.2.2.2.2.2.2.2.2.1, v9.2.2.2.2.2.2.2.2.2.2.2.2.1, v9.2.2.2.2.2.2.2.2.2.2.2.2.2.1⟩ : Pic), (⟨v9.2.2.2.2.2.2.2.2.2.2.2.2.2.2.1, v9.2.2.2.2.2.2.2.2.2.2.2.2.2.2.2.1, v9.2.2.2.2.2.2.2.2.2.2.2.2.2.2.2.2.1⟩ : Pic)⟩ : Xak), v9.2.2.2.2.2.2.2.2.2.2.2.2.2.2.2.2.2.1, v9.2.2.2.2.2.2.2.2.2.2.2.2.2.2.2.2.2.2.1))
def Yf6 (p0 : (List Int)) : Option Bool :=
 some (decide ((p0.length : Int) > 1048576))
def Xm1 (p0 : (List Int)) (v3 : (Int × Int)) : Option (Lp (Int × Int) Int) :=
 bnd (
 sel (decide (v3.2 < (p0.length : Int))) (
 some (decide (v3.2 < 4000))) (
 some false)) fun v7 =>
 sel v7 (
 req (0 ≤ v3.2 ∧ v3.2 < p0.length) <|
 some (.go ((IntKind.wrap .i64 (BitVec.ofInt (IntKind.bits .i64) (Xaa .i64 ((Xaa .i64 ((Xaa .i64 (v3.1 * 131)) + (Xaa .i64 ((p0.getD v3.2.toNat 0))))) + 7)) &&& BitVec.ofInt (IntKind.bits .i64) 1073741823).toNat), Xaa .i64 (v3.2 + 1)))) (
 some (.done v3.1))
def Xmm (p0 : (List Int)) : Option Xa7 :=
 bnd (loop (Xm1 p0) (Xaa .i64 (94701 + (p0.length : Int)), 0)) fun v6 =>
 some (⟨p0, 0, v6⟩ : Xa7)
def Xek (p0 : Xa7) : Option (Int × Xa7) :=
 req (0 ≤ (33 : Int)) <|
 req (0 ≤ (45 : Int)) <|
 bnd (
 sel (decide (p0.i_ < (p0.b_.length : Int))) (
 req (0 ≤ p0.i_ ∧ p0.i_ < p0.b_.length) <|
 some ((IntKind.wrap .i64 (BitVec.ofInt (IntKind.bits .i64) (Xaa .i64 ((IntKind.wrap .i64 (BitVec.ofInt (IntKind.bits .i64) (IntKind.wrap .i64 (BitVec.ofInt (IntKind.bits .i64) ((Xaa .i64 ((Xaa .i64 (p0.h_ * 6364136223846793005)) + 1442695040888963407)) / 2 ^ min (33 : Int).toNat (IntKind.bits .i64)) ^^^ BitVec.ofInt (IntKind.bits .i64) ((Xaa .i64 ((Xaa .i64 (p0.h_ * 6364136223846793005)) + 1442695040888963407)) / 2 ^ min (45 : Int).toNat (IntKind.bits .i64))).toNat) &&& BitVec.ofInt (IntKind.bits .i64) 255).toNat) + (Xaa .i64 ((p0.b_.getD p0.i_.toNat 0))))) &&& BitVec.ofInt (IntKind.bits .i64) 255).toNat), Xaa .i64 (p0.i_ + 1))) (
 some ((IntKind.wrap .i64 (BitVec.ofInt (IntKind.bits .i64) (IntKind.wrap .i64 (BitVec.ofInt (IntKind.bits .i64) ((Xaa .i64 ((Xaa .i64 (p0.h_ * 6364136223846793005)) + 1442695040888963407)) / 2 ^ min (33 : Int).toNat (IntKind.bits .i64)) ^^^ BitVec.ofInt (IntKind.bits .i64) ((Xaa .i64 ((Xaa .i64 (p0.h_ * 6364136223846793005)) + 1442695040888963407)) / 2 ^ min (45 : Int).toNat (IntKind.bits .i64))).toNat) &&& BitVec.ofInt (IntKind.bits .i64) 255).toNat), p0.i_))) fun v1 =>
 some (v1.1, (⟨p0.b_, v1.2, Xaa .i64 ((Xaa .i64 (p0.h_ * 6364136223846793005)) + 1442695040888963407)⟩ : Xa7))
def Xay (p0 : Xa7) (p1 : Int) : Option (Int × Xa7) :=
 sel (decide (p1 ≤ 0)) (
 some (0, p0)) (
 sel (decide (p1 ≤ 256)) (
 bnd (Xek p0) fun q1 =>
 req (p1 ≠ 0) <|
 some ((q1.1.tmod p1), q1.2)) (
 bnd (Xek p0) fun q2 =>
 bnd (Xek q2.2) fun q3 =>
 bnd (Xek q3.2) fun q4 =>
 bnd (Xek q4.2) fun q5 =>
 req (p1 ≠ 0) <|
 some (((Xaa .i64 ((Xaa .i64 ((Xaa .i64 ((Xaa .i64 (q2.1 * 16777216)) + (Xaa .i64 (q3.1 * 65536)))) + (Xaa .i64 (q4.1 * 256)))) + q5.1)).tmod p1), q5.2)))
def Xbt (p0 : Xa7) (p1 : Int) : Option (Bool × Xa7) :=
 bnd (Xay p0 p1) fun q1 =>
 some ((q1.1 == 0), q1.2)
def Xha (p0 : Xa7) : Option (Par × Xa7) :=
 bnd (Xay p0 41) fun q1 =>
 bnd (Xbt q1.2 4) fun q2 =>
 bnd (
 bnd (Xay q2.2 3) fun q4 =>
 sel (q4.1 == 0) (
 some (true, false, q4.2.b_, q4.2.i_, q4.2.h_)) (
 sel (q4.1 == 1) (
 some (false, true, q4.2.b_, q4.2.i_, q4.2.h_)) (
 some (false, false, q4.2.b_, q4.2.i_, q4.2.h_)))) fun v3 =>
 some ((⟨q1.1, v3.1, v3.2.1, (!q2.1)⟩ : Par), (⟨v3.2.2.1, v3.2.2.2.1, v3.2.2.2.2⟩ : Xa7))
def Xjg (v2 : (Int × ByteArray)) : Option (Lp (Int × ByteArray) ByteArray) :=
 sel (decide (v2.1 > 0)) (
 req ((2 : Int) ≠ 0) <|
 req ((strOfNums ([Xaa .u8 (Xaa .i64 (48 + (v2.1.tmod 2)))])).size + v2.2.size ≤ 9223372036854775807) <|
 req ((2 : Int) ≠ 0) <|
 some (.go (Xaa .i64 (v2.1.tdiv 2), ((strOfNums ([Xaa .u8 (Xaa .i64 (48 + (v2.1.tmod 2)))])) ++ v2.2)))) (
 some (.done v2.2))
def Xd6 (p0 : Int) : Option ByteArray :=
 bnd (loop (Xjg) (Xaa .i64 (p0 + 1), ⟨#[]⟩)) fun v4 =>
 bnd (Xkx (Xaa .i64 ((v4.size : Int) - 1)) 48) fun q6 =>
 req (q6.size + v4.size ≤ 9223372036854775807) <|
 some (q6 ++ v4)
def Xin (p0 : (List Int)) (v4 : (ByteArray × Int)) : Option (Lp (ByteArray × Int) ByteArray) :=
 sel (decide (v4.2 < (p0.length : Int))) (
 req (0 ≤ v4.2 ∧ v4.2 < p0.length) <|
 bnd (Xd6 (p0.getD v4.2.toNat 0)) fun q8 =>
 req (v4.1.size + q8.size ≤ 9223372036854775807) <|
 some (.go ((v4.1 ++ q8), Xaa .i64 (v4.2 + 1)))) (
 some (.done v4.1))
def Xk0 (p0 : (List Int)) : Option ByteArray :=
 bnd (Xd6 (p0.length : Int)) fun q1 =>
 bnd (loop (Xin p0) (q1, 0)) fun v7 =>
 some v7
def Xpd (p0 : Seq) : Option ByteArray :=
 bnd (Xd6 p0.Level) fun q1 =>
 bnd (Xik p0.Bits 4) fun q2 =>
 req (q1.size + q2.size ≤ 9223372036854775807) <|
 bnd (Xk0 p0.Cols) fun q3 =>
 req ((q1 ++ q2).size + q3.size ≤ 9223372036854775807) <|
 bnd (Xk0 p0.Rows) fun q4 =>
 req (((q1 ++ q2) ++ q3).size + q4.size ≤ 9223372036854775807) <|
 some (((q1 ++ q2) ++ q3) ++ q4)
def Xg9 (v2 : (List Int)) : Option (Lp (List Int) (List Int)) :=
 req ((8 : Int) ≠ 0) <|
 sel (((v2.length : Int).tmod 8) != 0) (
 req ((v2.length + ([48]).length) * 1 ≤ 140737488355328 ∧ v2.length + ([48]).length ≤ maxLen) <|
 some (.go (v2 ++ ([48])))) (
 some (.done v2))
def Xeq (v4 : (List Int)) (v12 : (Int × (List Int))) (v21 : (Int × Int)) : Option (Lp (Int × Int) Int) :=
 sel (decide (v21.2 < 8)) (
 req (0 ≤ (Xaa .i64 (v12.1 + v21.2)) ∧ (Xaa .i64 (v12.1 + v21.2)) < v4.length) <|
 req ((Xaa .i64 (v12.1 + v21.2)).toNat < v4.length) <|
 some (.go (Xaa .i64 ((Xaa .i64 ((Xaa .i64 (2 * v21.1)) + (Xaa .i64 ((v4.getD ((Xaa .i64 (v12.1 + v21.2)).toNat) 0))))) - 48), Xaa .i64 (v21.2 + 1)))) (
 some (.done v21.1))
def Xge (v4 : (List Int)) (v12 : (Int × (List Int))) : Option (Lp (Int × (List Int)) (List Int)) :=
 sel (decide (v12.1 < (v4.length : Int))) (
 bnd (loop (Xeq v4 v12) (0, 0)) fun v23 =>
 req ((v12.2.length + ([Xaa .u8 (v23)]).length) * 1 ≤ 140737488355328 ∧ v12.2.length + ([Xaa .u8 (v23)]).length ≤ maxLen) <|
 some (.go (Xaa .i64 (v12.1 + 8), (v12.2 ++ ([Xaa .u8 (v23)]))))) (
 some (.done v12.2))
def Xlw (p0 : ByteArray) : Option ByteArray :=
 req (p0.size ≤ maxLen) <|
 req (((Xa0 p0).length + ([49]).length) * 1 ≤ 140737488355328 ∧ (Xa0 p0).length + ([49]).length ≤ maxLen) <|
 bnd (loop (Xg9) ((Xa0 p0) ++ ([49]))) fun v4 =>
 bnd (loop (Xge v4) (0, ([] : List Int))) fun v19 =>
 some (strOfNums v19)
def Xkk (p0 : Int) (p1 : ByteArray) : Option (ByteArray × Bool) :=
 bnd (
 bnd (Xk1 p0) fun q2 =>
 sel q2 (
 bnd (Xhh p1) fun q3 =>
 some (!q3)) (
 some true)) fun v1 =>
 sel v1 (
 some (⟨#[]⟩, false)) (
 bnd (Xlw p1) fun q4 =>
 req ((strOfNums ([Xaa .u8 (p0)])).size + q4.size ≤ 9223372036854775807) <|
 some (((strOfNums ([Xaa .u8 (p0)])) ++ q4), true))
def Xkz (p0 : Bool) : Option ByteArray :=
 sel p0 (
 some ⟨#[49]⟩) (
 some ⟨#[48]⟩)
def Xpb (p0 : Par) : Option ByteArray :=
 bnd (Xik p0.Qp 6) fun q1 =>
 bnd (Xkz p0.Large) fun q2 =>
 req (q1.size + q2.size ≤ 9223372036854775807) <|
 bnd (Xkz p0.Exact) fun q3 =>
 req ((q1 ++ q2).size + q3.size ≤ 9223372036854775807) <|
 bnd (Xkz p0.Confined) fun q4 =>
 req (((q1 ++ q2) ++ q3).size + q4.size ≤ 9223372036854775807) <|
 some (((q1 ++ q2) ++ q3) ++ q4)
def Xo2 (p0 : Int) : Option (Int × Bool) :=
 bnd (Xaw p0 (-500000) 500000) fun q1 =>
 sel (!q1) (
 some (0, false)) (
 sel (decide (p0 > 0)) (
 some (Xaa .i64 ((Xaa .i64 (2 * p0)) - 1), true)) (
 some (Xaa .i64 ((-2) * p0), true)))
def Xky (p0 : Int) : Option ByteArray :=
 bnd (Xo2 p0) fun q1 =>
 bnd (Xd6 q1.1) fun q2 =>
 some q2
def Xno (p0 : Seq) (p1 : Par) (p2 : Xq8) : Option (ByteArray × Bool) :=
 bnd (Xmj p0 p1 p2) fun q1 =>
 sel (!q1) (
 some (⟨#[]⟩, false)) (
 bnd (Xd6 p2.Tile) fun q2 =>
 bnd (Xik p2.Frame p0.Bits) fun q3 =>
 req (q2.size + q3.size ≤ 9223372036854775807) <|
 bnd (Xky (Xaa .i64 (p2.Qp - p1.Qp))) fun q4 =>
 req ((q2 ++ q3).size + q4.size ≤ 9223372036854775807) <|
 some (((q2 ++ q3) ++ q4), true))
def Xjh (p1 : Int) (v11 : (Int × (List Int) × Int × Int × (List Int))) : Option (Lp (Int × (List Int) × Int × Int × (List Int)) ((List Int) × (List Int) × Int × Int)) :=
 bnd (
 bnd (Xay (⟨v11.2.1, v11.2.2.1, v11.2.2.2.1⟩ : Xa7) 7) fun q24 =>
 sel (decide (v11.1 < q24.1)) (
 some ((decide (p1 > 0)), q24.2.b_, q24.2.i_, q24.2.h_)) (
 some (false, q24.2.b_, q24.2.i_, q24.2.h_))) fun v23 =>
 sel v23.1 (
 bnd (
 bnd (Xay (⟨v23.2.1, v23.2.2.1, v23.2.2.2⟩ : Xa7) p1) fun q26 =>
 bnd (
 bnd (Xbt q26.2 2) fun q28 =>
 sel q28.1 (
 req ((5 : Int) ≠ 0) <|
 some ((q26.1.tmod 5), q28.2.b_, q28.2.i_, q28.2.h_)) (
 some (q26.1, q28.2.b_, q28.2.i_, q28.2.h_))) fun v27 =>
 bnd (Xay (⟨v27.2.1, v27.2.2.1, v27.2.2.2⟩ : Xa7) 21) fun q29 =>
 req (0 ≤ v27.1 ∧ v27.1 < v11.2.2.2.2.length) <|
 req (v27.1.toNat < v11.2.2.2.2.length) <|
 bnd (Xbt q29.2 6) fun q30 =>
 sel q30.1 (
 bnd (Xay q30.2 10001) fun q31 =>
 req (0 ≤ v27.1 ∧ v27.1 < (v11.2.2.2.2.set v27.1.toNat (Xaa .i64 (q29.1 - 10))).length) <|
 req (v27.1.toNat < (v11.2.2.2.2.set v27.1.toNat (Xaa .i64 (q29.1 - 10))).length) <|
 some (q31.2.b_, q31.2.i_, q31.2.h_, ((v11.2.2.2.2.set v27.1.toNat (Xaa .i64 (q29.1 - 10))).set v27.1.toNat (Xaa .i64 (q31.1 - 5000))))) (
 some (q30.2.b_, q30.2.i_, q30.2.h_, (v11.2.2.2.2.set v27.1.toNat (Xaa .i64 (q29.1 - 10)))))) fun v25 =>
 some (.go (Xaa .i64 (v11.1 + 1), v25.1, v25.2.1, v25.2.2.1, v25.2.2.2))) (
 some (.done (v11.2.2.2.2, v23.2.1, v23.2.2.1, v23.2.2.2)))
def Xhk (p0 : Xa7) (p1 : Int) : Option ((List Int) × Xa7) :=
 req (0 ≤ p1 ∧ p1 ≤ p1 ∧ p1 * 8 ≤ 281474976710656) <|
 bnd (loop (Xjh p1) (0, p0.b_, p0.i_, p0.h_, (List.replicate p1.toNat (0 : Int)))) fun v22 =>
 some (v22.1, (⟨v22.2.1, v22.2.2.1, v22.2.2.2⟩ : Xa7))
def Xj3 (p0 : Xa7) (p1 : Xf0) : Option (Xar × Xa7) :=
 bnd (
 sel p1.Key (
 some (false, p0.b_, p0.i_, p0.h_)) (
 bnd (Xbt p0 4) fun q2 =>
 some (q2.1, q2.2.b_, q2.2.i_, q2.2.h_))) fun v1 =>
 sel v1.1 (
 some ((⟨0, 0, 0, 0, []⟩ : Xar), (⟨v1.2.1, v1.2.2.1, v1.2.2.2⟩ : Xa7))) (
 bnd (
 sel p1.Key (
 some (false, v1.2.1, v1.2.2.1, v1.2.2.2)) (
 bnd (Xbt (⟨v1.2.1, v1.2.2.1, v1.2.2.2⟩ : Xa7) 2) fun q4 =>
 some (q4.1, q4.2.b_, q4.2.i_, q4.2.h_))) fun v3 =>
 sel v3.1 (
 bnd (Xay (⟨v3.2.1, v3.2.2.1, v3.2.2.2⟩ : Xa7) 7) fun q5 =>
 bnd (Xay q5.2 7) fun q6 =>
 bnd (Xhk q6.2 64) fun q7 =>
 bnd (
 bnd (Xbt q7.2 6) fun q9 =>
 sel q9.1 (
 bnd (Xay q9.2 33) fun q10 =>
 some (Xaa .i64 (q10.1 - 16), q10.2.b_, q10.2.i_, q10.2.h_)) (
 some (Xaa .i64 (q5.1 - 3), q9.2.b_, q9.2.i_, q9.2.h_))) fun v8 =>
 some ((⟨1, 0, v8.1, Xaa .i64 (q6.1 - 3), q7.1⟩ : Xar), (⟨v8.2.1, v8.2.2.1, v8.2.2.2⟩ : Xa7))) (
 bnd (Xay (⟨v3.2.1, v3.2.2.1, v3.2.2.2⟩ : Xa7) 4) fun q11 =>
 bnd (Xhk q11.2 64) fun q12 =>
 some ((⟨2, q11.1, 0, 0, q12.1⟩ : Xar), q12.2)))
def Xhr (p1 : Int) (p2 : Xf0) (v3 : (Int × (List Int) × Int × Int × (List Xar))) : Option (Lp (Int × (List Int) × Int × Int × (List Xar)) ((List Xar) × (List Int) × Int × Int)) :=
 sel (decide (v3.1 < p1)) (
 bnd (Xj3 (⟨v3.2.1, v3.2.2.1, v3.2.2.2.1⟩ : Xa7) p2) fun q7 =>
 req ((v3.2.2.2.2.length + ([q7.1]).length) * 56 ≤ 140737488355328 ∧ v3.2.2.2.2.length + ([q7.1]).length ≤ maxLen) <|
 some (.go (Xaa .i64 (v3.1 + 1), q7.2.b_, q7.2.i_, q7.2.h_, (v3.2.2.2.2 ++ ([q7.1]))))) (
 some (.done (v3.2.2.2.2, v3.2.1, v3.2.2.1, v3.2.2.2.1)))
def Xiw (p0 : Xa7) (p1 : Int) (p2 : Xf0) : Option ((List Xar) × Xa7) :=
 bnd (loop (Xhr p1 p2) (0, p0.b_, p0.i_, p0.h_, ([] : List Xar))) fun v6 =>
 some (v6.1, (⟨v6.2.1, v6.2.2.1, v6.2.2.2⟩ : Xa7))
def Xgh (p0 : (List Int)) (v5 : (Int × Int × ByteArray × Int)) : Option (Lp (Int × Int × ByteArray × Int) (Int × ByteArray)) :=
 sel (decide (v5.2.2.2 < (p0.length : Int))) (
 bnd (
 req (0 ≤ v5.2.2.2 ∧ v5.2.2.2 < p0.length) <|
 sel ((p0.getD v5.2.2.2.toNat 0) == 0) (
 some (v5.1, Xaa .i64 (v5.2.1 + 1), v5.2.2.1)) (
 bnd (Xd6 v5.2.1) fun q12 =>
 req (v5.2.2.1.size + q12.size ≤ 9223372036854775807) <|
 req (0 ≤ v5.2.2.2 ∧ v5.2.2.2 < p0.length) <|
 bnd (Xky (p0.getD v5.2.2.2.toNat 0)) fun q13 =>
 req ((v5.2.2.1 ++ q12).size + q13.size ≤ 9223372036854775807) <|
 some (Xaa .i64 (v5.1 + 1), 0, ((v5.2.2.1 ++ q12) ++ q13)))) fun v11 =>
 some (.go (v11.1, v11.2.1, v11.2.2, Xaa .i64 (v5.2.2.2 + 1)))) (
 some (.done (v5.1, v5.2.2.1)))
def Xfo (p0 : (List Int)) : Option ByteArray :=
 bnd (loop (Xgh p0) (0, 0, ⟨#[]⟩, 0)) fun v10 =>
 bnd (Xd6 v10.1) fun q15 =>
 req (q15.size + v10.2.size ≤ 9223372036854775807) <|
 some (q15 ++ v10.2)
def Xmp (p0 : (List Int)) (p1 : Xf0) : Option ByteArray :=
 bnd (
 sel p1.Large (
 some true) (
 some p1.Exact)) fun v1 =>
 sel v1 (
 bnd (Xfo p0) fun q2 =>
 some q2) (
 req (0 ≤ (0 : Int) ∧ (0 : Int) ≤ (16 : Int) ∧ (16 : Int) ≤ (p0.length : Int)) <|
 bnd (Xfo ((p0.drop (0 : Int).toNat).take ((16 : Int).toNat - (0 : Int).toNat))) fun q3 =>
 req (0 ≤ (16 : Int) ∧ (16 : Int) ≤ (32 : Int) ∧ (32 : Int) ≤ (p0.length : Int)) <|
 bnd (Xfo ((p0.drop (16 : Int).toNat).take ((32 : Int).toNat - (16 : Int).toNat))) fun q4 =>
 req (q3.size + q4.size ≤ 9223372036854775807) <|
 req (0 ≤ (32 : Int) ∧ (32 : Int) ≤ (48 : Int) ∧ (48 : Int) ≤ (p0.length : Int)) <|
 bnd (Xfo ((p0.drop (32 : Int).toNat).take ((48 : Int).toNat - (32 : Int).toNat))) fun q5 =>
 req ((q3 ++ q4).size + q5.size ≤ 9223372036854775807) <|
 req (0 ≤ (48 : Int) ∧ (48 : Int) ≤ (p0.length : Int) ∧ (p0.length : Int) ≤ (p0.length : Int)) <|
 bnd (Xfo ((p0.drop (48 : Int).toNat).take ((p0.length : Int).toNat - (48 : Int).toNat))) fun q6 =>
 req (((q3 ++ q4) ++ q5).size + q6.size ≤ 9223372036854775807) <|
 some (((q3 ++ q4) ++ q5) ++ q6))
def Xpe (p0 : Xar) (p1 : Xf0) : Option ByteArray :=
 bnd (
 sel (!p1.Key) (
 bnd (Xd6 p0.Kind) fun q2 =>
 some q2) (
 some ⟨#[]⟩)) fun v1 =>
 sel (p0.Kind == 1) (
 bnd (Xky p0.Dx) fun q3 =>
 req (v1.size + q3.size ≤ 9223372036854775807) <|
 bnd (Xky p0.Dy) fun q4 =>
 req ((v1 ++ q3).size + q4.size ≤ 9223372036854775807) <|
 bnd (Xmp p0.Levels p1) fun q5 =>
 req (((v1 ++ q3) ++ q4).size + q5.size ≤ 9223372036854775807) <|
 some (((v1 ++ q3) ++ q4) ++ q5)) (
 sel (p0.Kind == 2) (
 bnd (Xd6 p0.Mode) fun q6 =>
 req (v1.size + q6.size ≤ 9223372036854775807) <|
 bnd (Xmp p0.Levels p1) fun q7 =>
 req ((v1 ++ q6).size + q7.size ≤ 9223372036854775807) <|
 some ((v1 ++ q6) ++ q7)) (
 some v1))
def Xj4 (p0 : (List Xar)) (p1 : Xf0) (v3 : (Int × (List Int))) : Option (Lp (Int × (List Int)) (List Int)) :=
 sel (decide (v3.1 < (p0.length : Int))) (
 req (0 ≤ v3.1 ∧ v3.1 < p0.length) <|
 bnd (Xpe (⟨(p0.getD v3.1.toNat Xbx).Kind, (p0.getD v3.1.toNat Xbx).Mode, (p0.getD v3.1.toNat Xbx).Dx, (p0.getD v3.1.toNat Xbx).Dy, (p0.getD v3.1.toNat Xbx).Levels⟩ : Xar) p1) fun q7 =>
 req ((v3.2.length + (Xa0 q7).length) * 1 ≤ 140737488355328 ∧ v3.2.length + (Xa0 q7).length ≤ maxLen) <|
 some (.go (Xaa .i64 (v3.1 + 1), (v3.2 ++ (Xa0 q7))))) (
 some (.done v3.2))
def Xpf (p0 : (List Xar)) (p1 : Xf0) : Option ByteArray :=
 bnd (loop (Xj4 p0 p1) (0, ([] : List Int))) fun v6 =>
 some (strOfNums v6)
def Xf1 (p1 : Seq) (p2 : Par) (p3 : Int) (p5 : Bool) (v13 : (Int × (List Int) × Int × Int × (List ByteArray))) : Option (Lp (Int × (List Int) × Int × Int × (List ByteArray)) ((List ByteArray) × (List Int) × Int × Int)) :=
 bnd (Xfm p1) fun q27 =>
 sel (decide (v13.1 < q27)) (
 bnd (
 sel p5 (
 bnd (Xay (⟨v13.2.1, v13.2.2.1, v13.2.2.2.1⟩ : Xa7) 41) fun q29 =>
 some (q29.2.b_, q29.2.i_, q29.2.h_, true, q29.1)) (
 bnd (Xbt (⟨v13.2.1, v13.2.2.1, v13.2.2.2.1⟩ : Xa7) 4) fun q30 =>
 bnd (Xay q30.2 41) fun q31 =>
 some (q31.2.b_, q31.2.i_, q31.2.h_, q30.1, q31.1))) fun v28 =>
 bnd (Xno p1 p2 (⟨v13.1, p3, v28.2.2.2.2⟩ : Xq8)) fun q32 =>
 bnd (
 sel v28.2.2.2.1 (
 some 5) (
 some 1)) fun v33 =>
 bnd (Xb2 p1 v13.1) fun q34 =>
 bnd (Xiw (⟨v28.1, v28.2.1, v28.2.2.1⟩ : Xa7) q34 (⟨v28.2.2.2.1, v28.2.2.2.2, p2.Large, p2.Exact⟩ : Xf0)) fun q35 =>
 bnd (Xpf q35.1 (⟨v28.2.2.2.1, v28.2.2.2.2, p2.Large, p2.Exact⟩ : Xf0)) fun q36 =>
 req (q32.1.size + q36.size ≤ 9223372036854775807) <|
 bnd (Xkk v33 (q32.1 ++ q36)) fun q37 =>
 req ((v13.2.2.2.2.length + ([q37.1]).length) * 16 ≤ 140737488355328 ∧ v13.2.2.2.2.length + ([q37.1]).length ≤ maxLen) <|
 some (.go (Xaa .i64 (v13.1 + 1), q35.2.b_, q35.2.i_, q35.2.h_, (v13.2.2.2.2 ++ ([q37.1]))))) (
 some (.done (v13.2.2.2.2, v13.2.1, v13.2.2.1, v13.2.2.2.1)))
def Xgi (p0 : Xa7) (p1 : Seq) (p2 : Par) (p3 : Int) (p4 : Int) (p5 : Bool) : Option ((List ByteArray) × Xa7 × Seq) :=
 bnd (loop (Xf1 p1 p2 p3 p5) (p4, p0.b_, p0.i_, p0.h_, ([] : List ByteArray))) fun v26 =>
 some (v26.1, (⟨v26.2.1, v26.2.2.1, v26.2.2.2⟩ : Xa7), p1)
def Xhb (q6 : (Par × Xa7)) (v16 : (Int × Int × (List Int) × Int × Int × (List ByteArray) × (List Int) × (List Int))) : Option (Lp (Int × Int × (List Int) × Int × Int × (List ByteArray) × (List Int) × (List Int)) ((List ByteArray) × (List Int) × Int × Int)) :=
 bnd (Xay (⟨v16.2.2.1, v16.2.2.2.1, v16.2.2.2.2.1⟩ : Xa7) 3) fun q22 =>
 sel (decide (v16.2.1 < (Xaa .i64 (1 + q22.1)))) (
 bnd (Xgi q22.2 (⟨3, 3, v16.2.2.2.2.2.2.1, v16.2.2.2.2.2.2.2⟩ : Seq) q6.1 v16.1 0 (v16.2.1 == 0)) fun q24 =>
 req ((v16.2.2.2.2.2.1.length + q24.1.length) * 16 ≤ 140737488355328 ∧ v16.2.2.2.2.2.1.length + q24.1.length ≤ maxLen) <|
 req ((8 : Int) ≠ 0) <|
 some (.go (((Xaa .i64 (v16.1 + 1)).tmod 8), Xaa .i64 (v16.2.1 + 1), q24.2.1.b_, q24.2.1.i_, q24.2.1.h_, (v16.2.2.2.2.2.1 ++ q24.1), q24.2.2.Cols, q24.2.2.Rows))) (
 some (.done (v16.2.2.2.2.2.1, q22.2.b_, q22.2.i_, q22.2.h_)))
def Xl1 (p0 : Xa7) : Option ((List ByteArray) × Xa7) :=
 bnd (
 bnd (Xbt p0 2) fun q2 =>
 sel q2.1 (
 bnd (Xay q2.2 2) fun q3 =>
 some (q3.2.b_, q3.2.i_, q3.2.h_, [1, Xaa .i64 (1 + q3.1)])) (
 some (q2.2.b_, q2.2.i_, q2.2.h_, [1]))) fun v1 =>
 bnd (
 bnd (Xbt (⟨v1.1, v1.2.1, v1.2.2.1⟩ : Xa7) 3) fun q5 =>
 sel q5.1 (
 some (q5.2.b_, q5.2.i_, q5.2.h_, [1, 1])) (
 some (q5.2.b_, q5.2.i_, q5.2.h_, [1]))) fun v4 =>
 bnd (Xha (⟨v4.1, v4.2.1, v4.2.2.1⟩ : Xa7)) fun q6 =>
 bnd (Xpd (⟨3, 3, v1.2.2.2, v4.2.2.2⟩ : Seq)) fun q7 =>
 bnd (Xkk 7 q7) fun q8 =>
 bnd (Xpb q6.1) fun q9 =>
 bnd (Xkk 8 q9) fun q10 =>
 bnd (Xay q6.2 8) fun q11 =>
 bnd (loop (Xhb q6) (q11.1, 0, q11.2.b_, q11.2.i_, q11.2.h_, [q8.1, q10.1], v1.2.2.2, v4.2.2.2)) fun v21 =>
 some (v21.1, (⟨v21.2.1, v21.2.2.1, v21.2.2.2⟩ : Xa7))
def Xl0 (p0 : Xa7) : Option (Xak × ByteArray × Xa7) :=
 bnd (Xl1 p0) fun q1 =>
 bnd (Xay q1.2 (q1.1.length : Int)) fun q2 =>
 bnd (Xry) fun q3 =>
 req (0 ≤ (0 : Int) ∧ (0 : Int) ≤ q2.1 ∧ q2.1 ≤ (q1.1.length : Int)) <|
 req ((0 : Int).toNat + (q2.1.toNat - (0 : Int).toNat) ≤ q1.1.length) <|
 bnd (Xh9 q3 ((q1.1.drop ((0 : Int).toNat)).take (q2.1.toNat - (0 : Int).toNat))) fun q4 =>
 req (0 ≤ q2.1 ∧ q2.1 < q1.1.length) <|
 req (q2.1.toNat < q1.1.length) <|
 bnd (
 bnd (Xay q2.2 10) fun q6 =>
 sel (q6.1 == 0) (
 bnd (Xay q6.2 (q1.1.length : Int)) fun q7 =>
 req (0 ≤ q7.1 ∧ q7.1 < q1.1.length) <|
 req (q7.1.toNat < q1.1.length) <|
 some ((q1.1.getD q7.1.toNat Xb3), q7.2.b_, q7.2.i_, q7.2.h_)) (
 sel (q6.1 == 1) (
 req ((q1.1.getD q2.1.toNat Xb3).size ≤ maxLen) <|
 bnd (Xay q6.2 ((Xa0 (q1.1.getD q2.1.toNat Xb3)).length : Int)) fun q8 =>
 req (0 ≤ q8.1 ∧ q8.1 < (Xa0 (q1.1.getD q2.1.toNat Xb3)).length) <|
 req (q8.1.toNat < (Xa0 (q1.1.getD q2.1.toNat Xb3)).length) <|
 bnd (Xay q8.2 8) fun q9 =>
 req (0 ≤ (Xaa .u64 (q9.1))) <|
 req (0 ≤ q8.1 ∧ q8.1 < (Xa0 (q1.1.getD q2.1.toNat Xb3)).length) <|
 req (q8.1.toNat < (Xa0 (q1.1.getD q2.1.toNat Xb3)).length) <|
 some ((strOfNums ((Xa0 (q1.1.getD q2.1.toNat Xb3)).set q8.1.toNat (IntKind.wrap .u8 (BitVec.ofInt (IntKind.bits .u8) ((Xa0 (q1.1.getD q2.1.toNat Xb3)).getD q8.1.toNat 0) ^^^ BitVec.ofInt (IntKind.bits .u8) (Xaa .u8 (1 * 2 ^ min (Xaa .u64 (q9.1)).toNat (IntKind.bits .u8)))).toNat))), q9.2.b_, q9.2.i_, q9.2.h_)) (
 some ((q1.1.getD q2.1.toNat Xb3), q6.2.b_, q6.2.i_, q6.2.h_)))) fun v5 =>
 some (q4.1, v5.1, (⟨v5.2.1, v5.2.2.1, v5.2.2.2⟩ : Xa7))
def Xhf (p0 : (List Int)) : Option (Xak × ByteArray) :=
 bnd (Xmm p0) fun q1 =>
 bnd (Xl0 q1) fun q2 =>
 some (q2.1, q2.2.1)
def Xhq (v5 : (Int × (List Int) × Int × Int × (List Int))) : Option (Lp (Int × (List Int) × Int × Int × (List Int)) (List Int)) :=
 sel (decide (v5.1 < 12)) (
 bnd (Xay (⟨v5.2.1, v5.2.2.1, v5.2.2.2.1⟩ : Xa7) 10000) fun q9 =>
 req ((v5.2.2.2.2.length + ([q9.1]).length) * 8 ≤ 140737488355328 ∧ v5.2.2.2.2.length + ([q9.1]).length ≤ maxLen) <|
 some (.go (Xaa .i64 (v5.1 + 1), q9.2.b_, q9.2.i_, q9.2.h_, (v5.2.2.2.2 ++ ([q9.1]))))) (
 some (.done v5.2.2.2.2))
def Xia (p0 : (List Int)) : Option (List Int) :=
 bnd (Xmm p0) fun q1 =>
 bnd (Xek q1) fun q2 =>
 bnd (loop (Xhq) (0, q2.2.b_, q2.2.i_, q2.2.h_, ([] : List Int))) fun v8 =>
 some v8
def Xg7 (p0 : (List Int)) (p1 : (List Int)) (v2 : Int) : Option (Lp Int (Ou Unit Bool)) :=
 sel (decide (v2 < (p0.length : Int))) (
 req (0 ≤ v2 ∧ v2 < p0.length) <|
 req (0 ≤ v2 ∧ v2 < p1.length) <|
 sel ((p0.getD v2.toNat 0) != (p1.getD v2.toNat 0)) (
 some (.done (.ret false))) (
 some (.go (Xaa .i64 (v2 + 1))))) (
 some (.done (.out ())))
def Xi7 (p0 : (List Int)) (p1 : (List Int)) : Option Bool :=
 sel ((p0.length : Int) != (p1.length : Int)) (
 some false) (
 bnd (loop (Xg7 p0 p1) 0) fun o5 => match o5 with
| .out v4 => (
 some true)
| .ret r => some r)
def Xni (p0 : Seq) (p1 : Seq) : Option Bool :=
 bnd (
 sel (p0.Level == p1.Level) (
 sel (p0.Bits == p1.Bits) (
 bnd (Xi7 p0.Cols p1.Cols) fun q2 =>
 sel q2 (
 bnd (Xi7 p0.Rows p1.Rows) fun q3 =>
 some q3) (
 some false)) (
 some false)) (
 some false)) fun v1 =>
 some v1
def Xe4 (p0 : Xak) (p1 : Xak) : Option Bool :=
 bnd (
 sel (p0.HasSeq == p1.HasSeq) (
 sel (p0.HasPar == p1.HasPar) (
 sel (p0.HasRef == p1.HasRef) (
 bnd (Xni p0.Seq p1.Seq) fun q2 =>
 sel q2 (
 sel (((p0.Par.Qp == p1.Par.Qp) && ((p0.Par.Large == p1.Par.Large) && ((p0.Par.Exact == p1.Par.Exact) && (p0.Par.Confined == p1.Par.Confined)))) == true) (
 sel (p0.Frame == p1.Frame) (
 sel (p0.Got == p1.Got) (
 sel (((p0.Now.Wide == p1.Now.Wide) && ((p0.Now.High == p1.Now.High) && (p0.Now.Dots.toList == p1.Now.Dots.toList))) == true) (
 some (((p0.Ref.Wide == p1.Ref.Wide) && ((p0.Ref.High == p1.Ref.High) && (p0.Ref.Dots.toList == p1.Ref.Dots.toList))) == true)) (
 some false)) (
 some false)) (
 some false)) (
 some false)) (
 some false)) (
 some false)) (
 some false)) (
 some false)) fun v1 =>
 some v1
def Xmx (p0 : (List Int)) : Option Bool :=
 bnd (Yf6 p0) fun q1 =>
 sel q1 (
 some true) (
 bnd (Xhf p0) fun q2 =>
 bnd (Xhf p0) fun q3 =>
 bnd (Xia p0) fun q4 =>
 req (q2.2.size ≤ maxLen) <|
 bnd (
 sel (decide (((Xa0 q2.2).length : Int) > 0)) (
 req (0 ≤ (0 : Int) ∧ (0 : Int) < q4.length) <|
 req ((0 : Int).toNat < q4.length) <|
 req (((Xa0 q2.2).length : Int) ≠ 0) <|
 req (0 ≤ (0 : Int) ∧ (0 : Int) < q4.length) <|
 req ((0 : Int).toNat < q4.length) <|
 req (((Xa0 q2.2).length : Int) ≠ 0) <|
 req (0 ≤ ((q4.getD ((0 : Int).toNat) 0).tmod ((Xa0 q2.2).length : Int)) ∧ ((q4.getD ((0 : Int).toNat) 0).tmod ((Xa0 q2.2).length : Int)) < (Xa0 q2.2).length) <|
 req (((q4.getD ((0 : Int).toNat) 0).tmod ((Xa0 q2.2).length : Int)).toNat < (Xa0 q2.2).length) <|
 req (0 ≤ (1 : Int) ∧ (1 : Int) < q4.length) <|
 req ((1 : Int).toNat < q4.length) <|
 req ((255 : Int) ≠ 0) <|
 req (0 ≤ ((q4.getD ((0 : Int).toNat) 0).tmod ((Xa0 q2.2).length : Int)) ∧ ((q4.getD ((0 : Int).toNat) 0).tmod ((Xa0 q2.2).length : Int)) < (Xa0 q2.2).length) <|
 req (((q4.getD ((0 : Int).toNat) 0).tmod ((Xa0 q2.2).length : Int)).toNat < (Xa0 q2.2).length) <|
 some ((Xa0 q2.2).set (((q4.getD ((0 : Int).toNat) 0).tmod ((Xa0 q2.2).length : Int)).toNat) (IntKind.wrap .u8 (BitVec.ofInt (IntKind.bits .u8) ((Xa0 q2.2).getD (((q4.getD ((0 : Int).toNat) 0).tmod ((Xa0 q2.2).length : Int)).toNat) 0) ^^^ BitVec.ofInt (IntKind.bits .u8) (Xaa .u8 (Xaa .i64 (1 + ((q4.getD ((1 : Int).toNat) 0).tmod 255))))).toNat))) (
 some (Xa0 q2.2))) fun v5 =>
 bnd (Xgl q2.1 (strOfNums v5)) fun q6 =>
 bnd (Xb9 q3.1 (strOfNums v5)) fun q7 =>
 bnd (
 sel (q6.2.1 != q7.2.1) (
 some true) (
 bnd (Xe4 q6.1 q7.1) fun q9 =>
 sel q9 (
 sel (((q6.2.2.Wide == q7.2.2.Wide) && ((q6.2.2.High == q7.2.2.High) && (q6.2.2.Dots.toList == q7.2.2.Dots.toList))) == false) (
 some true) (
 bnd (Xoo q6.1) fun q10 =>
 some (!q10))) (
 some true))) fun v8 =>
 sel v8 (
 some false) (
 bnd (
 sel (q6.2.1 == 0) (
 some true) (
 bnd (Xe4 q6.1 q3.1) fun q12 =>
 sel q12 (
 some (q6.2.2.Wide == 0)) (
 some false))) fun v11 =>
 some v11))
end
end Go.Proofs.YtjgbfopmjpkkhaaGreat.A
