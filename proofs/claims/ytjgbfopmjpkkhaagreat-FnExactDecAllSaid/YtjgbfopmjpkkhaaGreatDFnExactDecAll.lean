/- What the functions that the law FnExactDecAll reaches compute, over numbers, texts and lists. Written by a program of this session. Conditions: none. -/
import Derived.Test.YtjgbfopmjpkkhaaGreatAL2
namespace Go.Proofs.YtjgbfopmjpkkhaaGreat.A
open Go Go.Proofs Go.Proofs.YtjgbfopmjpkkhaaGreatAL Go.RowKit
set_option linter.unusedVariables false
set_option linter.unusedSimpArgs false
structure Seq where
 Level : Int
 Bits : Int
 Cols : (List Int)
 Rows : (List Int)
structure Par where
 Qp : Int
 Large : Bool
 Exact : Bool
 Confined : Bool
structure Pic where
 Wide : Int
 High : Int
 Dots : ByteArray
structure Decoder where
 HasSeq : Bool
 HasPar : Bool
 HasRef : Bool
 Seq : Seq
 Par : Par
 Frame : Int
 Got : Int
 Now : Pic
 Ref : Pic
structure Xkk where
 row_ : ByteArray
 at_ : Int
 bad_ : Bool
structure Yhk where
 Tile : Int
 Frame : Int
 Qp : Int
structure Xkj where
 Key : Bool
 Qp : Int
 Large : Bool
 Exact : Bool
structure Xpv where
 Left : Int
 Top : Int
 Wide : Int
 High : Int
structure Xay where
 Kind : Int
 Mode : Int
 Dx : Int
 Dy : Int
 Levels : (List Int)
structure Xkl where
 Above : (List Int)
 Left : (List Int)
 Corner : Int
def Xcn : ByteArray := ⟨#[]⟩
def Xlf : (List Int) := []
def Yph : Pic := ⟨0, 0, ⟨#[]⟩⟩
def Xbt : Xay := ⟨0, 0, 0, 0, []⟩
def Yyy (x : Seq) : Prop := (Lit.int .i64 x.Level).wf = true ∧ (Lit.int .i64 x.Bits).wf = true ∧ (x.Cols.length ≤ maxLen ∧ ∀ y ∈ x.Cols, (Lit.int .i64 y).wf = true) ∧ (x.Rows.length ≤ maxLen ∧ ∀ y ∈ x.Rows, (Lit.int .i64 y).wf = true)
def Yyx (x : Par) : Prop := (Lit.int .i64 x.Qp).wf = true ∧ True ∧ True ∧ True
def Yxo (x : Pic) : Prop := (Lit.int .i64 x.Wide).wf = true ∧ (Lit.int .i64 x.High).wf = true ∧ x.Dots.size ≤ maxLen
def Yfm (x : Decoder) : Prop := True ∧ True ∧ True ∧ Yyy x.Seq ∧ Yyx x.Par ∧ (Lit.int .i64 x.Frame).wf = true ∧ (Lit.int .i64 x.Got).wf = true ∧ Yxo x.Now ∧ Yxo x.Ref
noncomputable section
def Xk1 (p0 : (List Int)) (p1 : Int) : Option Int :=
 sel (decide ((Xaa .i64 (p1 - (p0.length : Int))) < 0)) (
 some (-1)) (
 some (Xaa .i64 (p1 - (p0.length : Int))))
def Xpg (p0 : Seq) (p1 : Int) : Option Int :=
 bnd (Xk1 p0.Cols p1) fun q1 =>
 sel (decide (q1 < 0)) (
 some (-1)) (
 bnd (Xk1 p0.Rows q1) fun q2 =>
 sel (decide (q2 < 0)) (
 some (-1)) (
 some q2))
def Xm7 (p0 : Pic) (p1 : Int) : Option Int :=
 sel (decide ((Xaa .i64 (p1 - (p0.Dots.size : Int))) < 0)) (
 some (-1)) (
 some (Xaa .i64 (p1 - (p0.Dots.size : Int))))
def Xii (p0 : Decoder) (p1 : Int) : Option Int :=
 bnd (Xpg p0.Seq p1) fun q1 =>
 sel (decide (q1 < 0)) (
 some (-1)) (
 bnd (Xm7 p0.Now q1) fun q2 =>
 sel (decide (q2 < 0)) (
 some (-1)) (
 bnd (Xm7 p0.Ref q2) fun q3 =>
 sel (decide (q3 < 0)) (
 some (-1)) (
 some q3)))
def Xik (p0 : (List Int)) (v2 : (Int × (List Int))) : Option (Lp (Int × (List Int)) (List Int)) :=
 sel (decide (v2.1 < (p0.length : Int))) (
 req (0 ≤ v2.1 ∧ v2.1 < p0.length) <|
 req (0 ≤ v2.1 ∧ v2.1 < v2.2.length) <|
 req (v2.1.toNat < v2.2.length) <|
 some (.go (Xaa .i64 (v2.1 + 1), (v2.2.set v2.1.toNat (p0.getD v2.1.toNat 0))))) (
 some (.done v2.2))
def Xk2 (p0 : (List Int)) : Option (List Int) :=
 req (0 ≤ (p0.length : Int) ∧ (p0.length : Int) ≤ (p0.length : Int) ∧ (p0.length : Int) * 8 ≤ 281474976710656) <|
 bnd (loop (Xik p0) (0, (List.replicate (p0.length : Int).toNat (0 : Int)))) fun v4 =>
 some v4
def Xpi (p0 : Seq) : Option Seq :=
 bnd (Xk2 p0.Cols) fun q1 =>
 bnd (Xk2 p0.Rows) fun q2 =>
 some (⟨p0.Level, p0.Bits, q1, q2⟩ : Seq)
def Xsm (p0 : Par) : Option Par :=
 some p0
def Xph (p0 : Pic) : Option Pic :=
 some p0
def Xdw (p0 : Decoder) : Option Decoder :=
 bnd (Xpi p0.Seq) fun q1 =>
 bnd (Xsm p0.Par) fun q2 =>
 bnd (Xph p0.Now) fun q3 =>
 bnd (Xph p0.Ref) fun q4 =>
 some (⟨p0.HasSeq, p0.HasPar, p0.HasRef, q1, q2, p0.Frame, p0.Got, q3, q4⟩ : Decoder)
def Xes (p0 : Pic) : Option Bool :=
 bnd (
 sel (p0.Wide == 0) (
 sel (p0.High == 0) (
 some ((p0.Dots.size : Int) == 0)) (
 some false)) (
 some false)) fun v1 =>
 some v1
def Xax (p0 : Int) (p1 : Int) (p2 : Int) : Option Bool :=
 bnd (
 sel (decide (p0 ≥ p1)) (
 some (decide (p0 ≤ p2))) (
 some false)) fun v1 =>
 some v1
def Xgg (p0 : (List Int)) (v4 : (Int × Int)) : Option (Lp (Int × Int) (Ou Int Int)) :=
 sel (decide (v4.2 < (p0.length : Int))) (
 req (0 ≤ v4.2 ∧ v4.2 < p0.length) <|
 bnd (Xax (p0.getD v4.2.toNat 0) 1 8) fun q8 =>
 sel (!q8) (
 some (.done (.ret 0))) (
 req (0 ≤ v4.2 ∧ v4.2 < p0.length) <|
 some (.go (Xaa .i64 (v4.1 + (p0.getD v4.2.toNat 0)), Xaa .i64 (v4.2 + 1))))) (
 some (.done (.out v4.1)))
def Xg7 (p0 : (List Int)) : Option Int :=
 bnd (
 sel (decide ((p0.length : Int) < 1)) (
 some true) (
 some (decide ((p0.length : Int) > 4)))) fun v1 =>
 sel v1 (
 some 0) (
 bnd (loop (Xgg p0) (0, 0)) fun o9 => match o9 with
| .out v7 => (
 some v7)
| .ret r => some r)
def Xin (p0 : Seq) : Option Int :=
 bnd (Xg7 p0.Cols) fun q1 =>
 bnd (Xg7 p0.Rows) fun q2 =>
 some (Xaa .i64 (q1 * q2))
def Xfc (p0 : Int) : Option Int :=
 sel (p0 == 1) (
 some 16) (
 sel (p0 == 2) (
 some 64) (
 sel (p0 == 3) (
 some 256) (
 some 0)))
def Xhy (p0 : Seq) : Option Bool :=
 bnd (
 bnd (Xin p0) fun q2 =>
 bnd (Xfc p0.Level) fun q3 =>
 bnd (Xax q2 1 q3) fun q4 =>
 sel q4 (
 bnd (Xax p0.Bits 3 8) fun q5 =>
 some q5) (
 some false)) fun v1 =>
 some v1
def Xjf (p0 : Par) : Option Bool :=
 bnd (
 bnd (Xax p0.Qp 0 40) fun q2 =>
 sel q2 (
 sel p0.Large (
 some (!p0.Exact)) (
 some true)) (
 some false)) fun v1 =>
 some v1
def Xfn (p0 : Seq) : Option Int :=
 bnd (Xhy p0) fun q1 =>
 sel (!q1) (
 some 0) (
 some (Xaa .i64 ((p0.Cols.length : Int) * (p0.Rows.length : Int))))
def Xi1 (p0 : Seq) : Option (Int × Int) :=
 bnd (Xhy p0) fun q1 =>
 sel (!q1) (
 some (0, 0)) (
 bnd (Xg7 p0.Cols) fun q2 =>
 bnd (Xg7 p0.Rows) fun q3 =>
 some (Xaa .i64 (8 * q2), Xaa .i64 (8 * q3)))
def Xgf (p0 : Pic) : Option Bool :=
 bnd (
 bnd (Xax p0.Wide 1 256) fun q2 =>
 sel q2 (
 bnd (Xax p0.High 1 256) fun q3 =>
 sel q3 (
 some ((p0.Dots.size : Int) == (Xaa .i64 (p0.Wide * p0.High)))) (
 some false)) (
 some false)) fun v1 =>
 some v1
def Xh2 (p0 : Pic) (p1 : Seq) : Option Bool :=
 bnd (Xi1 p1) fun q1 =>
 bnd (
 bnd (Xgf p0) fun q3 =>
 sel q3 (
 sel (p0.Wide == q1.1) (
 some (p0.High == q1.2)) (
 some false)) (
 some false)) fun v2 =>
 some v2
def Xpl (p0 : Decoder) : Option Bool :=
 sel (!p0.HasSeq) (
 bnd (
 sel p0.HasPar (
 some false) (
 sel p0.HasRef (
 some false) (
 sel (p0.Seq.Level == 0) (
 sel (p0.Seq.Bits == 0) (
 sel ((p0.Seq.Cols.length : Int) == 0) (
 sel ((p0.Seq.Rows.length : Int) == 0) (
 sel (((p0.Par.Qp == 0) && ((p0.Par.Large == false) && ((p0.Par.Exact == false) && (p0.Par.Confined == false)))) == true) (
 sel (p0.Frame == (-1)) (
 sel (p0.Got == 0) (
 bnd (Xes p0.Now) fun q2 =>
 sel q2 (
 bnd (Xes p0.Ref) fun q3 =>
 some q3) (
 some false)) (
 some false)) (
 some false)) (
 some false)) (
 some false)) (
 some false)) (
 some false)) (
 some false)))) fun v1 =>
 some v1) (
 bnd (
 bnd (Xhy p0.Seq) fun q5 =>
 sel q5 (
 sel p0.HasPar (
 bnd (Xjf p0.Par) fun q6 =>
 sel q6 (
 some false) (
 some true)) (
 some (((p0.Par.Qp == 0) && ((p0.Par.Large == false) && ((p0.Par.Exact == false) && (p0.Par.Confined == false)))) == false))) (
 some true)) fun v4 =>
 sel v4 (
 some false) (
 bnd (
 sel (decide (p0.Frame < (-1))) (
 some true) (
 req (0 ≤ (Xaa .u64 (p0.Seq.Bits))) <|
 sel (decide (p0.Frame ≥ (Xaa .i64 (1 * 2 ^ min (Xaa .u64 (p0.Seq.Bits)).toNat (IntKind.bits .i64))))) (
 some true) (
 sel (decide (p0.Got < 0)) (
 some true) (
 bnd (Xfn p0.Seq) fun q8 =>
 sel (decide (p0.Got ≥ q8)) (
 some true) (
 sel p0.HasPar (
 some false) (
 sel (decide (p0.Got > 0)) (
 some true) (
 some p0.HasRef))))))) fun v7 =>
 sel v7 (
 some false) (
 bnd (
 sel (decide (p0.Got > 0)) (
 sel (p0.Frame == (-1)) (
 some true) (
 bnd (Xh2 p0.Now p0.Seq) fun q10 =>
 sel q10 (
 sel (p0.Got == 0) (
 bnd (Xes p0.Now) fun q11 =>
 some (!q11)) (
 some false)) (
 some true))) (
 sel (p0.Got == 0) (
 bnd (Xes p0.Now) fun q12 =>
 some (!q12)) (
 some false))) fun v9 =>
 sel v9 (
 some false) (
 bnd (
 sel p0.HasRef (
 bnd (Xh2 p0.Ref p0.Seq) fun q14 =>
 sel q14 (
 some true) (
 some false)) (
 bnd (Xes p0.Ref) fun q15 =>
 some q15)) fun v13 =>
 some v13))))
def Xl7 (p0 : Int) : Option Bool :=
 bnd (
 sel (p0 == 1) (
 some true) (
 sel (p0 == 5) (
 some true) (
 sel (p0 == 7) (
 some true) (
 some (p0 == 8))))) fun v1 =>
 some v1
def Xip (v2 : (Int × Int × (List Int))) : Option (Lp (Int × Int × (List Int)) (List Int)) :=
 sel (decide (v2.2.1 ≥ 0)) (
 req ((2 : Int) ≠ 0) <|
 req (0 ≤ v2.2.1 ∧ v2.2.1 < v2.2.2.length) <|
 req (v2.2.1.toNat < v2.2.2.length) <|
 req ((2 : Int) ≠ 0) <|
 some (.go (Xaa .i64 (v2.1.tdiv 2), Xaa .i64 (v2.2.1 - 1), (v2.2.2.set v2.2.1.toNat (Xaa .u8 (Xaa .i64 (48 + (v2.1.tmod 2)))))))) (
 some (.done v2.2.2))
def Xny (p0 : Int) (p1 : Int) : Option ByteArray :=
 req (0 ≤ p1 ∧ p1 ≤ p1 ∧ p1 * 1 ≤ 281474976710656) <|
 bnd (loop (Xip) (p0, Xaa .i64 (p1 - 1), (List.replicate p1.toNat (0 : Int)))) fun v4 =>
 some (strOfNums v4)
def Xeg (p0 : ByteArray) (v4 : (Int × (List Int))) : Option (Lp (Int × (List Int)) (List Int)) :=
 sel (decide (v4.1 < (p0.size : Int))) (
 req (0 ≤ v4.1 ∧ v4.1 < p0.size) <|
 bnd (Xny (Xaa .i64 ((Xkn p0 v4.1))) 8) fun q8 =>
 req ((v4.2.length + (Xbr q8).length) * 1 ≤ 140737488355328 ∧ v4.2.length + (Xbr q8).length ≤ maxLen) <|
 some (.go (Xaa .i64 (v4.1 + 1), (v4.2 ++ (Xbr q8))))) (
 some (.done v4.2))
def Xeh (v7 : (List Int)) (v12 : Int) : Option (Lp Int Int) :=
 bnd (
 sel (decide (v12 > 0)) (
 req (0 ≤ (Xaa .i64 (v12 - 1)) ∧ (Xaa .i64 (v12 - 1)) < v7.length) <|
 req ((Xaa .i64 (v12 - 1)).toNat < v7.length) <|
 some ((v7.getD ((Xaa .i64 (v12 - 1)).toNat) 0) == 48)) (
 some false)) fun v16 =>
 sel v16 (
 some (.go (Xaa .i64 (v12 - 1)))) (
 some (.done v12))
def Xht (p0 : ByteArray) : Option (ByteArray × Bool) :=
 bnd (
 sel ((p0.size : Int) == 0) (
 some true) (
 sel (decide ((p0.size : Int) > 50001)) (
 some true) (
 req (0 ≤ (Xaa .i64 ((p0.size : Int) - 1)) ∧ (Xaa .i64 ((p0.size : Int) - 1)) < p0.size) <|
 some ((Xkn p0 (Xaa .i64 ((p0.size : Int) - 1))) == 0)))) fun v1 =>
 sel v1 (
 some (⟨#[]⟩, false)) (
 bnd (loop (Xeg p0) (0, ([] : List Int))) fun v7 =>
 bnd (loop (Xeh v7) (v7.length : Int)) fun v15 =>
 sel (decide ((Xaa .i64 (v15 - 1)) > 400000)) (
 some (⟨#[]⟩, false)) (
 req (0 ≤ (0 : Int) ∧ (0 : Int) ≤ (Xaa .i64 (v15 - 1)) ∧ (Xaa .i64 (v15 - 1)) ≤ (v7.length : Int)) <|
 req ((0 : Int).toNat + ((Xaa .i64 (v15 - 1)).toNat - (0 : Int).toNat) ≤ v7.length) <|
 some ((strOfNums ((v7.drop ((0 : Int).toNat)).take ((Xaa .i64 (v15 - 1)).toNat - (0 : Int).toNat))), true)))
def Xk9 (p0 : ByteArray) : Option (Int × ByteArray × Bool) :=
 bnd (
 sel (decide ((p0.size : Int) < 1)) (
 some true) (
 req (0 ≤ (0 : Int) ∧ (0 : Int) < p0.size) <|
 bnd (Xl7 (Xaa .i64 ((Xkn p0 (0 : Int))))) fun q2 =>
 some (!q2))) fun v1 =>
 sel v1 (
 some (0, ⟨#[]⟩, false)) (
 req (0 ≤ (1 : Int) ∧ (1 : Int) ≤ (p0.size : Int) ∧ (p0.size : Int) ≤ (p0.size : Int)) <|
 bnd (Xht (p0.extract (1 : Int).toNat (p0.size : Int).toNat)) fun q3 =>
 sel (!q3.2) (
 some (0, ⟨#[]⟩, false)) (
 req (0 ≤ (0 : Int) ∧ (0 : Int) < p0.size) <|
 some (Xaa .i64 ((Xkn p0 (0 : Int))), q3.1, true)))
def Xg5 (p0 : ByteArray) (p1 : Int) (p2 : Int) (v2 : (Int × Int)) : Option (Lp (Int × Int) Int) :=
 sel (decide (v2.2 < (Xaa .i64 (p1 + p2)))) (
 req (0 ≤ v2.2 ∧ v2.2 < p0.size) <|
 some (.go (Xaa .i64 ((Xaa .i64 ((Xaa .i64 (2 * v2.1)) + (Xaa .i64 ((Xkn p0 v2.2))))) - 48), Xaa .i64 (v2.2 + 1)))) (
 some (.done v2.1))
def Xb0 (p0 : ByteArray) (p1 : Int) (p2 : Int) : Option (Int × Int × Bool) :=
 sel (decide (p2 > (Xaa .i64 ((p0.size : Int) - p1)))) (
 some (0, 0, false)) (
 bnd (loop (Xg5 p0 p1 p2) (0, p1)) fun v4 =>
 some (v4, Xaa .i64 (p1 + p2), true))
def Xd2 (p0 : ByteArray) (p1 : Int) (v3 : Int) : Option (Lp Int Int) :=
 bnd (
 sel (decide ((Xaa .i64 (p1 + v3)) < (p0.size : Int))) (
 req (0 ≤ (Xaa .i64 (p1 + v3)) ∧ (Xaa .i64 (p1 + v3)) < p0.size) <|
 sel ((Xkn p0 (Xaa .i64 (p1 + v3))) == 48) (
 some (decide (v3 < 21))) (
 some false)) (
 some false)) fun v7 =>
 sel v7 (
 some (.go (Xaa .i64 (v3 + 1)))) (
 some (.done v3))
def Xa7 (p0 : ByteArray) (p1 : Int) : Option (Int × Int × Bool) :=
 bnd (loop (Xd2 p0 p1) 0) fun v6 =>
 bnd (Xb0 p0 (Xaa .i64 (p1 + v6)) (Xaa .i64 (v6 + 1))) fun q9 =>
 bnd (
 sel q9.2.2 (
 req (0 ≤ (Xaa .u64 (v6))) <|
 sel (decide (q9.1 < (Xaa .i64 (1 * 2 ^ min (Xaa .u64 (v6)).toNat (IntKind.bits .i64))))) (
 some true) (
 some (decide ((Xaa .i64 (q9.1 - 1)) > 1000000)))) (
 some true)) fun v10 =>
 sel v10 (
 some (0, 0, false)) (
 some (Xaa .i64 (q9.1 - 1), q9.2.1, true))
def Xbg (p0 : ByteArray) (q1 : (Int × Int × Bool)) (v5 : (Int × Int × (List Int))) : Option (Lp (Int × Int × (List Int)) (Ou (Int × (List Int)) ((List Int) × Int × Bool))) :=
 sel (decide (v5.2.1 < q1.1)) (
 bnd (Xa7 p0 v5.1) fun q9 =>
 sel (!q9.2.2) (
 some (.done (.ret (([] : List Int), 0, false)))) (
 req ((v5.2.2.length + ([q9.1]).length) * 8 ≤ 140737488355328 ∧ v5.2.2.length + ([q9.1]).length ≤ maxLen) <|
 some (.go (q9.2.1, Xaa .i64 (v5.2.1 + 1), (v5.2.2 ++ ([q9.1])))))) (
 some (.done (.out (v5.1, v5.2.2))))
def Xdk (p0 : ByteArray) (p1 : Int) : Option ((List Int) × Int × Bool) :=
 bnd (Xa7 p0 p1) fun q1 =>
 bnd (
 sel q1.2.2 (
 some (decide (q1.1 > 4))) (
 some true)) fun v2 =>
 sel v2 (
 some (([] : List Int), 0, false)) (
 bnd (loop (Xbg p0 q1) (q1.2.1, 0, ([] : List Int))) fun o10 => match o10 with
| .out v8 => (
 some (v8.2, v8.1, true))
| .ret r => some r)
def Xff (p0 : ByteArray) (p1 : Int) : Option (Seq × Int × Bool) :=
 bnd (Xa7 p0 p1) fun q1 =>
 sel (!q1.2.2) (
 some ((⟨0, 0, [], []⟩ : Seq), 0, false)) (
 bnd (Xb0 p0 q1.2.1 4) fun q2 =>
 sel (!q2.2.2) (
 some ((⟨0, 0, [], []⟩ : Seq), 0, false)) (
 bnd (Xdk p0 q2.2.1) fun q3 =>
 sel (!q3.2.2) (
 some ((⟨0, 0, [], []⟩ : Seq), 0, false)) (
 bnd (Xdk p0 q3.2.1) fun q4 =>
 bnd (
 sel q4.2.2 (
 bnd (Xhy (⟨q1.1, q2.1, q3.1, q4.1⟩ : Seq)) fun q6 =>
 some (!q6)) (
 some true)) fun v5 =>
 sel v5 (
 some ((⟨0, 0, [], []⟩ : Seq), 0, false)) (
 some ((⟨q1.1, q2.1, q3.1, q4.1⟩ : Seq), q4.2.1, true)))))
def Xfe (p0 : ByteArray) (p1 : Int) : Option (Par × Int × Bool) :=
 bnd (Xb0 p0 p1 6) fun q1 =>
 bnd (
 sel q1.2.2 (
 some (decide ((Xaa .i64 ((p0.size : Int) - q1.2.1)) < 3))) (
 some true)) fun v2 =>
 sel v2 (
 some ((⟨0, false, false, false⟩ : Par), 0, false)) (
 req (0 ≤ q1.2.1 ∧ q1.2.1 < p0.size) <|
 req (0 ≤ (Xaa .i64 (q1.2.1 + 1)) ∧ (Xaa .i64 (q1.2.1 + 1)) < p0.size) <|
 req (0 ≤ (Xaa .i64 (q1.2.1 + 2)) ∧ (Xaa .i64 (q1.2.1 + 2)) < p0.size) <|
 bnd (Xjf (⟨q1.1, ((Xkn p0 q1.2.1) == 49), ((Xkn p0 (Xaa .i64 (q1.2.1 + 1))) == 49), ((Xkn p0 (Xaa .i64 (q1.2.1 + 2))) == 49)⟩ : Par)) fun q3 =>
 sel (!q3) (
 some ((⟨0, false, false, false⟩ : Par), 0, false)) (
 some ((⟨q1.1, ((Xkn p0 q1.2.1) == 49), ((Xkn p0 (Xaa .i64 (q1.2.1 + 1))) == 49), ((Xkn p0 (Xaa .i64 (q1.2.1 + 2))) == 49)⟩ : Par), Xaa .i64 (q1.2.1 + 3), true)))
def Xc4 (p0 : ByteArray) (v3 : Int) : Option (Lp Int (Ou Unit Bool)) :=
 sel (decide (v3 < (p0.size : Int))) (
 bnd (
 req (0 ≤ v3 ∧ v3 < p0.size) <|
 sel ((Xkn p0 v3) != 48) (
 req (0 ≤ v3 ∧ v3 < p0.size) <|
 some ((Xkn p0 v3) != 49)) (
 some false)) fun v7 =>
 sel v7 (
 some (.done (.ret false))) (
 some (.go (Xaa .i64 (v3 + 1))))) (
 some (.done (.out ())))
def Xlb (p0 : ByteArray) : Option Bool :=
 bnd (loop (Xc4 p0) 0) fun o8 => match o8 with
| .out v6 => (
 some true)
| .ret r => some r
def Xhx (p0 : ByteArray) : Option Bool :=
 bnd (
 sel (decide ((p0.size : Int) ≤ 400000)) (
 bnd (Xlb p0) fun q2 =>
 some q2) (
 some false)) fun v1 =>
 some v1
def Xns (p0 : Int) : Option (Int × Bool) :=
 bnd (Xax p0 0 1000000) fun q1 =>
 sel (!q1) (
 some (0, false)) (
 req ((2 : Int) ≠ 0) <|
 sel ((p0.tmod 2) == 1) (
 req ((2 : Int) ≠ 0) <|
 some (Xaa .i64 ((Xaa .i64 (p0 + 1)).tdiv 2), true)) (
 req ((2 : Int) ≠ 0) <|
 some (Xaa .i64 (0 - (Xaa .i64 (p0.tdiv 2))), true)))
def Xbx (p0 : ByteArray) (p1 : Int) : Option (Int × Int × Bool) :=
 bnd (Xa7 p0 p1) fun q1 =>
 sel (!q1.2.2) (
 some (0, 0, false)) (
 bnd (Xns q1.1) fun q2 =>
 some (q2.1, q1.2.1, true))
def Xnr (p0 : Seq) (p1 : Par) (p2 : Yhk) : Option Bool :=
 bnd (
 bnd (Xjf p1) fun q2 =>
 sel q2 (
 sel (decide (p2.Tile ≥ 0)) (
 bnd (Xfn p0) fun q3 =>
 sel (decide (p2.Tile < q3)) (
 sel (decide (p2.Frame ≥ 0)) (
 req (0 ≤ (Xaa .u64 (p0.Bits))) <|
 sel (decide (p2.Frame < (Xaa .i64 (1 * 2 ^ min (Xaa .u64 (p0.Bits)).toNat (IntKind.bits .i64))))) (
 bnd (Xax p2.Qp 0 40) fun q4 =>
 some q4) (
 some false)) (
 some false)) (
 some false)) (
 some false)) (
 some false)) fun v1 =>
 some v1
def Xhw (p0 : Seq) (p1 : Par) (p2 : ByteArray) : Option (Yhk × Int × Bool) :=
 bnd (
 bnd (Xhx p2) fun q2 =>
 sel q2 (
 bnd (Xhy p0) fun q3 =>
 sel q3 (
 bnd (Xjf p1) fun q4 =>
 some (!q4)) (
 some true)) (
 some true)) fun v1 =>
 sel v1 (
 some ((⟨0, 0, 0⟩ : Yhk), 0, false)) (
 bnd (Xa7 p2 0) fun q5 =>
 sel (!q5.2.2) (
 some ((⟨0, 0, 0⟩ : Yhk), 0, false)) (
 bnd (Xb0 p2 q5.2.1 p0.Bits) fun q6 =>
 sel (!q6.2.2) (
 some ((⟨0, 0, 0⟩ : Yhk), 0, false)) (
 bnd (Xbx p2 q6.2.1) fun q7 =>
 bnd (
 sel q7.2.2 (
 bnd (Xnr p0 p1 (⟨q5.1, q6.1, Xaa .i64 (p1.Qp + q7.1)⟩ : Yhk)) fun q9 =>
 some (!q9)) (
 some true)) fun v8 =>
 sel v8 (
 some ((⟨0, 0, 0⟩ : Yhk), 0, false)) (
 some ((⟨q5.1, q6.1, Xaa .i64 (p1.Qp + q7.1)⟩ : Yhk), q7.2.1, true)))))
def Xfg (p0 : (List Int)) (p1 : Int) (v2 : (Int × Int)) : Option (Lp (Int × Int) Int) :=
 sel (decide (v2.2 < p1)) (
 req (0 ≤ v2.2 ∧ v2.2 < p0.length) <|
 some (.go (Xaa .i64 (v2.1 + (p0.getD v2.2.toNat 0)), Xaa .i64 (v2.2 + 1)))) (
 some (.done v2.1))
def Xiq (p0 : (List Int)) (p1 : Int) : Option Int :=
 bnd (loop (Xfg p0 p1) (0, 0)) fun v4 =>
 some v4
def Xhz (p0 : Seq) (p1 : Int) : Option (Xpv × Bool) :=
 bnd (
 sel (decide (p1 < 0)) (
 some true) (
 bnd (Xfn p0) fun q2 =>
 some (decide (p1 ≥ q2)))) fun v1 =>
 sel v1 (
 some ((⟨0, 0, 0, 0⟩ : Xpv), false)) (
 req ((p0.Cols.length : Int) ≠ 0) <|
 req ((p0.Cols.length : Int) ≠ 0) <|
 bnd (Xiq p0.Cols (p1.tmod (p0.Cols.length : Int))) fun q3 =>
 bnd (Xiq p0.Rows (Xaa .i64 (p1.tdiv (p0.Cols.length : Int)))) fun q4 =>
 req (0 ≤ (p1.tmod (p0.Cols.length : Int)) ∧ (p1.tmod (p0.Cols.length : Int)) < p0.Cols.length) <|
 req (0 ≤ (Xaa .i64 (p1.tdiv (p0.Cols.length : Int))) ∧ (Xaa .i64 (p1.tdiv (p0.Cols.length : Int))) < p0.Rows.length) <|
 some ((⟨Xaa .i64 (8 * q3), Xaa .i64 (8 * q4), Xaa .i64 (8 * (p0.Cols.getD (p1.tmod (p0.Cols.length : Int)).toNat 0)), Xaa .i64 (8 * (p0.Rows.getD (Xaa .i64 (p1.tdiv (p0.Cols.length : Int))).toNat 0))⟩ : Xpv), true))
def Xf8 (p0 : Seq) (p1 : Int) : Option Int :=
 bnd (Xhz p0 p1) fun q1 =>
 req ((8 : Int) ≠ 0) <|
 req ((8 : Int) ≠ 0) <|
 some (Xaa .i64 ((Xaa .i64 (q1.1.Wide.tdiv 8)) * (Xaa .i64 (q1.1.High.tdiv 8))))
def Xgy (p0 : Xkj) : Option Bool :=
 bnd (
 bnd (Xax p0.Qp 0 40) fun q2 =>
 sel q2 (
 sel p0.Large (
 some (!p0.Exact)) (
 some true)) (
 some false)) fun v1 =>
 some v1
def Xb3 (p0 : ByteArray) (p2 : Int) (q1 : (Int × Int × Bool)) (v9 : (Int × Int × Int × (List Int))) : Option (Lp (Int × Int × Int × (List Int)) (Ou (Int × (List Int)) ((List Int) × Int × Bool))) :=
 sel (decide (v9.2.2.1 < q1.1)) (
 bnd (Xa7 p0 v9.1) fun q17 =>
 bnd (
 sel q17.2.2 (
 some (decide (q17.1 > (Xaa .i64 ((Xaa .i64 (p2 - 1)) - v9.2.1))))) (
 some true)) fun v18 =>
 sel v18 (
 some (.done (.ret (([] : List Int), 0, false)))) (
 bnd (Xbx p0 q17.2.1) fun q19 =>
 bnd (
 sel q19.2.2 (
 sel (q19.1 == 0) (
 some true) (
 bnd (Xax q19.1 (-5000) 5000) fun q21 =>
 some (!q21))) (
 some true)) fun v20 =>
 sel v20 (
 some (.done (.ret (([] : List Int), 0, false)))) (
 req (0 ≤ (Xaa .i64 (v9.2.1 + q17.1)) ∧ (Xaa .i64 (v9.2.1 + q17.1)) < v9.2.2.2.length) <|
 req ((Xaa .i64 (v9.2.1 + q17.1)).toNat < v9.2.2.2.length) <|
 some (.go (q19.2.1, Xaa .i64 ((Xaa .i64 (v9.2.1 + q17.1)) + 1), Xaa .i64 (v9.2.2.1 + 1), (v9.2.2.2.set ((Xaa .i64 (v9.2.1 + q17.1)).toNat) q19.1)))))) (
 some (.done (.out (v9.1, v9.2.2.2))))
def Xg9 (p0 : ByteArray) (p1 : Int) (p2 : Int) : Option ((List Int) × Int × Bool) :=
 req (0 ≤ p2 ∧ p2 ≤ p2 ∧ p2 * 8 ≤ 281474976710656) <|
 bnd (Xa7 p0 p1) fun q1 =>
 bnd (
 sel q1.2.2 (
 some (decide (q1.1 > p2))) (
 some true)) fun v2 =>
 sel v2 (
 some (([] : List Int), 0, false)) (
 bnd (loop (Xb3 p0 p2 q1) (q1.2.1, 0, 0, (List.replicate p2.toNat (0 : Int)))) fun o22 => match o22 with
| .out v16 => (
 some (v16.2, v16.1, true))
| .ret r => some r)
def Xde (p0 : ByteArray) (v5 : (Int × Int × (List Int))) : Option (Lp (Int × Int × (List Int)) (Ou (Int × (List Int)) ((List Int) × Int × Bool))) :=
 sel (decide (v5.2.1 < 4)) (
 bnd (Xg9 p0 v5.1 16) fun q9 =>
 sel (!q9.2.2) (
 some (.done (.ret (([] : List Int), 0, false)))) (
 req ((v5.2.2.length + q9.1.length) * 8 ≤ 140737488355328 ∧ v5.2.2.length + q9.1.length ≤ maxLen) <|
 some (.go (q9.2.1, Xaa .i64 (v5.2.1 + 1), (v5.2.2 ++ q9.1))))) (
 some (.done (.out (v5.1, v5.2.2))))
def Xfp (p0 : ByteArray) (p1 : Int) (p2 : Xkj) : Option ((List Int) × Int × Bool) :=
 bnd (
 sel p2.Large (
 some true) (
 some p2.Exact)) fun v1 =>
 sel v1 (
 bnd (Xg9 p0 p1 64) fun q2 =>
 some (q2.1, q2.2.1, q2.2.2)) (
 bnd (loop (Xde p0) (p1, 0, ([] : List Int))) fun o10 => match o10 with
| .out v8 => (
 some (v8.2, v8.1, true))
| .ret r => some r)
def Xdy (p0 : (List Int)) (p1 : Int) (p2 : Int) (v3 : Int) : Option (Lp Int (Ou Unit Bool)) :=
 sel (decide (v3 < p1)) (
 req (0 ≤ v3 ∧ v3 < p0.length) <|
 bnd (Xax (p0.getD v3.toNat 0) (Xaa .i64 (0 - p2)) p2) fun q7 =>
 sel (!q7) (
 some (.done (.ret false))) (
 some (.go (Xaa .i64 (v3 + 1))))) (
 some (.done (.out ())))
def Xdl (p0 : (List Int)) (p1 : Int) (p2 : Int) : Option Bool :=
 sel ((p0.length : Int) != p1) (
 some false) (
 bnd (loop (Xdy p0 p1 p2) 0) fun o8 => match o8 with
| .out v6 => (
 some true)
| .ret r => some r)
def Xds (p0 : Xay) : Option Bool :=
 sel (p0.Kind == 0) (
 bnd (
 sel (p0.Mode == 0) (
 sel (p0.Dx == 0) (
 sel (p0.Dy == 0) (
 some ((p0.Levels.length : Int) == 0)) (
 some false)) (
 some false)) (
 some false)) fun v1 =>
 some v1) (
 sel (p0.Kind == 1) (
 bnd (
 sel (p0.Mode == 0) (
 bnd (Xax p0.Dx (-16) 16) fun q3 =>
 sel q3 (
 bnd (Xax p0.Dy (-16) 16) fun q4 =>
 sel q4 (
 bnd (Xdl p0.Levels 64 5000) fun q5 =>
 some q5) (
 some false)) (
 some false)) (
 some false)) fun v2 =>
 some v2) (
 sel (p0.Kind == 2) (
 bnd (
 bnd (Xax p0.Mode 0 3) fun q7 =>
 sel q7 (
 sel (p0.Dx == 0) (
 sel (p0.Dy == 0) (
 bnd (Xdl p0.Levels 64 5000) fun q8 =>
 some q8) (
 some false)) (
 some false)) (
 some false)) fun v6 =>
 some v6) (
 some false)))
def Xji (p0 : ByteArray) (p1 : Int) (p2 : Xkj) : Option (Xay × Int × Bool) :=
 Ytn (fun (v1 : (Int × Int)) =>
 Ytn (fun (v4 : (Int × Bool × Int × Int × Int)) =>
 sel (!v4.2.1) (
 some ((⟨0, 0, 0, 0, []⟩ : Xay), 0, false)) (
 bnd (Xfp p0 v4.1 p2) fun q8 =>
 bnd (
 sel q8.2.2 (
 bnd (Xds (⟨v1.2, v4.2.2.1, v4.2.2.2.1, v4.2.2.2.2, q8.1⟩ : Xay)) fun q10 =>
 some (!q10)) (
 some true)) fun v9 =>
 sel v9 (
 some ((⟨0, 0, 0, 0, []⟩ : Xay), 0, false)) (
 some ((⟨v1.2, v4.2.2.1, v4.2.2.2.1, v4.2.2.2.2, q8.1⟩ : Xay), q8.2.1, true)))) fun j2 =>
 sel (v1.2 == 0) (
 some ((⟨v1.2, 0, 0, 0, []⟩ : Xay), v1.1, true)) (
 sel (v1.2 == 1) (
 bnd (Xbx p0 v1.1) fun q5 =>
 sel (!q5.2.2) (
 some ((⟨0, 0, 0, 0, []⟩ : Xay), 0, false)) (
 bnd (Xbx p0 q5.2.1) fun q6 =>
 j2 (q6.2.1, q6.2.2, 0, q5.1, q6.1))) (
 bnd (Xa7 p0 v1.1) fun q7 =>
 j2 (q7.2.1, q7.2.2, q7.1, 0, 0)))) fun j1 =>
 sel (!p2.Key) (
 bnd (Xa7 p0 p1) fun q2 =>
 bnd (
 sel q2.2.2 (
 some (decide (q2.1 > 2))) (
 some true)) fun v3 =>
 sel v3 (
 some ((⟨0, 0, 0, 0, []⟩ : Xay), 0, false)) (
 j1 (q2.2.1, q2.1))) (
 j1 (p1, 2))
def Xbw (p0 : ByteArray) (p2 : Int) (p3 : Xkj) (v8 : (Int × Int × (List Xay))) : Option (Lp (Int × Int × (List Xay)) (Ou (Int × (List Xay)) ((List Xay) × Bool))) :=
 sel (decide (v8.2.1 < p2)) (
 bnd (Xji p0 v8.1 p3) fun q12 =>
 sel (!q12.2.2) (
 some (.done (.ret (([] : List Xay), false)))) (
 req ((v8.2.2.length + ([q12.1]).length) * 56 ≤ 140737488355328 ∧ v8.2.2.length + ([q12.1]).length ≤ maxLen) <|
 some (.go (q12.2.1, Xaa .i64 (v8.2.1 + 1), (v8.2.2 ++ ([q12.1])))))) (
 some (.done (.out (v8.1, v8.2.2))))
def Xj8 (p0 : ByteArray) (p1 : Int) (p2 : Int) (p3 : Xkj) : Option ((List Xay) × Bool) :=
 bnd (
 bnd (Xhx p0) fun q2 =>
 sel q2 (
 bnd (Xax p1 0 (p0.size : Int)) fun q3 =>
 sel q3 (
 bnd (Xgy p3) fun q4 =>
 sel q4 (
 bnd (Xax p2 1 64) fun q5 =>
 some (!q5)) (
 some true)) (
 some true)) (
 some true)) fun v1 =>
 sel v1 (
 some (([] : List Xay), false)) (
 bnd (loop (Xbw p0 p2 p3) (p1, 0, ([] : List Xay))) fun o13 => match o13 with
| .out v11 => (
 sel (v11.1 != (p0.size : Int)) (
 some (([] : List Xay), false)) (
 some (v11.2, true)))
| .ret r => some r)
def Xjj (p0 : Int) : Option Bool :=
 bnd (
 req ((8 : Int) ≠ 0) <|
 sel ((p0.tmod 8) == 0) (
 bnd (Xax p0 8 64) fun q2 =>
 some q2) (
 some false)) fun v1 =>
 some v1
def Xfx (p0 : (List Xay)) (p1 : Xkj) (v7 : Int) : Option (Lp Int (Ou Unit Bool)) :=
 sel (decide (v7 < (p0.length : Int))) (
 bnd (
 req (0 ≤ v7 ∧ v7 < p0.length) <|
 bnd (Xds (⟨(p0.getD v7.toNat Xbt).Kind, (p0.getD v7.toNat Xbt).Mode, (p0.getD v7.toNat Xbt).Dx, (p0.getD v7.toNat Xbt).Dy, (p0.getD v7.toNat Xbt).Levels⟩ : Xay)) fun q13 =>
 sel q13 (
 sel p1.Key (
 req (0 ≤ v7 ∧ v7 < p0.length) <|
 some (((p0.getD v7.toNat Xbt).Kind) != 2)) (
 some false)) (
 some true)) fun v12 =>
 sel v12 (
 some (.done (.ret false))) (
 some (.go (Xaa .i64 (v7 + 1))))) (
 some (.done (.out ())))
def Xpt (p0 : (List Xay)) (p1 : Xkj) : Option Bool :=
 bnd (
 bnd (Xgy p1) fun q2 =>
 sel q2 (
 bnd (Xax (p0.length : Int) 1 64) fun q3 =>
 some (!q3)) (
 some true)) fun v1 =>
 sel v1 (
 some false) (
 bnd (loop (Xfx p0 p1) 0) fun o14 => match o14 with
| .out v11 => (
 some true)
| .ret r => some r)
def Xb4 (p0 : Pic) (p1 : Int) (p2 : Int) (p3 : Int) (p4 : Int) : Option Bool :=
 bnd (
 bnd (Xgf p0) fun q2 =>
 sel q2 (
 bnd (Xax p3 1 p0.Wide) fun q3 =>
 sel q3 (
 bnd (Xax p4 1 p0.High) fun q4 =>
 sel q4 (
 bnd (Xax p1 0 (Xaa .i64 (p0.Wide - p3))) fun q5 =>
 sel q5 (
 bnd (Xax p2 0 (Xaa .i64 (p0.High - p4))) fun q6 =>
 some q6) (
 some false)) (
 some false)) (
 some false)) (
 some false)) fun v1 =>
 some v1
def Xhu (p0 : Pic) (p1 : Xpv) (v3 : (Int × (List Int))) : Option (Lp (Int × (List Int)) (List Int)) :=
 sel (decide (v3.1 < (Xaa .i64 (p1.Top + p1.High)))) (
 req (0 ≤ (Xaa .i64 ((Xaa .i64 (v3.1 * p0.Wide)) + p1.Left)) ∧ (Xaa .i64 ((Xaa .i64 (v3.1 * p0.Wide)) + p1.Left)) ≤ (Xaa .i64 ((Xaa .i64 ((Xaa .i64 (v3.1 * p0.Wide)) + p1.Left)) + p1.Wide)) ∧ (Xaa .i64 ((Xaa .i64 ((Xaa .i64 (v3.1 * p0.Wide)) + p1.Left)) + p1.Wide)) ≤ (p0.Dots.size : Int)) <|
 req ((v3.2.length + (Xbr (p0.Dots.extract (Xaa .i64 ((Xaa .i64 (v3.1 * p0.Wide)) + p1.Left)).toNat (Xaa .i64 ((Xaa .i64 ((Xaa .i64 (v3.1 * p0.Wide)) + p1.Left)) + p1.Wide)).toNat)).length) * 1 ≤ 140737488355328 ∧ v3.2.length + (Xbr (p0.Dots.extract (Xaa .i64 ((Xaa .i64 (v3.1 * p0.Wide)) + p1.Left)).toNat (Xaa .i64 ((Xaa .i64 ((Xaa .i64 (v3.1 * p0.Wide)) + p1.Left)) + p1.Wide)).toNat)).length ≤ maxLen) <|
 some (.go (Xaa .i64 (v3.1 + 1), (v3.2 ++ (Xbr (p0.Dots.extract (Xaa .i64 ((Xaa .i64 (v3.1 * p0.Wide)) + p1.Left)).toNat (Xaa .i64 ((Xaa .i64 ((Xaa .i64 (v3.1 * p0.Wide)) + p1.Left)) + p1.Wide)).toNat)))))) (
 some (.done v3.2))
def Xm8 (p0 : Pic) (p1 : Xpv) : Option (Pic × Bool) :=
 bnd (Xb4 p0 p1.Left p1.Top p1.Wide p1.High) fun q1 =>
 sel (!q1) (
 some ((⟨0, 0, ⟨#[]⟩⟩ : Pic), false)) (
 bnd (loop (Xhu p0 p1) (p1.Top, ([] : List Int))) fun v5 =>
 some ((⟨p1.Wide, p1.High, (strOfNums v5)⟩ : Pic), true))
def Xg4 (p0 : Int) (p1 : Int) (v2 : (Int × (List Int))) : Option (Lp (Int × (List Int)) (List Int)) :=
 sel (decide (v2.1 < p0)) (
 req (0 ≤ v2.1 ∧ v2.1 < v2.2.length) <|
 req (v2.1.toNat < v2.2.length) <|
 some (.go (Xaa .i64 (v2.1 + 1), (v2.2.set v2.1.toNat p1)))) (
 some (.done v2.2))
def Xl6 (p0 : Int) (p1 : Int) : Option ByteArray :=
 req (0 ≤ p0 ∧ p0 ≤ p0 ∧ p0 * 1 ≤ 281474976710656) <|
 bnd (loop (Xg4 p0 p1) (0, (List.replicate p0.toNat (0 : Int)))) fun v4 =>
 some (strOfNums v4)
def Xnq (p0 : Int) (p1 : Int) : Option Pic :=
 bnd (
 bnd (Xax p0 1 256) fun q2 =>
 sel q2 (
 bnd (Xax p1 1 256) fun q3 =>
 some (!q3)) (
 some true)) fun v1 =>
 sel v1 (
 some (⟨0, 0, ⟨#[]⟩⟩ : Pic)) (
 bnd (Xl6 (Xaa .i64 (p0 * p1)) 128) fun q4 =>
 some (⟨p0, p1, q4⟩ : Pic))
def Xjg (p0 : Pic) (p1 : Int) (p2 : Int) : Option Bool :=
 bnd (
 req ((8 : Int) ≠ 0) <|
 sel ((p1.tmod 8) == 0) (
 req ((8 : Int) ≠ 0) <|
 sel ((p2.tmod 8) == 0) (
 bnd (Xb4 p0 p1 p2 8 8) fun q2 =>
 some q2) (
 some false)) (
 some false)) fun v1 =>
 some v1
def Xeq (p0 : Int) (p1 : Int) (p2 : Int) : Option Int :=
 bnd (
 sel (decide (p2 < p1)) (
 some true) (
 some (decide (p0 < p1)))) fun v1 =>
 sel v1 (
 some p1) (
 sel (decide (p0 > p2)) (
 some p2) (
 some p0))
def Xfa (p0 : Pic) (p1 : Int) (p2 : Int) : Option Int :=
 bnd (Xgf p0) fun q1 =>
 sel (!q1) (
 some (-1)) (
 bnd (Xeq p2 0 (Xaa .i64 (p0.High - 1))) fun q2 =>
 bnd (Xeq p1 0 (Xaa .i64 (p0.Wide - 1))) fun q3 =>
 req (0 ≤ (Xaa .i64 ((Xaa .i64 (q2 * p0.Wide)) + q3)) ∧ (Xaa .i64 ((Xaa .i64 (q2 * p0.Wide)) + q3)) < p0.Dots.size) <|
 some (Xaa .i64 ((Xkn p0.Dots (Xaa .i64 ((Xaa .i64 (q2 * p0.Wide)) + q3))))))
def Xd9 (p0 : Pic) (p1 : Int) (p2 : Int) (v7 : (Int × (List Int) × (List Int))) : Option (Lp (Int × (List Int) × (List Int)) ((List Int) × (List Int))) :=
 sel (decide (v7.1 < 8)) (
 bnd (
 bnd (
 sel (decide (p2 > 0)) (
 bnd (Xfa p0 (Xaa .i64 (p1 + v7.1)) (Xaa .i64 (p2 - 1))) fun q16 =>
 req ((v7.2.1.length + ([q16]).length) * 8 ≤ 140737488355328 ∧ v7.2.1.length + ([q16]).length ≤ maxLen) <|
 some (v7.2.1 ++ ([q16]))) (
 some v7.2.1)) fun v15 =>
 sel (decide (p1 > 0)) (
 bnd (Xfa p0 (Xaa .i64 (p1 - 1)) (Xaa .i64 (p2 + v7.1))) fun q17 =>
 req ((v7.2.2.length + ([q17]).length) * 8 ≤ 140737488355328 ∧ v7.2.2.length + ([q17]).length ≤ maxLen) <|
 some (v15, (v7.2.2 ++ ([q17])))) (
 some (v15, v7.2.2))) fun v14 =>
 some (.go (Xaa .i64 (v7.1 + 1), v14.1, v14.2))) (
 some (.done (v7.2.1, v7.2.2)))
def Xgz (p0 : Pic) (p1 : Int) (p2 : Int) : Option (Xkl × Bool) :=
 bnd (Xjg p0 p1 p2) fun q1 =>
 sel (!q1) (
 some ((⟨[], [], 0⟩ : Xkl), false)) (
 bnd (loop (Xd9 p0 p1 p2) (0, [], [])) fun v13 =>
 bnd (
 bnd (
 sel (decide (p1 > 0)) (
 some (decide (p2 > 0))) (
 some false)) fun v20 =>
 sel v20 (
 bnd (Xfa p0 (Xaa .i64 (p1 - 1)) (Xaa .i64 (p2 - 1))) fun q21 =>
 some q21) (
 some (-1))) fun v19 =>
 some ((⟨v13.1, v13.2, v19⟩ : Xkl), true))
def Xnv (p0 : Int) (p1 : Int) (v17 : (Int × Int)) (v38 : (Int × Int)) : Option (Lp (Int × Int) (Ou Int Int)) :=
 sel (decide (v38.2 < p0)) (
 Ytn (fun (v44 : Int) =>
 some (.go (v44, Xaa .i64 (v38.2 + 1)))) fun j36 =>
 bnd (
 req ((2 : Int) ≠ 0) <|
 sel ((v17.2.tmod 2) == 0) (
 some (Xaa .i64 ((Xaa .i64 (p0 - 1)) - v38.2))) (
 some v38.2)) fun v45 =>
 bnd (Xax (Xaa .i64 (v17.2 - v45)) 0 (Xaa .i64 (p0 - 1))) fun q46 =>
 sel (!q46) (
 j36 v38.1) (
 sel (v38.1 == p1) (
 some (.done (.ret (Xaa .i64 ((Xaa .i64 ((Xaa .i64 (p0 * v45)) + v17.2)) - v45))))) (
 j36 (Xaa .i64 (v38.1 + 1))))) (
 some (.done (.out v38.1)))
def Xj9 (p0 : Int) (p1 : Int) (v17 : (Int × Int)) : Option (Lp (Int × Int) (Ou Unit Int)) :=
 sel (decide (v17.2 ≤ (Xaa .i64 ((Xaa .i64 (2 * p0)) - 2)))) (
 bnd (loop (Xnv p0 p1 v17) (v17.1, 0)) fun o47 => match o47 with
| .out v43 => (
 some (.go (v43, Xaa .i64 (v17.2 + 1))))
| .ret r => some (.done (.ret r))) (
 some (.done (.out ())))
def Xnu (p0 : Int) (p1 : Int) : Option Int :=
 bnd (
 sel (p0 != 4) (
 sel (p0 != 8) (
 some true) (
 sel (decide (p1 < 0)) (
 some true) (
 some (decide (p1 ≥ (Xaa .i64 (p0 * p0))))))) (
 sel (decide (p1 < 0)) (
 some true) (
 some (decide (p1 ≥ (Xaa .i64 (p0 * p0))))))) fun v1 =>
 sel v1 (
 some (-1)) (
 bnd (loop (Xj9 p0 p1) (0, 0)) fun o48 => match o48 with
| .out v33 => (
 some (-1))
| .ret r => some r)
def Xb9 (p0 : Int) (p1 : (List Int)) (v4 : (Int × (List Int))) : Option (Lp (Int × (List Int)) (List Int)) :=
 sel (decide (v4.1 < (Xaa .i64 (p0 * p0)))) (
 bnd (Xnu p0 v4.1) fun q8 =>
 req (0 ≤ v4.1 ∧ v4.1 < p1.length) <|
 req (0 ≤ q8 ∧ q8 < v4.2.length) <|
 req (q8.toNat < v4.2.length) <|
 some (.go (Xaa .i64 (v4.1 + 1), (v4.2.set q8.toNat (p1.getD v4.1.toNat 0))))) (
 some (.done v4.2))
def Xc3 (p0 : Int) (p1 : (List Int)) : Option ((List Int) × Bool) :=
 bnd (
 sel (p0 != 4) (
 sel (p0 != 8) (
 some true) (
 some ((p1.length : Int) != (Xaa .i64 (p0 * p0))))) (
 some ((p1.length : Int) != (Xaa .i64 (p0 * p0))))) fun v1 =>
 sel v1 (
 some (([] : List Int), false)) (
 req (0 ≤ (p1.length : Int) ∧ (p1.length : Int) ≤ (p1.length : Int) ∧ (p1.length : Int) * 8 ≤ 281474976710656) <|
 bnd (loop (Xb9 p0 p1) (0, (List.replicate (p1.length : Int).toNat (0 : Int)))) fun v7 =>
 some (v7, true))
def Xio (p0 : Int) (v4 : (Int × Int)) : Option (Lp (Int × Int) Int) :=
 req ((6 : Int) ≠ 0) <|
 sel (decide (v4.2 < (Xaa .i64 (p0.tdiv 6)))) (
 some (.go (Xaa .i64 (2 * v4.1), Xaa .i64 (v4.2 + 1)))) (
 some (.done v4.1))
def Xg3 (p0 : Int) : Option Int :=
 bnd (Xax p0 0 40) fun q1 =>
 sel (!q1) (
 some 0) (
 bnd (
 req ((6 : Int) ≠ 0) <|
 sel ((p0.tmod 6) == 0) (
 some 10) (
 sel ((p0.tmod 6) == 1) (
 some 11) (
 sel ((p0.tmod 6) == 2) (
 some 13) (
 sel ((p0.tmod 6) == 3) (
 some 14) (
 sel ((p0.tmod 6) == 4) (
 some 16) (
 some 18)))))) fun v2 =>
 bnd (loop (Xio p0) (v2, 0)) fun v6 =>
 some v6)
def Xez (p0 : Int) (p1 : Int) : Option Int :=
 bnd (Xax p0 (-5000) 5000) fun q1 =>
 sel (!q1) (
 some 0) (
 bnd (Xg3 p1) fun q2 =>
 some (Xaa .i64 (p0 * q2)))
def Xim (v6 : (Int × Int)) : Option (Lp (Int × Int) Int) :=
 sel (decide (v6.2 > 0)) (
 bnd (
 req ((2 : Int) ≠ 0) <|
 sel ((v6.2.tmod 2) == 1) (
 some (Xaa .i64 (0 - v6.1))) (
 some v6.1)) fun v10 =>
 req ((2 : Int) ≠ 0) <|
 some (.go (v10, Xaa .i64 (v6.2.tdiv 2)))) (
 some (.done v6.1))
def Xg2 (p0 : Int) (p1 : Int) : Option Int :=
 bnd (
 bnd (Xax p0 0 7) fun q2 =>
 sel q2 (
 bnd (Xax p1 0 7) fun q3 =>
 some (!q3)) (
 some true)) fun v1 =>
 sel v1 (
 some 0) (
 bnd (loop (Xim) (1, (IntKind.wrap .i64 (BitVec.ofInt (IntKind.bits .i64) p0 &&& BitVec.ofInt (IntKind.bits .i64) p1).toNat))) fun v9 =>
 some v9)
def Xdz (p0 : (List Int)) (p1 : Int) (p2 : Int) (v3 : (Int × Int)) : Option (Lp (Int × Int) Int) :=
 sel (decide (v3.2 < 8)) (
 req (0 ≤ (Xaa .i64 ((Xaa .i64 (8 * p1)) + v3.2)) ∧ (Xaa .i64 ((Xaa .i64 (8 * p1)) + v3.2)) < p0.length) <|
 bnd (Xg2 p2 v3.2) fun q7 =>
 some (.go (Xaa .i64 (v3.1 + (Xaa .i64 ((p0.getD (Xaa .i64 ((Xaa .i64 (8 * p1)) + v3.2)).toNat 0) * q7))), Xaa .i64 (v3.2 + 1)))) (
 some (.done v3.1))
def Xi2 (p0 : (List Int)) (p1 : Int) (p2 : Int) : Option Int :=
 bnd (loop (Xdz p0 p1 p2) (0, 0)) fun v6 =>
 some v6
def Xct (p0 : (List Int)) (v10 : (Int × (List Int))) (v23 : (Int × (List Int))) : Option (Lp (Int × (List Int)) (List Int)) :=
 sel (decide (v23.1 < 8)) (
 bnd (Xi2 p0 v10.1 v23.1) fun q27 =>
 req ((v23.2.length + ([q27]).length) * 8 ≤ 140737488355328 ∧ v23.2.length + ([q27]).length ≤ maxLen) <|
 some (.go (Xaa .i64 (v23.1 + 1), (v23.2 ++ ([q27]))))) (
 some (.done v23.2))
def Xcs (p0 : (List Int)) (v10 : (Int × (List Int))) : Option (Lp (Int × (List Int)) (List Int)) :=
 sel (decide (v10.1 < 8)) (
 bnd (loop (Xct p0 v10) (0, v10.2)) fun v26 =>
 some (.go (Xaa .i64 (v10.1 + 1), v26))) (
 some (.done v10.2))
def Xcc (v20 : (List Int)) (v60 : (Int × (List Int))) (v101 : (Int × (List Int))) (v114 : (Int × Int)) : Option (Lp (Int × Int) Int) :=
 sel (decide (v114.2 < 8)) (
 bnd (Xg2 v60.1 v114.2) fun q118 =>
 req (0 ≤ (Xaa .i64 ((Xaa .i64 (8 * v114.2)) + v101.1)) ∧ (Xaa .i64 ((Xaa .i64 (8 * v114.2)) + v101.1)) < v20.length) <|
 req ((Xaa .i64 ((Xaa .i64 (8 * v114.2)) + v101.1)).toNat < v20.length) <|
 some (.go (Xaa .i64 (v114.1 + (Xaa .i64 (q118 * (v20.getD ((Xaa .i64 ((Xaa .i64 (8 * v114.2)) + v101.1)).toNat) 0)))), Xaa .i64 (v114.2 + 1)))) (
 some (.done v114.1))
def Xcb (v20 : (List Int)) (v60 : (Int × (List Int))) (v101 : (Int × (List Int))) : Option (Lp (Int × (List Int)) (List Int)) :=
 sel (decide (v101.1 < 8)) (
 bnd (loop (Xcc v20 v60 v101) (0, 0)) fun v117 =>
 req ((v101.2.length + ([v117]).length) * 8 ≤ 140737488355328 ∧ v101.2.length + ([v117]).length ≤ maxLen) <|
 some (.go (Xaa .i64 (v101.1 + 1), (v101.2 ++ ([v117]))))) (
 some (.done v101.2))
def Xca (v20 : (List Int)) (v60 : (Int × (List Int))) : Option (Lp (Int × (List Int)) (List Int)) :=
 sel (decide (v60.1 < 8)) (
 bnd (loop (Xcb v20 v60) (0, v60.2)) fun v111 =>
 some (.go (Xaa .i64 (v60.1 + 1), v111))) (
 some (.done v60.2))
def Xg8 (p0 : (List Int)) : Option (List Int) :=
 bnd (loop (Xcs p0) (0, ([] : List Int))) fun v20 =>
 bnd (loop (Xca v20) (0, ([] : List Int))) fun v91 =>
 some v91
def Xcr (p0 : Int) (p1 : Int) : Option Int :=
 req (p1 ≠ 0) <|
 bnd (
 req (p1 ≠ 0) <|
 sel (decide ((p0.tmod p1) < 0)) (
 some (Xaa .i64 ((Xaa .i64 (p0.tdiv p1)) - 1))) (
 some (Xaa .i64 (p0.tdiv p1)))) fun v1 =>
 some v1
def Xfb (v5 : (Int × (List Int))) : Option (Lp (Int × (List Int)) (List Int)) :=
 sel (decide (v5.1 < 64)) (
 req (0 ≤ v5.1 ∧ v5.1 < v5.2.length) <|
 req (v5.1.toNat < v5.2.length) <|
 bnd (Xcr (Xaa .i64 ((v5.2.getD v5.1.toNat 0) + 32)) 64) fun q9 =>
 req (0 ≤ v5.1 ∧ v5.1 < v5.2.length) <|
 req (v5.1.toNat < v5.2.length) <|
 some (.go (Xaa .i64 (v5.1 + 1), (v5.2.set v5.1.toNat q9)))) (
 some (.done v5.2))
def Xex (p0 : (List Int)) : Option (List Int) :=
 bnd (Xdl p0 64 10000000) fun q1 =>
 sel (!q1) (
 some ([] : List Int)) (
 bnd (Xg8 p0) fun q2 =>
 bnd (loop (Xfb) (0, q2)) fun v8 =>
 some v8)
def Xk8 (p0 : Int) : Option Int :=
 bnd (Xax p0 0 15) fun q1 =>
 sel (!q1) (
 some (-1)) (
 req ((4 : Int) ≠ 0) <|
 req ((2 : Int) ≠ 0) <|
 req ((4 : Int) ≠ 0) <|
 req ((2 : Int) ≠ 0) <|
 bnd (
 sel (((Xaa .i64 (p0.tdiv 4)).tmod 2) == 0) (
 some (((p0.tmod 4).tmod 2) == 0)) (
 some false)) fun v2 =>
 sel v2 (
 some 0) (
 bnd (
 sel (((Xaa .i64 (p0.tdiv 4)).tmod 2) == 1) (
 some (((p0.tmod 4).tmod 2) == 1)) (
 some false)) fun v3 =>
 sel v3 (
 some 1) (
 some 2)))
def Xbs (p0 : Int) (p1 : Int) (p2 : Int) (p3 : Int) : Option Int :=
 sel (p0 == 0) (
 some p1) (
 sel (p0 == 1) (
 some p2) (
 some p3))
def Xea (p0 : Int) (v12 : (Int × Int)) : Option (Lp (Int × Int) Int) :=
 req ((6 : Int) ≠ 0) <|
 sel (decide (v12.2 < (Xaa .i64 (p0.tdiv 6)))) (
 some (.go (Xaa .i64 (2 * v12.1), Xaa .i64 (v12.2 + 1)))) (
 some (.done v12.1))
def Xg1 (p0 : Int) (p1 : Int) : Option Int :=
 bnd (Xk8 p1) fun q1 =>
 bnd (
 bnd (Xax p0 0 40) fun q3 =>
 sel q3 (
 some (decide (q1 < 0))) (
 some true)) fun v2 =>
 sel v2 (
 some 0) (
 bnd (
 req ((6 : Int) ≠ 0) <|
 sel ((p0.tmod 6) == 0) (
 bnd (Xbs q1 10 16 13) fun q5 =>
 some q5) (
 sel ((p0.tmod 6) == 1) (
 bnd (Xbs q1 11 18 14) fun q6 =>
 some q6) (
 sel ((p0.tmod 6) == 2) (
 bnd (Xbs q1 13 20 16) fun q7 =>
 some q7) (
 sel ((p0.tmod 6) == 3) (
 bnd (Xbs q1 14 23 18) fun q8 =>
 some q8) (
 sel ((p0.tmod 6) == 4) (
 bnd (Xbs q1 16 25 20) fun q9 =>
 some q9) (
 sel ((p0.tmod 6) == 5) (
 bnd (Xbs q1 18 29 23) fun q10 =>
 some q10) (
 some 0))))))) fun v4 =>
 bnd (loop (Xea p0) (v4, 0)) fun v14 =>
 some v14)
def Xe0 (p0 : Int) (p1 : Int) (p2 : Int) : Option Int :=
 bnd (Xax p0 (-5000) 5000) fun q1 =>
 sel (!q1) (
 some 0) (
 bnd (Xg1 p1 p2) fun q2 =>
 some (Xaa .i64 (p0 * q2)))
def Xcq (p0 : (List Int)) (v4 : (Int × (List Int))) : Option (Lp (Int × (List Int)) (List Int)) :=
 sel (decide (v4.1 < 4)) (
 req (0 ≤ (Xaa .i64 (4 * v4.1)) ∧ (Xaa .i64 (4 * v4.1)) < p0.length) <|
 req (0 ≤ (Xaa .i64 ((Xaa .i64 (4 * v4.1)) + 1)) ∧ (Xaa .i64 ((Xaa .i64 (4 * v4.1)) + 1)) < p0.length) <|
 req (0 ≤ (Xaa .i64 ((Xaa .i64 (4 * v4.1)) + 2)) ∧ (Xaa .i64 ((Xaa .i64 (4 * v4.1)) + 2)) < p0.length) <|
 req (0 ≤ (Xaa .i64 ((Xaa .i64 (4 * v4.1)) + 3)) ∧ (Xaa .i64 ((Xaa .i64 (4 * v4.1)) + 3)) < p0.length) <|
 bnd (Xcr (p0.getD (Xaa .i64 ((Xaa .i64 (4 * v4.1)) + 1)).toNat 0) 2) fun q9 =>
 bnd (Xcr (p0.getD (Xaa .i64 ((Xaa .i64 (4 * v4.1)) + 3)).toNat 0) 2) fun q10 =>
 req ((v4.2.length + ([Xaa .i64 ((Xaa .i64 ((p0.getD (Xaa .i64 (4 * v4.1)).toNat 0) + (p0.getD (Xaa .i64 ((Xaa .i64 (4 * v4.1)) + 2)).toNat 0))) + (Xaa .i64 ((p0.getD (Xaa .i64 ((Xaa .i64 (4 * v4.1)) + 1)).toNat 0) + q10))), Xaa .i64 ((Xaa .i64 ((p0.getD (Xaa .i64 (4 * v4.1)).toNat 0) - (p0.getD (Xaa .i64 ((Xaa .i64 (4 * v4.1)) + 2)).toNat 0))) + (Xaa .i64 (q9 - (p0.getD (Xaa .i64 ((Xaa .i64 (4 * v4.1)) + 3)).toNat 0)))), Xaa .i64 ((Xaa .i64 ((p0.getD (Xaa .i64 (4 * v4.1)).toNat 0) - (p0.getD (Xaa .i64 ((Xaa .i64 (4 * v4.1)) + 2)).toNat 0))) - (Xaa .i64 (q9 - (p0.getD (Xaa .i64 ((Xaa .i64 (4 * v4.1)) + 3)).toNat 0)))), Xaa .i64 ((Xaa .i64 ((p0.getD (Xaa .i64 (4 * v4.1)).toNat 0) + (p0.getD (Xaa .i64 ((Xaa .i64 (4 * v4.1)) + 2)).toNat 0))) - (Xaa .i64 ((p0.getD (Xaa .i64 ((Xaa .i64 (4 * v4.1)) + 1)).toNat 0) + q10)))]).length) * 8 ≤ 140737488355328 ∧ v4.2.length + ([Xaa .i64 ((Xaa .i64 ((p0.getD (Xaa .i64 (4 * v4.1)).toNat 0) + (p0.getD (Xaa .i64 ((Xaa .i64 (4 * v4.1)) + 2)).toNat 0))) + (Xaa .i64 ((p0.getD (Xaa .i64 ((Xaa .i64 (4 * v4.1)) + 1)).toNat 0) + q10))), Xaa .i64 ((Xaa .i64 ((p0.getD (Xaa .i64 (4 * v4.1)).toNat 0) - (p0.getD (Xaa .i64 ((Xaa .i64 (4 * v4.1)) + 2)).toNat 0))) + (Xaa .i64 (q9 - (p0.getD (Xaa .i64 ((Xaa .i64 (4 * v4.1)) + 3)).toNat 0)))), Xaa .i64 ((Xaa .i64 ((p0.getD (Xaa .i64 (4 * v4.1)).toNat 0) - (p0.getD (Xaa .i64 ((Xaa .i64 (4 * v4.1)) + 2)).toNat 0))) - (Xaa .i64 (q9 - (p0.getD (Xaa .i64 ((Xaa .i64 (4 * v4.1)) + 3)).toNat 0)))), Xaa .i64 ((Xaa .i64 ((p0.getD (Xaa .i64 (4 * v4.1)).toNat 0) + (p0.getD (Xaa .i64 ((Xaa .i64 (4 * v4.1)) + 2)).toNat 0))) - (Xaa .i64 ((p0.getD (Xaa .i64 ((Xaa .i64 (4 * v4.1)) + 1)).toNat 0) + q10)))]).length ≤ maxLen) <|
 some (.go (Xaa .i64 (v4.1 + 1), (v4.2 ++ ([Xaa .i64 ((Xaa .i64 ((p0.getD (Xaa .i64 (4 * v4.1)).toNat 0) + (p0.getD (Xaa .i64 ((Xaa .i64 (4 * v4.1)) + 2)).toNat 0))) + (Xaa .i64 ((p0.getD (Xaa .i64 ((Xaa .i64 (4 * v4.1)) + 1)).toNat 0) + q10))), Xaa .i64 ((Xaa .i64 ((p0.getD (Xaa .i64 (4 * v4.1)).toNat 0) - (p0.getD (Xaa .i64 ((Xaa .i64 (4 * v4.1)) + 2)).toNat 0))) + (Xaa .i64 (q9 - (p0.getD (Xaa .i64 ((Xaa .i64 (4 * v4.1)) + 3)).toNat 0)))), Xaa .i64 ((Xaa .i64 ((p0.getD (Xaa .i64 (4 * v4.1)).toNat 0) - (p0.getD (Xaa .i64 ((Xaa .i64 (4 * v4.1)) + 2)).toNat 0))) - (Xaa .i64 (q9 - (p0.getD (Xaa .i64 ((Xaa .i64 (4 * v4.1)) + 3)).toNat 0)))), Xaa .i64 ((Xaa .i64 ((p0.getD (Xaa .i64 (4 * v4.1)).toNat 0) + (p0.getD (Xaa .i64 ((Xaa .i64 (4 * v4.1)) + 2)).toNat 0))) - (Xaa .i64 ((p0.getD (Xaa .i64 ((Xaa .i64 (4 * v4.1)) + 1)).toNat 0) + q10)))]))))) (
 some (.done v4.2))
def Xer (p0 : (List Int)) : Option (List Int) :=
 bnd (loop (Xcq p0) (0, ([] : List Int))) fun v8 =>
 some v8
def Xdd (p0 : (List Int)) (v2 : (Int × (List Int))) : Option (Lp (Int × (List Int)) (List Int)) :=
 sel (decide (v2.1 < 16)) (
 req ((4 : Int) ≠ 0) <|
 req ((4 : Int) ≠ 0) <|
 req (0 ≤ v2.1 ∧ v2.1 < p0.length) <|
 req (0 ≤ (Xaa .i64 ((Xaa .i64 ((v2.1.tmod 4) * 4)) + (Xaa .i64 (v2.1.tdiv 4)))) ∧ (Xaa .i64 ((Xaa .i64 ((v2.1.tmod 4) * 4)) + (Xaa .i64 (v2.1.tdiv 4)))) < v2.2.length) <|
 req ((Xaa .i64 ((Xaa .i64 ((v2.1.tmod 4) * 4)) + (Xaa .i64 (v2.1.tdiv 4)))).toNat < v2.2.length) <|
 some (.go (Xaa .i64 (v2.1 + 1), (v2.2.set ((Xaa .i64 ((Xaa .i64 ((v2.1.tmod 4) * 4)) + (Xaa .i64 (v2.1.tdiv 4)))).toNat) (p0.getD v2.1.toNat 0))))) (
 some (.done v2.2))
def Xfo (p0 : (List Int)) : Option (List Int) :=
 req (0 ≤ (16 : Int) ∧ (16 : Int) ≤ (16 : Int) ∧ (16 : Int) * 8 ≤ 281474976710656) <|
 bnd (loop (Xdd p0) (0, (List.replicate (16 : Int).toNat (0 : Int)))) fun v4 =>
 some v4
def Xf7 (v8 : (Int × (List Int))) : Option (Lp (Int × (List Int)) (List Int)) :=
 sel (decide (v8.1 < 16)) (
 req (0 ≤ v8.1 ∧ v8.1 < v8.2.length) <|
 req (v8.1.toNat < v8.2.length) <|
 bnd (Xcr (Xaa .i64 ((v8.2.getD v8.1.toNat 0) + 32)) 64) fun q12 =>
 req (0 ≤ v8.1 ∧ v8.1 < v8.2.length) <|
 req (v8.1.toNat < v8.2.length) <|
 some (.go (Xaa .i64 (v8.1 + 1), (v8.2.set v8.1.toNat q12)))) (
 some (.done v8.2))
def Xfv (p0 : (List Int)) : Option (List Int) :=
 bnd (Xdl p0 16 10000000) fun q1 =>
 sel (!q1) (
 some ([] : List Int)) (
 bnd (Xer p0) fun q2 =>
 bnd (Xfo q2) fun q3 =>
 bnd (Xer q3) fun q4 =>
 bnd (Xfo q4) fun q5 =>
 bnd (loop (Xf7) (0, q5)) fun v11 =>
 some v11)
def Xbe (p1 : Xkj) (v8 : (Int × (List Int))) : Option (Lp (Int × (List Int)) (List Int)) :=
 sel (decide (v8.1 < 64)) (
 req (0 ≤ v8.1 ∧ v8.1 < v8.2.length) <|
 req (v8.1.toNat < v8.2.length) <|
 bnd (Xez (v8.2.getD v8.1.toNat 0) p1.Qp) fun q12 =>
 req (0 ≤ v8.1 ∧ v8.1 < v8.2.length) <|
 req (v8.1.toNat < v8.2.length) <|
 some (.go (Xaa .i64 (v8.1 + 1), (v8.2.set v8.1.toNat q12)))) (
 some (.done v8.2))
def Xbc (p1 : Xkj) (v52 : (Int × (List Int))) : Option (Lp (Int × (List Int)) (List Int)) :=
 sel (decide (v52.1 < 16)) (
 req (0 ≤ v52.1 ∧ v52.1 < v52.2.length) <|
 req (v52.1.toNat < v52.2.length) <|
 bnd (Xe0 (v52.2.getD v52.1.toNat 0) p1.Qp v52.1) fun q56 =>
 req (0 ≤ v52.1 ∧ v52.1 < v52.2.length) <|
 req (v52.1.toNat < v52.2.length) <|
 some (.go (Xaa .i64 (v52.1 + 1), (v52.2.set v52.1.toNat q56)))) (
 some (.done v52.2))
def Xbf (v31 : (Int × (List Int))) (q58 : (List Int)) (v60 : (Int × (List Int))) : Option (Lp (Int × (List Int)) (List Int)) :=
 sel (decide (v60.1 < 16)) (
 req ((2 : Int) ≠ 0) <|
 req ((4 : Int) ≠ 0) <|
 req ((2 : Int) ≠ 0) <|
 req ((4 : Int) ≠ 0) <|
 req (0 ≤ v60.1 ∧ v60.1 < q58.length) <|
 req (v60.1.toNat < q58.length) <|
 req (0 ≤ (Xaa .i64 ((Xaa .i64 ((Xaa .i64 (8 * (Xaa .i64 ((Xaa .i64 ((Xaa .i64 (v31.1.tdiv 2)) * 4)) + (Xaa .i64 (v60.1.tdiv 4)))))) + (Xaa .i64 ((v31.1.tmod 2) * 4)))) + (v60.1.tmod 4))) ∧ (Xaa .i64 ((Xaa .i64 ((Xaa .i64 (8 * (Xaa .i64 ((Xaa .i64 ((Xaa .i64 (v31.1.tdiv 2)) * 4)) + (Xaa .i64 (v60.1.tdiv 4)))))) + (Xaa .i64 ((v31.1.tmod 2) * 4)))) + (v60.1.tmod 4))) < v60.2.length) <|
 req ((Xaa .i64 ((Xaa .i64 ((Xaa .i64 (8 * (Xaa .i64 ((Xaa .i64 ((Xaa .i64 (v31.1.tdiv 2)) * 4)) + (Xaa .i64 (v60.1.tdiv 4)))))) + (Xaa .i64 ((v31.1.tmod 2) * 4)))) + (v60.1.tmod 4))).toNat < v60.2.length) <|
 some (.go (Xaa .i64 (v60.1 + 1), (v60.2.set ((Xaa .i64 ((Xaa .i64 ((Xaa .i64 (8 * (Xaa .i64 ((Xaa .i64 ((Xaa .i64 (v31.1.tdiv 2)) * 4)) + (Xaa .i64 (v60.1.tdiv 4)))))) + (Xaa .i64 ((v31.1.tmod 2) * 4)))) + (v60.1.tmod 4))).toNat) (q58.getD v60.1.toNat 0))))) (
 some (.done v60.2))
def Xb5 (p0 : (List Int)) (p1 : Xkj) (v31 : (Int × (List Int))) : Option (Lp (Int × (List Int)) (List Int)) :=
 sel (decide (v31.1 < 4)) (
 req (0 ≤ (Xaa .i64 (16 * v31.1)) ∧ (Xaa .i64 (16 * v31.1)) ≤ (Xaa .i64 ((Xaa .i64 (16 * v31.1)) + 16)) ∧ (Xaa .i64 ((Xaa .i64 (16 * v31.1)) + 16)) ≤ (p0.length : Int)) <|
 bnd (Xc3 4 ((p0.drop (Xaa .i64 (16 * v31.1)).toNat).take ((Xaa .i64 ((Xaa .i64 (16 * v31.1)) + 16)).toNat - (Xaa .i64 (16 * v31.1)).toNat))) fun q49 =>
 bnd (loop (Xbc p1) (0, q49.1)) fun v55 =>
 bnd (Xfv v55) fun q58 =>
 bnd (loop (Xbf v31 q58) (0, v31.2)) fun v62 =>
 some (.go (Xaa .i64 (v31.1 + 1), v62))) (
 some (.done v31.2))
def Xdb (p0 : (List Int)) (p1 : Xkj) : Option ((List Int) × Bool) :=
 bnd (
 bnd (Xgy p1) fun q2 =>
 sel q2 (
 bnd (Xdl p0 64 5000) fun q3 =>
 some (!q3)) (
 some true)) fun v1 =>
 sel v1 (
 some (([] : List Int), false)) (
 sel p1.Exact (
 bnd (Xc3 8 p0) fun q4 =>
 some (q4.1, q4.2)) (
 sel p1.Large (
 bnd (Xc3 8 p0) fun q5 =>
 bnd (loop (Xbe p1) (0, q5.1)) fun v11 =>
 bnd (Xex v11) fun q14 =>
 some (q14, true)) (
 req (0 ≤ (64 : Int) ∧ (64 : Int) ≤ (64 : Int) ∧ (64 : Int) * 8 ≤ 281474976710656) <|
 bnd (loop (Xb5 p0 p1) (0, (List.replicate (64 : Int).toNat (0 : Int)))) fun v48 =>
 some (v48, true))))
def Xhb (p0 : (List Int)) (v4 : Int) : Option (Lp Int (Ou Unit Bool)) :=
 sel (decide (v4 < (p0.length : Int))) (
 req (0 ≤ v4 ∧ v4 < p0.length) <|
 bnd (Xax (p0.getD v4.toNat 0) 0 255) fun q8 =>
 sel (!q8) (
 some (.done (.ret false))) (
 some (.go (Xaa .i64 (v4 + 1))))) (
 some (.done (.out ())))
def Xjh (p0 : (List Int)) : Option Bool :=
 bnd (
 sel ((p0.length : Int) != 0) (
 some ((p0.length : Int) != 8)) (
 some false)) fun v1 =>
 sel v1 (
 some false) (
 bnd (loop (Xhb p0) 0) fun o9 => match o9 with
| .out v7 => (
 some true)
| .ret r => some r)
def Xl5 (p0 : Xkl) : Option Bool :=
 bnd (
 bnd (Xjh p0.Above) fun q2 =>
 sel q2 (
 bnd (Xjh p0.Left) fun q3 =>
 sel q3 (
 bnd (Xax p0.Corner (-1) 255) fun q4 =>
 some q4) (
 some false)) (
 some false)) fun v1 =>
 some v1
def Xc5 (p0 : (List Int)) (p1 : Int) : Option Int :=
 sel ((p0.length : Int) == 0) (
 some 128) (
 req (0 ≤ p1 ∧ p1 < p0.length) <|
 some (p0.getD p1.toNat 0))
def Xgi (p0 : Xkl) (v2 : (Int × Int)) : Option (Lp (Int × Int) Int) :=
 sel (decide (v2.2 < (p0.Above.length : Int))) (
 req (0 ≤ v2.2 ∧ v2.2 < p0.Above.length) <|
 some (.go (Xaa .i64 (v2.1 + (p0.Above.getD v2.2.toNat 0)), Xaa .i64 (v2.2 + 1)))) (
 some (.done v2.1))
def Xgj (p0 : Xkl) (v7 : (Int × Int)) : Option (Lp (Int × Int) Int) :=
 sel (decide (v7.2 < (p0.Left.length : Int))) (
 req (0 ≤ v7.2 ∧ v7.2 < p0.Left.length) <|
 some (.go (Xaa .i64 (v7.1 + (p0.Left.getD v7.2.toNat 0)), Xaa .i64 (v7.2 + 1)))) (
 some (.done v7.1))
def Xi3 (p0 : Xkl) : Option Int :=
 sel ((Xaa .i64 ((p0.Above.length : Int) + (p0.Left.length : Int))) == 0) (
 some 128) (
 req ((2 : Int) ≠ 0) <|
 bnd (loop (Xgi p0) (Xaa .i64 ((Xaa .i64 ((p0.Above.length : Int) + (p0.Left.length : Int))).tdiv 2), 0)) fun v4 =>
 bnd (loop (Xgj p0) (v4, 0)) fun v9 =>
 req ((Xaa .i64 ((p0.Above.length : Int) + (p0.Left.length : Int))) ≠ 0) <|
 some (Xaa .i64 (v9.tdiv (Xaa .i64 ((p0.Above.length : Int) + (p0.Left.length : Int))))))
def Xda (p0 : Int) (p1 : Xkl) (v4 : Int) (v11 : (Int × (List Int))) : Option (Lp (Int × (List Int)) (List Int)) :=
 sel (decide (v11.1 < 64)) (
 bnd (
 req ((8 : Int) ≠ 0) <|
 bnd (Xc5 p1.Above (v11.1.tmod 8)) fun q20 =>
 req ((8 : Int) ≠ 0) <|
 bnd (Xc5 p1.Left (Xaa .i64 (v11.1.tdiv 8))) fun q21 =>
 sel (p0 == 0) (
 bnd (Xi3 p1) fun q22 =>
 req ((v11.2.length + ([q22]).length) * 8 ≤ 140737488355328 ∧ v11.2.length + ([q22]).length ≤ maxLen) <|
 some (v11.2 ++ ([q22]))) (
 sel (p0 == 1) (
 req ((v11.2.length + ([q20]).length) * 8 ≤ 140737488355328 ∧ v11.2.length + ([q20]).length ≤ maxLen) <|
 some (v11.2 ++ ([q20]))) (
 sel (p0 == 2) (
 req ((v11.2.length + ([q21]).length) * 8 ≤ 140737488355328 ∧ v11.2.length + ([q21]).length ≤ maxLen) <|
 some (v11.2 ++ ([q21]))) (
 bnd (Xeq (Xaa .i64 ((Xaa .i64 (q21 + q20)) - v4)) 0 255) fun q23 =>
 req ((v11.2.length + ([q23]).length) * 8 ≤ 140737488355328 ∧ v11.2.length + ([q23]).length ≤ maxLen) <|
 some (v11.2 ++ ([q23])))))) fun v19 =>
 some (.go (Xaa .i64 (v11.1 + 1), v19))) (
 some (.done v11.2))
def Xfm (p0 : Int) (p1 : Xkl) : Option (List Int) :=
 bnd (
 bnd (Xl5 p1) fun q2 =>
 sel q2 (
 bnd (Xax p0 0 3) fun q3 =>
 some (!q3)) (
 some true)) fun v1 =>
 sel v1 (
 some ([] : List Int)) (
 bnd (
 sel (decide (p1.Corner < 0)) (
 some 128) (
 some p1.Corner)) fun v4 =>
 bnd (loop (Xda p0 p1 v4) (0, ([] : List Int))) fun v18 =>
 some v18)
def Xha (p0 : (List Int)) (v3 : Int) : Option (Lp Int (Ou Unit Bool)) :=
 sel (decide (v3 < 64)) (
 req (0 ≤ v3 ∧ v3 < p0.length) <|
 bnd (Xax (p0.getD v3.toNat 0) 0 255) fun q7 =>
 sel (!q7) (
 some (.done (.ret false))) (
 some (.go (Xaa .i64 (v3 + 1))))) (
 some (.done (.out ())))
def Xl8 (p0 : (List Int)) : Option Bool :=
 sel ((p0.length : Int) != 64) (
 some false) (
 bnd (loop (Xha p0) 0) fun o8 => match o8 with
| .out v6 => (
 some true)
| .ret r => some r)
def Xey (p0 : (List Int)) (p1 : (List Int)) (v6 : (Int × (List Int))) : Option (Lp (Int × (List Int)) (List Int)) :=
 sel (decide (v6.1 < 64)) (
 req (0 ≤ v6.1 ∧ v6.1 < p0.length) <|
 req (0 ≤ v6.1 ∧ v6.1 < p1.length) <|
 bnd (Xeq (Xaa .i64 ((p0.getD v6.1.toNat 0) + (p1.getD v6.1.toNat 0))) 0 255) fun q10 =>
 req ((v6.2.length + ([q10]).length) * 8 ≤ 140737488355328 ∧ v6.2.length + ([q10]).length ≤ maxLen) <|
 some (.go (Xaa .i64 (v6.1 + 1), (v6.2 ++ ([q10]))))) (
 some (.done v6.2))
def Xg0 (p0 : (List Int)) (p1 : (List Int)) : Option (List Int) :=
 bnd (
 bnd (Xl8 p0) fun q2 =>
 sel q2 (
 bnd (Xdl p1 64 10000000) fun q3 =>
 some (!q3)) (
 some true)) fun v1 =>
 sel v1 (
 some ([] : List Int)) (
 bnd (loop (Xey p0 p1) (0, ([] : List Int))) fun v9 =>
 some v9)
def Xgx (p0 : Pic) (p1 : Int) (p2 : Int) (v7 : (Int × (List Int))) : Option (Lp (Int × (List Int)) (List Int)) :=
 sel (decide (v7.1 < 64)) (
 req ((8 : Int) ≠ 0) <|
 req ((8 : Int) ≠ 0) <|
 bnd (Xfa p0 (Xaa .i64 (p1 + (v7.1.tmod 8))) (Xaa .i64 (p2 + (Xaa .i64 (v7.1.tdiv 8))))) fun q11 =>
 req ((v7.2.length + ([q11]).length) * 8 ≤ 140737488355328 ∧ v7.2.length + ([q11]).length ≤ maxLen) <|
 some (.go (Xaa .i64 (v7.1 + 1), (v7.2 ++ ([q11]))))) (
 some (.done v7.2))
def Xl4 (p0 : Pic) (p1 : Int) (p2 : Int) : Option (List Int) :=
 bnd (
 bnd (Xgf p0) fun q2 =>
 sel q2 (
 bnd (Xax p1 (-1000) 1000) fun q3 =>
 sel q3 (
 bnd (Xax p2 (-1000) 1000) fun q4 =>
 some (!q4)) (
 some true)) (
 some true)) fun v1 =>
 sel v1 (
 some ([] : List Int)) (
 bnd (loop (Xgx p0 p1 p2) (0, ([] : List Int))) fun v10 =>
 some v10)
def Xcm (p0 : Pic) (p1 : Pic) (p2 : Int) (p3 : Int) (p4 : Xkj) (p5 : Int) (p6 : Int) (p7 : Xay) : Option ((List Int) × Bool) :=
 bnd (
 bnd (Xjg p0 p5 p6) fun q2 =>
 sel q2 (
 bnd (Xax p2 0 256) fun q3 =>
 sel q3 (
 bnd (Xax p3 0 256) fun q4 =>
 sel q4 (
 bnd (Xds p7) fun q5 =>
 sel q5 (
 bnd (Xgy p4) fun q6 =>
 some (!q6)) (
 some true)) (
 some true)) (
 some true)) (
 some true)) fun v1 =>
 sel v1 (
 some (([] : List Int), false)) (
 sel (p7.Kind == 2) (
 bnd (Xgz p0 p5 p6) fun q7 =>
 bnd (Xdb p7.Levels p4) fun q8 =>
 bnd (Xfm p7.Mode q7.1) fun q9 =>
 bnd (Xg0 q9 q8.1) fun q10 =>
 some (q10, true)) (
 bnd (
 sel p4.Key (
 some true) (
 bnd (Xgf p1) fun q12 =>
 some (!q12))) fun v11 =>
 sel v11 (
 some (([] : List Int), false)) (
 bnd (Xl4 p1 (Xaa .i64 ((Xaa .i64 (p2 + p5)) + p7.Dx)) (Xaa .i64 ((Xaa .i64 (p3 + p6)) + p7.Dy))) fun q13 =>
 sel (p7.Kind == 0) (
 some (q13, true)) (
 bnd (Xdb p7.Levels p4) fun q14 =>
 bnd (Xg0 q13 q14.1) fun q15 =>
 some (q15, true)))))
def Xe1 (p0 : Pic) (p1 : Int) (p2 : Int) (p3 : (List Int)) (v2 : (Int × (List Int))) : Option (Lp (Int × (List Int)) (List Int)) :=
 sel (decide (v2.1 < 64)) (
 req ((8 : Int) ≠ 0) <|
 req ((8 : Int) ≠ 0) <|
 req (0 ≤ v2.1 ∧ v2.1 < p3.length) <|
 req (0 ≤ (Xaa .i64 ((Xaa .i64 ((Xaa .i64 ((Xaa .i64 (p2 + (Xaa .i64 (v2.1.tdiv 8)))) * p0.Wide)) + p1)) + (v2.1.tmod 8))) ∧ (Xaa .i64 ((Xaa .i64 ((Xaa .i64 ((Xaa .i64 (p2 + (Xaa .i64 (v2.1.tdiv 8)))) * p0.Wide)) + p1)) + (v2.1.tmod 8))) < v2.2.length) <|
 req ((Xaa .i64 ((Xaa .i64 ((Xaa .i64 ((Xaa .i64 (p2 + (Xaa .i64 (v2.1.tdiv 8)))) * p0.Wide)) + p1)) + (v2.1.tmod 8))).toNat < v2.2.length) <|
 some (.go (Xaa .i64 (v2.1 + 1), (v2.2.set ((Xaa .i64 ((Xaa .i64 ((Xaa .i64 ((Xaa .i64 (p2 + (Xaa .i64 (v2.1.tdiv 8)))) * p0.Wide)) + p1)) + (v2.1.tmod 8))).toNat) (Xaa .u8 ((p3.getD v2.1.toNat 0))))))) (
 some (.done v2.2))
def Xhc (p0 : Pic) (p1 : Int) (p2 : Int) (p3 : (List Int)) : Option Pic :=
 req (p0.Dots.size ≤ maxLen) <|
 bnd (loop (Xe1 p0 p1 p2 p3) (0, (Xbr p0.Dots))) fun v4 =>
 some (⟨p0.Wide, p0.High, (strOfNums v4)⟩ : Pic)
def Xba (p1 : Xpv) (p2 : Xkj) (p4 : (List Xay)) (v9 : (Int × Int × Int × Int × ByteArray)) (v16 : (Int × Int × Int × ByteArray)) : Option (Lp (Int × Int × Int × ByteArray) (Int × Int × ByteArray)) :=
 sel (decide (v16.1 < (p4.length : Int))) (
 req ((8 : Int) ≠ 0) <|
 req ((Xaa .i64 (p1.Wide.tdiv 8)) ≠ 0) <|
 req ((8 : Int) ≠ 0) <|
 req ((Xaa .i64 (p1.Wide.tdiv 8)) ≠ 0) <|
 req (0 ≤ v16.1 ∧ v16.1 < p4.length) <|
 bnd (Xcm (⟨v16.2.1, v16.2.2.1, v16.2.2.2⟩ : Pic) (⟨v9.2.2.1, v9.2.2.2.1, v9.2.2.2.2⟩ : Pic) v9.1 v9.2.1 p2 (Xaa .i64 (8 * (v16.1.tmod (Xaa .i64 (p1.Wide.tdiv 8))))) (Xaa .i64 (8 * (Xaa .i64 (v16.1.tdiv (Xaa .i64 (p1.Wide.tdiv 8)))))) (⟨(p4.getD v16.1.toNat Xbt).Kind, (p4.getD v16.1.toNat Xbt).Mode, (p4.getD v16.1.toNat Xbt).Dx, (p4.getD v16.1.toNat Xbt).Dy, (p4.getD v16.1.toNat Xbt).Levels⟩ : Xay)) fun q21 =>
 bnd (Xhc (⟨v16.2.1, v16.2.2.1, v16.2.2.2⟩ : Pic) (Xaa .i64 (8 * (v16.1.tmod (Xaa .i64 (p1.Wide.tdiv 8))))) (Xaa .i64 (8 * (Xaa .i64 (v16.1.tdiv (Xaa .i64 (p1.Wide.tdiv 8)))))) q21.1) fun q22 =>
 some (.go (Xaa .i64 (v16.1 + 1), q22.Wide, q22.High, q22.Dots))) (
 some (.done (v16.2.1, v16.2.2.1, v16.2.2.2)))
def Xkc (p0 : Pic) (p1 : Xpv) (p2 : Xkj) (p3 : Bool) (p4 : (List Xay)) : Option (Pic × Bool) :=
 bnd (
 bnd (Xjj p1.Wide) fun q2 =>
 sel q2 (
 bnd (Xjj p1.High) fun q3 =>
 sel q3 (
 bnd (Xax p1.Left 0 256) fun q4 =>
 sel q4 (
 bnd (Xax p1.Top 0 256) fun q5 =>
 sel q5 (
 bnd (Xpt p4 p2) fun q6 =>
 sel q6 (
 req ((8 : Int) ≠ 0) <|
 req ((8 : Int) ≠ 0) <|
 some ((p4.length : Int) != (Xaa .i64 ((Xaa .i64 (p1.Wide.tdiv 8)) * (Xaa .i64 (p1.High.tdiv 8)))))) (
 some true)) (
 some true)) (
 some true)) (
 some true)) (
 some true)) fun v1 =>
 sel v1 (
 some ((⟨0, 0, ⟨#[]⟩⟩ : Pic), false)) (
 bnd (
 sel p2.Key (
 some false) (
 bnd (Xb4 p0 p1.Left p1.Top p1.Wide p1.High) fun q8 =>
 some (!q8))) fun v7 =>
 sel v7 (
 some ((⟨0, 0, ⟨#[]⟩⟩ : Pic), false)) (
 bnd (
 bnd (
 sel p2.Key (
 some false) (
 some p3)) fun v10 =>
 sel v10 (
 bnd (Xm8 p0 p1) fun q11 =>
 some (0, 0, q11.1.Wide, q11.1.High, q11.1.Dots)) (
 some (p1.Left, p1.Top, p0.Wide, p0.High, p0.Dots))) fun v9 =>
 bnd (Xnq p1.Wide p1.High) fun q12 =>
 bnd (loop (Xba p1 p2 p4 v9) (0, q12.Wide, q12.High, q12.Dots)) fun v20 =>
 some ((⟨v20.1, v20.2.1, v20.2.2⟩ : Pic), true)))
def Xbo (p0 : Pic) (p1 : Pic) (p2 : Int) (p3 : Int) (v10 : (Int × (List Int))) (v19 : (Int × (List Int))) : Option (Lp (Int × (List Int)) (List Int)) :=
 sel (decide (v19.1 < p1.Wide)) (
 req (0 ≤ (Xaa .i64 ((Xaa .i64 (v10.1 * p1.Wide)) + v19.1)) ∧ (Xaa .i64 ((Xaa .i64 (v10.1 * p1.Wide)) + v19.1)) < p1.Dots.size) <|
 req (0 ≤ (Xaa .i64 ((Xaa .i64 ((Xaa .i64 ((Xaa .i64 (p3 + v10.1)) * p0.Wide)) + p2)) + v19.1)) ∧ (Xaa .i64 ((Xaa .i64 ((Xaa .i64 ((Xaa .i64 (p3 + v10.1)) * p0.Wide)) + p2)) + v19.1)) < v19.2.length) <|
 req ((Xaa .i64 ((Xaa .i64 ((Xaa .i64 ((Xaa .i64 (p3 + v10.1)) * p0.Wide)) + p2)) + v19.1)).toNat < v19.2.length) <|
 some (.go (Xaa .i64 (v19.1 + 1), (v19.2.set ((Xaa .i64 ((Xaa .i64 ((Xaa .i64 ((Xaa .i64 (p3 + v10.1)) * p0.Wide)) + p2)) + v19.1)).toNat) (Xkn p1.Dots (Xaa .i64 ((Xaa .i64 (v10.1 * p1.Wide)) + v19.1))))))) (
 some (.done v19.2))
def Xdc (p0 : Pic) (p1 : Pic) (p2 : Int) (p3 : Int) (v10 : (Int × (List Int))) : Option (Lp (Int × (List Int)) (List Int)) :=
 sel (decide (v10.1 < p1.High)) (
 bnd (loop (Xbo p0 p1 p2 p3 v10) (0, v10.2)) fun v21 =>
 some (.go (Xaa .i64 (v10.1 + 1), v21))) (
 some (.done v10.2))
def Xnt (p0 : Pic) (p1 : Pic) (p2 : Int) (p3 : Int) : Option (Pic × Bool) :=
 bnd (
 bnd (Xgf p1) fun q2 =>
 sel q2 (
 bnd (Xb4 p0 p2 p3 p1.Wide p1.High) fun q3 =>
 some (!q3)) (
 some true)) fun v1 =>
 sel v1 (
 some (p0, false)) (
 req (p0.Dots.size ≤ maxLen) <|
 bnd (loop (Xdc p0 p1 p2 p3) (0, (Xbr p0.Dots))) fun v17 =>
 some ((⟨p0.Wide, p0.High, (strOfNums v17)⟩ : Pic), true))
def Xki (p0 : Decoder) (p1 : Int) (p2 : ByteArray) : Option (Decoder × Int × Pic) :=
 sel (!p0.HasPar) (
 some (p0, 4, (⟨0, 0, ⟨#[]⟩⟩ : Pic))) (
 bnd (Xhw p0.Seq p0.Par p2) fun q1 =>
 sel (!q1.2.2) (
 some (p0, 5, (⟨0, 0, ⟨#[]⟩⟩ : Pic))) (
 sel (q1.1.Tile != p0.Got) (
 some (p0, 6, (⟨0, 0, ⟨#[]⟩⟩ : Pic))) (
 bnd (
 sel (p0.Frame != (-1)) (
 some (p0.Frame != q1.1.Frame)) (
 some false)) fun v2 =>
 sel v2 (
 some (p0, 7, (⟨0, 0, ⟨#[]⟩⟩ : Pic))) (
 bnd (
 sel (p1 == 1) (
 some (!p0.HasRef)) (
 some false)) fun v3 =>
 sel v3 (
 some (p0, 8, (⟨0, 0, ⟨#[]⟩⟩ : Pic))) (
 bnd (Xf8 p0.Seq q1.1.Tile) fun q4 =>
 bnd (Xj8 p2 q1.2.1 q4 (⟨(p1 == 5), q1.1.Qp, p0.Par.Large, p0.Par.Exact⟩ : Xkj)) fun q5 =>
 sel (!q5.2) (
 some (p0, 9, (⟨0, 0, ⟨#[]⟩⟩ : Pic))) (
 bnd (Xhz p0.Seq q1.1.Tile) fun q6 =>
 bnd (Xkc p0.Ref q6.1 (⟨(p1 == 5), q1.1.Qp, p0.Par.Large, p0.Par.Exact⟩ : Xkj) p0.Par.Confined q5.1) fun q7 =>
 bnd (
 sel (p0.Got == 0) (
 bnd (Xi1 p0.Seq) fun q9 =>
 bnd (Xnq q9.1 q9.2) fun q10 =>
 some (q10.Wide, q10.High, q10.Dots)) (
 some (p0.Now.Wide, p0.Now.High, p0.Now.Dots))) fun v8 =>
 bnd (Xnt (⟨v8.1, v8.2.1, v8.2.2⟩ : Pic) q7.1 q6.1.Left q6.1.Top) fun q11 =>
 bnd (Xfn p0.Seq) fun q12 =>
 sel (decide ((Xaa .i64 (p0.Got + 1)) < q12)) (
 some ((⟨p0.HasSeq, p0.HasPar, p0.HasRef, p0.Seq, p0.Par, q1.1.Frame, Xaa .i64 (p0.Got + 1), q11.1, p0.Ref⟩ : Decoder), 0, (⟨0, 0, ⟨#[]⟩⟩ : Pic))) (
 req (0 ≤ (Xaa .u64 (p0.Seq.Bits))) <|
 req ((Xaa .i64 (1 * 2 ^ min (Xaa .u64 (p0.Seq.Bits)).toNat (IntKind.bits .i64))) ≠ 0) <|
 some ((⟨p0.HasSeq, p0.HasPar, true, p0.Seq, p0.Par, ((Xaa .i64 (q1.1.Frame + 1)).tmod (Xaa .i64 (1 * 2 ^ min (Xaa .u64 (p0.Seq.Bits)).toNat (IntKind.bits .i64)))), 0, (⟨0, 0, ⟨#[]⟩⟩ : Pic), q11.1⟩ : Decoder), 0, q11.1))))))))
def Xof (p0 : Decoder) (p1 : ByteArray) : Option (Decoder × Int × Pic) :=
 bnd (Xpl p0) fun q1 =>
 sel (!q1) (
 some (p0, 1, (⟨0, 0, ⟨#[]⟩⟩ : Pic))) (
 bnd (Xk9 p1) fun q2 =>
 sel (!q2.2.2) (
 some (p0, 2, (⟨0, 0, ⟨#[]⟩⟩ : Pic))) (
 sel (q2.1 == 7) (
 bnd (Xff q2.2.1 0) fun q3 =>
 bnd (
 sel q3.2.2 (
 some (q3.2.1 != (q2.2.1.size : Int))) (
 some true)) fun v4 =>
 sel v4 (
 some (p0, 3, (⟨0, 0, ⟨#[]⟩⟩ : Pic))) (
 some ((⟨true, false, false, q3.1, (⟨0, false, false, false⟩ : Par), (-1), 0, (⟨0, 0, ⟨#[]⟩⟩ : Pic), (⟨0, 0, ⟨#[]⟩⟩ : Pic)⟩ : Decoder), 0, (⟨0, 0, ⟨#[]⟩⟩ : Pic)))) (
 sel (q2.1 == 8) (
 bnd (Xfe q2.2.1 0) fun q5 =>
 bnd (
 sel q5.2.2 (
 some (q5.2.1 != (q2.2.1.size : Int))) (
 some true)) fun v6 =>
 sel v6 (
 some (p0, 3, (⟨0, 0, ⟨#[]⟩⟩ : Pic))) (
 bnd (
 sel p0.HasSeq (
 some (decide (p0.Got > 0))) (
 some true)) fun v7 =>
 sel v7 (
 some (p0, 4, (⟨0, 0, ⟨#[]⟩⟩ : Pic))) (
 some ((⟨p0.HasSeq, true, p0.HasRef, p0.Seq, q5.1, p0.Frame, p0.Got, p0.Now, p0.Ref⟩ : Decoder), 0, (⟨0, 0, ⟨#[]⟩⟩ : Pic))))) (
 bnd (Xki p0 q2.1 q2.2.1) fun q8 =>
 some (q8.1, q8.2.1, q8.2.2)))))
def Xg6 (p0 : Seq) : Option Seq :=
 req ((([] : List Int).length + p0.Cols.length) * 8 ≤ 140737488355328 ∧ ([] : List Int).length + p0.Cols.length ≤ maxLen) <|
 req ((([] : List Int).length + p0.Rows.length) * 8 ≤ 140737488355328 ∧ ([] : List Int).length + p0.Rows.length ≤ maxLen) <|
 some (⟨p0.Level, p0.Bits, (([] : List Int) ++ p0.Cols), (([] : List Int) ++ p0.Rows)⟩ : Seq)
def Xje (p0 : Decoder) (p1 : ByteArray) : Option (Decoder × Int × Pic) :=
 bnd (Xof p0 p1) fun q1 =>
 bnd (Xg6 q1.1.Seq) fun q2 =>
 some ((⟨q1.1.HasSeq, q1.1.HasPar, q1.1.HasRef, q2, q1.1.Par, q1.1.Frame, q1.1.Got, q1.1.Now, q1.1.Ref⟩ : Decoder), q1.2.1, q1.2.2)
def Xen (p0 : (List Int)) : Option (List Int) :=
 req ((([] : List Int).length + p0.length) * 8 ≤ 140737488355328 ∧ ([] : List Int).length + p0.length ≤ maxLen) <|
 some (([] : List Int) ++ p0)
def Xlw (p0 : Seq) : Option Seq :=
 bnd (Xen p0.Cols) fun q1 =>
 bnd (Xen p0.Rows) fun q2 =>
 some (⟨p0.Level, p0.Bits, q1, q2⟩ : Seq)
def Xco (p0 : Decoder) : Option Decoder :=
 bnd (Xlw p0.Seq) fun q1 =>
 some (⟨p0.HasSeq, p0.HasPar, p0.HasRef, q1, p0.Par, p0.Frame, p0.Got, p0.Now, p0.Ref⟩ : Decoder)
def Xlx (p0 : Seq) : Option Bool :=
 bnd (
 sel (p0.Level == 0) (
 sel (p0.Bits == 0) (
 sel ((p0.Cols.length : Int) == 0) (
 some ((p0.Rows.length : Int) == 0)) (
 some false)) (
 some false)) (
 some false)) fun v1 =>
 some v1
def Xat (p0 : Int) (p1 : Int) (p2 : Int) : Option Bool :=
 bnd (
 sel (decide (p0 ≥ p1)) (
 some (decide (p0 ≤ p2))) (
 some false)) fun v1 =>
 some v1
def Xdq (p0 : (List Int)) (v2 : (Int × Int)) : Option (Lp (Int × Int) Int) :=
 sel (decide (v2.2 < (p0.length : Int))) (
 req (0 ≤ v2.2 ∧ v2.2 < p0.length) <|
 some (.go (Xaa .i64 (v2.1 + (p0.getD v2.2.toNat 0)), Xaa .i64 (v2.2 + 1)))) (
 some (.done v2.1))
def Xb6 (p0 : (List Int)) : Option Int :=
 bnd (loop (Xdq p0) (0, 0)) fun v4 =>
 some v4
def Xch (p0 : Seq) (v11 : Int) (v26 : Int) : Option (Lp Int (Ou Unit Int)) :=
 sel (decide (v26 < ((([p0.Cols, p0.Rows]).getD v11.toNat Xlf).length : Int))) (
 req (0 ≤ v26 ∧ v26 < (([p0.Cols, p0.Rows]).getD v11.toNat Xlf).length) <|
 bnd (Xat ((([p0.Cols, p0.Rows]).getD v11.toNat Xlf).getD v26.toNat 0) 1 8) fun q30 =>
 sel (!q30) (
 some (.done (.ret 0))) (
 some (.go (Xaa .i64 (v26 + 1))))) (
 some (.done (.out ())))
def Xdg (p0 : Seq) (v11 : Int) : Option (Lp Int (Ou Unit Int)) :=
 sel (decide (v11 < (([p0.Cols, p0.Rows]).length : Int))) (
 req (0 ≤ v11 ∧ v11 < ([p0.Cols, p0.Rows]).length) <|
 req (v11.toNat < ([p0.Cols, p0.Rows]).length) <|
 bnd (Xat ((([p0.Cols, p0.Rows]).getD v11.toNat Xlf).length : Int) 1 4) fun q23 =>
 sel (!q23) (
 some (.done (.ret 0))) (
 bnd (loop (Xch p0 v11) 0) fun o31 => match o31 with
| .out v29 => (
 some (.go (Xaa .i64 (v11 + 1))))
| .ret r => some (.done (.ret r)))) (
 some (.done (.out ())))
def Xib (p0 : Seq) : Option Int :=
 bnd (loop (Xdg p0) 0) fun o32 => match o32 with
| .out v22 => (
 bnd (Xb6 p0.Cols) fun q33 =>
 bnd (Xb6 p0.Rows) fun q34 =>
 some (Xaa .i64 (q33 * q34)))
| .ret r => some r
def Xe4 (p0 : Int) : Option Int :=
 bnd (Xat p0 1 3) fun q1 =>
 sel (!q1) (
 some 0) (
 req (0 ≤ (Xaa .i64 (p0 - 1)) ∧ (Xaa .i64 (p0 - 1)) < ([16, 64, 256]).length) <|
 req ((Xaa .i64 (p0 - 1)).toNat < ([16, 64, 256]).length) <|
 some (([16, 64, 256]).getD ((Xaa .i64 (p0 - 1)).toNat) 0))
def Xgd (p0 : Seq) : Option Bool :=
 bnd (
 bnd (Xib p0) fun q2 =>
 bnd (Xe4 p0.Level) fun q3 =>
 bnd (Xat q2 1 q3) fun q4 =>
 sel q4 (
 bnd (Xat p0.Bits 3 8) fun q5 =>
 some q5) (
 some false)) fun v1 =>
 some v1
def Xi7 (p0 : Par) : Option Bool :=
 bnd (
 bnd (Xat p0.Qp 0 40) fun q2 =>
 sel q2 (
 sel p0.Large (
 some (!p0.Exact)) (
 some true)) (
 some false)) fun v1 =>
 some v1
def Xfk (p0 : Seq) : Option Int :=
 bnd (Xgd p0) fun q1 =>
 sel (!q1) (
 some 0) (
 some (Xaa .i64 ((p0.Cols.length : Int) * (p0.Rows.length : Int))))
def Xiz (p0 : Seq) : Option (Int × Int) :=
 bnd (Xgd p0) fun q1 =>
 sel (!q1) (
 some (0, 0)) (
 bnd (Xb6 p0.Cols) fun q2 =>
 bnd (Xb6 p0.Rows) fun q3 =>
 some (Xaa .i64 (8 * q2), Xaa .i64 (8 * q3)))
def Xdf (p0 : Pic) : Option Bool :=
 bnd (
 bnd (Xat p0.Wide 1 256) fun q2 =>
 sel q2 (
 bnd (Xat p0.High 1 256) fun q3 =>
 sel q3 (
 some ((p0.Dots.size : Int) == (Xaa .i64 (p0.Wide * p0.High)))) (
 some false)) (
 some false)) fun v1 =>
 some v1
def Xo6 (p0 : Pic) (p1 : Seq) : Option Bool :=
 bnd (Xiz p1) fun q1 =>
 bnd (
 bnd (Xdf p0) fun q3 =>
 sel q3 (
 sel (p0.Wide == q1.1) (
 some (p0.High == q1.2)) (
 some false)) (
 some false)) fun v2 =>
 some v2
def Xox (p0 : Decoder) : Option Bool :=
 sel (!p0.HasSeq) (
 bnd (
 sel p0.HasPar (
 some false) (
 sel p0.HasRef (
 some false) (
 bnd (Xlx p0.Seq) fun q2 =>
 sel q2 (
 sel (((p0.Par.Qp == 0) && ((p0.Par.Large == false) && ((p0.Par.Exact == false) && (p0.Par.Confined == false)))) == true) (
 sel (p0.Frame == (-1)) (
 sel (p0.Got == 0) (
 sel (((p0.Now.Wide == 0) && ((p0.Now.High == 0) && (p0.Now.Dots.toList == (⟨#[]⟩ : ByteArray).toList))) == true) (
 some (((p0.Ref.Wide == 0) && ((p0.Ref.High == 0) && (p0.Ref.Dots.toList == (⟨#[]⟩ : ByteArray).toList))) == true)) (
 some false)) (
 some false)) (
 some false)) (
 some false)) (
 some false)))) fun v1 =>
 some v1) (
 bnd (
 bnd (Xgd p0.Seq) fun q4 =>
 sel q4 (
 sel p0.HasPar (
 bnd (Xi7 p0.Par) fun q5 =>
 sel q5 (
 some false) (
 some true)) (
 sel (((p0.Par.Qp == 0) && ((p0.Par.Large == false) && ((p0.Par.Exact == false) && (p0.Par.Confined == false)))) == false) (
 some true) (
 sel (p0.Got != 0) (
 some true) (
 some p0.HasRef)))) (
 some true)) fun v3 =>
 sel v3 (
 some false) (
 bnd (
 req (0 ≤ p0.Seq.Bits) <|
 bnd (Xat p0.Frame (-1) (Xaa .i64 ((Xaa .i64 (1 * 2 ^ min p0.Seq.Bits.toNat (IntKind.bits .i64))) - 1))) fun q7 =>
 sel q7 (
 bnd (Xfk p0.Seq) fun q8 =>
 bnd (Xat p0.Got 0 (Xaa .i64 (q8 - 1))) fun q9 =>
 some (!q9)) (
 some true)) fun v6 =>
 sel v6 (
 some false) (
 bnd (
 sel (decide (p0.Got > 0)) (
 sel (p0.Frame == (-1)) (
 some true) (
 bnd (Xo6 p0.Now p0.Seq) fun q11 =>
 sel q11 (
 sel (p0.Got == 0) (
 some (((p0.Now.Wide == 0) && ((p0.Now.High == 0) && (p0.Now.Dots.toList == (⟨#[]⟩ : ByteArray).toList))) == false)) (
 some false)) (
 some true))) (
 sel (p0.Got == 0) (
 some (((p0.Now.Wide == 0) && ((p0.Now.High == 0) && (p0.Now.Dots.toList == (⟨#[]⟩ : ByteArray).toList))) == false)) (
 some false))) fun v10 =>
 sel v10 (
 some false) (
 sel p0.HasRef (
 bnd (Xo6 p0.Ref p0.Seq) fun q12 =>
 some q12) (
 some (((p0.Ref.Wide == 0) && ((p0.Ref.High == 0) && (p0.Ref.Dots.toList == (⟨#[]⟩ : ByteArray).toList))) == true))))))
def Xnf (p0 : Int) : Option Bool :=
 bnd (
 sel (p0 == 1) (
 some true) (
 sel (p0 == 5) (
 some true) (
 sel (p0 == 7) (
 some true) (
 some (p0 == 8))))) fun v1 =>
 some v1
def Xec (p0 : ByteArray) (v3 : (Int × (List Int))) : Option (Lp (Int × (List Int)) (List Int)) :=
 sel (decide (v3.1 < (Xaa .i64 (8 * (p0.size : Int))))) (
 req ((8 : Int) ≠ 0) <|
 req (0 ≤ (Xaa .i64 (v3.1.tdiv 8)) ∧ (Xaa .i64 (v3.1.tdiv 8)) < p0.size) <|
 req ((8 : Int) ≠ 0) <|
 req (0 ≤ (Xaa .i64 (7 - (v3.1.tmod 8)))) <|
 req ((v3.2.length + ([Xaa .u8 (48 + (IntKind.wrap .u8 (BitVec.ofInt (IntKind.bits .u8) ((Xkn p0 (Xaa .i64 (v3.1.tdiv 8))) / 2 ^ min (Xaa .i64 (7 - (v3.1.tmod 8))).toNat (IntKind.bits .u8)) &&& BitVec.ofInt (IntKind.bits .u8) 1).toNat))]).length) * 1 ≤ 140737488355328 ∧ v3.2.length + ([Xaa .u8 (48 + (IntKind.wrap .u8 (BitVec.ofInt (IntKind.bits .u8) ((Xkn p0 (Xaa .i64 (v3.1.tdiv 8))) / 2 ^ min (Xaa .i64 (7 - (v3.1.tmod 8))).toNat (IntKind.bits .u8)) &&& BitVec.ofInt (IntKind.bits .u8) 1).toNat))]).length ≤ maxLen) <|
 some (.go (Xaa .i64 (v3.1 + 1), (v3.2 ++ ([Xaa .u8 (48 + (IntKind.wrap .u8 (BitVec.ofInt (IntKind.bits .u8) ((Xkn p0 (Xaa .i64 (v3.1.tdiv 8))) / 2 ^ min (Xaa .i64 (7 - (v3.1.tmod 8))).toNat (IntKind.bits .u8)) &&& BitVec.ofInt (IntKind.bits .u8) 1).toNat))]))))) (
 some (.done v3.2))
def Xed (v5 : (List Int)) (v8 : Int) : Option (Lp Int Int) :=
 req (0 ≤ (Xaa .i64 (v8 - 1)) ∧ (Xaa .i64 (v8 - 1)) < v5.length) <|
 req ((Xaa .i64 (v8 - 1)).toNat < v5.length) <|
 sel ((v5.getD ((Xaa .i64 (v8 - 1)).toNat) 0) == 48) (
 some (.go (Xaa .i64 (v8 - 1)))) (
 some (.done v8))
def Xhf (p0 : ByteArray) : Option (ByteArray × Bool) :=
 bnd (
 sel ((Xaa .i64 (8 * (p0.size : Int))) == 0) (
 some true) (
 req (0 ≤ (Xaa .i64 ((p0.size : Int) - 1)) ∧ (Xaa .i64 ((p0.size : Int) - 1)) < p0.size) <|
 sel ((Xkn p0 (Xaa .i64 ((p0.size : Int) - 1))) == 0) (
 some true) (
 some (decide ((Xaa .i64 (8 * (p0.size : Int))) > 400008))))) fun v1 =>
 sel v1 (
 some (⟨#[]⟩, false)) (
 req (0 ≤ (0 : Int) ∧ (0 : Int) ≤ (Xaa .i64 (8 * (p0.size : Int))) ∧ (Xaa .i64 (8 * (p0.size : Int))) * 1 ≤ 281474976710656) <|
 bnd (loop (Xec p0) (0, (List.replicate (0 : Int).toNat (0 : Int)))) fun v5 =>
 bnd (loop (Xed v5) (Xaa .i64 (8 * (p0.size : Int)))) fun v10 =>
 sel (decide ((Xaa .i64 (v10 - 1)) > 400000)) (
 some (⟨#[]⟩, false)) (
 req (0 ≤ (0 : Int) ∧ (0 : Int) ≤ (Xaa .i64 (v10 - 1)) ∧ (Xaa .i64 (v10 - 1)) ≤ (v5.length : Int)) <|
 req ((0 : Int).toNat + ((Xaa .i64 (v10 - 1)).toNat - (0 : Int).toNat) ≤ v5.length) <|
 some ((strOfNums ((v5.drop ((0 : Int).toNat)).take ((Xaa .i64 (v10 - 1)).toNat - (0 : Int).toNat))), true)))
def Xkt (p0 : ByteArray) : Option (Int × ByteArray × Bool) :=
 bnd (
 sel (p0.toList == (⟨#[]⟩ : ByteArray).toList) (
 some true) (
 req (0 ≤ (0 : Int) ∧ (0 : Int) < p0.size) <|
 bnd (Xnf (Xaa .i64 ((Xkn p0 (0 : Int))))) fun q2 =>
 some (!q2))) fun v1 =>
 sel v1 (
 some (0, ⟨#[]⟩, false)) (
 req (0 ≤ (1 : Int) ∧ (1 : Int) ≤ (p0.size : Int) ∧ (p0.size : Int) ≤ (p0.size : Int)) <|
 bnd (Xhf (p0.extract (1 : Int).toNat (p0.size : Int).toNat)) fun q3 =>
 sel (!q3.2) (
 some (0, ⟨#[]⟩, false)) (
 req (0 ≤ (0 : Int) ∧ (0 : Int) < p0.size) <|
 some (Xaa .i64 ((Xkn p0 (0 : Int))), q3.1, true)))
def Xhh (p0 : ByteArray) (v3 : Int) : Option (Lp Int (Ou Unit Bool)) :=
 sel (decide (v3 < (p0.size : Int))) (
 bnd (
 req (0 ≤ v3 ∧ v3 < p0.size) <|
 sel ((Xkn p0 v3) != 48) (
 req (0 ≤ v3 ∧ v3 < p0.size) <|
 some ((Xkn p0 v3) != 49)) (
 some false)) fun v7 =>
 sel v7 (
 some (.done (.ret false))) (
 some (.go (Xaa .i64 (v3 + 1))))) (
 some (.done (.out ())))
def Xja (p0 : ByteArray) : Option Bool :=
 sel (decide ((p0.size : Int) > 400000)) (
 some false) (
 bnd (loop (Xhh p0) 0) fun o8 => match o8 with
| .out v6 => (
 some true)
| .ret r => some r)
def Xev (p0 : ByteArray) (p1 : Int) : Option Xkk :=
 bnd (
 bnd (Xja p0) fun q2 =>
 sel q2 (
 bnd (Xat p1 0 (p0.size : Int)) fun q3 =>
 some (!q3)) (
 some true)) fun v1 =>
 some (⟨p0, p1, v1⟩ : Xkk)
def Xf1 (p0 : Xkk) (p1 : Int) (v3 : (Int × Int)) : Option (Lp (Int × Int) Int) :=
 sel (decide (v3.2 < p1)) (
 req (0 ≤ (1 : Int)) <|
 req (0 ≤ (Xaa .i64 (p0.at_ + v3.2)) ∧ (Xaa .i64 (p0.at_ + v3.2)) < p0.row_.size) <|
 some (.go ((IntKind.wrap .i64 (BitVec.ofInt (IntKind.bits .i64) (Xaa .i64 (v3.1 * 2 ^ min (1 : Int).toNat (IntKind.bits .i64))) ||| BitVec.ofInt (IntKind.bits .i64) (Xaa .i64 (Xaa .u8 ((Xkn p0.row_ (Xaa .i64 (p0.at_ + v3.2))) - 48)))).toNat), Xaa .i64 (v3.2 + 1)))) (
 some (.done v3.1))
def Xa1 (p0 : Xkk) (p1 : Int) : Option (Int × Xkk) :=
 bnd (
 sel p0.bad_ (
 some true) (
 some (decide ((Xaa .i64 ((p0.row_.size : Int) - p0.at_)) < p1)))) fun v1 =>
 sel v1 (
 some (0, (⟨p0.row_, p0.at_, true⟩ : Xkk))) (
 bnd (loop (Xf1 p0 p1) (0, 0)) fun v5 =>
 some (v5, (⟨p0.row_, Xaa .i64 (p0.at_ + p1), p0.bad_⟩ : Xkk)))
def Xd5 (p0 : Xkk) (v3 : Int) : Option (Lp Int Int) :=
 bnd (
 sel p0.bad_ (
 some false) (
 sel (decide ((Xaa .i64 (p0.at_ + v3)) < (p0.row_.size : Int))) (
 req (0 ≤ (Xaa .i64 (p0.at_ + v3)) ∧ (Xaa .i64 (p0.at_ + v3)) < p0.row_.size) <|
 some ((Xkn p0.row_ (Xaa .i64 (p0.at_ + v3))) == 48)) (
 some false))) fun v7 =>
 sel v7 (
 some (.go (Xaa .i64 (v3 + 1)))) (
 some (.done v3))
def Xbi (p0 : Xkk) : Option (Int × Xkk) :=
 bnd (loop (Xd5 p0) 0) fun v6 =>
 bnd (
 sel (decide (v6 > 20)) (
 some true) (
 some p0.bad_)) fun v9 =>
 bnd (Xa1 (⟨p0.row_, p0.at_, v9⟩ : Xkk) (Xaa .i64 ((Xaa .i64 (2 * v6)) + 1))) fun q10 =>
 bnd (
 sel q10.2.bad_ (
 some true) (
 some (decide ((Xaa .i64 (q10.1 - 1)) > 1000000)))) fun v11 =>
 sel v11 (
 some (0, (⟨q10.2.row_, q10.2.at_, true⟩ : Xkk))) (
 some (Xaa .i64 (q10.1 - 1), q10.2))
def Xa3 (q1 : (Int × Xkk)) (v6 : (Int × ByteArray × Int × Bool × (List Int))) : Option (Lp (Int × ByteArray × Int × Bool × (List Int)) ((List Int) × ByteArray × Int × Bool)) :=
 bnd (
 sel (decide (v6.1 < q1.1)) (
 some (!v6.2.2.2.1)) (
 some false)) fun v11 =>
 sel v11 (
 bnd (Xbi (⟨v6.2.1, v6.2.2.1, v6.2.2.2.1⟩ : Xkk)) fun q12 =>
 req ((v6.2.2.2.2.length + ([q12.1]).length) * 8 ≤ 140737488355328 ∧ v6.2.2.2.2.length + ([q12.1]).length ≤ maxLen) <|
 some (.go (Xaa .i64 (v6.1 + 1), q12.2.row_, q12.2.at_, q12.2.bad_, (v6.2.2.2.2 ++ ([q12.1]))))) (
 some (.done (v6.2.2.2.2, v6.2.1, v6.2.2.1, v6.2.2.2.1)))
def Xc1 (p0 : Xkk) : Option ((List Int) × Xkk) :=
 bnd (Xbi p0) fun q1 =>
 bnd (
 sel (decide (q1.1 > 4)) (
 some true) (
 some q1.2.bad_)) fun v2 =>
 bnd (loop (Xa3 q1) (0, q1.2.row_, q1.2.at_, v2, ([] : List Int))) fun v10 =>
 some (v10.1, (⟨v10.2.1, v10.2.2.1, v10.2.2.2⟩ : Xkk))
def Xi9 (p0 : ByteArray) (p1 : Int) : Option (Seq × Int × Bool) :=
 bnd (Xev p0 p1) fun q1 =>
 bnd (Xbi q1) fun q2 =>
 bnd (Xa1 q2.2 4) fun q3 =>
 bnd (Xc1 q3.2) fun q4 =>
 bnd (Xc1 q4.2) fun q5 =>
 bnd (
 sel q5.2.bad_ (
 some true) (
 bnd (Xgd (⟨q2.1, q3.1, q4.1, q5.1⟩ : Seq)) fun q7 =>
 some (!q7))) fun v6 =>
 sel v6 (
 some ((⟨0, 0, [], []⟩ : Seq), 0, false)) (
 some ((⟨q2.1, q3.1, q4.1, q5.1⟩ : Seq), q5.2.at_, true))
def Xug : Option Decoder :=
 some (⟨false, false, false, (⟨0, 0, [], []⟩ : Seq), (⟨0, false, false, false⟩ : Par), (-1), 0, (⟨0, 0, ⟨#[]⟩⟩ : Pic), (⟨0, 0, ⟨#[]⟩⟩ : Pic)⟩ : Decoder)
def Xi8 (p0 : ByteArray) (p1 : Int) : Option (Par × Int × Bool) :=
 bnd (Xev p0 p1) fun q1 =>
 bnd (Xa1 q1 6) fun q2 =>
 bnd (Xa1 q2.2 1) fun q3 =>
 bnd (Xa1 q3.2 1) fun q4 =>
 bnd (Xa1 q4.2 1) fun q5 =>
 bnd (
 sel q5.2.bad_ (
 some true) (
 bnd (Xi7 (⟨q2.1, (q3.1 == 1), (q4.1 == 1), (q5.1 == 1)⟩ : Par)) fun q7 =>
 some (!q7))) fun v6 =>
 sel v6 (
 some ((⟨0, false, false, false⟩ : Par), 0, false)) (
 some ((⟨q2.1, (q3.1 == 1), (q4.1 == 1), (q5.1 == 1)⟩ : Par), q5.2.at_, true))
def Xnc (p0 : Int) : Option (Int × Bool) :=
 bnd (Xat p0 0 1000000) fun q1 =>
 sel (!q1) (
 some (0, false)) (
 req ((2 : Int) ≠ 0) <|
 sel ((p0.tmod 2) == 1) (
 req ((2 : Int) ≠ 0) <|
 some (Xaa .i64 ((Xaa .i64 (p0 + 1)).tdiv 2), true)) (
 req ((2 : Int) ≠ 0) <|
 some (Xaa .i64 ((Xaa .i64 (0 - p0)).tdiv 2), true)))
def Xbz (p0 : Xkk) : Option (Int × Xkk) :=
 bnd (Xbi p0) fun q1 =>
 bnd (Xnc q1.1) fun q2 =>
 bnd (
 sel q1.2.bad_ (
 some true) (
 some (!q2.2))) fun v3 =>
 some (q2.1, (⟨q1.2.row_, q1.2.at_, v3⟩ : Xkk))
def Xnb (p0 : Seq) (p1 : Par) (p2 : Yhk) : Option Bool :=
 bnd (
 bnd (Xgd p0) fun q2 =>
 sel q2 (
 bnd (Xi7 p1) fun q3 =>
 sel q3 (
 bnd (Xfk p0) fun q4 =>
 bnd (Xat p2.Tile 0 (Xaa .i64 (q4 - 1))) fun q5 =>
 sel q5 (
 req (0 ≤ p0.Bits) <|
 bnd (Xat p2.Frame 0 (Xaa .i64 ((Xaa .i64 (1 * 2 ^ min p0.Bits.toNat (IntKind.bits .i64))) - 1))) fun q6 =>
 sel q6 (
 bnd (Xat p2.Qp 0 40) fun q7 =>
 some q7) (
 some false)) (
 some false)) (
 some false)) (
 some false)) fun v1 =>
 some v1
def Xhg (p0 : Seq) (p1 : Par) (p2 : ByteArray) : Option (Yhk × Int × Bool) :=
 bnd (Xev p2 0) fun q1 =>
 bnd (
 bnd (Xgd p0) fun q3 =>
 sel q3 (
 bnd (Xi7 p1) fun q4 =>
 some (!q4)) (
 some true)) fun v2 =>
 sel v2 (
 some ((⟨0, 0, 0⟩ : Yhk), 0, false)) (
 bnd (Xbi q1) fun q5 =>
 bnd (Xa1 q5.2 p0.Bits) fun q6 =>
 bnd (Xbz q6.2) fun q7 =>
 bnd (
 sel q7.2.bad_ (
 some true) (
 bnd (Xnb p0 p1 (⟨q5.1, q6.1, Xaa .i64 (q7.1 + p1.Qp)⟩ : Yhk)) fun q9 =>
 some (!q9))) fun v8 =>
 sel v8 (
 some ((⟨0, 0, 0⟩ : Yhk), 0, false)) (
 some ((⟨q5.1, q6.1, Xaa .i64 (q7.1 + p1.Qp)⟩ : Yhk), q7.2.at_, true)))
def Xhk (p0 : Seq) (p1 : Int) : Option (Xpv × Bool) :=
 bnd (Xfk p0) fun q1 =>
 bnd (Xat p1 0 (Xaa .i64 (q1 - 1))) fun q2 =>
 sel (!q2) (
 some ((⟨0, 0, 0, 0⟩ : Xpv), false)) (
 req ((p0.Cols.length : Int) ≠ 0) <|
 req ((p0.Cols.length : Int) ≠ 0) <|
 req (0 ≤ (0 : Int) ∧ (0 : Int) ≤ (p1.tmod (p0.Cols.length : Int)) ∧ (p1.tmod (p0.Cols.length : Int)) ≤ (p0.Cols.length : Int)) <|
 bnd (Xb6 ((p0.Cols.drop (0 : Int).toNat).take ((p1.tmod (p0.Cols.length : Int)).toNat - (0 : Int).toNat))) fun q3 =>
 req (0 ≤ (0 : Int) ∧ (0 : Int) ≤ (Xaa .i64 (p1.tdiv (p0.Cols.length : Int))) ∧ (Xaa .i64 (p1.tdiv (p0.Cols.length : Int))) ≤ (p0.Rows.length : Int)) <|
 bnd (Xb6 ((p0.Rows.drop (0 : Int).toNat).take ((Xaa .i64 (p1.tdiv (p0.Cols.length : Int))).toNat - (0 : Int).toNat))) fun q4 =>
 req (0 ≤ (p1.tmod (p0.Cols.length : Int)) ∧ (p1.tmod (p0.Cols.length : Int)) < p0.Cols.length) <|
 req (0 ≤ (Xaa .i64 (p1.tdiv (p0.Cols.length : Int))) ∧ (Xaa .i64 (p1.tdiv (p0.Cols.length : Int))) < p0.Rows.length) <|
 some ((⟨Xaa .i64 (8 * q3), Xaa .i64 (8 * q4), Xaa .i64 (8 * (p0.Cols.getD (p1.tmod (p0.Cols.length : Int)).toNat 0)), Xaa .i64 (8 * (p0.Rows.getD (Xaa .i64 (p1.tdiv (p0.Cols.length : Int))).toNat 0))⟩ : Xpv), true))
def Xf0 (p0 : Seq) (p1 : Int) : Option Int :=
 bnd (Xhk p0 p1) fun q1 =>
 req ((8 : Int) ≠ 0) <|
 req ((8 : Int) ≠ 0) <|
 some (Xaa .i64 ((Xaa .i64 (q1.1.Wide.tdiv 8)) * (Xaa .i64 (q1.1.High.tdiv 8))))
def Xgq (p0 : Xkj) : Option Bool :=
 bnd (
 bnd (Xat p0.Qp 0 40) fun q2 =>
 sel q2 (
 sel p0.Large (
 some (!p0.Exact)) (
 some true)) (
 some false)) fun v1 =>
 some v1
def Xbd (p1 : Int) (v8 : (Int × Int × ByteArray × Int × Bool × (List Int))) : Option (Lp (Int × Int × ByteArray × Int × Bool × (List Int)) ((List Int) × ByteArray × Int × Bool)) :=
 bnd (
 sel (decide (v8.2.1 > 0)) (
 some (!v8.2.2.2.2.1)) (
 some false)) fun v16 =>
 sel v16 (
 bnd (Xbi (⟨v8.2.2.1, v8.2.2.2.1, v8.2.2.2.2.1⟩ : Xkk)) fun q17 =>
 bnd (Xbz q17.2) fun q18 =>
 bnd (
 sel (decide ((Xaa .i64 (v8.1 + q17.1)) ≥ p1)) (
 some true) (
 sel (q18.1 == 0) (
 some true) (
 bnd (Xat q18.1 (-5000) 5000) fun q20 =>
 some (!q20)))) fun v19 =>
 sel v19 (
 some (.done (v8.2.2.2.2.2, q18.2.row_, q18.2.at_, true))) (
 req (0 ≤ (Xaa .i64 (v8.1 + q17.1)) ∧ (Xaa .i64 (v8.1 + q17.1)) < v8.2.2.2.2.2.length) <|
 req ((Xaa .i64 (v8.1 + q17.1)).toNat < v8.2.2.2.2.2.length) <|
 some (.go (Xaa .i64 ((Xaa .i64 (v8.1 + q17.1)) + 1), Xaa .i64 (v8.2.1 - 1), q18.2.row_, q18.2.at_, q18.2.bad_, (v8.2.2.2.2.2.set ((Xaa .i64 (v8.1 + q17.1)).toNat) q18.1))))) (
 some (.done (v8.2.2.2.2.2, v8.2.2.1, v8.2.2.2.1, v8.2.2.2.2.1)))
def Xc2 (p0 : Xkk) (p1 : Int) : Option ((List Int) × Xkk) :=
 req (0 ≤ p1 ∧ p1 ≤ p1 ∧ p1 * 8 ≤ 281474976710656) <|
 bnd (Xbi p0) fun q1 =>
 bnd (loop (Xbd p1) (0, q1.1, q1.2.row_, q1.2.at_, q1.2.bad_, (List.replicate p1.toNat (0 : Int)))) fun v15 =>
 some (v15.1, (⟨v15.2.1, v15.2.2.1, v15.2.2.2⟩ : Xkk))
def Xbb (v5 : (Int × ByteArray × Int × Bool × (List Int))) : Option (Lp (Int × ByteArray × Int × Bool × (List Int)) ((List Int) × ByteArray × Int × Bool)) :=
 sel (decide (v5.1 < 4)) (
 bnd (Xc2 (⟨v5.2.1, v5.2.2.1, v5.2.2.2.1⟩ : Xkk) 16) fun q9 =>
 req ((v5.2.2.2.2.length + q9.1.length) * 8 ≤ 140737488355328 ∧ v5.2.2.2.2.length + q9.1.length ≤ maxLen) <|
 some (.go (Xaa .i64 (v5.1 + 1), q9.2.row_, q9.2.at_, q9.2.bad_, (v5.2.2.2.2 ++ q9.1)))) (
 some (.done (v5.2.2.2.2, v5.2.1, v5.2.2.1, v5.2.2.2.1)))
def Xbn (p0 : Xkk) (p1 : Xkj) : Option ((List Int) × Xkk) :=
 bnd (
 sel p1.Large (
 some true) (
 some p1.Exact)) fun v1 =>
 sel v1 (
 bnd (Xc2 p0 64) fun q2 =>
 some (q2.1, q2.2)) (
 bnd (loop (Xbb) (0, p0.row_, p0.at_, p0.bad_, ([] : List Int))) fun v8 =>
 some (v8.1, (⟨v8.2.1, v8.2.2.1, v8.2.2.2⟩ : Xkk)))
def Xjx (p0 : (List Int)) (p2 : Int) (p3 : Int) (v3 : Int) : Option (Lp Int (Ou Unit Bool)) :=
 sel (decide (v3 < (p0.length : Int))) (
 req (0 ≤ v3 ∧ v3 < p0.length) <|
 bnd (Xat (p0.getD v3.toNat 0) p2 p3) fun q7 =>
 sel (!q7) (
 some (.done (.ret false))) (
 some (.go (Xaa .i64 (v3 + 1))))) (
 some (.done (.out ())))
def Xd1 (p0 : (List Int)) (p1 : Int) (p2 : Int) (p3 : Int) : Option Bool :=
 bnd (loop (Xjx p0 p2 p3) 0) fun o8 => match o8 with
| .out v6 => (
 some ((p0.length : Int) == p1))
| .ret r => some r
def Xeu (p0 : (List Int)) : Option Bool :=
 bnd (Xd1 p0 64 (-5000) 5000) fun q1 =>
 some q1
def Xfs (p0 : Xay) : Option Bool :=
 sel (p0.Kind == 0) (
 bnd (
 sel (p0.Mode == 0) (
 sel (p0.Dx == 0) (
 sel (p0.Dy == 0) (
 some ((p0.Levels.length : Int) == 0)) (
 some false)) (
 some false)) (
 some false)) fun v1 =>
 some v1) (
 sel (p0.Kind == 1) (
 bnd (
 sel (p0.Mode == 0) (
 bnd (Xat p0.Dx (-16) 16) fun q3 =>
 sel q3 (
 bnd (Xat p0.Dy (-16) 16) fun q4 =>
 sel q4 (
 bnd (Xeu p0.Levels) fun q5 =>
 some q5) (
 some false)) (
 some false)) (
 some false)) fun v2 =>
 some v2) (
 sel (p0.Kind == 2) (
 bnd (
 bnd (Xat p0.Mode 0 3) fun q7 =>
 sel q7 (
 sel (p0.Dx == 0) (
 sel (p0.Dy == 0) (
 bnd (Xeu p0.Levels) fun q8 =>
 some q8) (
 some false)) (
 some false)) (
 some false)) fun v6 =>
 some v6) (
 some false)))
def Xcp (p0 : Xkk) (p1 : Xkj) : Option (Xay × Xkk) :=
 bnd (
 sel (!p1.Key) (
 bnd (Xbi p0) fun q2 =>
 some (q2.2.row_, q2.2.at_, q2.2.bad_, q2.1)) (
 some (p0.row_, p0.at_, p0.bad_, 2))) fun v1 =>
 bnd (
 sel v1.2.2.1 (
 some (v1.1, v1.2.1, v1.2.2.1, 0, 0, 0, [])) (
 sel (v1.2.2.2 == 1) (
 bnd (Xbz (⟨v1.1, v1.2.1, v1.2.2.1⟩ : Xkk)) fun q4 =>
 bnd (Xbz q4.2) fun q5 =>
 bnd (Xbn q5.2 p1) fun q6 =>
 some (q6.2.row_, q6.2.at_, q6.2.bad_, 0, q4.1, q5.1, q6.1)) (
 sel (v1.2.2.2 == 2) (
 bnd (Xbi (⟨v1.1, v1.2.1, v1.2.2.1⟩ : Xkk)) fun q7 =>
 bnd (Xbn q7.2 p1) fun q8 =>
 some (q8.2.row_, q8.2.at_, q8.2.bad_, q7.1, 0, 0, q8.1)) (
 some (v1.1, v1.2.1, v1.2.2.1, 0, 0, 0, []))))) fun v3 =>
 bnd (
 sel v3.2.2.1 (
 some true) (
 bnd (Xfs (⟨v1.2.2.2, v3.2.2.2.1, v3.2.2.2.2.1, v3.2.2.2.2.2.1, v3.2.2.2.2.2.2⟩ : Xay)) fun q10 =>
 some (!q10))) fun v9 =>
 some ((⟨v1.2.2.2, v3.2.2.2.1, v3.2.2.2.2.1, v3.2.2.2.2.2.1, v3.2.2.2.2.2.2⟩ : Xay), (⟨v3.1, v3.2.1, v9⟩ : Xkk))
def Xa9 (p2 : Int) (p3 : Xkj) (v7 : (Int × ByteArray × Int × Bool × (List Xay))) : Option (Lp (Int × ByteArray × Int × Bool × (List Xay)) (Ou (ByteArray × Int × Bool × (List Xay)) ((List Xay) × Bool))) :=
 sel (decide (v7.1 < p2)) (
 bnd (Xcp (⟨v7.2.1, v7.2.2.1, v7.2.2.2.1⟩ : Xkk) p3) fun q11 =>
 req ((v7.2.2.2.2.length + ([q11.1]).length) * 56 ≤ 140737488355328 ∧ v7.2.2.2.2.length + ([q11.1]).length ≤ maxLen) <|
 sel q11.2.bad_ (
 some (.done (.ret (([] : List Xay), false)))) (
 some (.go (Xaa .i64 (v7.1 + 1), q11.2.row_, q11.2.at_, q11.2.bad_, (v7.2.2.2.2 ++ ([q11.1])))))) (
 some (.done (.out (v7.2.1, v7.2.2.1, v7.2.2.2.1, v7.2.2.2.2))))
def Xjr (p0 : ByteArray) (p1 : Int) (p2 : Int) (p3 : Xkj) : Option ((List Xay) × Bool) :=
 bnd (Xev p0 p1) fun q1 =>
 bnd (
 bnd (Xat p2 1 64) fun q3 =>
 sel q3 (
 bnd (Xgq p3) fun q4 =>
 some (!q4)) (
 some true)) fun v2 =>
 sel v2 (
 some (([] : List Xay), false)) (
 bnd (loop (Xa9 p2 p3) (0, q1.row_, q1.at_, q1.bad_, ([] : List Xay))) fun o12 => match o12 with
| .out v10 => (
 sel (v10.2.1 != (p0.size : Int)) (
 some (([] : List Xay), false)) (
 some (v10.2.2.2, true)))
| .ret r => some r)
def Xkw (p0 : Int) : Option Bool :=
 bnd (
 req ((8 : Int) ≠ 0) <|
 sel ((p0.tmod 8) == 0) (
 bnd (Xat p0 8 64) fun q2 =>
 some q2) (
 some false)) fun v1 =>
 some v1
def Xdu (p0 : Pic) (p1 : Xpv) : Option Bool :=
 bnd (
 bnd (Xat p1.Wide 1 p0.Wide) fun q2 =>
 sel q2 (
 bnd (Xat p1.High 1 p0.High) fun q3 =>
 sel q3 (
 bnd (Xat p1.Left 0 (Xaa .i64 (p0.Wide - p1.Wide))) fun q4 =>
 sel q4 (
 bnd (Xat p1.Top 0 (Xaa .i64 (p0.High - p1.High))) fun q5 =>
 some q5) (
 some false)) (
 some false)) (
 some false)) fun v1 =>
 some v1
def Xp2 (p0 : Pic) (p1 : Xpv) (v5 : (Int × (List Int))) : Option (Lp (Int × (List Int)) (List Int)) :=
 sel (decide (v5.1 < (Xaa .i64 (p1.Top + p1.High)))) (
 req (0 ≤ (Xaa .i64 ((Xaa .i64 (v5.1 * p0.Wide)) + p1.Left)) ∧ (Xaa .i64 ((Xaa .i64 (v5.1 * p0.Wide)) + p1.Left)) ≤ (Xaa .i64 ((Xaa .i64 ((Xaa .i64 (v5.1 * p0.Wide)) + p1.Left)) + p1.Wide)) ∧ (Xaa .i64 ((Xaa .i64 ((Xaa .i64 (v5.1 * p0.Wide)) + p1.Left)) + p1.Wide)) ≤ (p0.Dots.size : Int)) <|
 req ((v5.2.length + (Xbr (p0.Dots.extract (Xaa .i64 ((Xaa .i64 (v5.1 * p0.Wide)) + p1.Left)).toNat (Xaa .i64 ((Xaa .i64 ((Xaa .i64 (v5.1 * p0.Wide)) + p1.Left)) + p1.Wide)).toNat)).length) * 1 ≤ 140737488355328 ∧ v5.2.length + (Xbr (p0.Dots.extract (Xaa .i64 ((Xaa .i64 (v5.1 * p0.Wide)) + p1.Left)).toNat (Xaa .i64 ((Xaa .i64 ((Xaa .i64 (v5.1 * p0.Wide)) + p1.Left)) + p1.Wide)).toNat)).length ≤ maxLen) <|
 some (.go (Xaa .i64 (v5.1 + 1), (v5.2 ++ (Xbr (p0.Dots.extract (Xaa .i64 ((Xaa .i64 (v5.1 * p0.Wide)) + p1.Left)).toNat (Xaa .i64 ((Xaa .i64 ((Xaa .i64 (v5.1 * p0.Wide)) + p1.Left)) + p1.Wide)).toNat)))))) (
 some (.done v5.2))
def Xm5 (p0 : Pic) (p1 : Xpv) : Option (Pic × Bool) :=
 bnd (
 bnd (Xdf p0) fun q2 =>
 sel q2 (
 bnd (Xdu p0 p1) fun q3 =>
 some (!q3)) (
 some true)) fun v1 =>
 sel v1 (
 some ((⟨0, 0, ⟨#[]⟩⟩ : Pic), false)) (
 req (0 ≤ (0 : Int) ∧ (0 : Int) ≤ (Xaa .i64 (p1.Wide * p1.High)) ∧ (Xaa .i64 (p1.Wide * p1.High)) * 1 ≤ 281474976710656) <|
 bnd (loop (Xp2 p0 p1) (p1.Top, (List.replicate (0 : Int).toNat (0 : Int)))) fun v7 =>
 some ((⟨p1.Wide, p1.High, (strOfNums v7)⟩ : Pic), true))
def Xlu (p0 : Int) (p1 : Int) (v5 : (Int × (List Int))) : Option (Lp (Int × (List Int)) (List Int)) :=
 sel (decide (v5.1 < ((List.replicate (Xaa .i64 (p0 * p1)).toNat (0 : Int)).length : Int))) (
 req (0 ≤ v5.1 ∧ v5.1 < v5.2.length) <|
 req (v5.1.toNat < v5.2.length) <|
 some (.go (Xaa .i64 (v5.1 + 1), (v5.2.set v5.1.toNat 128)))) (
 some (.done v5.2))
def Xna (p0 : Int) (p1 : Int) : Option Pic :=
 bnd (
 bnd (Xat p0 1 256) fun q2 =>
 sel q2 (
 bnd (Xat p1 1 256) fun q3 =>
 some (!q3)) (
 some true)) fun v1 =>
 sel v1 (
 some (⟨0, 0, ⟨#[]⟩⟩ : Pic)) (
 req (0 ≤ (Xaa .i64 (p0 * p1)) ∧ (Xaa .i64 (p0 * p1)) ≤ (Xaa .i64 (p0 * p1)) ∧ (Xaa .i64 (p0 * p1)) * 1 ≤ 281474976710656) <|
 bnd (loop (Xlu p0 p1) (0, (List.replicate (Xaa .i64 (p0 * p1)).toNat (0 : Int)))) fun v7 =>
 some (⟨p0, p1, (strOfNums v7)⟩ : Pic))
def Xcx (p0 : Pic) (p1 : Int) (p2 : Int) : Option Bool :=
 bnd (
 req ((8 : Int) ≠ 0) <|
 sel ((p1.tmod 8) == 0) (
 req ((8 : Int) ≠ 0) <|
 sel ((p2.tmod 8) == 0) (
 bnd (Xat p1 0 (Xaa .i64 (p0.Wide - 8))) fun q2 =>
 sel q2 (
 bnd (Xat p2 0 (Xaa .i64 (p0.High - 8))) fun q3 =>
 some q3) (
 some false)) (
 some false)) (
 some false)) fun v1 =>
 some v1
def Xgs (p0 : Xay) (p1 : Xkj) : Option Bool :=
 bnd (
 sel p1.Key (
 some (p0.Kind == 2)) (
 some true)) fun v1 =>
 some v1
def Xei (p0 : Int) (p1 : Int) (p2 : Int) : Option Int :=
 some (if (if p2 < p0 then p2 else p0) > p1 then (if p2 < p0 then p2 else p0) else p1)
def Xem (p0 : Pic) (p1 : Int) (p2 : Int) : Option Int :=
 bnd (Xei p2 0 (Xaa .i64 (p0.High - 1))) fun q1 =>
 bnd (Xei p1 0 (Xaa .i64 (p0.Wide - 1))) fun q2 =>
 req (0 ≤ (Xaa .i64 ((Xaa .i64 (q1 * p0.Wide)) + q2)) ∧ (Xaa .i64 ((Xaa .i64 (q1 * p0.Wide)) + q2)) < p0.Dots.size) <|
 some (Xaa .i64 ((Xkn p0.Dots (Xaa .i64 ((Xaa .i64 (q1 * p0.Wide)) + q2)))))
def Xel (p0 : Pic) (p1 : Int) (p2 : Int) (v10 : (Int × (List Int))) (v23 : (Int × (List Int))) : Option (Lp (Int × (List Int)) (List Int)) :=
 sel (decide (v23.1 < 8)) (
 bnd (Xem p0 (Xaa .i64 (p1 + v23.1)) (Xaa .i64 (p2 + v10.1))) fun q27 =>
 req ((v23.2.length + ([q27]).length) * 8 ≤ 140737488355328 ∧ v23.2.length + ([q27]).length ≤ maxLen) <|
 some (.go (Xaa .i64 (v23.1 + 1), (v23.2 ++ ([q27]))))) (
 some (.done v23.2))
def Xek (p0 : Pic) (p1 : Int) (p2 : Int) (v10 : (Int × (List Int))) : Option (Lp (Int × (List Int)) (List Int)) :=
 sel (decide (v10.1 < 8)) (
 bnd (loop (Xel p0 p1 p2 v10) (0, v10.2)) fun v26 =>
 some (.go (Xaa .i64 (v10.1 + 1), v26))) (
 some (.done v10.2))
def Xgc (p0 : Pic) (p1 : Int) (p2 : Int) : Option (List Int) :=
 req (0 ≤ (0 : Int) ∧ (0 : Int) ≤ (64 : Int) ∧ (64 : Int) * 8 ≤ 281474976710656) <|
 bnd (loop (Xek p0 p1 p2) (0, (List.replicate (0 : Int).toNat (0 : Int)))) fun v20 =>
 some v20
def Xjy (p0 : Int) (v16 : (Int × (List Int))) (v37 : (Int × (List Int))) : Option (Lp (Int × (List Int)) (List Int)) :=
 sel (decide (v37.1 ≤ v16.1)) (
 bnd (
 bnd (
 req ((2 : Int) ≠ 0) <|
 sel ((v16.1.tmod 2) == 0) (
 some (Xaa .i64 (v16.1 - v37.1))) (
 some v37.1)) fun v44 =>
 bnd (
 sel (decide (v44 < p0)) (
 some (decide ((Xaa .i64 (v16.1 - v44)) < p0))) (
 some false)) fun v45 =>
 sel v45 (
 req ((v37.2.length + ([Xaa .i64 ((Xaa .i64 (v44 * p0)) + (Xaa .i64 (v16.1 - v44)))]).length) * 8 ≤ 140737488355328 ∧ v37.2.length + ([Xaa .i64 ((Xaa .i64 (v44 * p0)) + (Xaa .i64 (v16.1 - v44)))]).length ≤ maxLen) <|
 some (v37.2 ++ ([Xaa .i64 ((Xaa .i64 (v44 * p0)) + (Xaa .i64 (v16.1 - v44)))]))) (
 some v37.2)) fun v43 =>
 some (.go (Xaa .i64 (v37.1 + 1), v43))) (
 some (.done v37.2))
def Xgl (p0 : Int) (v16 : (Int × (List Int))) : Option (Lp (Int × (List Int)) (List Int)) :=
 sel (decide (v16.1 ≤ (Xaa .i64 ((Xaa .i64 (2 * p0)) - 2)))) (
 bnd (loop (Xjy p0 v16) (0, v16.2)) fun v42 =>
 some (.go (Xaa .i64 (v16.1 + 1), v42))) (
 some (.done v16.2))
def Xic (p0 : Int) : Option (List Int) :=
 bnd (loop (Xgl p0) (0, ([] : List Int))) fun v32 =>
 some v32
def Xhl (p1 : (List Int)) (q2 : (List Int)) (v4 : (Int × (List Int))) : Option (Lp (Int × (List Int)) (List Int)) :=
 sel (decide (v4.1 < (q2.length : Int))) (
 req (0 ≤ v4.1 ∧ v4.1 < q2.length) <|
 req (v4.1.toNat < q2.length) <|
 req (0 ≤ v4.1 ∧ v4.1 < p1.length) <|
 req (0 ≤ (q2.getD v4.1.toNat 0) ∧ (q2.getD v4.1.toNat 0) < v4.2.length) <|
 req ((q2.getD v4.1.toNat 0).toNat < v4.2.length) <|
 some (.go (Xaa .i64 (v4.1 + 1), (v4.2.set ((q2.getD v4.1.toNat 0).toNat) (p1.getD v4.1.toNat 0))))) (
 some (.done v4.2))
def Xet (p0 : Int) (p1 : (List Int)) : Option ((List Int) × Bool) :=
 bnd (
 sel (p0 != 4) (
 sel (p0 != 8) (
 some true) (
 some ((p1.length : Int) != (Xaa .i64 (p0 * p0))))) (
 some ((p1.length : Int) != (Xaa .i64 (p0 * p0))))) fun v1 =>
 sel v1 (
 some (([] : List Int), false)) (
 req (0 ≤ (p1.length : Int) ∧ (p1.length : Int) ≤ (p1.length : Int) ∧ (p1.length : Int) * 8 ≤ 281474976710656) <|
 bnd (Xic p0) fun q2 =>
 bnd (loop (Xhl p1 q2) (0, (List.replicate (p1.length : Int).toNat (0 : Int)))) fun v6 =>
 some (v6, true))
def Xks (p0 : Int) : Option Int :=
 bnd (Xat p0 0 40) fun q1 =>
 sel (!q1) (
 some 0) (
 req ((6 : Int) ≠ 0) <|
 req (0 ≤ (p0.tmod 6) ∧ (p0.tmod 6) < ([10, 11, 13, 14, 16, 18]).length) <|
 req ((p0.tmod 6).toNat < ([10, 11, 13, 14, 16, 18]).length) <|
 req ((6 : Int) ≠ 0) <|
 req (0 ≤ (Xaa .i64 (p0.tdiv 6))) <|
 some (Xaa .i64 ((([10, 11, 13, 14, 16, 18]).getD ((p0.tmod 6).toNat) 0) * 2 ^ min (Xaa .i64 (p0.tdiv 6)).toNat (IntKind.bits .i64))))
def Xh9 (p0 : Int) (p1 : Int) : Option Int :=
 bnd (Xat p0 (-5000) 5000) fun q1 =>
 sel (!q1) (
 some 0) (
 bnd (Xks p1) fun q2 =>
 some (Xaa .i64 (p0 * q2)))
def Xkr (p0 : Int) (p1 : Int) : Option Int :=
 bnd (
 bnd (Xat p0 0 7) fun q2 =>
 sel q2 (
 bnd (Xat p1 0 7) fun q3 =>
 some (!q3)) (
 some true)) fun v1 =>
 sel v1 (
 some 0) (
 req (0 ≤ (1 : Int)) <|
 req (0 ≤ (2 : Int)) <|
 req ((2 : Int) ≠ 0) <|
 sel (((Xaa .i64 ((Xaa .i64 ((IntKind.wrap .i64 (BitVec.ofInt (IntKind.bits .i64) (IntKind.wrap .i64 (BitVec.ofInt (IntKind.bits .i64) p0 &&& BitVec.ofInt (IntKind.bits .i64) p1).toNat) &&& BitVec.ofInt (IntKind.bits .i64) 1).toNat) + (IntKind.wrap .i64 (BitVec.ofInt (IntKind.bits .i64) ((IntKind.wrap .i64 (BitVec.ofInt (IntKind.bits .i64) p0 &&& BitVec.ofInt (IntKind.bits .i64) p1).toNat) / 2 ^ min (1 : Int).toNat (IntKind.bits .i64)) &&& BitVec.ofInt (IntKind.bits .i64) 1).toNat))) + (IntKind.wrap .i64 (BitVec.ofInt (IntKind.bits .i64) ((IntKind.wrap .i64 (BitVec.ofInt (IntKind.bits .i64) p0 &&& BitVec.ofInt (IntKind.bits .i64) p1).toNat) / 2 ^ min (2 : Int).toNat (IntKind.bits .i64)) &&& BitVec.ofInt (IntKind.bits .i64) 1).toNat))).tmod 2) == 0) (
 some 1) (
 some (-1)))
def Xj0 (p0 : (List Int)) (v31 : (Int × (List Int))) (v72 : (Int × (List Int))) (v85 : (Int × (List Int))) : Option (Lp (Int × (List Int)) (List Int)) :=
 sel (decide (v85.1 < 8)) (
 req (0 ≤ (Xaa .i64 ((Xaa .i64 (8 * v31.1)) + v72.1)) ∧ (Xaa .i64 ((Xaa .i64 (8 * v31.1)) + v72.1)) < v85.2.length) <|
 req ((Xaa .i64 ((Xaa .i64 (8 * v31.1)) + v72.1)).toNat < v85.2.length) <|
 bnd (Xkr v72.1 v85.1) fun q89 =>
 req (0 ≤ (Xaa .i64 ((Xaa .i64 (8 * v31.1)) + v85.1)) ∧ (Xaa .i64 ((Xaa .i64 (8 * v31.1)) + v85.1)) < p0.length) <|
 req (0 ≤ (Xaa .i64 ((Xaa .i64 (8 * v31.1)) + v72.1)) ∧ (Xaa .i64 ((Xaa .i64 (8 * v31.1)) + v72.1)) < v85.2.length) <|
 req ((Xaa .i64 ((Xaa .i64 (8 * v31.1)) + v72.1)).toNat < v85.2.length) <|
 some (.go (Xaa .i64 (v85.1 + 1), (v85.2.set ((Xaa .i64 ((Xaa .i64 (8 * v31.1)) + v72.1)).toNat) (Xaa .i64 ((v85.2.getD ((Xaa .i64 ((Xaa .i64 (8 * v31.1)) + v72.1)).toNat) 0) + (Xaa .i64 (q89 * (p0.getD (Xaa .i64 ((Xaa .i64 (8 * v31.1)) + v85.1)).toNat 0))))))))) (
 some (.done v85.2))
def Xp7 (p0 : (List Int)) (v31 : (Int × (List Int))) (v72 : (Int × (List Int))) : Option (Lp (Int × (List Int)) (List Int)) :=
 sel (decide (v72.1 < 8)) (
 bnd (loop (Xj0 p0 v31 v72) (0, v72.2)) fun v88 =>
 some (.go (Xaa .i64 (v72.1 + 1), v88))) (
 some (.done v72.2))
def Xp6 (p0 : (List Int)) (v31 : (Int × (List Int))) : Option (Lp (Int × (List Int)) (List Int)) :=
 sel (decide (v31.1 < 8)) (
 bnd (loop (Xp7 p0 v31) (0, v31.2)) fun v82 =>
 some (.go (Xaa .i64 (v31.1 + 1), v82))) (
 some (.done v31.2))
def Xid (v62 : (List Int)) (v123 : (Int × (List Int))) (v164 : (Int × (List Int))) (v177 : (Int × (List Int))) : Option (Lp (Int × (List Int)) (List Int)) :=
 sel (decide (v177.1 < 8)) (
 req (0 ≤ (Xaa .i64 ((Xaa .i64 (8 * v123.1)) + v164.1)) ∧ (Xaa .i64 ((Xaa .i64 (8 * v123.1)) + v164.1)) < v177.2.length) <|
 req ((Xaa .i64 ((Xaa .i64 (8 * v123.1)) + v164.1)).toNat < v177.2.length) <|
 bnd (Xkr v123.1 v177.1) fun q181 =>
 req (0 ≤ (Xaa .i64 ((Xaa .i64 (8 * v177.1)) + v164.1)) ∧ (Xaa .i64 ((Xaa .i64 (8 * v177.1)) + v164.1)) < v62.length) <|
 req ((Xaa .i64 ((Xaa .i64 (8 * v177.1)) + v164.1)).toNat < v62.length) <|
 req (0 ≤ (Xaa .i64 ((Xaa .i64 (8 * v123.1)) + v164.1)) ∧ (Xaa .i64 ((Xaa .i64 (8 * v123.1)) + v164.1)) < v177.2.length) <|
 req ((Xaa .i64 ((Xaa .i64 (8 * v123.1)) + v164.1)).toNat < v177.2.length) <|
 some (.go (Xaa .i64 (v177.1 + 1), (v177.2.set ((Xaa .i64 ((Xaa .i64 (8 * v123.1)) + v164.1)).toNat) (Xaa .i64 ((v177.2.getD ((Xaa .i64 ((Xaa .i64 (8 * v123.1)) + v164.1)).toNat) 0) + (Xaa .i64 (q181 * (v62.getD ((Xaa .i64 ((Xaa .i64 (8 * v177.1)) + v164.1)).toNat) 0))))))))) (
 some (.done v177.2))
def Xom (v62 : (List Int)) (v123 : (Int × (List Int))) (v164 : (Int × (List Int))) : Option (Lp (Int × (List Int)) (List Int)) :=
 sel (decide (v164.1 < 8)) (
 bnd (loop (Xid v62 v123 v164) (0, v164.2)) fun v180 =>
 some (.go (Xaa .i64 (v164.1 + 1), v180))) (
 some (.done v164.2))
def Xol (v62 : (List Int)) (v123 : (Int × (List Int))) : Option (Lp (Int × (List Int)) (List Int)) :=
 sel (decide (v123.1 < 8)) (
 bnd (loop (Xom v62 v123) (0, v123.2)) fun v174 =>
 some (.go (Xaa .i64 (v123.1 + 1), v174))) (
 some (.done v123.2))
def Xrl (p0 : (List Int)) : Option (List Int) :=
 req (0 ≤ (64 : Int) ∧ (64 : Int) ≤ (64 : Int) ∧ (64 : Int) * 8 ≤ 281474976710656) <|
 bnd (loop (Xp6 p0) (0, (List.replicate (64 : Int).toNat (0 : Int)))) fun v62 =>
 req (0 ≤ (64 : Int) ∧ (64 : Int) ≤ (64 : Int) ∧ (64 : Int) * 8 ≤ 281474976710656) <|
 bnd (loop (Xol v62) (0, (List.replicate (64 : Int).toNat (0 : Int)))) fun v154 =>
 some v154
def Xm6 (p0 : Int) (p1 : Int) : Option Int :=
 req (p1 ≠ 0) <|
 bnd (
 req (p1 ≠ 0) <|
 sel (decide ((p0.tmod p1) < 0)) (
 some (Xaa .i64 ((Xaa .i64 (p0.tdiv p1)) - 1))) (
 some (Xaa .i64 (p0.tdiv p1)))) fun v1 =>
 some v1
def Xnh (p0 : (List Int)) (v3 : (Int × (List Int))) : Option (Lp (Int × (List Int)) (List Int)) :=
 sel (decide (v3.1 < (p0.length : Int))) (
 req (0 ≤ v3.1 ∧ v3.1 < v3.2.length) <|
 req (v3.1.toNat < v3.2.length) <|
 bnd (Xm6 (Xaa .i64 ((v3.2.getD v3.1.toNat 0) + 32)) 64) fun q7 =>
 req (0 ≤ v3.1 ∧ v3.1 < v3.2.length) <|
 req (v3.1.toNat < v3.2.length) <|
 some (.go (Xaa .i64 (v3.1 + 1), (v3.2.set v3.1.toNat q7)))) (
 some (.done v3.2))
def Xjb (p0 : (List Int)) : Option ((List Int) × (List Int)) :=
 bnd (loop (Xnh p0) (0, p0)) fun v6 =>
 some (v6, v6)
def Xh8 (p0 : (List Int)) : Option (List Int) :=
 bnd (Xd1 p0 64 (-10000000) 10000000) fun q1 =>
 sel (!q1) (
 some ([] : List Int)) (
 bnd (Xrl p0) fun q2 =>
 bnd (Xjb q2) fun q3 =>
 some q3.2)
def Xuj (p0 : Int) : Option Int :=
 bnd (Xat p0 0 15) fun q1 =>
 sel (!q1) (
 some (-1)) (
 req ((4 : Int) ≠ 0) <|
 req ((2 : Int) ≠ 0) <|
 req ((4 : Int) ≠ 0) <|
 req ((2 : Int) ≠ 0) <|
 bnd (
 sel (((Xaa .i64 (p0.tdiv 4)).tmod 2) == 0) (
 some (((p0.tmod 4).tmod 2) == 0)) (
 some false)) fun v2 =>
 sel v2 (
 some 0) (
 bnd (
 sel (((Xaa .i64 (p0.tdiv 4)).tmod 2) == 1) (
 some (((p0.tmod 4).tmod 2) == 1)) (
 some false)) fun v3 =>
 sel v3 (
 some 1) (
 some 2)))
def Xlv (p0 : Int) (p1 : Int) : Option Int :=
 bnd (
 bnd (Xat p0 0 40) fun q2 =>
 sel q2 (
 bnd (Xat p1 0 15) fun q3 =>
 some (!q3)) (
 some true)) fun v1 =>
 sel v1 (
 some 0) (
 req ((6 : Int) ≠ 0) <|
 bnd (Xuj p1) fun q4 =>
 req (0 ≤ (p0.tmod 6) ∧ (p0.tmod 6) < 6) <|
 req (0 ≤ q4 ∧ q4 < 3) <|
 req (((0 + (p0.tmod 6).toNat * 3) + q4.toNat * 1) < ([10, 16, 13, 11, 18, 14, 13, 20, 16, 14, 23, 18, 16, 25, 20, 18, 29, 23] : List Int).length) <|
 req ((6 : Int) ≠ 0) <|
 req (0 ≤ (Xaa .i64 (p0.tdiv 6))) <|
 some (Xaa .i64 ((([10, 16, 13, 11, 18, 14, 13, 20, 16, 14, 23, 18, 16, 25, 20, 18, 29, 23] : List Int).getD ((0 + (p0.tmod 6).toNat * 3) + q4.toNat * 1) 0) * 2 ^ min (Xaa .i64 (p0.tdiv 6)).toNat (IntKind.bits .i64))))
def Xia (p0 : Int) (p1 : Int) (p2 : Int) : Option Int :=
 bnd (Xat p0 (-5000) 5000) fun q1 =>
 sel (!q1) (
 some 0) (
 bnd (Xlv p1 p2) fun q2 =>
 some (Xaa .i64 (p0 * q2)))
def Xd3 (p0 : Int) (p1 : Int) (p2 : Int) (p3 : Int) : Option (Int × Int × Int × Int) :=
 bnd (Xm6 p1 2) fun q1 =>
 bnd (Xm6 p3 2) fun q2 =>
 some (Xaa .i64 ((Xaa .i64 (p0 + p2)) + (Xaa .i64 (p1 + q2))), Xaa .i64 ((Xaa .i64 (p0 - p2)) + (Xaa .i64 (q1 - p3))), Xaa .i64 ((Xaa .i64 (p0 - p2)) - (Xaa .i64 (q1 - p3))), Xaa .i64 ((Xaa .i64 (p0 + p2)) - (Xaa .i64 (p1 + q2))))
def Xfl (v4 : (Int × (List Int))) : Option (Lp (Int × (List Int)) (List Int)) :=
 sel (decide (v4.1 < 16)) (
 req (0 ≤ v4.1 ∧ v4.1 < v4.2.length) <|
 req (v4.1.toNat < v4.2.length) <|
 req (0 ≤ (Xaa .i64 (v4.1 + 1)) ∧ (Xaa .i64 (v4.1 + 1)) < v4.2.length) <|
 req ((Xaa .i64 (v4.1 + 1)).toNat < v4.2.length) <|
 req (0 ≤ (Xaa .i64 (v4.1 + 2)) ∧ (Xaa .i64 (v4.1 + 2)) < v4.2.length) <|
 req ((Xaa .i64 (v4.1 + 2)).toNat < v4.2.length) <|
 req (0 ≤ (Xaa .i64 (v4.1 + 3)) ∧ (Xaa .i64 (v4.1 + 3)) < v4.2.length) <|
 req ((Xaa .i64 (v4.1 + 3)).toNat < v4.2.length) <|
 bnd (Xd3 (v4.2.getD v4.1.toNat 0) (v4.2.getD ((Xaa .i64 (v4.1 + 1)).toNat) 0) (v4.2.getD ((Xaa .i64 (v4.1 + 2)).toNat) 0) (v4.2.getD ((Xaa .i64 (v4.1 + 3)).toNat) 0)) fun q8 =>
 req (0 ≤ v4.1 ∧ v4.1 ≤ (Xaa .i64 (v4.1 + 4)) ∧ (Xaa .i64 (v4.1 + 4)) ≤ (v4.2.length : Int)) <|
 req ((v4.1.toNat + ((Xaa .i64 (v4.1 + 4)).toNat - v4.1.toNat) ≤ v4.2.length ∧ ([q8.1, q8.2.1, q8.2.2.1, q8.2.2.2]).length ≤ ((Xaa .i64 (v4.1 + 4)).toNat - v4.1.toNat))) <|
 some (.go (Xaa .i64 (v4.1 + 4), (over v4.2 v4.1.toNat ([q8.1, q8.2.1, q8.2.2.1, q8.2.2.2]))))) (
 some (.done v4.2))
def Xe6 (v17 : (Int × (List Int))) (q26 : (Int × Int × Int × Int)) (v28 : (Int × (List Int))) : Option (Lp (Int × (List Int)) (List Int)) :=
 sel (decide (v28.1 < 4)) (
 req (0 ≤ v28.1 ∧ v28.1 < ([q26.1, q26.2.1, q26.2.2.1, q26.2.2.2] : List Int).length) <|
 req (0 ≤ (Xaa .i64 (v17.1 + (Xaa .i64 (4 * v28.1)))) ∧ (Xaa .i64 (v17.1 + (Xaa .i64 (4 * v28.1)))) < v28.2.length) <|
 req ((Xaa .i64 (v17.1 + (Xaa .i64 (4 * v28.1)))).toNat < v28.2.length) <|
 some (.go (Xaa .i64 (v28.1 + 1), (v28.2.set ((Xaa .i64 (v17.1 + (Xaa .i64 (4 * v28.1)))).toNat) (([q26.1, q26.2.1, q26.2.2.1, q26.2.2.2] : List Int).getD v28.1.toNat 0))))) (
 some (.done v28.2))
def Xe5 (v17 : (Int × (List Int))) : Option (Lp (Int × (List Int)) (List Int)) :=
 sel (decide (v17.1 < 4)) (
 req (0 ≤ v17.1 ∧ v17.1 < v17.2.length) <|
 req (v17.1.toNat < v17.2.length) <|
 req (0 ≤ (Xaa .i64 (v17.1 + 4)) ∧ (Xaa .i64 (v17.1 + 4)) < v17.2.length) <|
 req ((Xaa .i64 (v17.1 + 4)).toNat < v17.2.length) <|
 req (0 ≤ (Xaa .i64 (v17.1 + 8)) ∧ (Xaa .i64 (v17.1 + 8)) < v17.2.length) <|
 req ((Xaa .i64 (v17.1 + 8)).toNat < v17.2.length) <|
 req (0 ≤ (Xaa .i64 (v17.1 + 12)) ∧ (Xaa .i64 (v17.1 + 12)) < v17.2.length) <|
 req ((Xaa .i64 (v17.1 + 12)).toNat < v17.2.length) <|
 bnd (Xd3 (v17.2.getD v17.1.toNat 0) (v17.2.getD ((Xaa .i64 (v17.1 + 4)).toNat) 0) (v17.2.getD ((Xaa .i64 (v17.1 + 8)).toNat) 0) (v17.2.getD ((Xaa .i64 (v17.1 + 12)).toNat) 0)) fun q26 =>
 bnd (loop (Xe6 v17 q26) (0, v17.2)) fun v30 =>
 some (.go (Xaa .i64 (v17.1 + 1), v30))) (
 some (.done v17.2))
def Xcj (p0 : (List Int)) : Option (List Int) :=
 bnd (Xen p0) fun q1 =>
 bnd (loop (Xfl) (0, q1)) fun v7 =>
 bnd (loop (Xe5) (0, v7)) fun v25 =>
 some v25
def Xjp (p0 : (List Int)) : Option (List Int) :=
 bnd (Xd1 p0 16 (-10000000) 10000000) fun q1 =>
 sel (!q1) (
 some ([] : List Int)) (
 bnd (Xcj p0) fun q2 =>
 bnd (Xjb q2) fun q3 =>
 some q3.2)
def Xmd (p0 : Int) (v7 : (Int × (List Int))) (v16 : (Int × (List Int))) : Option (Lp (Int × (List Int)) (List Int)) :=
 sel (decide (v16.1 < 4)) (
 req ((2 : Int) ≠ 0) <|
 req ((2 : Int) ≠ 0) <|
 req ((v16.2.length + ([Xaa .i64 ((Xaa .i64 ((Xaa .i64 ((Xaa .i64 (v7.1 + (Xaa .i64 ((Xaa .i64 (p0.tdiv 2)) * 4)))) * 8)) + v16.1)) + (Xaa .i64 ((p0.tmod 2) * 4)))]).length) * 8 ≤ 140737488355328 ∧ v16.2.length + ([Xaa .i64 ((Xaa .i64 ((Xaa .i64 ((Xaa .i64 (v7.1 + (Xaa .i64 ((Xaa .i64 (p0.tdiv 2)) * 4)))) * 8)) + v16.1)) + (Xaa .i64 ((p0.tmod 2) * 4)))]).length ≤ maxLen) <|
 some (.go (Xaa .i64 (v16.1 + 1), (v16.2 ++ ([Xaa .i64 ((Xaa .i64 ((Xaa .i64 ((Xaa .i64 (v7.1 + (Xaa .i64 ((Xaa .i64 (p0.tdiv 2)) * 4)))) * 8)) + v16.1)) + (Xaa .i64 ((p0.tmod 2) * 4)))]))))) (
 some (.done v16.2))
def Xir (p0 : Int) (v7 : (Int × (List Int))) : Option (Lp (Int × (List Int)) (List Int)) :=
 sel (decide (v7.1 < 4)) (
 bnd (loop (Xmd p0 v7) (0, v7.2)) fun v18 =>
 some (.go (Xaa .i64 (v7.1 + 1), v18))) (
 some (.done v7.2))
def Xly (p0 : Int) : Option (List Int) :=
 bnd (loop (Xir p0) (0, ([] : List Int))) fun v14 =>
 some v14
def Xej (p1 : Xkj) (q5 : ((List Int) × Bool)) (v8 : (Int × (List Int))) : Option (Lp (Int × (List Int)) (List Int)) :=
 sel (decide (v8.1 < (q5.1.length : Int))) (
 req (0 ≤ v8.1 ∧ v8.1 < v8.2.length) <|
 req (v8.1.toNat < v8.2.length) <|
 bnd (Xh9 (v8.2.getD v8.1.toNat 0) p1.Qp) fun q12 =>
 req (0 ≤ v8.1 ∧ v8.1 < v8.2.length) <|
 req (v8.1.toNat < v8.2.length) <|
 some (.go (Xaa .i64 (v8.1 + 1), (v8.2.set v8.1.toNat q12)))) (
 some (.done v8.2))
def Xd4 (p1 : Xkj) (q51 : ((List Int) × Bool)) (v54 : (Int × (List Int))) : Option (Lp (Int × (List Int)) (List Int)) :=
 sel (decide (v54.1 < (q51.1.length : Int))) (
 req (0 ≤ v54.1 ∧ v54.1 < v54.2.length) <|
 req (v54.1.toNat < v54.2.length) <|
 bnd (Xia (v54.2.getD v54.1.toNat 0) p1.Qp v54.1) fun q58 =>
 req (0 ≤ v54.1 ∧ v54.1 < v54.2.length) <|
 req (v54.1.toNat < v54.2.length) <|
 some (.go (Xaa .i64 (v54.1 + 1), (v54.2.set v54.1.toNat q58)))) (
 some (.done v54.2))
def Xfr (q60 : (List Int)) (q61 : (List Int)) (v63 : (Int × (List Int))) : Option (Lp (Int × (List Int)) (List Int)) :=
 sel (decide (v63.1 < (q61.length : Int))) (
 req (0 ≤ v63.1 ∧ v63.1 < q61.length) <|
 req (v63.1.toNat < q61.length) <|
 req (0 ≤ v63.1 ∧ v63.1 < q60.length) <|
 req (v63.1.toNat < q60.length) <|
 req (0 ≤ (q61.getD v63.1.toNat 0) ∧ (q61.getD v63.1.toNat 0) < v63.2.length) <|
 req ((q61.getD v63.1.toNat 0).toNat < v63.2.length) <|
 some (.go (Xaa .i64 (v63.1 + 1), (v63.2.set ((q61.getD v63.1.toNat 0).toNat) (q60.getD v63.1.toNat 0))))) (
 some (.done v63.2))
def Xiy (p0 : (List Int)) (p1 : Xkj) (v32 : (Int × (List Int))) : Option (Lp (Int × (List Int)) (List Int)) :=
 sel (decide (v32.1 < 4)) (
 req (0 ≤ (Xaa .i64 (16 * v32.1)) ∧ (Xaa .i64 (16 * v32.1)) ≤ (Xaa .i64 ((Xaa .i64 (16 * v32.1)) + 16)) ∧ (Xaa .i64 ((Xaa .i64 (16 * v32.1)) + 16)) ≤ (p0.length : Int)) <|
 bnd (Xet 4 ((p0.drop (Xaa .i64 (16 * v32.1)).toNat).take ((Xaa .i64 ((Xaa .i64 (16 * v32.1)) + 16)).toNat - (Xaa .i64 (16 * v32.1)).toNat))) fun q51 =>
 bnd (loop (Xd4 p1 q51) (0, q51.1)) fun v57 =>
 bnd (Xjp v57) fun q60 =>
 bnd (Xly v32.1) fun q61 =>
 bnd (loop (Xfr q60 q61) (0, v32.2)) fun v65 =>
 some (.go (Xaa .i64 (v32.1 + 1), v65))) (
 some (.done v32.2))
def Xgr (p0 : (List Int)) (p1 : Xkj) : Option ((List Int) × Bool) :=
 bnd (
 bnd (Xeu p0) fun q2 =>
 sel q2 (
 bnd (Xgq p1) fun q3 =>
 some (!q3)) (
 some true)) fun v1 =>
 sel v1 (
 some (([] : List Int), false)) (
 sel p1.Exact (
 bnd (Xet 8 p0) fun q4 =>
 some (q4.1, q4.2)) (
 sel p1.Large (
 bnd (Xet 8 p0) fun q5 =>
 bnd (loop (Xej p1 q5) (0, q5.1)) fun v11 =>
 bnd (Xh8 v11) fun q14 =>
 some (q14, true)) (
 req (0 ≤ (64 : Int) ∧ (64 : Int) ≤ (64 : Int) ∧ (64 : Int) * 8 ≤ 281474976710656) <|
 bnd (loop (Xiy p0 p1) (0, (List.replicate (64 : Int).toNat (0 : Int)))) fun v50 =>
 some (v50, true))))
def Xli (p0 : (List Int)) (p1 : (List Int)) (v6 : (Int × (List Int))) : Option (Lp (Int × (List Int)) (List Int)) :=
 sel (decide (v6.1 < (p0.length : Int))) (
 req (0 ≤ v6.1 ∧ v6.1 < p0.length) <|
 req (0 ≤ v6.1 ∧ v6.1 < p1.length) <|
 bnd (Xei (Xaa .i64 ((p0.getD v6.1.toNat 0) + (p1.getD v6.1.toNat 0))) 0 255) fun q10 =>
 req ((v6.2.length + ([q10]).length) * 8 ≤ 140737488355328 ∧ v6.2.length + ([q10]).length ≤ maxLen) <|
 some (.go (Xaa .i64 (v6.1 + 1), (v6.2 ++ ([q10]))))) (
 some (.done v6.2))
def Xkp (p0 : (List Int)) (p1 : (List Int)) : Option (List Int) :=
 bnd (
 bnd (Xd1 p0 64 0 255) fun q2 =>
 sel q2 (
 bnd (Xd1 p1 64 (-10000000) 10000000) fun q3 =>
 some (!q3)) (
 some true)) fun v1 =>
 sel v1 (
 some ([] : List Int)) (
 bnd (loop (Xli p0 p1) (0, ([] : List Int))) fun v9 =>
 some v9)
def Xjo (p0 : Pic) (p1 : Int) (p2 : Int) (v9 : (Int × (List Int) × (List Int))) : Option (Lp (Int × (List Int) × (List Int)) ((List Int) × (List Int))) :=
 sel (decide (v9.1 < 8)) (
 bnd (
 bnd (
 sel (decide (p2 > 0)) (
 bnd (Xem p0 (Xaa .i64 (p1 + v9.1)) (Xaa .i64 (p2 - 1))) fun q18 =>
 req ((v9.2.1.length + ([q18]).length) * 8 ≤ 140737488355328 ∧ v9.2.1.length + ([q18]).length ≤ maxLen) <|
 some (v9.2.1 ++ ([q18]))) (
 some v9.2.1)) fun v17 =>
 sel (decide (p1 > 0)) (
 bnd (Xem p0 (Xaa .i64 (p1 - 1)) (Xaa .i64 (p2 + v9.1))) fun q19 =>
 req ((v9.2.2.length + ([q19]).length) * 8 ≤ 140737488355328 ∧ v9.2.2.length + ([q19]).length ≤ maxLen) <|
 some (v17, (v9.2.2 ++ ([q19])))) (
 some (v17, v9.2.2))) fun v16 =>
 some (.go (Xaa .i64 (v9.1 + 1), v16.1, v16.2))) (
 some (.done (v9.2.1, v9.2.2)))
def Xls (p0 : Pic) (p1 : Int) (p2 : Int) : Option (Xkl × Bool) :=
 bnd (
 bnd (Xdf p0) fun q2 =>
 sel q2 (
 bnd (Xcx p0 p1 p2) fun q3 =>
 some (!q3)) (
 some true)) fun v1 =>
 sel v1 (
 some ((⟨[], [], 0⟩ : Xkl), false)) (
 bnd (loop (Xjo p0 p1 p2) (0, [], [])) fun v15 =>
 bnd (
 bnd (
 sel (decide (p1 > 0)) (
 some (decide (p2 > 0))) (
 some false)) fun v22 =>
 sel v22 (
 bnd (Xem p0 (Xaa .i64 (p1 - 1)) (Xaa .i64 (p2 - 1))) fun q23 =>
 some q23) (
 some (-1))) fun v21 =>
 some ((⟨v15.1, v15.2, v21⟩ : Xkl), true))
def Xe3 (p0 : Xkl) (v4 : Int) : Option (Lp Int (Ou Unit Bool)) :=
 sel (decide (v4 < (([p0.Above, p0.Left]).length : Int))) (
 req (0 ≤ v4 ∧ v4 < ([p0.Above, p0.Left]).length) <|
 req (v4.toNat < ([p0.Above, p0.Left]).length) <|
 bnd (
 sel (decide (((([p0.Above, p0.Left]).getD v4.toNat Xlf).length : Int) > 0)) (
 bnd (Xd1 (([p0.Above, p0.Left]).getD v4.toNat Xlf) 8 0 255) fun q10 =>
 some (!q10)) (
 some false)) fun v9 =>
 sel v9 (
 some (.done (.ret false))) (
 some (.go (Xaa .i64 (v4 + 1))))) (
 some (.done (.out ())))
def Xlt (p0 : Xkl) : Option Bool :=
 bnd (loop (Xe3 p0) 0) fun o11 => match o11 with
| .out v8 => (
 bnd (Xat p0.Corner (-1) 255) fun q12 =>
 some q12)
| .ret r => some r
def Xkx (p0 : (List Int)) : Option (List Int) :=
 sel ((p0.length : Int) == 0) (
 some ([128, 128, 128, 128, 128, 128, 128, 128])) (
 some p0)
def Xfy (p0 : Int) (v4 : Int) (q7 : (List Int)) (q8 : (List Int)) (v9 : Int) (v22 : (Int × (List Int))) (v39 : (Int × (List Int))) : Option (Lp (Int × (List Int)) (List Int)) :=
 sel (decide (v39.1 < 8)) (
 bnd (
 sel (p0 == 0) (
 req ((v39.2.length + ([v4]).length) * 8 ≤ 140737488355328 ∧ v39.2.length + ([v4]).length ≤ maxLen) <|
 some (v39.2 ++ ([v4]))) (
 sel (p0 == 1) (
 req (0 ≤ v39.1 ∧ v39.1 < q7.length) <|
 req ((v39.2.length + ([(q7.getD v39.1.toNat 0)]).length) * 8 ≤ 140737488355328 ∧ v39.2.length + ([(q7.getD v39.1.toNat 0)]).length ≤ maxLen) <|
 some (v39.2 ++ ([(q7.getD v39.1.toNat 0)]))) (
 sel (p0 == 2) (
 req (0 ≤ v22.1 ∧ v22.1 < q8.length) <|
 req ((v39.2.length + ([(q8.getD v22.1.toNat 0)]).length) * 8 ≤ 140737488355328 ∧ v39.2.length + ([(q8.getD v22.1.toNat 0)]).length ≤ maxLen) <|
 some (v39.2 ++ ([(q8.getD v22.1.toNat 0)]))) (
 req (0 ≤ v22.1 ∧ v22.1 < q8.length) <|
 req (0 ≤ v39.1 ∧ v39.1 < q7.length) <|
 bnd (Xei (Xaa .i64 ((Xaa .i64 ((q8.getD v22.1.toNat 0) + (q7.getD v39.1.toNat 0))) - v9)) 0 255) fun q45 =>
 req ((v39.2.length + ([q45]).length) * 8 ≤ 140737488355328 ∧ v39.2.length + ([q45]).length ≤ maxLen) <|
 some (v39.2 ++ ([q45])))))) fun v44 =>
 some (.go (Xaa .i64 (v39.1 + 1), v44))) (
 some (.done v39.2))
def Xmb (p0 : Int) (v4 : Int) (q7 : (List Int)) (q8 : (List Int)) (v9 : Int) (v22 : (Int × (List Int))) : Option (Lp (Int × (List Int)) (List Int)) :=
 sel (decide (v22.1 < 8)) (
 bnd (loop (Xfy p0 v4 q7 q8 v9 v22) (0, v22.2)) fun v43 =>
 some (.go (Xaa .i64 (v22.1 + 1), v43))) (
 some (.done v22.2))
def Xi6 (p0 : Int) (p1 : Xkl) : Option (List Int) :=
 bnd (
 bnd (Xlt p1) fun q2 =>
 sel q2 (
 bnd (Xat p0 0 3) fun q3 =>
 some (!q3)) (
 some true)) fun v1 =>
 sel v1 (
 some ([] : List Int)) (
 bnd (
 sel (decide ((Xaa .i64 ((p1.Above.length : Int) + (p1.Left.length : Int))) > 0)) (
 bnd (Xb6 p1.Above) fun q5 =>
 bnd (Xb6 p1.Left) fun q6 =>
 req ((2 : Int) ≠ 0) <|
 req ((Xaa .i64 ((p1.Above.length : Int) + (p1.Left.length : Int))) ≠ 0) <|
 some (Xaa .i64 ((Xaa .i64 ((Xaa .i64 (q5 + q6)) + (Xaa .i64 ((Xaa .i64 ((p1.Above.length : Int) + (p1.Left.length : Int))).tdiv 2)))).tdiv (Xaa .i64 ((p1.Above.length : Int) + (p1.Left.length : Int)))))) (
 some 128)) fun v4 =>
 bnd (Xkx p1.Above) fun q7 =>
 bnd (Xkx p1.Left) fun q8 =>
 bnd (
 sel (decide (p1.Corner < 0)) (
 some 128) (
 some p1.Corner)) fun v9 =>
 bnd (loop (Xmb p0 v4 q7 q8 v9) (0, ([] : List Int))) fun v35 =>
 some v35)
def Xc9 (p0 : Pic) (p1 : Pic) (p2 : Int) (p3 : Int) (p4 : Xkj) (p5 : Int) (p6 : Int) (p7 : Xay) : Option ((List Int) × Bool) :=
 bnd (
 bnd (Xdf p0) fun q2 =>
 sel q2 (
 bnd (Xcx p0 p5 p6) fun q3 =>
 sel q3 (
 bnd (Xat p2 0 256) fun q4 =>
 sel q4 (
 bnd (Xat p3 0 256) fun q5 =>
 sel q5 (
 bnd (Xfs p7) fun q6 =>
 sel q6 (
 bnd (Xgq p4) fun q7 =>
 sel q7 (
 bnd (Xgs p7 p4) fun q8 =>
 sel q8 (
 sel (p7.Kind != 2) (
 bnd (Xdf p1) fun q9 =>
 some (!q9)) (
 some false)) (
 some true)) (
 some true)) (
 some true)) (
 some true)) (
 some true)) (
 some true)) (
 some true)) fun v1 =>
 sel v1 (
 some (([] : List Int), false)) (
 sel (p7.Kind == 0) (
 bnd (Xgc p1 (Xaa .i64 (p2 + p5)) (Xaa .i64 (p3 + p6))) fun q10 =>
 some (q10, true)) (
 bnd (Xgr p7.Levels p4) fun q11 =>
 sel (p7.Kind == 1) (
 bnd (Xgc p1 (Xaa .i64 ((Xaa .i64 (p2 + p5)) + p7.Dx)) (Xaa .i64 ((Xaa .i64 (p3 + p6)) + p7.Dy))) fun q12 =>
 bnd (Xkp q12 q11.1) fun q13 =>
 some (q13, true)) (
 bnd (Xls p0 p5 p6) fun q14 =>
 bnd (Xi6 p7.Mode q14.1) fun q15 =>
 bnd (Xkp q15 q11.1) fun q16 =>
 some (q16, true))))
def Xo5 (p0 : Pic) : Option (List Int) :=
 req (p0.Dots.size ≤ maxLen) <|
 some (Xbr p0.Dots)
def Xp5 (p0 : Pic) (p1 : Int) (p2 : Int) (p3 : (List Int)) (v3 : (Int × (List Int))) : Option (Lp (Int × (List Int)) (List Int)) :=
 sel (decide (v3.1 < (p3.length : Int))) (
 req (0 ≤ v3.1 ∧ v3.1 < p3.length) <|
 req ((8 : Int) ≠ 0) <|
 req ((8 : Int) ≠ 0) <|
 req (0 ≤ (Xaa .i64 ((Xaa .i64 ((Xaa .i64 ((Xaa .i64 (p2 + (Xaa .i64 (v3.1.tdiv 8)))) * p0.Wide)) + p1)) + (v3.1.tmod 8))) ∧ (Xaa .i64 ((Xaa .i64 ((Xaa .i64 ((Xaa .i64 (p2 + (Xaa .i64 (v3.1.tdiv 8)))) * p0.Wide)) + p1)) + (v3.1.tmod 8))) < v3.2.length) <|
 req ((Xaa .i64 ((Xaa .i64 ((Xaa .i64 ((Xaa .i64 (p2 + (Xaa .i64 (v3.1.tdiv 8)))) * p0.Wide)) + p1)) + (v3.1.tmod 8))).toNat < v3.2.length) <|
 some (.go (Xaa .i64 (v3.1 + 1), (v3.2.set ((Xaa .i64 ((Xaa .i64 ((Xaa .i64 ((Xaa .i64 (p2 + (Xaa .i64 (v3.1.tdiv 8)))) * p0.Wide)) + p1)) + (v3.1.tmod 8))).toNat) (Xaa .u8 ((p3.getD v3.1.toNat 0))))))) (
 some (.done v3.2))
def Xsj (p0 : Pic) (p1 : Int) (p2 : Int) (p3 : (List Int)) : Option Pic :=
 bnd (Xo5 p0) fun q1 =>
 bnd (loop (Xp5 p0 p1 p2 p3) (0, q1)) fun v5 =>
 some (⟨p0.Wide, p0.High, (strOfNums v5)⟩ : Pic)
def Xbm (p1 : Xpv) (p2 : Xkj) (p4 : (List Xay)) (v10 : (Int × Int × Int × Int × ByteArray)) (v16 : (Int × Int × Int × ByteArray)) : Option (Lp (Int × Int × Int × ByteArray) (Ou (Int × Int × ByteArray) (Pic × Bool))) :=
 sel (decide (v16.1 < (p4.length : Int))) (
 req (0 ≤ v16.1 ∧ v16.1 < p4.length) <|
 req ((8 : Int) ≠ 0) <|
 req ((Xaa .i64 (p1.Wide.tdiv 8)) ≠ 0) <|
 req ((8 : Int) ≠ 0) <|
 req ((Xaa .i64 (p1.Wide.tdiv 8)) ≠ 0) <|
 bnd (Xc9 (⟨v16.2.1, v16.2.2.1, v16.2.2.2⟩ : Pic) (⟨v10.2.2.1, v10.2.2.2.1, v10.2.2.2.2⟩ : Pic) v10.1 v10.2.1 p2 (Xaa .i64 ((v16.1.tmod (Xaa .i64 (p1.Wide.tdiv 8))) * 8)) (Xaa .i64 ((Xaa .i64 (v16.1.tdiv (Xaa .i64 (p1.Wide.tdiv 8)))) * 8)) (⟨(p4.getD v16.1.toNat Xbt).Kind, (p4.getD v16.1.toNat Xbt).Mode, (p4.getD v16.1.toNat Xbt).Dx, (p4.getD v16.1.toNat Xbt).Dy, (p4.getD v16.1.toNat Xbt).Levels⟩ : Xay)) fun q21 =>
 sel (!q21.2) (
 some (.done (.ret ((⟨0, 0, ⟨#[]⟩⟩ : Pic), false)))) (
 bnd (Xsj (⟨v16.2.1, v16.2.2.1, v16.2.2.2⟩ : Pic) (Xaa .i64 ((v16.1.tmod (Xaa .i64 (p1.Wide.tdiv 8))) * 8)) (Xaa .i64 ((Xaa .i64 (v16.1.tdiv (Xaa .i64 (p1.Wide.tdiv 8)))) * 8)) q21.1) fun q22 =>
 some (.go (Xaa .i64 (v16.1 + 1), q22.Wide, q22.High, q22.Dots)))) (
 some (.done (.out (v16.2.1, v16.2.2.1, v16.2.2.2))))
def Xju (p0 : Pic) (p1 : Xpv) (p2 : Xkj) (p3 : Bool) (p4 : (List Xay)) : Option (Pic × Bool) :=
 bnd (
 bnd (Xkw p1.Wide) fun q2 =>
 sel q2 (
 bnd (Xkw p1.High) fun q3 =>
 sel q3 (
 bnd (Xat p1.Left 0 256) fun q4 =>
 sel q4 (
 bnd (Xat p1.Top 0 256) fun q5 =>
 sel q5 (
 bnd (Xgq p2) fun q6 =>
 sel q6 (
 req ((8 : Int) ≠ 0) <|
 req ((8 : Int) ≠ 0) <|
 some ((p4.length : Int) != (Xaa .i64 ((Xaa .i64 (p1.Wide.tdiv 8)) * (Xaa .i64 (p1.High.tdiv 8)))))) (
 some true)) (
 some true)) (
 some true)) (
 some true)) (
 some true)) fun v1 =>
 sel v1 (
 some ((⟨0, 0, ⟨#[]⟩⟩ : Pic), false)) (
 bnd (
 sel p2.Key (
 some false) (
 bnd (Xdf p0) fun q8 =>
 sel q8 (
 bnd (Xdu p0 p1) fun q9 =>
 some (!q9)) (
 some true))) fun v7 =>
 sel v7 (
 some ((⟨0, 0, ⟨#[]⟩⟩ : Pic), false)) (
 bnd (
 sel p3 (
 sel (!p2.Key) (
 bnd (Xm5 p0 p1) fun q11 =>
 some (0, 0, q11.1.Wide, q11.1.High, q11.1.Dots)) (
 some (0, 0, p0.Wide, p0.High, p0.Dots))) (
 some (p1.Left, p1.Top, p0.Wide, p0.High, p0.Dots))) fun v10 =>
 bnd (Xna p1.Wide p1.High) fun q12 =>
 bnd (loop (Xbm p1 p2 p4 v10) (0, q12.Wide, q12.High, q12.Dots)) fun o23 => match o23 with
| .out v20 => (
 some ((⟨v20.1, v20.2.1, v20.2.2⟩ : Pic), true))
| .ret r => some r))
def Xlj (p0 : Pic) (p1 : Pic) (p2 : Int) (p3 : Int) (v7 : (Int × (List Int))) : Option (Lp (Int × (List Int)) (List Int)) :=
 sel (decide (v7.1 < p1.High)) (
 req (0 ≤ (Xaa .i64 ((Xaa .i64 ((Xaa .i64 (p3 + v7.1)) * p0.Wide)) + p2)) ∧ (Xaa .i64 ((Xaa .i64 ((Xaa .i64 (p3 + v7.1)) * p0.Wide)) + p2)) ≤ (v7.2.length : Int) ∧ (v7.2.length : Int) ≤ (v7.2.length : Int)) <|
 req (0 ≤ (Xaa .i64 (v7.1 * p1.Wide)) ∧ (Xaa .i64 (v7.1 * p1.Wide)) ≤ (Xaa .i64 ((Xaa .i64 (v7.1 + 1)) * p1.Wide)) ∧ (Xaa .i64 ((Xaa .i64 (v7.1 + 1)) * p1.Wide)) ≤ (p1.Dots.size : Int)) <|
 req (((Xaa .i64 ((Xaa .i64 ((Xaa .i64 (p3 + v7.1)) * p0.Wide)) + p2)).toNat + ((v7.2.length : Int).toNat - (Xaa .i64 ((Xaa .i64 ((Xaa .i64 (p3 + v7.1)) * p0.Wide)) + p2)).toNat) ≤ v7.2.length ∧ (Xbr (p1.Dots.extract (Xaa .i64 (v7.1 * p1.Wide)).toNat (Xaa .i64 ((Xaa .i64 (v7.1 + 1)) * p1.Wide)).toNat)).length ≤ ((v7.2.length : Int).toNat - (Xaa .i64 ((Xaa .i64 ((Xaa .i64 (p3 + v7.1)) * p0.Wide)) + p2)).toNat))) <|
 some (.go (Xaa .i64 (v7.1 + 1), (over v7.2 ((Xaa .i64 ((Xaa .i64 ((Xaa .i64 (p3 + v7.1)) * p0.Wide)) + p2)).toNat) (Xbr (p1.Dots.extract (Xaa .i64 (v7.1 * p1.Wide)).toNat (Xaa .i64 ((Xaa .i64 (v7.1 + 1)) * p1.Wide)).toNat)))))) (
 some (.done v7.2))
def Xnd (p0 : Pic) (p1 : Pic) (p2 : Int) (p3 : Int) : Option (Pic × Bool) :=
 bnd (
 bnd (Xdf p0) fun q2 =>
 sel q2 (
 bnd (Xdf p1) fun q3 =>
 sel q3 (
 bnd (Xdu p0 (⟨p2, p3, p1.Wide, p1.High⟩ : Xpv)) fun q4 =>
 some (!q4)) (
 some true)) (
 some true)) fun v1 =>
 sel v1 (
 some (p0, false)) (
 bnd (Xo5 p0) fun q5 =>
 bnd (loop (Xlj p0 p1 p2 p3) (0, q5)) fun v9 =>
 some ((⟨p0.Wide, p0.High, (strOfNums v9)⟩ : Pic), true))
def Xsi (p0 : Int) (p1 : Int) : Option Int :=
 req (0 ≤ p1) <|
 req ((Xaa .i64 (1 * 2 ^ min p1.toNat (IntKind.bits .i64))) ≠ 0) <|
 some ((Xaa .i64 (p0 + 1)).tmod (Xaa .i64 (1 * 2 ^ min p1.toNat (IntKind.bits .i64))))
def Xc8 (p0 : Decoder) (p1 : Bool) (p2 : ByteArray) : Option (Decoder × Int × Pic × Decoder) :=
 bnd (
 sel p0.HasSeq (
 some (!p0.HasPar)) (
 some true)) fun v1 =>
 sel v1 (
 some (p0, 4, (⟨0, 0, ⟨#[]⟩⟩ : Pic), p0)) (
 bnd (Xhg p0.Seq p0.Par p2) fun q2 =>
 sel (!q2.2.2) (
 some (p0, 5, (⟨0, 0, ⟨#[]⟩⟩ : Pic), p0)) (
 sel (q2.1.Tile != p0.Got) (
 some (p0, 6, (⟨0, 0, ⟨#[]⟩⟩ : Pic), p0)) (
 bnd (
 sel (p0.Frame != (-1)) (
 some (p0.Frame != q2.1.Frame)) (
 some false)) fun v3 =>
 sel v3 (
 some (p0, 7, (⟨0, 0, ⟨#[]⟩⟩ : Pic), p0)) (
 bnd (
 sel p1 (
 some false) (
 some (!p0.HasRef))) fun v4 =>
 sel v4 (
 some (p0, 8, (⟨0, 0, ⟨#[]⟩⟩ : Pic), p0)) (
 bnd (Xf0 p0.Seq q2.1.Tile) fun q5 =>
 bnd (Xjr p2 q2.2.1 q5 (⟨p1, q2.1.Qp, p0.Par.Large, p0.Par.Exact⟩ : Xkj)) fun q6 =>
 sel (!q6.2) (
 some (p0, 9, (⟨0, 0, ⟨#[]⟩⟩ : Pic), p0)) (
 bnd (Xhk p0.Seq q2.1.Tile) fun q7 =>
 bnd (Xju p0.Ref q7.1 (⟨p1, q2.1.Qp, p0.Par.Large, p0.Par.Exact⟩ : Xkj) p0.Par.Confined q6.1) fun q8 =>
 bnd (
 sel (p0.Got == 0) (
 bnd (Xiz p0.Seq) fun q10 =>
 bnd (Xna q10.1 q10.2) fun q11 =>
 some (q11.Wide, q11.High, q11.Dots)) (
 some (p0.Now.Wide, p0.Now.High, p0.Now.Dots))) fun v9 =>
 bnd (Xnd (⟨v9.1, v9.2.1, v9.2.2⟩ : Pic) q8.1 q7.1.Left q7.1.Top) fun q12 =>
 bnd (Xfk p0.Seq) fun q13 =>
 sel (decide ((Xaa .i64 (p0.Got + 1)) < q13)) (
 some ((⟨p0.HasSeq, p0.HasPar, p0.HasRef, p0.Seq, p0.Par, q2.1.Frame, Xaa .i64 (p0.Got + 1), q12.1, p0.Ref⟩ : Decoder), 0, (⟨0, 0, ⟨#[]⟩⟩ : Pic), p0)) (
 bnd (Xsi q2.1.Frame p0.Seq.Bits) fun q14 =>
 some ((⟨p0.HasSeq, p0.HasPar, true, p0.Seq, p0.Par, q14, 0, (⟨0, 0, ⟨#[]⟩⟩ : Pic), q12.1⟩ : Decoder), 0, q12.1, p0))))))))
def Xi5 (p0 : Decoder) (p1 : ByteArray) : Option (Decoder × Int × Pic) :=
 bnd (Xco p0) fun q1 =>
 bnd (Xox q1) fun q2 =>
 sel (!q2) (
 some (q1, 1, (⟨0, 0, ⟨#[]⟩⟩ : Pic))) (
 bnd (Xkt p1) fun q3 =>
 sel (!q3.2.2) (
 some (q1, 2, (⟨0, 0, ⟨#[]⟩⟩ : Pic))) (
 sel (q3.1 == 7) (
 bnd (Xi9 q3.2.1 0) fun q4 =>
 bnd (
 sel q4.2.2 (
 some (q4.2.1 != (q3.2.1.size : Int))) (
 some true)) fun v5 =>
 sel v5 (
 some (q1, 3, (⟨0, 0, ⟨#[]⟩⟩ : Pic))) (
 bnd (Xug) fun q6 =>
 some ((⟨true, q6.HasPar, q6.HasRef, q4.1, q6.Par, q6.Frame, q6.Got, q6.Now, q6.Ref⟩ : Decoder), 0, (⟨0, 0, ⟨#[]⟩⟩ : Pic)))) (
 sel (q3.1 == 8) (
 bnd (Xi8 q3.2.1 0) fun q7 =>
 bnd (
 sel q7.2.2 (
 some (q7.2.1 != (q3.2.1.size : Int))) (
 some true)) fun v8 =>
 sel v8 (
 some (q1, 3, (⟨0, 0, ⟨#[]⟩⟩ : Pic))) (
 bnd (
 sel q1.HasSeq (
 some (decide (q1.Got > 0))) (
 some true)) fun v9 =>
 sel v9 (
 some (q1, 4, (⟨0, 0, ⟨#[]⟩⟩ : Pic))) (
 some ((⟨q1.HasSeq, true, q1.HasRef, q1.Seq, q7.1, q1.Frame, q1.Got, q1.Now, q1.Ref⟩ : Decoder), 0, (⟨0, 0, ⟨#[]⟩⟩ : Pic))))) (
 bnd (Xc8 q1 (q3.1 == 5) q3.2.1) fun q11 =>
 some ((⟨q11.1.HasSeq, q11.1.HasPar, q11.1.HasRef, (⟨q11.1.Seq.Level, q11.1.Seq.Bits, q11.2.2.2.Seq.Cols, q11.2.2.2.Seq.Rows⟩ : Seq), q11.1.Par, q11.1.Frame, q11.1.Got, q11.1.Now, q11.1.Ref⟩ : Decoder), q11.2.1, q11.2.2.1)))))
def Xif (p0 : (List Int)) (p1 : (List Int)) (v2 : Int) : Option (Lp Int (Ou Unit Bool)) :=
 sel (decide (v2 < (p0.length : Int))) (
 req (0 ≤ v2 ∧ v2 < p0.length) <|
 req (0 ≤ v2 ∧ v2 < p1.length) <|
 sel ((p0.getD v2.toNat 0) != (p1.getD v2.toNat 0)) (
 some (.done (.ret false))) (
 some (.go (Xaa .i64 (v2 + 1))))) (
 some (.done (.out ())))
def Xft (p0 : (List Int)) (p1 : (List Int)) : Option Bool :=
 sel ((p0.length : Int) != (p1.length : Int)) (
 some false) (
 bnd (loop (Xif p0 p1) 0) fun o5 => match o5 with
| .out v4 => (
 some true)
| .ret r => some r)
def Xpb (p0 : Seq) (p1 : Seq) : Option Bool :=
 sel (p0.Level != p1.Level) (
 some false) (
 sel (p0.Bits != p1.Bits) (
 some false) (
 bnd (Xft p0.Cols p1.Cols) fun q1 =>
 sel (!q1) (
 some false) (
 bnd (Xft p0.Rows p1.Rows) fun q2 =>
 sel (!q2) (
 some false) (
 some true))))
def Xpa (p0 : Par) (p1 : Par) : Option Bool :=
 sel (p0.Qp != p1.Qp) (
 some false) (
 sel (!(p0.Large == p1.Large)) (
 some false) (
 sel (!(p0.Exact == p1.Exact)) (
 some false) (
 sel (!(p0.Confined == p1.Confined)) (
 some false) (
 some true))))
def Xk0 (p0 : Pic) (p1 : Pic) : Option Bool :=
 sel (p0.Wide != p1.Wide) (
 some false) (
 sel (p0.High != p1.High) (
 some false) (
 sel (!(p0.Dots.toList == p1.Dots.toList)) (
 some false) (
 some true)))
def Xdv (p0 : Decoder) (p1 : Decoder) : Option Bool :=
 sel (!(p0.HasSeq == p1.HasSeq)) (
 some false) (
 sel (!(p0.HasPar == p1.HasPar)) (
 some false) (
 sel (!(p0.HasRef == p1.HasRef)) (
 some false) (
 bnd (Xpb p0.Seq p1.Seq) fun q1 =>
 sel (!q1) (
 some false) (
 bnd (Xpa p0.Par p1.Par) fun q2 =>
 sel (!q2) (
 some false) (
 sel (p0.Frame != p1.Frame) (
 some false) (
 sel (p0.Got != p1.Got) (
 some false) (
 bnd (Xk0 p0.Now p1.Now) fun q3 =>
 sel (!q3) (
 some false) (
 bnd (Xk0 p0.Ref p1.Ref) fun q4 =>
 sel (!q4) (
 some false) (
 some true)))))))))
def Xf4 (v2 : (Int × Int × (List Int))) : Option (Lp (Int × Int × (List Int)) (Int × (List Int))) :=
 sel (decide (v2.2.1 < (v2.2.2.length : Int))) (
 req (0 ≤ v2.2.1 ∧ v2.2.1 < v2.2.2.length) <|
 req (v2.2.1.toNat < v2.2.2.length) <|
 some (.go (Xaa .i64 (v2.1 + 1), Xaa .i64 (v2.2.1 + 1), (v2.2.2.set v2.2.1.toNat v2.1)))) (
 some (.done (v2.1, v2.2.2)))
def Xfu (p0 : (List Int)) (p1 : Int) : Option (Int × (List Int)) :=
 bnd (loop (Xf4) (p1, 0, p0)) fun v4 =>
 some (v4.1, v4.2)
def Xl1 (p0 : Seq) (p1 : Int) : Option (Int × Seq) :=
 bnd (Xfu p0.Cols p1) fun q1 =>
 bnd (Xfu p0.Rows q1.1) fun q2 =>
 some (q2.1, (⟨p0.Level, p0.Bits, q1.2, q2.2⟩ : Seq))
def Xef (p0 : Decoder) (p1 : Int) : Option (Int × Decoder) :=
 bnd (Xl1 p0.Seq p1) fun q1 =>
 some (q1.1, (⟨p0.HasSeq, p0.HasPar, p0.HasRef, (⟨p0.Seq.Level, p0.Seq.Bits, q1.2.Cols, q1.2.Rows⟩ : Seq), p0.Par, p0.Frame, p0.Got, p0.Now, p0.Ref⟩ : Decoder))
def Xf2 (p0 : (List Int)) (v2 : (Int × Int)) : Option (Lp (Int × Int) (Ou Int Int)) :=
 sel (decide (v2.2 < (p0.length : Int))) (
 req (0 ≤ v2.2 ∧ v2.2 < p0.length) <|
 sel ((p0.getD v2.2.toNat 0) != v2.1) (
 some (.done (.ret (-1)))) (
 some (.go (Xaa .i64 (v2.1 + 1), Xaa .i64 (v2.2 + 1))))) (
 some (.done (.out v2.1)))
def Xep (p0 : (List Int)) (p1 : Int) : Option Int :=
 bnd (loop (Xf2 p0) (p1, 0)) fun o5 => match o5 with
| .out v4 => (
 some v4)
| .ret r => some r
def Xl0 (p0 : Seq) (p1 : Int) : Option Int :=
 bnd (Xep p0.Cols p1) fun q1 =>
 sel (decide (q1 < 0)) (
 some (-1)) (
 bnd (Xep p0.Rows q1) fun q2 =>
 sel (decide (q2 < 0)) (
 some (-1)) (
 some q2))
def Xee (p0 : Decoder) (p1 : Int) : Option Int :=
 bnd (Xl0 p0.Seq p1) fun q1 =>
 sel (decide (q1 < 0)) (
 some (-1)) (
 some q1)
def Xge (p1 : (List ByteArray)) (v5 : (Int × Bool × Bool × Bool × Int × Int × Int × Bool × Bool × Bool × Int × Int × Int × Int × ByteArray × Int × Int × ByteArray × (List Pic) × (List Int) × (List Int) × (List Int))) : Option (Lp (Int × Bool × Bool × Bool × Int × Int × Int × Bool × Bool × Bool × Int × Int × Int × Int × ByteArray × Int × Int × ByteArray × (List Pic) × (List Int) × (List Int) × (List Int)) (Bool × Bool × Bool × Int × Int × Int × Bool × Bool × Bool × Int × Int × Int × Int × ByteArray × Int × Int × ByteArray × (List Pic) × (List Int) × (List Int) × (List Int))) :=
 sel (decide (v5.1 < (p1.length : Int))) (
 bnd (
 req (0 ≤ v5.1 ∧ v5.1 < p1.length) <|
 bnd (Xje (⟨v5.2.1, v5.2.2.1, v5.2.2.2.1, (⟨v5.2.2.2.2.1, v5.2.2.2.2.2.1, v5.2.2.2.2.2.2.2.2.2.2.2.2.2.2.2.2.2.2.2.2.1, v5.2.2.2.2.2.2.2.2.2.2.2.2.2.2.2.2.2.2.2.2.2⟩ : Seq), (⟨v5.2.2.2.2.2.2.1, v5.2.2.2.2.2.2.2.1, v5.2.2.2.2.2.2.2.2.1, v5.2.2.2.2.2.2.2.2.2.1⟩ : Par), v5.2.2.2.2.2.2.2.2.2.2.1, v5.2.2.2.2.2.2.2.2.2.2.2.1, (⟨v5.2.2.2.2.2.2.2.2.2.2.2.2.1, v5.2.2.2.2.2.2.2.2.2.2.2.2.2.1, v5.2.2.2.2.2.2.2.2.2.2.2.2.2.2.1⟩ : Pic), (⟨v5.2.2.2.2.2.2.2.2.2.2.2.2.2.2.2.1, v5.2.2.2.2.2.2.2.2.2.2.2.2.2.2.2.2.1, v5.2.2.2.2.2.2.2.2.2.2.2.2.2.2.2.2.2.1⟩ : Pic)⟩ : Decoder) (p1.getD v5.1.toNat Xcn)) fun q11 =>
 req ((v5.2.2.2.2.2.2.2.2.2.2.2.2.2.2.2.2.2.2.2.1.length + ([q11.2.1]).length) * 8 ≤ 140737488355328 ∧ v5.2.2.2.2.2.2.2.2.2.2.2.2.2.2.2.2.2.2.2.1.length + ([q11.2.1]).length ≤ maxLen) <|
 sel (decide (q11.2.2.Wide > 0)) (
 req ((v5.2.2.2.2.2.2.2.2.2.2.2.2.2.2.2.2.2.2.1.length + ([q11.2.2]).length) * 32 ≤ 140737488355328 ∧ v5.2.2.2.2.2.2.2.2.2.2.2.2.2.2.2.2.2.2.1.length + ([q11.2.2]).length ≤ maxLen) <|
 some (q11.1.HasSeq, q11.1.HasPar, q11.1.HasRef, q11.1.Seq.Level, q11.1.Seq.Bits, q11.1.Par.Qp, q11.1.Par.Large, q11.1.Par.Exact, q11.1.Par.Confined, q11.1.Frame, q11.1.Got, q11.1.Now.Wide, q11.1.Now.High, q11.1.Now.Dots, q11.1.Ref.Wide, q11.1.Ref.High, q11.1.Ref.Dots, (v5.2.2.2.2.2.2.2.2.2.2.2.2.2.2.2.2.2.2.1 ++ ([q11.2.2])), (v5.2.2.2.2.2.2.2.2.2.2.2.2.2.2.2.2.2.2.2.1 ++ ([q11.2.1])), q11.1.Seq.Cols, q11.1.Seq.Rows)) (
 some (q11.1.HasSeq, q11.1.HasPar, q11.1.HasRef, q11.1.Seq.Level, q11.1.Seq.Bits, q11.1.Par.Qp, q11.1.Par.Large, q11.1.Par.Exact, q11.1.Par.Confined, q11.1.Frame, q11.1.Got, q11.1.Now.Wide, q11.1.Now.High, q11.1.Now.Dots, q11.1.Ref.Wide, q11.1.Ref.High, q11.1.Ref.Dots, v5.2.2.2.2.2.2.2.2.2.2.2.2.2.2.2.2.2.2.1, (v5.2.2.2.2.2.2.2.2.2.2.2.2.2.2.2.2.2.2.2.1 ++ ([q11.2.1])), q11.1.Seq.Cols, q11.1.Seq.Rows))) fun v10 =>
 some (.go (Xaa .i64 (v5.1 + 1), v10.1, v10.2.1, v10.2.2.1, v10.2.2.2.1, v10.2.2.2.2.1, v10.2.2.2.2.2.1, v10.2.2.2.2.2.2.1, v10.2.2.2.2.2.2.2.1, v10.2.2.2.2.2.2.2.2.1, v10.2.2.2.2.2.2.2.2.2.1, v10.2.2.2.2.2.2.2.2.2.2.1, v10.2.2.2.2.2.2.2.2.2.2.2.1, v10.2.2.2.2.2.2.2.2.2.2.2.2.1, v10.2.2.2.2.2.2.2.2.2.2.2.2.2.1, v10.2.2.2.2.2.2.2.2.2.2.2.2.2.2.1, v10.2.2.2.2.2.2.2.2.2.2.2.2.2.2.2.1, v10.2.2.2.2.2.2.2.2.2.2.2.2.2.2.2.2.1, v10.2.2.2.2.2.2.2.2.2.2.2.2.2.2.2.2.2.1, v10.2.2.2.2.2.2.2.2.2.2.2.2.2.2.2.2.2.2.1, v10.2.2.2.2.2.2.2.2.2.2.2.2.2.2.2.2.2.2.2.1, v10.2.2.2.2.2.2.2.2.2.2.2.2.2.2.2.2.2.2.2.2))) (
 some (.done (v5.2.1, v5.2.2.1, v5.2.2.2.1, v5.2.2.2.2.1, v5.2.2.2.2.2.1, v5.2.2.2.2.2.2.1, v5.2.2.2.2.2.2.2.1, v5.2.2.2.2.2.2.2.2.1, v5.2.2.2.2.2.2.2.2.2.1, v5.2.2.2.2.2.2.2.2.2.2.1, v5.2.2.2.2.2.2.2.2.2.2.2.1, v5.2.2.2.2.2.2.2.2.2.2.2.2.1, v5.2.2.2.2.2.2.2.2.2.2.2.2.2.1, v5.2.2.2.2.2.2.2.2.2.2.2.2.2.2.1, v5.2.2.2.2.2.2.2.2.2.2.2.2.2.2.2.1, v5.2.2.2.2.2.2.2.2.2.2.2.2.2.2.2.2.1, v5.2.2.2.2.2.2.2.2.2.2.2.2.2.2.2.2.2.1, v5.2.2.2.2.2.2.2.2.2.2.2.2.2.2.2.2.2.2.1, v5.2.2.2.2.2.2.2.2.2.2.2.2.2.2.2.2.2.2.2.1, v5.2.2.2.2.2.2.2.2.2.2.2.2.2.2.2.2.2.2.2.2.1, v5.2.2.2.2.2.2.2.2.2.2.2.2.2.2.2.2.2.2.2.2.2)))
def Xnp (p0 : Decoder) (p1 : (List ByteArray)) : Option (Decoder × (List Pic) × (List Int)) :=
 bnd (Xg6 p0.Seq) fun q1 =>
 sel (decide ((p1.length : Int) > 400)) (
 some ((⟨p0.HasSeq, p0.HasPar, p0.HasRef, q1, p0.Par, p0.Frame, p0.Got, p0.Now, p0.Ref⟩ : Decoder), ([] : List Pic), ([] : List Int))) (
 bnd (loop (Xge p1) (0, p0.HasSeq, p0.HasPar, p0.HasRef, q1.Level, q1.Bits, p0.Par.Qp, p0.Par.Large, p0.Par.Exact, p0.Par.Confined, p0.Frame, p0.Got, p0.Now.Wide, p0.Now.High, p0.Now.Dots, p0.Ref.Wide, p0.Ref.High, p0.Ref.Dots, ([] : List Pic), ([] : List Int), q1.Cols, q1.Rows)) fun v9 =>
 some ((⟨v9.1, v9.2.1, v9.2.2.1, (⟨v9.2.2.2.1, v9.2.2.2.2.1, v9.2.2.2.2.2.2.2.2.2.2.2.2.2.2.2.2.2.2.2.1, v9.2.2.2.2.2.2.2.2.2.2.2.2.2.2.2.2.2.2.2.2⟩ : Seq), (⟨v9.2.2.2.2.2.1, v9.2.2.2.2.2.2.1, v9.2.2.2.2.2.2.2.1, v9.2.2.2.2.2.2.2.2.1⟩ : Par), v9.2.2.2.2.2.2.2.2.2.1, v9.2.2.2.2.2.2.2.2.2.2.1, (⟨v9.2.2.2.2.2.2.2.2.2.2.2.1, v9.2.2.2.2.2.2.2.2.2.2.2.2.1, v9.2.2.2.2.2.2.2.2.2.2.2.2.2.1⟩ : Pic), (⟨v9.2.2.2.2.2.2.2.2.2.2.2.2.2.2.1, v9.2.2.2.2.2.2.2.2.2.2.2.2.2.2.2.1, v9.2.2.2.2.2.2.2.2.2.2.2.2.2.2.2.2.1⟩ : Pic)⟩ : Decoder), v9.2.2.2.2.2.2.2.2.2.2.2.2.2.2.2.2.2.1, v9.2.2.2.2.2.2.2.2.2.2.2.2.2.2.2.2.2.2.1))
def Xgb (p1 : (List ByteArray)) (v6 : (Int × Bool × Bool × Bool × Int × Int × Int × Bool × Bool × Bool × Int × Int × Int × Int × ByteArray × Int × Int × ByteArray × (List Pic) × (List Int) × (List Int) × (List Int))) : Option (Lp (Int × Bool × Bool × Bool × Int × Int × Int × Bool × Bool × Bool × Int × Int × Int × Int × ByteArray × Int × Int × ByteArray × (List Pic) × (List Int) × (List Int) × (List Int)) (Bool × Bool × Bool × Int × Int × Int × Bool × Bool × Bool × Int × Int × Int × Int × ByteArray × Int × Int × ByteArray × (List Pic) × (List Int) × (List Int) × (List Int))) :=
 sel (decide (v6.1 < (p1.length : Int))) (
 bnd (
 req (0 ≤ v6.1 ∧ v6.1 < p1.length) <|
 bnd (Xi5 (⟨v6.2.1, v6.2.2.1, v6.2.2.2.1, (⟨v6.2.2.2.2.1, v6.2.2.2.2.2.1, v6.2.2.2.2.2.2.2.2.2.2.2.2.2.2.2.2.2.2.2.2.1, v6.2.2.2.2.2.2.2.2.2.2.2.2.2.2.2.2.2.2.2.2.2⟩ : Seq), (⟨v6.2.2.2.2.2.2.1, v6.2.2.2.2.2.2.2.1, v6.2.2.2.2.2.2.2.2.1, v6.2.2.2.2.2.2.2.2.2.1⟩ : Par), v6.2.2.2.2.2.2.2.2.2.2.1, v6.2.2.2.2.2.2.2.2.2.2.2.1, (⟨v6.2.2.2.2.2.2.2.2.2.2.2.2.1, v6.2.2.2.2.2.2.2.2.2.2.2.2.2.1, v6.2.2.2.2.2.2.2.2.2.2.2.2.2.2.1⟩ : Pic), (⟨v6.2.2.2.2.2.2.2.2.2.2.2.2.2.2.2.1, v6.2.2.2.2.2.2.2.2.2.2.2.2.2.2.2.2.1, v6.2.2.2.2.2.2.2.2.2.2.2.2.2.2.2.2.2.1⟩ : Pic)⟩ : Decoder) (p1.getD v6.1.toNat Xcn)) fun q13 =>
 req ((v6.2.2.2.2.2.2.2.2.2.2.2.2.2.2.2.2.2.2.2.1.length + ([q13.2.1]).length) * 8 ≤ 140737488355328 ∧ v6.2.2.2.2.2.2.2.2.2.2.2.2.2.2.2.2.2.2.2.1.length + ([q13.2.1]).length ≤ maxLen) <|
 bnd (Xdf q13.2.2) fun q14 =>
 sel q14 (
 req ((v6.2.2.2.2.2.2.2.2.2.2.2.2.2.2.2.2.2.2.1.length + ([q13.2.2]).length) * 32 ≤ 140737488355328 ∧ v6.2.2.2.2.2.2.2.2.2.2.2.2.2.2.2.2.2.2.1.length + ([q13.2.2]).length ≤ maxLen) <|
 some (q13.1.HasSeq, q13.1.HasPar, q13.1.HasRef, q13.1.Seq.Level, q13.1.Seq.Bits, q13.1.Par.Qp, q13.1.Par.Large, q13.1.Par.Exact, q13.1.Par.Confined, q13.1.Frame, q13.1.Got, q13.1.Now.Wide, q13.1.Now.High, q13.1.Now.Dots, q13.1.Ref.Wide, q13.1.Ref.High, q13.1.Ref.Dots, (v6.2.2.2.2.2.2.2.2.2.2.2.2.2.2.2.2.2.2.1 ++ ([q13.2.2])), (v6.2.2.2.2.2.2.2.2.2.2.2.2.2.2.2.2.2.2.2.1 ++ ([q13.2.1])), q13.1.Seq.Cols, q13.1.Seq.Rows)) (
 some (q13.1.HasSeq, q13.1.HasPar, q13.1.HasRef, q13.1.Seq.Level, q13.1.Seq.Bits, q13.1.Par.Qp, q13.1.Par.Large, q13.1.Par.Exact, q13.1.Par.Confined, q13.1.Frame, q13.1.Got, q13.1.Now.Wide, q13.1.Now.High, q13.1.Now.Dots, q13.1.Ref.Wide, q13.1.Ref.High, q13.1.Ref.Dots, v6.2.2.2.2.2.2.2.2.2.2.2.2.2.2.2.2.2.2.1, (v6.2.2.2.2.2.2.2.2.2.2.2.2.2.2.2.2.2.2.2.1 ++ ([q13.2.1])), q13.1.Seq.Cols, q13.1.Seq.Rows))) fun v12 =>
 some (.go (Xaa .i64 (v6.1 + 1), v12.1, v12.2.1, v12.2.2.1, v12.2.2.2.1, v12.2.2.2.2.1, v12.2.2.2.2.2.1, v12.2.2.2.2.2.2.1, v12.2.2.2.2.2.2.2.1, v12.2.2.2.2.2.2.2.2.1, v12.2.2.2.2.2.2.2.2.2.1, v12.2.2.2.2.2.2.2.2.2.2.1, v12.2.2.2.2.2.2.2.2.2.2.2.1, v12.2.2.2.2.2.2.2.2.2.2.2.2.1, v12.2.2.2.2.2.2.2.2.2.2.2.2.2.1, v12.2.2.2.2.2.2.2.2.2.2.2.2.2.2.1, v12.2.2.2.2.2.2.2.2.2.2.2.2.2.2.2.1, v12.2.2.2.2.2.2.2.2.2.2.2.2.2.2.2.2.1, v12.2.2.2.2.2.2.2.2.2.2.2.2.2.2.2.2.2.1, v12.2.2.2.2.2.2.2.2.2.2.2.2.2.2.2.2.2.2.1, v12.2.2.2.2.2.2.2.2.2.2.2.2.2.2.2.2.2.2.2.1, v12.2.2.2.2.2.2.2.2.2.2.2.2.2.2.2.2.2.2.2.2))) (
 some (.done (v6.2.1, v6.2.2.1, v6.2.2.2.1, v6.2.2.2.2.1, v6.2.2.2.2.2.1, v6.2.2.2.2.2.2.1, v6.2.2.2.2.2.2.2.1, v6.2.2.2.2.2.2.2.2.1, v6.2.2.2.2.2.2.2.2.2.1, v6.2.2.2.2.2.2.2.2.2.2.1, v6.2.2.2.2.2.2.2.2.2.2.2.1, v6.2.2.2.2.2.2.2.2.2.2.2.2.1, v6.2.2.2.2.2.2.2.2.2.2.2.2.2.1, v6.2.2.2.2.2.2.2.2.2.2.2.2.2.2.1, v6.2.2.2.2.2.2.2.2.2.2.2.2.2.2.2.1, v6.2.2.2.2.2.2.2.2.2.2.2.2.2.2.2.2.1, v6.2.2.2.2.2.2.2.2.2.2.2.2.2.2.2.2.2.1, v6.2.2.2.2.2.2.2.2.2.2.2.2.2.2.2.2.2.2.1, v6.2.2.2.2.2.2.2.2.2.2.2.2.2.2.2.2.2.2.2.1, v6.2.2.2.2.2.2.2.2.2.2.2.2.2.2.2.2.2.2.2.2.1, v6.2.2.2.2.2.2.2.2.2.2.2.2.2.2.2.2.2.2.2.2.2)))
def Xko (p0 : Decoder) (p1 : (List ByteArray)) : Option (Decoder × (List Pic) × (List Int)) :=
 bnd (Xco p0) fun q1 =>
 sel (decide ((p1.length : Int) > 400)) (
 some (q1, ([] : List Pic), ([] : List Int))) (
 bnd (loop (Xgb p1) (0, q1.HasSeq, q1.HasPar, q1.HasRef, q1.Seq.Level, q1.Seq.Bits, q1.Par.Qp, q1.Par.Large, q1.Par.Exact, q1.Par.Confined, q1.Frame, q1.Got, q1.Now.Wide, q1.Now.High, q1.Now.Dots, q1.Ref.Wide, q1.Ref.High, q1.Ref.Dots, ([] : List Pic), ([] : List Int), q1.Seq.Cols, q1.Seq.Rows)) fun v11 =>
 some ((⟨v11.1, v11.2.1, v11.2.2.1, (⟨v11.2.2.2.1, v11.2.2.2.2.1, v11.2.2.2.2.2.2.2.2.2.2.2.2.2.2.2.2.2.2.2.1, v11.2.2.2.2.2.2.2.2.2.2.2.2.2.2.2.2.2.2.2.2⟩ : Seq), (⟨v11.2.2.2.2.2.1, v11.2.2.2.2.2.2.1, v11.2.2.2.2.2.2.2.1, v11.2.2.2.2.2.2.2.2.1⟩ : Par), v11.2.2.2.2.2.2.2.2.2.1, v11.2.2.2.2.2.2.2.2.2.2.1, (⟨v11.2.2.2.2.2.2.2.2.2.2.2.1, v11.2.2.2.2.2.2.2.2.2.2.2.2.1, v11.2.2.2.2.2.2.2.2.2.2.2.2.2.1⟩ : Pic), (⟨v11.2.2.2.2.2.2.2.2.2.2.2.2.2.2.1, v11.2.2.2.2.2.2.2.2.2.2.2.2.2.2.2.1, v11.2.2.2.2.2.2.2.2.2.2.2.2.2.2.2.2.1⟩ : Pic)⟩ : Decoder), v11.2.2.2.2.2.2.2.2.2.2.2.2.2.2.2.2.2.1, v11.2.2.2.2.2.2.2.2.2.2.2.2.2.2.2.2.2.2.1))
def Xig (p0 : (List Pic)) (p1 : (List Pic)) (v3 : Int) : Option (Lp Int (Ou Unit Bool)) :=
 sel (decide (v3 < (p0.length : Int))) (
 req (0 ≤ v3 ∧ v3 < p0.length) <|
 req (0 ≤ v3 ∧ v3 < p1.length) <|
 bnd (Xk0 (⟨(p0.getD v3.toNat Yph).Wide, (p0.getD v3.toNat Yph).High, (p0.getD v3.toNat Yph).Dots⟩ : Pic) (⟨(p1.getD v3.toNat Yph).Wide, (p1.getD v3.toNat Yph).High, (p1.getD v3.toNat Yph).Dots⟩ : Pic)) fun q7 =>
 sel (!q7) (
 some (.done (.ret false))) (
 some (.go (Xaa .i64 (v3 + 1))))) (
 some (.done (.out ())))
def Xi0 (p0 : (List Pic)) (p1 : (List Pic)) : Option Bool :=
 sel ((p0.length : Int) != (p1.length : Int)) (
 some false) (
 bnd (loop (Xig p0 p1) 0) fun o8 => match o8 with
| .out v6 => (
 some true)
| .ret r => some r)
def Xit (v2 : (Int × ByteArray)) : Option (Lp (Int × ByteArray) ByteArray) :=
 sel (decide (v2.1 > 0)) (
 req ((10 : Int) ≠ 0) <|
 req ((strOfNums ([Xaa .u8 (Xaa .i64 (48 + (v2.1.tmod 10)))])).size + v2.2.size ≤ 9223372036854775807) <|
 req ((10 : Int) ≠ 0) <|
 some (.go (Xaa .i64 (v2.1.tdiv 10), ((strOfNums ([Xaa .u8 (Xaa .i64 (48 + (v2.1.tmod 10)))])) ++ v2.2)))) (
 some (.done v2.2))
def Xdr (p0 : Int) : Option ByteArray :=
 sel (decide (p0 ≤ 0)) (
 some ⟨#[109, 48]⟩) (
 bnd (loop (Xit) (p0, ⟨#[]⟩)) fun v4 =>
 req ((⟨#[109]⟩ : ByteArray).size + v4.size ≤ 9223372036854775807) <|
 some ((⟨#[109]⟩ : ByteArray) ++ v4))
def Xf5 (v6 : (Int × Int × (List Pic))) : Option (Lp (Int × Int × (List Pic)) (Int × (List Pic))) :=
 sel (decide (v6.2.1 < (v6.2.2.length : Int))) (
 req (0 ≤ v6.2.1 ∧ v6.2.1 < v6.2.2.length) <|
 req (v6.2.1.toNat < v6.2.2.length) <|
 bnd (some (v6.2.2.set v6.2.1.toNat (⟨v6.1, (v6.2.2.getD v6.2.1.toNat Yph).High, (v6.2.2.getD v6.2.1.toNat Yph).Dots⟩ : Pic))) fun s13 =>
 req (0 ≤ v6.2.1 ∧ v6.2.1 < s13.length) <|
 req (v6.2.1.toNat < s13.length) <|
 bnd (some (s13.set v6.2.1.toNat (⟨(s13.getD v6.2.1.toNat Yph).Wide, Xaa .i64 (v6.1 + 1), (s13.getD v6.2.1.toNat Yph).Dots⟩ : Pic))) fun s14 =>
 bnd (Xdr (Xaa .i64 ((Xaa .i64 (v6.1 + 1)) + 1))) fun q15 =>
 req (0 ≤ v6.2.1 ∧ v6.2.1 < s14.length) <|
 req (v6.2.1.toNat < s14.length) <|
 bnd (some (s14.set v6.2.1.toNat (⟨(s14.getD v6.2.1.toNat Yph).Wide, (s14.getD v6.2.1.toNat Yph).High, q15⟩ : Pic))) fun s16 =>
 some (.go (Xaa .i64 ((Xaa .i64 ((Xaa .i64 (v6.1 + 1)) + 1)) + 1), Xaa .i64 (v6.2.1 + 1), s16))) (
 some (.done (v6.1, v6.2.2)))
def Xj2 (p0 : (List Pic)) (p1 : Int) : Option (Int × (List Pic)) :=
 bnd (loop (Xf5) (p1, 0, p0)) fun v12 =>
 some (v12.1, v12.2)
def Xf3 (p0 : (List Pic)) (v3 : (Int × Int)) : Option (Lp (Int × Int) (Ou Int Int)) :=
 sel (decide (v3.2 < (p0.length : Int))) (
 req (0 ≤ v3.2 ∧ v3.2 < p0.length) <|
 sel (((p0.getD v3.2.toNat Yph).Wide) != v3.1) (
 some (.done (.ret (-1)))) (
 req (0 ≤ v3.2 ∧ v3.2 < p0.length) <|
 sel (((p0.getD v3.2.toNat Yph).High) != (Xaa .i64 (v3.1 + 1))) (
 some (.done (.ret (-1)))) (
 req (0 ≤ v3.2 ∧ v3.2 < p0.length) <|
 bnd (Xdr (Xaa .i64 ((Xaa .i64 (v3.1 + 1)) + 1))) fun q7 =>
 sel (!(((p0.getD v3.2.toNat Yph).Dots).toList == q7.toList)) (
 some (.done (.ret (-1)))) (
 some (.go (Xaa .i64 ((Xaa .i64 ((Xaa .i64 (v3.1 + 1)) + 1)) + 1), Xaa .i64 (v3.2 + 1))))))) (
 some (.done (.out v3.1)))
def Xho (p0 : (List Pic)) (p1 : Int) : Option Int :=
 bnd (loop (Xf3 p0) (p1, 0)) fun o8 => match o8 with
| .out v6 => (
 some v6)
| .ret r => some r
def Xcy (p0 : (List ByteArray)) (v2 : (Int × Int)) : Option (Lp (Int × Int) (Ou Int Int)) :=
 sel (decide (v2.2 < (p0.length : Int))) (
 req (0 ≤ v2.2 ∧ v2.2 < p0.length) <|
 sel (decide ((Xaa .i64 (v2.1 - ((p0.getD v2.2.toNat Xcn).size : Int))) < 0)) (
 some (.done (.ret (-1)))) (
 some (.go (Xaa .i64 (v2.1 - ((p0.getD v2.2.toNat Xcn).size : Int)), Xaa .i64 (v2.2 + 1))))) (
 some (.done (.out v2.1)))
def Xij (p0 : (List ByteArray)) (p1 : Int) : Option Int :=
 sel (decide ((Xaa .i64 (p1 - (p0.length : Int))) < 0)) (
 some (-1)) (
 bnd (loop (Xcy p0) (Xaa .i64 (p1 - (p0.length : Int)), 0)) fun o5 => match o5 with
| .out v4 => (
 some v4)
| .ret r => some r)
def Xe8 (p0 : (List ByteArray)) (v2 : (Int × (List ByteArray))) : Option (Lp (Int × (List ByteArray)) (List ByteArray)) :=
 sel (decide (v2.1 < (p0.length : Int))) (
 req (0 ≤ v2.1 ∧ v2.1 < p0.length) <|
 req (0 ≤ v2.1 ∧ v2.1 < v2.2.length) <|
 req (v2.1.toNat < v2.2.length) <|
 some (.go (Xaa .i64 (v2.1 + 1), (v2.2.set v2.1.toNat (p0.getD v2.1.toNat Xcn))))) (
 some (.done v2.2))
def Xdx (p0 : (List ByteArray)) : Option (List ByteArray) :=
 req (0 ≤ (p0.length : Int) ∧ (p0.length : Int) ≤ (p0.length : Int) ∧ (p0.length : Int) * 16 ≤ 281474976710656) <|
 bnd (loop (Xe8 p0) (0, (List.replicate (p0.length : Int).toNat Xcn))) fun v4 =>
 some v4
def Xe7 (p0 : (List ByteArray)) (p1 : (List ByteArray)) (v2 : Int) : Option (Lp Int (Ou Unit Bool)) :=
 sel (decide (v2 < (p0.length : Int))) (
 req (0 ≤ v2 ∧ v2 < p0.length) <|
 req (0 ≤ v2 ∧ v2 < p1.length) <|
 sel (!((p0.getD v2.toNat Xcn).toList == (p1.getD v2.toNat Xcn).toList)) (
 some (.done (.ret false))) (
 some (.go (Xaa .i64 (v2 + 1))))) (
 some (.done (.out ())))
def Xih (p0 : (List ByteArray)) (p1 : (List ByteArray)) : Option Bool :=
 sel ((p0.length : Int) != (p1.length : Int)) (
 some false) (
 bnd (loop (Xe7 p0 p1) 0) fun o5 => match o5 with
| .out v4 => (
 some true)
| .ret r => some r)
def Xd6 (v3 : (Int × Int × (List ByteArray))) : Option (Lp (Int × Int × (List ByteArray)) (Int × (List ByteArray))) :=
 sel (decide (v3.2.1 < (v3.2.2.length : Int))) (
 bnd (Xdr v3.1) fun q7 =>
 req (0 ≤ v3.2.1 ∧ v3.2.1 < v3.2.2.length) <|
 req (v3.2.1.toNat < v3.2.2.length) <|
 some (.go (Xaa .i64 (v3.1 + 1), Xaa .i64 (v3.2.1 + 1), (v3.2.2.set v3.2.1.toNat q7)))) (
 some (.done (v3.1, v3.2.2)))
def Xf6 (p0 : (List ByteArray)) (p1 : Int) : Option (Int × (List ByteArray)) :=
 bnd (loop (Xd6) (p1, 0, p0)) fun v6 =>
 some (v6.1, v6.2)
def Xgm (p0 : Decoder) (p1 : (List ByteArray)) : Option Bool :=
 bnd (Xii p0 1048576) fun q1 =>
 sel (decide (q1 < 0)) (
 some true) (
 bnd (Xij p1 q1) fun q2 =>
 sel (decide (q2 < 0)) (
 some true) (
 bnd (Xdw p0) fun q3 =>
 bnd (Xdx p1) fun q4 =>
 bnd (Xnp q3 q4) fun q5 =>
 bnd (Xdw p0) fun q6 =>
 bnd (Xdx p1) fun q7 =>
 bnd (Xko q6 q7) fun q8 =>
 bnd (
 bnd (Xdv q8.1 q5.1) fun q10 =>
 sel q10 (
 bnd (Xi0 q8.2.1 q5.2.1) fun q11 =>
 sel q11 (
 bnd (Xft q8.2.2 q5.2.2) fun q12 =>
 some (!q12)) (
 some true)) (
 some true)) fun v9 =>
 sel v9 (
 some false) (
 bnd (Xdw p0) fun q13 =>
 bnd (Xdv q6 q13) fun q14 =>
 sel (!q14) (
 some false) (
 bnd (Xdx p1) fun q15 =>
 bnd (Xih q7 q15) fun q16 =>
 sel (!q16) (
 some false) (
 bnd (Xef q6 1) fun q17 =>
 bnd (Xf6 q7 q17.1) fun q18 =>
 bnd (
 sel (decide (q18.1 < 0)) (
 some true) (
 bnd (Xdv q8.1 q5.1) fun q20 =>
 sel q20 (
 bnd (Xi0 q8.2.1 q5.2.1) fun q21 =>
 sel q21 (
 bnd (Xft q8.2.2 q5.2.2) fun q22 =>
 some (!q22)) (
 some true)) (
 some true))) fun v19 =>
 sel v19 (
 some false) (
 bnd (Xef q8.1 1) fun q23 =>
 bnd (Xj2 q8.2.1 q23.1) fun q24 =>
 bnd (Xfu q8.2.2 q24.1) fun q25 =>
 bnd (Xee (⟨q8.1.HasSeq, q8.1.HasPar, q8.1.HasRef, (⟨q8.1.Seq.Level, q8.1.Seq.Bits, q23.2.Seq.Cols, q23.2.Seq.Rows⟩ : Seq), q8.1.Par, q8.1.Frame, q8.1.Got, q8.1.Now, q8.1.Ref⟩ : Decoder) 1) fun q26 =>
 sel (decide (q26 < 0)) (
 some false) (
 bnd (Xho q24.2 q26) fun q27 =>
 sel (decide (q27 < 0)) (
 some false) (
 bnd (Xep q25.2 q27) fun q28 =>
 sel (decide (q28 < 0)) (
 some false) (
 sel (q28 != q25.1) (
 some false) (
 bnd (Xdw p0) fun q29 =>
 bnd (Xdx p1) fun q30 =>
 bnd (Xko q29 q30) fun q31 =>
 bnd (
 bnd (Xdv q31.1 q5.1) fun q33 =>
 sel q33 (
 bnd (Xi0 q31.2.1 q5.2.1) fun q34 =>
 sel q34 (
 bnd (Xft q31.2.2 q5.2.2) fun q35 =>
 some (!q35)) (
 some true)) (
 some true)) fun v32 =>
 sel v32 (
 some false) (
 bnd (Xee (⟨q8.1.HasSeq, q8.1.HasPar, q8.1.HasRef, (⟨q8.1.Seq.Level, q8.1.Seq.Bits, q23.2.Seq.Cols, q23.2.Seq.Rows⟩ : Seq), q8.1.Par, q8.1.Frame, q8.1.Got, q8.1.Now, q8.1.Ref⟩ : Decoder) 1) fun q36 =>
 sel (decide (q36 < 0)) (
 some false) (
 bnd (Xho q24.2 q36) fun q37 =>
 sel (decide (q37 < 0)) (
 some false) (
 bnd (Xep q25.2 q37) fun q38 =>
 sel (decide (q38 < 0)) (
 some false) (
 sel (q38 != q25.1) (
 some false) (
 some true)))))))))))))))
end
end Go.Proofs.YtjgbfopmjpkkhaaGreat.A
