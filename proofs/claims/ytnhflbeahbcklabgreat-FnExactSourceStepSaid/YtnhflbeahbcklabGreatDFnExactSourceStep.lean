/- What the functions that the law FnExactSourceStep reaches compute, over numbers, texts and lists. Written by a program of this session. Conditions: none. -/
import Derived.Test.YtnhflbeahbcklabGreatAL2
namespace Go.Proofs.YtnhflbeahbcklabGreat.A
open Go Go.Proofs Go.Proofs.YtnhflbeahbcklabGreatAL Go.RowKit
set_option linter.unusedVariables false
set_option linter.unusedSimpArgs false
structure Seq where
 Level : Int
 Bits : Int
 Cols : (List Int)
 Rows : (List Int)
structure Par where
 Qp : Int
 Large : Bool
 Exact : Bool
 Confined : Bool
structure Pic where
 Wide : Int
 High : Int
 Dots : ByteArray
structure Rate where
 Qp : Int
 Target : Int
 Debt : Int
structure Source where
 Seq : Seq
 Par : Par
 Rate : Rate
 Frame : Int
 Since : Int
 Every : Int
 Reach : Int
 Has : Bool
 Ref : Pic
structure Xfs where
 Key : Bool
 Qp : Int
 Large : Bool
 Exact : Bool
structure Yv5 where
 Tile : Int
 Frame : Int
 Qp : Int
structure Xau where
 Kind : Int
 Mode : Int
 Dx : Int
 Dy : Int
 Levels : (List Int)
structure Zb6 where
 Left : Int
 Top : Int
 Wide : Int
 High : Int
structure Xim where
 Above : (List Int)
 Left : (List Int)
 Corner : Int
def Xv8 : ByteArray := ⟨#[]⟩
def Xgn : (List Int) := []
def Xmg : Xau := ⟨0, 0, 0, 0, []⟩
def Zcy (x : Seq) : Prop := (Lit.int .i64 x.Level).wf = true ∧ (Lit.int .i64 x.Bits).wf = true ∧ (x.Cols.length ≤ maxLen ∧ ∀ y ∈ x.Cols, (Lit.int .i64 y).wf = true) ∧ (x.Rows.length ≤ maxLen ∧ ∀ y ∈ x.Rows, (Lit.int .i64 y).wf = true)
def Zfx (x : Par) : Prop := (Lit.int .i64 x.Qp).wf = true ∧ True ∧ True ∧ True
def Zdz (x : Rate) : Prop := (Lit.int .i64 x.Qp).wf = true ∧ (Lit.int .i64 x.Target).wf = true ∧ (Lit.int .i64 x.Debt).wf = true
def Zcx (x : Pic) : Prop := (Lit.int .i64 x.Wide).wf = true ∧ (Lit.int .i64 x.High).wf = true ∧ x.Dots.size ≤ maxLen
def Ya9 (x : Source) : Prop := Zcy x.Seq ∧ Zfx x.Par ∧ Zdz x.Rate ∧ (Lit.int .i64 x.Frame).wf = true ∧ (Lit.int .i64 x.Since).wf = true ∧ (Lit.int .i64 x.Every).wf = true ∧ (Lit.int .i64 x.Reach).wf = true ∧ True ∧ Zcx x.Ref
noncomputable section
def Xie (p0 : Int) (p1 : Int) (v2 : (Int × (List Int))) : Option (Lp (Int × (List Int)) (List Int)) :=
 sel (decide (v2.1 < p0)) (
 req (0 ≤ v2.1 ∧ v2.1 < v2.2.length) <|
 req (v2.1.toNat < v2.2.length) <|
 some (.go (Xaa .i64 (v2.1 + 1), (v2.2.set v2.1.toNat p1)))) (
 some (.done v2.2))
def Xk1 (p0 : Int) (p1 : Int) : Option ByteArray :=
 req (0 ≤ p0 ∧ p0 ≤ p0 ∧ p0 * 1 ≤ 281474976710656) <|
 bnd (loop (Xie p0 p1) (0, (List.replicate p0.toNat (0 : Int)))) fun v4 =>
 some (strOfNums v4)
def Xi3 (v2 : (Int × ByteArray)) : Option (Lp (Int × ByteArray) ByteArray) :=
 sel (decide (v2.1 > 0)) (
 req ((2 : Int) ≠ 0) <|
 req ((strOfNums ([Xaa .u8 (Xaa .i64 (48 + (v2.1.tmod 2)))])).size + v2.2.size ≤ 9223372036854775807) <|
 req ((2 : Int) ≠ 0) <|
 some (.go (Xaa .i64 (v2.1.tdiv 2), ((strOfNums ([Xaa .u8 (Xaa .i64 (48 + (v2.1.tmod 2)))])) ++ v2.2)))) (
 some (.done v2.2))
def Xcm (p0 : Int) : Option ByteArray :=
 bnd (loop (Xi3) (Xaa .i64 (p0 + 1), ⟨#[]⟩)) fun v4 =>
 bnd (Xk1 (Xaa .i64 ((v4.size : Int) - 1)) 48) fun q6 =>
 req (q6.size + v4.size ≤ 9223372036854775807) <|
 some (q6 ++ v4)
def Xju (v2 : (Int × Int × (List Int))) : Option (Lp (Int × Int × (List Int)) (List Int)) :=
 sel (decide (v2.2.1 ≥ 0)) (
 req ((2 : Int) ≠ 0) <|
 req (0 ≤ v2.2.1 ∧ v2.2.1 < v2.2.2.length) <|
 req (v2.2.1.toNat < v2.2.2.length) <|
 req ((2 : Int) ≠ 0) <|
 some (.go (Xaa .i64 (v2.1.tdiv 2), Xaa .i64 (v2.2.1 - 1), (v2.2.2.set v2.2.1.toNat (Xaa .u8 (Xaa .i64 (48 + (v2.1.tmod 2)))))))) (
 some (.done v2.2.2))
def Xkj (p0 : Int) (p1 : Int) : Option ByteArray :=
 req (0 ≤ p1 ∧ p1 ≤ p1 ∧ p1 * 1 ≤ 281474976710656) <|
 bnd (loop (Xju) (p0, Xaa .i64 (p1 - 1), (List.replicate p1.toNat (0 : Int)))) fun v4 =>
 some (strOfNums v4)
def Xif (p0 : (List Int)) (v4 : (ByteArray × Int)) : Option (Lp (ByteArray × Int) ByteArray) :=
 sel (decide (v4.2 < (p0.length : Int))) (
 req (0 ≤ v4.2 ∧ v4.2 < p0.length) <|
 bnd (Xcm (p0.getD v4.2.toNat 0)) fun q8 =>
 req (v4.1.size + q8.size ≤ 9223372036854775807) <|
 some (.go ((v4.1 ++ q8), Xaa .i64 (v4.2 + 1)))) (
 some (.done v4.1))
def Xk4 (p0 : (List Int)) : Option ByteArray :=
 bnd (Xcm (p0.length : Int)) fun q1 =>
 bnd (loop (Xif p0) (q1, 0)) fun v7 =>
 some v7
def Xp8 (p0 : Seq) : Option ByteArray :=
 bnd (Xcm p0.Level) fun q1 =>
 bnd (Xkj p0.Bits 4) fun q2 =>
 req (q1.size + q2.size ≤ 9223372036854775807) <|
 bnd (Xk4 p0.Cols) fun q3 =>
 req ((q1 ++ q2).size + q3.size ≤ 9223372036854775807) <|
 bnd (Xk4 p0.Rows) fun q4 =>
 req (((q1 ++ q2) ++ q3).size + q4.size ≤ 9223372036854775807) <|
 some (((q1 ++ q2) ++ q3) ++ q4)
def Xn2 (p0 : Int) : Option Bool :=
 bnd (
 sel (p0 == 1) (
 some true) (
 sel (p0 == 5) (
 some true) (
 sel (p0 == 7) (
 some true) (
 some (p0 == 8))))) fun v1 =>
 some v1
def Xjv (p0 : ByteArray) (v3 : Int) : Option (Lp Int (Ou Unit Bool)) :=
 sel (decide (v3 < (p0.size : Int))) (
 bnd (
 req (0 ≤ v3 ∧ v3 < p0.size) <|
 sel ((Yqy p0 v3) != 48) (
 req (0 ≤ v3 ∧ v3 < p0.size) <|
 some ((Yqy p0 v3) != 49)) (
 some false)) fun v7 =>
 sel v7 (
 some (.done (.ret false))) (
 some (.go (Xaa .i64 (v3 + 1))))) (
 some (.done (.out ())))
def Xp4 (p0 : ByteArray) : Option Bool :=
 bnd (loop (Xjv p0) 0) fun o8 => match o8 with
| .out v6 => (
 some true)
| .ret r => some r
def Xsg (p0 : ByteArray) : Option Bool :=
 bnd (
 sel (decide ((p0.size : Int) ≤ 400000)) (
 bnd (Xp4 p0) fun q2 =>
 some q2) (
 some false)) fun v1 =>
 some v1
def Xg8 (v2 : (List Int)) : Option (Lp (List Int) (List Int)) :=
 req ((8 : Int) ≠ 0) <|
 sel (((v2.length : Int).tmod 8) != 0) (
 req ((v2.length + ([48]).length) * 1 ≤ 140737488355328 ∧ v2.length + ([48]).length ≤ maxLen) <|
 some (.go (v2 ++ ([48])))) (
 some (.done v2))
def Xd7 (v4 : (List Int)) (v12 : (Int × (List Int))) (v21 : (Int × Int)) : Option (Lp (Int × Int) Int) :=
 sel (decide (v21.2 < 8)) (
 req (0 ≤ (Xaa .i64 (v12.1 + v21.2)) ∧ (Xaa .i64 (v12.1 + v21.2)) < v4.length) <|
 req ((Xaa .i64 (v12.1 + v21.2)).toNat < v4.length) <|
 some (.go (Xaa .i64 ((Xaa .i64 ((Xaa .i64 (2 * v21.1)) + (Xaa .i64 ((v4.getD ((Xaa .i64 (v12.1 + v21.2)).toNat) 0))))) - 48), Xaa .i64 (v21.2 + 1)))) (
 some (.done v21.1))
def Xge (v4 : (List Int)) (v12 : (Int × (List Int))) : Option (Lp (Int × (List Int)) (List Int)) :=
 sel (decide (v12.1 < (v4.length : Int))) (
 bnd (loop (Xd7 v4 v12) (0, 0)) fun v23 =>
 req ((v12.2.length + ([Xaa .u8 (v23)]).length) * 1 ≤ 140737488355328 ∧ v12.2.length + ([Xaa .u8 (v23)]).length ≤ maxLen) <|
 some (.go (Xaa .i64 (v12.1 + 8), (v12.2 ++ ([Xaa .u8 (v23)]))))) (
 some (.done v12.2))
def Xl0 (p0 : ByteArray) : Option ByteArray :=
 req (p0.size ≤ maxLen) <|
 req (((Xa8 p0).length + ([49]).length) * 1 ≤ 140737488355328 ∧ (Xa8 p0).length + ([49]).length ≤ maxLen) <|
 bnd (loop (Xg8) ((Xa8 p0) ++ ([49]))) fun v4 =>
 bnd (loop (Xge v4) (0, ([] : List Int))) fun v19 =>
 some (strOfNums v19)
def Xki (p0 : Int) (p1 : ByteArray) : Option (ByteArray × Bool) :=
 bnd (
 bnd (Xn2 p0) fun q2 =>
 sel q2 (
 bnd (Xsg p1) fun q3 =>
 some (!q3)) (
 some true)) fun v1 =>
 sel v1 (
 some (⟨#[]⟩, false)) (
 bnd (Xl0 p1) fun q4 =>
 req ((strOfNums ([Xaa .u8 (p0)])).size + q4.size ≤ 9223372036854775807) <|
 some (((strOfNums ([Xaa .u8 (p0)])) ++ q4), true))
def Xk3 (p0 : Bool) : Option ByteArray :=
 sel p0 (
 some ⟨#[49]⟩) (
 some ⟨#[48]⟩)
def Xp7 (p0 : Par) : Option ByteArray :=
 bnd (Xkj p0.Qp 6) fun q1 =>
 bnd (Xk3 p0.Large) fun q2 =>
 req (q1.size + q2.size ≤ 9223372036854775807) <|
 bnd (Xk3 p0.Exact) fun q3 =>
 req ((q1 ++ q2).size + q3.size ≤ 9223372036854775807) <|
 bnd (Xk3 p0.Confined) fun q4 =>
 req (((q1 ++ q2) ++ q3).size + q4.size ≤ 9223372036854775807) <|
 some (((q1 ++ q2) ++ q3) ++ q4)
def Xas (p0 : Int) (p1 : Int) (p2 : Int) : Option Bool :=
 bnd (
 sel (decide (p0 ≥ p1)) (
 some (decide (p0 ≤ p2))) (
 some false)) fun v1 =>
 some v1
def Xhh (p0 : (List Int)) (v4 : (Int × Int)) : Option (Lp (Int × Int) (Ou Int Int)) :=
 sel (decide (v4.2 < (p0.length : Int))) (
 req (0 ≤ v4.2 ∧ v4.2 < p0.length) <|
 bnd (Xas (p0.getD v4.2.toNat 0) 1 8) fun q8 =>
 sel (!q8) (
 some (.done (.ret 0))) (
 req (0 ≤ v4.2 ∧ v4.2 < p0.length) <|
 some (.go (Xaa .i64 (v4.1 + (p0.getD v4.2.toNat 0)), Xaa .i64 (v4.2 + 1))))) (
 some (.done (.out v4.1)))
def Xig (p0 : (List Int)) : Option Int :=
 bnd (
 sel (decide ((p0.length : Int) < 1)) (
 some true) (
 some (decide ((p0.length : Int) > 4)))) fun v1 =>
 sel v1 (
 some 0) (
 bnd (loop (Xhh p0) (0, 0)) fun o9 => match o9 with
| .out v7 => (
 some v7)
| .ret r => some r)
def Xjs (p0 : Seq) : Option Int :=
 bnd (Xig p0.Cols) fun q1 =>
 bnd (Xig p0.Rows) fun q2 =>
 some (Xaa .i64 (q1 * q2))
def Xgc (p0 : Int) : Option Int :=
 sel (p0 == 1) (
 some 16) (
 sel (p0 == 2) (
 some 64) (
 sel (p0 == 3) (
 some 256) (
 some 0)))
def Xo5 (p0 : Seq) : Option Bool :=
 bnd (
 bnd (Xjs p0) fun q2 =>
 bnd (Xgc p0.Level) fun q3 =>
 bnd (Xas q2 1 q3) fun q4 =>
 sel q4 (
 bnd (Xas p0.Bits 3 8) fun q5 =>
 some q5) (
 some false)) fun v1 =>
 some v1
def Xic (p0 : Seq) : Option Int :=
 bnd (Xo5 p0) fun q1 =>
 sel (!q1) (
 some 0) (
 some (Xaa .i64 ((p0.Cols.length : Int) * (p0.Rows.length : Int))))
def Xo4 (p0 : Par) : Option Bool :=
 bnd (
 bnd (Xas p0.Qp 0 40) fun q2 =>
 sel q2 (
 sel p0.Large (
 some (!p0.Exact)) (
 some true)) (
 some false)) fun v1 =>
 some v1
def Xpw (p0 : Seq) (p1 : Par) (p2 : Yv5) : Option Bool :=
 bnd (
 bnd (Xo4 p1) fun q2 =>
 sel q2 (
 sel (decide (p2.Tile ≥ 0)) (
 bnd (Xic p0) fun q3 =>
 sel (decide (p2.Tile < q3)) (
 sel (decide (p2.Frame ≥ 0)) (
 req (0 ≤ (Xaa .u64 (p0.Bits))) <|
 sel (decide (p2.Frame < (Xaa .i64 (1 * 2 ^ min (Xaa .u64 (p0.Bits)).toNat (IntKind.bits .i64))))) (
 bnd (Xas p2.Qp 0 40) fun q4 =>
 some q4) (
 some false)) (
 some false)) (
 some false)) (
 some false)) (
 some false)) fun v1 =>
 some v1
def Xpt (p0 : Int) : Option (Int × Bool) :=
 bnd (Xas p0 (-500000) 500000) fun q1 =>
 sel (!q1) (
 some (0, false)) (
 sel (decide (p0 > 0)) (
 some (Xaa .i64 ((Xaa .i64 (2 * p0)) - 1), true)) (
 some (Xaa .i64 ((-2) * p0), true)))
def Xi2 (p0 : Int) : Option ByteArray :=
 bnd (Xpt p0) fun q1 =>
 bnd (Xcm q1.1) fun q2 =>
 some q2
def Xn1 (p0 : Seq) (p1 : Par) (p2 : Yv5) : Option (ByteArray × Bool) :=
 bnd (Xpw p0 p1 p2) fun q1 =>
 sel (!q1) (
 some (⟨#[]⟩, false)) (
 bnd (Xcm p2.Tile) fun q2 =>
 bnd (Xkj p2.Frame p0.Bits) fun q3 =>
 req (q2.size + q3.size ≤ 9223372036854775807) <|
 bnd (Xi2 (Xaa .i64 (p2.Qp - p1.Qp))) fun q4 =>
 req ((q2 ++ q3).size + q4.size ≤ 9223372036854775807) <|
 some (((q2 ++ q3) ++ q4), true))
def Xgf (p0 : (List Int)) (v5 : (Int × Int × ByteArray × Int)) : Option (Lp (Int × Int × ByteArray × Int) (Int × ByteArray)) :=
 sel (decide (v5.2.2.2 < (p0.length : Int))) (
 bnd (
 req (0 ≤ v5.2.2.2 ∧ v5.2.2.2 < p0.length) <|
 sel ((p0.getD v5.2.2.2.toNat 0) == 0) (
 some (v5.1, Xaa .i64 (v5.2.1 + 1), v5.2.2.1)) (
 bnd (Xcm v5.2.1) fun q12 =>
 req (v5.2.2.1.size + q12.size ≤ 9223372036854775807) <|
 req (0 ≤ v5.2.2.2 ∧ v5.2.2.2 < p0.length) <|
 bnd (Xi2 (p0.getD v5.2.2.2.toNat 0)) fun q13 =>
 req ((v5.2.2.1 ++ q12).size + q13.size ≤ 9223372036854775807) <|
 some (Xaa .i64 (v5.1 + 1), 0, ((v5.2.2.1 ++ q12) ++ q13)))) fun v11 =>
 some (.go (v11.1, v11.2.1, v11.2.2, Xaa .i64 (v5.2.2.2 + 1)))) (
 some (.done (v5.1, v5.2.2.1)))
def Xfd (p0 : (List Int)) : Option ByteArray :=
 bnd (loop (Xgf p0) (0, 0, ⟨#[]⟩, 0)) fun v10 =>
 bnd (Xcm v10.1) fun q15 =>
 req (q15.size + v10.2.size ≤ 9223372036854775807) <|
 some (q15 ++ v10.2)
def Xm9 (p0 : (List Int)) (p1 : Xfs) : Option ByteArray :=
 bnd (
 sel p1.Large (
 some true) (
 some p1.Exact)) fun v1 =>
 sel v1 (
 bnd (Xfd p0) fun q2 =>
 some q2) (
 req (0 ≤ (0 : Int) ∧ (0 : Int) ≤ (16 : Int) ∧ (16 : Int) ≤ (p0.length : Int)) <|
 bnd (Xfd ((p0.drop (0 : Int).toNat).take ((16 : Int).toNat - (0 : Int).toNat))) fun q3 =>
 req (0 ≤ (16 : Int) ∧ (16 : Int) ≤ (32 : Int) ∧ (32 : Int) ≤ (p0.length : Int)) <|
 bnd (Xfd ((p0.drop (16 : Int).toNat).take ((32 : Int).toNat - (16 : Int).toNat))) fun q4 =>
 req (q3.size + q4.size ≤ 9223372036854775807) <|
 req (0 ≤ (32 : Int) ∧ (32 : Int) ≤ (48 : Int) ∧ (48 : Int) ≤ (p0.length : Int)) <|
 bnd (Xfd ((p0.drop (32 : Int).toNat).take ((48 : Int).toNat - (32 : Int).toNat))) fun q5 =>
 req ((q3 ++ q4).size + q5.size ≤ 9223372036854775807) <|
 req (0 ≤ (48 : Int) ∧ (48 : Int) ≤ (p0.length : Int) ∧ (p0.length : Int) ≤ (p0.length : Int)) <|
 bnd (Xfd ((p0.drop (48 : Int).toNat).take ((p0.length : Int).toNat - (48 : Int).toNat))) fun q6 =>
 req (((q3 ++ q4) ++ q5).size + q6.size ≤ 9223372036854775807) <|
 some (((q3 ++ q4) ++ q5) ++ q6))
def Xp9 (p0 : Xau) (p1 : Xfs) : Option ByteArray :=
 bnd (
 sel (!p1.Key) (
 bnd (Xcm p0.Kind) fun q2 =>
 some q2) (
 some ⟨#[]⟩)) fun v1 =>
 sel (p0.Kind == 1) (
 bnd (Xi2 p0.Dx) fun q3 =>
 req (v1.size + q3.size ≤ 9223372036854775807) <|
 bnd (Xi2 p0.Dy) fun q4 =>
 req ((v1 ++ q3).size + q4.size ≤ 9223372036854775807) <|
 bnd (Xm9 p0.Levels p1) fun q5 =>
 req (((v1 ++ q3) ++ q4).size + q5.size ≤ 9223372036854775807) <|
 some (((v1 ++ q3) ++ q4) ++ q5)) (
 sel (p0.Kind == 2) (
 bnd (Xcm p0.Mode) fun q6 =>
 req (v1.size + q6.size ≤ 9223372036854775807) <|
 bnd (Xm9 p0.Levels p1) fun q7 =>
 req ((v1 ++ q6).size + q7.size ≤ 9223372036854775807) <|
 some ((v1 ++ q6) ++ q7)) (
 some v1))
def Xjw (p0 : (List Xau)) (p1 : Xfs) (v3 : (Int × (List Int))) : Option (Lp (Int × (List Int)) (List Int)) :=
 sel (decide (v3.1 < (p0.length : Int))) (
 req (0 ≤ v3.1 ∧ v3.1 < p0.length) <|
 bnd (Xp9 (⟨(p0.getD v3.1.toNat Xmg).Kind, (p0.getD v3.1.toNat Xmg).Mode, (p0.getD v3.1.toNat Xmg).Dx, (p0.getD v3.1.toNat Xmg).Dy, (p0.getD v3.1.toNat Xmg).Levels⟩ : Xau) p1) fun q7 =>
 req ((v3.2.length + (Xa8 q7).length) * 1 ≤ 140737488355328 ∧ v3.2.length + (Xa8 q7).length ≤ maxLen) <|
 some (.go (Xaa .i64 (v3.1 + 1), (v3.2 ++ (Xa8 q7))))) (
 some (.done v3.2))
def Xna (p0 : (List Xau)) (p1 : Xfs) : Option ByteArray :=
 bnd (loop (Xjw p0 p1) (0, ([] : List Int))) fun v6 =>
 some (strOfNums v6)
def Xdt (p0 : (List Int)) : Option (List Int) :=
 req ((([] : List Int).length + p0.length) * 8 ≤ 140737488355328 ∧ ([] : List Int).length + p0.length ≤ maxLen) <|
 some (([] : List Int) ++ p0)
def Xnt (p0 : Seq) : Option Seq :=
 bnd (Xdt p0.Cols) fun q1 =>
 bnd (Xdt p0.Rows) fun q2 =>
 some (⟨p0.Level, p0.Bits, q1, q2⟩ : Seq)
def Xao (p0 : Int) (p1 : Int) (p2 : Int) : Option Bool :=
 bnd (
 sel (decide (p0 ≥ p1)) (
 some (decide (p0 ≤ p2))) (
 some false)) fun v1 =>
 some v1
def Xdu (p0 : (List Int)) (v2 : (Int × Int)) : Option (Lp (Int × Int) Int) :=
 sel (decide (v2.2 < (p0.length : Int))) (
 req (0 ≤ v2.2 ∧ v2.2 < p0.length) <|
 some (.go (Xaa .i64 (v2.1 + (p0.getD v2.2.toNat 0)), Xaa .i64 (v2.2 + 1)))) (
 some (.done v2.1))
def Xb6 (p0 : (List Int)) : Option Int :=
 bnd (loop (Xdu p0) (0, 0)) fun v4 =>
 some v4
def Xcd (p0 : Seq) (v11 : Int) (v26 : Int) : Option (Lp Int (Ou Unit Int)) :=
 sel (decide (v26 < ((([p0.Cols, p0.Rows]).getD v11.toNat Xgn).length : Int))) (
 req (0 ≤ v26 ∧ v26 < (([p0.Cols, p0.Rows]).getD v11.toNat Xgn).length) <|
 bnd (Xao ((([p0.Cols, p0.Rows]).getD v11.toNat Xgn).getD v26.toNat 0) 1 8) fun q30 =>
 sel (!q30) (
 some (.done (.ret 0))) (
 some (.go (Xaa .i64 (v26 + 1))))) (
 some (.done (.out ())))
def Xdn (p0 : Seq) (v11 : Int) : Option (Lp Int (Ou Unit Int)) :=
 sel (decide (v11 < (([p0.Cols, p0.Rows]).length : Int))) (
 req (0 ≤ v11 ∧ v11 < ([p0.Cols, p0.Rows]).length) <|
 req (v11.toNat < ([p0.Cols, p0.Rows]).length) <|
 bnd (Xao ((([p0.Cols, p0.Rows]).getD v11.toNat Xgn).length : Int) 1 4) fun q23 =>
 sel (!q23) (
 some (.done (.ret 0))) (
 bnd (loop (Xcd p0 v11) 0) fun o31 => match o31 with
| .out v29 => (
 some (.go (Xaa .i64 (v11 + 1))))
| .ret r => some (.done (.ret r)))) (
 some (.done (.out ())))
def Xjk (p0 : Seq) : Option Int :=
 bnd (loop (Xdn p0) 0) fun o32 => match o32 with
| .out v22 => (
 bnd (Xb6 p0.Cols) fun q33 =>
 bnd (Xb6 p0.Rows) fun q34 =>
 some (Xaa .i64 (q33 * q34)))
| .ret r => some r
def Xfy (p0 : Int) : Option Int :=
 bnd (Xao p0 1 3) fun q1 =>
 sel (!q1) (
 some 0) (
 req (0 ≤ (Xaa .i64 (p0 - 1)) ∧ (Xaa .i64 (p0 - 1)) < ([16, 64, 256]).length) <|
 req ((Xaa .i64 (p0 - 1)).toNat < ([16, 64, 256]).length) <|
 some (([16, 64, 256]).getD ((Xaa .i64 (p0 - 1)).toNat) 0))
def Xkq (p0 : Seq) : Option Bool :=
 bnd (
 bnd (Xjk p0) fun q2 =>
 bnd (Xfy p0.Level) fun q3 =>
 bnd (Xao q2 1 q3) fun q4 =>
 sel q4 (
 bnd (Xao p0.Bits 3 8) fun q5 =>
 some q5) (
 some false)) fun v1 =>
 some v1
def Xml (p0 : Par) : Option Bool :=
 bnd (
 bnd (Xao p0.Qp 0 40) fun q2 =>
 sel q2 (
 sel p0.Large (
 some (!p0.Exact)) (
 some true)) (
 some false)) fun v1 =>
 some v1
def Xhv (p0 : Seq) : Option Int :=
 bnd (Xkq p0) fun q1 =>
 sel (!q1) (
 some 0) (
 some (Xaa .i64 ((p0.Cols.length : Int) * (p0.Rows.length : Int))))
def Xpe (p0 : Seq) : Option (Int × Int) :=
 bnd (Xkq p0) fun q1 =>
 sel (!q1) (
 some (0, 0)) (
 bnd (Xb6 p0.Cols) fun q2 =>
 bnd (Xb6 p0.Rows) fun q3 =>
 some (Xaa .i64 (8 * q2), Xaa .i64 (8 * q3)))
def Xcx (p0 : Pic) : Option Bool :=
 bnd (
 bnd (Xao p0.Wide 1 256) fun q2 =>
 sel q2 (
 bnd (Xao p0.High 1 256) fun q3 =>
 sel q3 (
 some ((p0.Dots.size : Int) == (Xaa .i64 (p0.Wide * p0.High)))) (
 some false)) (
 some false)) fun v1 =>
 some v1
def Xrt (p0 : Pic) (p1 : Seq) : Option Bool :=
 bnd (Xpe p1) fun q1 =>
 bnd (
 bnd (Xcx p0) fun q3 =>
 sel q3 (
 sel (p0.Wide == q1.1) (
 some (p0.High == q1.2)) (
 some false)) (
 some false)) fun v2 =>
 some v2
def Xph (p0 : Int) : Option Bool :=
 bnd (
 sel (p0 == 1) (
 some true) (
 sel (p0 == 5) (
 some true) (
 sel (p0 == 7) (
 some true) (
 some (p0 == 8))))) fun v1 =>
 some v1
def Xlf (p0 : ByteArray) (v3 : Int) : Option (Lp Int (Ou Unit Bool)) :=
 sel (decide (v3 < (p0.size : Int))) (
 bnd (
 req (0 ≤ v3 ∧ v3 < p0.size) <|
 sel ((Yqy p0 v3) != 48) (
 req (0 ≤ v3 ∧ v3 < p0.size) <|
 some ((Yqy p0 v3) != 49)) (
 some false)) fun v7 =>
 sel v7 (
 some (.done (.ret false))) (
 some (.go (Xaa .i64 (v3 + 1))))) (
 some (.done (.out ())))
def Xrr (p0 : ByteArray) : Option Bool :=
 sel (decide ((p0.size : Int) > 400000)) (
 some false) (
 bnd (loop (Xlf p0) 0) fun o8 => match o8 with
| .out v6 => (
 some true)
| .ret r => some r)
def Xo9 (p0 : Seq) (p1 : Par) (p2 : Yv5) : Option Bool :=
 bnd (
 bnd (Xkq p0) fun q2 =>
 sel q2 (
 bnd (Xml p1) fun q3 =>
 sel q3 (
 bnd (Xhv p0) fun q4 =>
 bnd (Xao p2.Tile 0 (Xaa .i64 (q4 - 1))) fun q5 =>
 sel q5 (
 req (0 ≤ p0.Bits) <|
 bnd (Xao p2.Frame 0 (Xaa .i64 ((Xaa .i64 (1 * 2 ^ min p0.Bits.toNat (IntKind.bits .i64))) - 1))) fun q6 =>
 sel q6 (
 bnd (Xao p2.Qp 0 40) fun q7 =>
 some q7) (
 some false)) (
 some false)) (
 some false)) (
 some false)) fun v1 =>
 some v1
def Xff (p0 : Xfs) : Option Bool :=
 bnd (
 bnd (Xao p0.Qp 0 40) fun q2 =>
 sel q2 (
 sel p0.Large (
 some (!p0.Exact)) (
 some true)) (
 some false)) fun v1 =>
 some v1
def Xlk (p0 : (List Int)) (p2 : Int) (p3 : Int) (v3 : Int) : Option (Lp Int (Ou Unit Bool)) :=
 sel (decide (v3 < (p0.length : Int))) (
 req (0 ≤ v3 ∧ v3 < p0.length) <|
 bnd (Xao (p0.getD v3.toNat 0) p2 p3) fun q7 =>
 sel (!q7) (
 some (.done (.ret false))) (
 some (.go (Xaa .i64 (v3 + 1))))) (
 some (.done (.out ())))
def Xbf (p0 : (List Int)) (p1 : Int) (p2 : Int) (p3 : Int) : Option Bool :=
 bnd (loop (Xlk p0 p2 p3) 0) fun o8 => match o8 with
| .out v6 => (
 some ((p0.length : Int) == p1))
| .ret r => some r
def Xfi (p0 : (List Int)) : Option Bool :=
 bnd (Xbf p0 64 (-5000) 5000) fun q1 =>
 some q1
def Xis (p0 : Xau) : Option Bool :=
 sel (p0.Kind == 0) (
 bnd (
 sel (p0.Mode == 0) (
 sel (p0.Dx == 0) (
 sel (p0.Dy == 0) (
 some ((p0.Levels.length : Int) == 0)) (
 some false)) (
 some false)) (
 some false)) fun v1 =>
 some v1) (
 sel (p0.Kind == 1) (
 bnd (
 sel (p0.Mode == 0) (
 bnd (Xao p0.Dx (-16) 16) fun q3 =>
 sel q3 (
 bnd (Xao p0.Dy (-16) 16) fun q4 =>
 sel q4 (
 bnd (Xfi p0.Levels) fun q5 =>
 some q5) (
 some false)) (
 some false)) (
 some false)) fun v2 =>
 some v2) (
 sel (p0.Kind == 2) (
 bnd (
 bnd (Xao p0.Mode 0 3) fun q7 =>
 sel q7 (
 sel (p0.Dx == 0) (
 sel (p0.Dy == 0) (
 bnd (Xfi p0.Levels) fun q8 =>
 some q8) (
 some false)) (
 some false)) (
 some false)) fun v6 =>
 some v6) (
 some false)))
def Xmr (p0 : Int) : Option Bool :=
 bnd (
 req ((8 : Int) ≠ 0) <|
 sel ((p0.tmod 8) == 0) (
 bnd (Xao p0 8 64) fun q2 =>
 some q2) (
 some false)) fun v1 =>
 some v1
def Xjh (p0 : Pic) (p1 : Zb6) : Option Bool :=
 bnd (
 bnd (Xao p1.Wide 1 p0.Wide) fun q2 =>
 sel q2 (
 bnd (Xao p1.High 1 p0.High) fun q3 =>
 sel q3 (
 bnd (Xao p1.Left 0 (Xaa .i64 (p0.Wide - p1.Wide))) fun q4 =>
 sel q4 (
 bnd (Xao p1.Top 0 (Xaa .i64 (p0.High - p1.High))) fun q5 =>
 some q5) (
 some false)) (
 some false)) (
 some false)) fun v1 =>
 some v1
def Xnp (p0 : Int) (p1 : Int) (v5 : (Int × (List Int))) : Option (Lp (Int × (List Int)) (List Int)) :=
 sel (decide (v5.1 < ((List.replicate (Xaa .i64 (p0 * p1)).toNat (0 : Int)).length : Int))) (
 req (0 ≤ v5.1 ∧ v5.1 < v5.2.length) <|
 req (v5.1.toNat < v5.2.length) <|
 some (.go (Xaa .i64 (v5.1 + 1), (v5.2.set v5.1.toNat 128)))) (
 some (.done v5.2))
def Xup (p0 : Int) (p1 : Int) : Option Pic :=
 bnd (
 bnd (Xao p0 1 256) fun q2 =>
 sel q2 (
 bnd (Xao p1 1 256) fun q3 =>
 some (!q3)) (
 some true)) fun v1 =>
 sel v1 (
 some (⟨0, 0, ⟨#[]⟩⟩ : Pic)) (
 req (0 ≤ (Xaa .i64 (p0 * p1)) ∧ (Xaa .i64 (p0 * p1)) ≤ (Xaa .i64 (p0 * p1)) ∧ (Xaa .i64 (p0 * p1)) * 1 ≤ 281474976710656) <|
 bnd (loop (Xnp p0 p1) (0, (List.replicate (Xaa .i64 (p0 * p1)).toNat (0 : Int)))) fun v7 =>
 some (⟨p0, p1, (strOfNums v7)⟩ : Pic))
def Xbw (p0 : Pic) (p1 : Int) (p2 : Int) : Option Bool :=
 bnd (
 req ((8 : Int) ≠ 0) <|
 sel ((p1.tmod 8) == 0) (
 req ((8 : Int) ≠ 0) <|
 sel ((p2.tmod 8) == 0) (
 bnd (Xao p1 0 (Xaa .i64 (p0.Wide - 8))) fun q2 =>
 sel q2 (
 bnd (Xao p2 0 (Xaa .i64 (p0.High - 8))) fun q3 =>
 some q3) (
 some false)) (
 some false)) (
 some false)) fun v1 =>
 some v1
def Xee (p0 : Xau) (p1 : Xfs) : Option Bool :=
 bnd (
 sel p1.Key (
 some (p0.Kind == 2)) (
 some true)) fun v1 =>
 some v1
def Xco (p0 : Int) (p1 : Int) (p2 : Int) : Option Int :=
 some (if (if p2 < p0 then p2 else p0) > p1 then (if p2 < p0 then p2 else p0) else p1)
def Xe3 (p0 : Pic) (p1 : Int) (p2 : Int) : Option Int :=
 bnd (Xco p2 0 (Xaa .i64 (p0.High - 1))) fun q1 =>
 bnd (Xco p1 0 (Xaa .i64 (p0.Wide - 1))) fun q2 =>
 req (0 ≤ (Xaa .i64 ((Xaa .i64 (q1 * p0.Wide)) + q2)) ∧ (Xaa .i64 ((Xaa .i64 (q1 * p0.Wide)) + q2)) < p0.Dots.size) <|
 some (Xaa .i64 ((Yqy p0.Dots (Xaa .i64 ((Xaa .i64 (q1 * p0.Wide)) + q2)))))
def Xe2 (p0 : Pic) (p1 : Int) (p2 : Int) (v10 : (Int × (List Int))) (v23 : (Int × (List Int))) : Option (Lp (Int × (List Int)) (List Int)) :=
 sel (decide (v23.1 < 8)) (
 bnd (Xe3 p0 (Xaa .i64 (p1 + v23.1)) (Xaa .i64 (p2 + v10.1))) fun q27 =>
 req ((v23.2.length + ([q27]).length) * 8 ≤ 140737488355328 ∧ v23.2.length + ([q27]).length ≤ maxLen) <|
 some (.go (Xaa .i64 (v23.1 + 1), (v23.2 ++ ([q27]))))) (
 some (.done v23.2))
def Xe1 (p0 : Pic) (p1 : Int) (p2 : Int) (v10 : (Int × (List Int))) : Option (Lp (Int × (List Int)) (List Int)) :=
 sel (decide (v10.1 < 8)) (
 bnd (loop (Xe2 p0 p1 p2 v10) (0, v10.2)) fun v26 =>
 some (.go (Xaa .i64 (v10.1 + 1), v26))) (
 some (.done v10.2))
def Xbu (p0 : Pic) (p1 : Int) (p2 : Int) : Option (List Int) :=
 req (0 ≤ (0 : Int) ∧ (0 : Int) ≤ (64 : Int) ∧ (64 : Int) * 8 ≤ 281474976710656) <|
 bnd (loop (Xe1 p0 p1 p2) (0, (List.replicate (0 : Int).toNat (0 : Int)))) fun v20 =>
 some v20
def Xlm (p0 : Int) (v16 : (Int × (List Int))) (v37 : (Int × (List Int))) : Option (Lp (Int × (List Int)) (List Int)) :=
 sel (decide (v37.1 ≤ v16.1)) (
 bnd (
 bnd (
 req ((2 : Int) ≠ 0) <|
 sel ((v16.1.tmod 2) == 0) (
 some (Xaa .i64 (v16.1 - v37.1))) (
 some v37.1)) fun v44 =>
 bnd (
 sel (decide (v44 < p0)) (
 some (decide ((Xaa .i64 (v16.1 - v44)) < p0))) (
 some false)) fun v45 =>
 sel v45 (
 req ((v37.2.length + ([Xaa .i64 ((Xaa .i64 (v44 * p0)) + (Xaa .i64 (v16.1 - v44)))]).length) * 8 ≤ 140737488355328 ∧ v37.2.length + ([Xaa .i64 ((Xaa .i64 (v44 * p0)) + (Xaa .i64 (v16.1 - v44)))]).length ≤ maxLen) <|
 some (v37.2 ++ ([Xaa .i64 ((Xaa .i64 (v44 * p0)) + (Xaa .i64 (v16.1 - v44)))]))) (
 some v37.2)) fun v43 =>
 some (.go (Xaa .i64 (v37.1 + 1), v43))) (
 some (.done v37.2))
def Xhn (p0 : Int) (v16 : (Int × (List Int))) : Option (Lp (Int × (List Int)) (List Int)) :=
 sel (decide (v16.1 ≤ (Xaa .i64 ((Xaa .i64 (2 * p0)) - 2)))) (
 bnd (loop (Xlm p0 v16) (0, v16.2)) fun v42 =>
 some (.go (Xaa .i64 (v16.1 + 1), v42))) (
 some (.done v16.2))
def Xhe (p0 : Int) : Option (List Int) :=
 bnd (loop (Xhn p0) (0, ([] : List Int))) fun v32 =>
 some v32
def Xit (p1 : (List Int)) (q2 : (List Int)) (v4 : (Int × (List Int))) : Option (Lp (Int × (List Int)) (List Int)) :=
 sel (decide (v4.1 < (q2.length : Int))) (
 req (0 ≤ v4.1 ∧ v4.1 < q2.length) <|
 req (v4.1.toNat < q2.length) <|
 req (0 ≤ v4.1 ∧ v4.1 < p1.length) <|
 req (0 ≤ (q2.getD v4.1.toNat 0) ∧ (q2.getD v4.1.toNat 0) < v4.2.length) <|
 req ((q2.getD v4.1.toNat 0).toNat < v4.2.length) <|
 some (.go (Xaa .i64 (v4.1 + 1), (v4.2.set ((q2.getD v4.1.toNat 0).toNat) (p1.getD v4.1.toNat 0))))) (
 some (.done v4.2))
def Xfh (p0 : Int) (p1 : (List Int)) : Option ((List Int) × Bool) :=
 bnd (
 sel (p0 != 4) (
 sel (p0 != 8) (
 some true) (
 some ((p1.length : Int) != (Xaa .i64 (p0 * p0))))) (
 some ((p1.length : Int) != (Xaa .i64 (p0 * p0))))) fun v1 =>
 sel v1 (
 some (([] : List Int), false)) (
 req (0 ≤ (p1.length : Int) ∧ (p1.length : Int) ≤ (p1.length : Int) ∧ (p1.length : Int) * 8 ≤ 281474976710656) <|
 bnd (Xhe p0) fun q2 =>
 bnd (loop (Xit p1 q2) (0, (List.replicate (p1.length : Int).toNat (0 : Int)))) fun v6 =>
 some (v6, true))
def Xke (p0 : Int) : Option Int :=
 bnd (Xao p0 0 40) fun q1 =>
 sel (!q1) (
 some 0) (
 req ((6 : Int) ≠ 0) <|
 req (0 ≤ (p0.tmod 6) ∧ (p0.tmod 6) < ([10, 11, 13, 14, 16, 18]).length) <|
 req ((p0.tmod 6).toNat < ([10, 11, 13, 14, 16, 18]).length) <|
 req ((6 : Int) ≠ 0) <|
 req (0 ≤ (Xaa .i64 (p0.tdiv 6))) <|
 some (Xaa .i64 ((([10, 11, 13, 14, 16, 18]).getD ((p0.tmod 6).toNat) 0) * 2 ^ min (Xaa .i64 (p0.tdiv 6)).toNat (IntKind.bits .i64))))
def Xjg (p0 : Int) (p1 : Int) : Option Int :=
 bnd (Xao p0 (-5000) 5000) fun q1 =>
 sel (!q1) (
 some 0) (
 bnd (Xke p1) fun q2 =>
 some (Xaa .i64 (p0 * q2)))
def Xmn (p0 : Int) (p1 : Int) : Option Int :=
 bnd (
 bnd (Xao p0 0 7) fun q2 =>
 sel q2 (
 bnd (Xao p1 0 7) fun q3 =>
 some (!q3)) (
 some true)) fun v1 =>
 sel v1 (
 some 0) (
 req (0 ≤ (1 : Int)) <|
 req (0 ≤ (2 : Int)) <|
 req ((2 : Int) ≠ 0) <|
 sel (((Xaa .i64 ((Xaa .i64 ((IntKind.wrap .i64 (BitVec.ofInt (IntKind.bits .i64) (IntKind.wrap .i64 (BitVec.ofInt (IntKind.bits .i64) p0 &&& BitVec.ofInt (IntKind.bits .i64) p1).toNat) &&& BitVec.ofInt (IntKind.bits .i64) 1).toNat) + (IntKind.wrap .i64 (BitVec.ofInt (IntKind.bits .i64) ((IntKind.wrap .i64 (BitVec.ofInt (IntKind.bits .i64) p0 &&& BitVec.ofInt (IntKind.bits .i64) p1).toNat) / 2 ^ min (1 : Int).toNat (IntKind.bits .i64)) &&& BitVec.ofInt (IntKind.bits .i64) 1).toNat))) + (IntKind.wrap .i64 (BitVec.ofInt (IntKind.bits .i64) ((IntKind.wrap .i64 (BitVec.ofInt (IntKind.bits .i64) p0 &&& BitVec.ofInt (IntKind.bits .i64) p1).toNat) / 2 ^ min (2 : Int).toNat (IntKind.bits .i64)) &&& BitVec.ofInt (IntKind.bits .i64) 1).toNat))).tmod 2) == 0) (
 some 1) (
 some (-1)))
def Xlo (p0 : (List Int)) (v31 : (Int × (List Int))) (v72 : (Int × (List Int))) (v85 : (Int × (List Int))) : Option (Lp (Int × (List Int)) (List Int)) :=
 sel (decide (v85.1 < 8)) (
 req (0 ≤ (Xaa .i64 ((Xaa .i64 (8 * v31.1)) + v72.1)) ∧ (Xaa .i64 ((Xaa .i64 (8 * v31.1)) + v72.1)) < v85.2.length) <|
 req ((Xaa .i64 ((Xaa .i64 (8 * v31.1)) + v72.1)).toNat < v85.2.length) <|
 bnd (Xmn v72.1 v85.1) fun q89 =>
 req (0 ≤ (Xaa .i64 ((Xaa .i64 (8 * v31.1)) + v85.1)) ∧ (Xaa .i64 ((Xaa .i64 (8 * v31.1)) + v85.1)) < p0.length) <|
 req (0 ≤ (Xaa .i64 ((Xaa .i64 (8 * v31.1)) + v72.1)) ∧ (Xaa .i64 ((Xaa .i64 (8 * v31.1)) + v72.1)) < v85.2.length) <|
 req ((Xaa .i64 ((Xaa .i64 (8 * v31.1)) + v72.1)).toNat < v85.2.length) <|
 some (.go (Xaa .i64 (v85.1 + 1), (v85.2.set ((Xaa .i64 ((Xaa .i64 (8 * v31.1)) + v72.1)).toNat) (Xaa .i64 ((v85.2.getD ((Xaa .i64 ((Xaa .i64 (8 * v31.1)) + v72.1)).toNat) 0) + (Xaa .i64 (q89 * (p0.getD (Xaa .i64 ((Xaa .i64 (8 * v31.1)) + v85.1)).toNat 0))))))))) (
 some (.done v85.2))
def Xs4 (p0 : (List Int)) (v31 : (Int × (List Int))) (v72 : (Int × (List Int))) : Option (Lp (Int × (List Int)) (List Int)) :=
 sel (decide (v72.1 < 8)) (
 bnd (loop (Xlo p0 v31 v72) (0, v72.2)) fun v88 =>
 some (.go (Xaa .i64 (v72.1 + 1), v88))) (
 some (.done v72.2))
def Xs3 (p0 : (List Int)) (v31 : (Int × (List Int))) : Option (Lp (Int × (List Int)) (List Int)) :=
 sel (decide (v31.1 < 8)) (
 bnd (loop (Xs4 p0 v31) (0, v31.2)) fun v82 =>
 some (.go (Xaa .i64 (v31.1 + 1), v82))) (
 some (.done v31.2))
def Xjl (v62 : (List Int)) (v123 : (Int × (List Int))) (v164 : (Int × (List Int))) (v177 : (Int × (List Int))) : Option (Lp (Int × (List Int)) (List Int)) :=
 sel (decide (v177.1 < 8)) (
 req (0 ≤ (Xaa .i64 ((Xaa .i64 (8 * v123.1)) + v164.1)) ∧ (Xaa .i64 ((Xaa .i64 (8 * v123.1)) + v164.1)) < v177.2.length) <|
 req ((Xaa .i64 ((Xaa .i64 (8 * v123.1)) + v164.1)).toNat < v177.2.length) <|
 bnd (Xmn v123.1 v177.1) fun q181 =>
 req (0 ≤ (Xaa .i64 ((Xaa .i64 (8 * v177.1)) + v164.1)) ∧ (Xaa .i64 ((Xaa .i64 (8 * v177.1)) + v164.1)) < v62.length) <|
 req ((Xaa .i64 ((Xaa .i64 (8 * v177.1)) + v164.1)).toNat < v62.length) <|
 req (0 ≤ (Xaa .i64 ((Xaa .i64 (8 * v123.1)) + v164.1)) ∧ (Xaa .i64 ((Xaa .i64 (8 * v123.1)) + v164.1)) < v177.2.length) <|
 req ((Xaa .i64 ((Xaa .i64 (8 * v123.1)) + v164.1)).toNat < v177.2.length) <|
 some (.go (Xaa .i64 (v177.1 + 1), (v177.2.set ((Xaa .i64 ((Xaa .i64 (8 * v123.1)) + v164.1)).toNat) (Xaa .i64 ((v177.2.getD ((Xaa .i64 ((Xaa .i64 (8 * v123.1)) + v164.1)).toNat) 0) + (Xaa .i64 (q181 * (v62.getD ((Xaa .i64 ((Xaa .i64 (8 * v177.1)) + v164.1)).toNat) 0))))))))) (
 some (.done v177.2))
def Xq6 (v62 : (List Int)) (v123 : (Int × (List Int))) (v164 : (Int × (List Int))) : Option (Lp (Int × (List Int)) (List Int)) :=
 sel (decide (v164.1 < 8)) (
 bnd (loop (Xjl v62 v123 v164) (0, v164.2)) fun v180 =>
 some (.go (Xaa .i64 (v164.1 + 1), v180))) (
 some (.done v164.2))
def Xq5 (v62 : (List Int)) (v123 : (Int × (List Int))) : Option (Lp (Int × (List Int)) (List Int)) :=
 sel (decide (v123.1 < 8)) (
 bnd (loop (Xq6 v62 v123) (0, v123.2)) fun v174 =>
 some (.go (Xaa .i64 (v123.1 + 1), v174))) (
 some (.done v123.2))
def Xr0 (p0 : (List Int)) : Option (List Int) :=
 req (0 ≤ (64 : Int) ∧ (64 : Int) ≤ (64 : Int) ∧ (64 : Int) * 8 ≤ 281474976710656) <|
 bnd (loop (Xs3 p0) (0, (List.replicate (64 : Int).toNat (0 : Int)))) fun v62 =>
 req (0 ≤ (64 : Int) ∧ (64 : Int) ≤ (64 : Int) ∧ (64 : Int) * 8 ≤ 281474976710656) <|
 bnd (loop (Xq5 v62) (0, (List.replicate (64 : Int).toNat (0 : Int)))) fun v154 =>
 some v154
def Xo0 (p0 : Int) (p1 : Int) : Option Int :=
 req (p1 ≠ 0) <|
 bnd (
 req (p1 ≠ 0) <|
 sel (decide ((p0.tmod p1) < 0)) (
 some (Xaa .i64 ((Xaa .i64 (p0.tdiv p1)) - 1))) (
 some (Xaa .i64 (p0.tdiv p1)))) fun v1 =>
 some v1
def Xpj (p0 : (List Int)) (v3 : (Int × (List Int))) : Option (Lp (Int × (List Int)) (List Int)) :=
 sel (decide (v3.1 < (p0.length : Int))) (
 req (0 ≤ v3.1 ∧ v3.1 < v3.2.length) <|
 req (v3.1.toNat < v3.2.length) <|
 bnd (Xo0 (Xaa .i64 ((v3.2.getD v3.1.toNat 0) + 32)) 64) fun q7 =>
 req (0 ≤ v3.1 ∧ v3.1 < v3.2.length) <|
 req (v3.1.toNat < v3.2.length) <|
 some (.go (Xaa .i64 (v3.1 + 1), (v3.2.set v3.1.toNat q7)))) (
 some (.done v3.2))
def Xkw (p0 : (List Int)) : Option ((List Int) × (List Int)) :=
 bnd (loop (Xpj p0) (0, p0)) fun v6 =>
 some (v6, v6)
def Xjf (p0 : (List Int)) : Option (List Int) :=
 bnd (Xbf p0 64 (-10000000) 10000000) fun q1 =>
 sel (!q1) (
 some ([] : List Int)) (
 bnd (Xr0 p0) fun q2 =>
 bnd (Xkw q2) fun q3 =>
 some q3.2)
def Xsx (p0 : Int) : Option Int :=
 bnd (Xao p0 0 15) fun q1 =>
 sel (!q1) (
 some (-1)) (
 req ((4 : Int) ≠ 0) <|
 req ((2 : Int) ≠ 0) <|
 req ((4 : Int) ≠ 0) <|
 req ((2 : Int) ≠ 0) <|
 bnd (
 sel (((Xaa .i64 (p0.tdiv 4)).tmod 2) == 0) (
 some (((p0.tmod 4).tmod 2) == 0)) (
 some false)) fun v2 =>
 sel v2 (
 some 0) (
 bnd (
 sel (((Xaa .i64 (p0.tdiv 4)).tmod 2) == 1) (
 some (((p0.tmod 4).tmod 2) == 1)) (
 some false)) fun v3 =>
 sel v3 (
 some 1) (
 some 2)))
def Xnr (p0 : Int) (p1 : Int) : Option Int :=
 bnd (
 bnd (Xao p0 0 40) fun q2 =>
 sel q2 (
 bnd (Xao p1 0 15) fun q3 =>
 some (!q3)) (
 some true)) fun v1 =>
 sel v1 (
 some 0) (
 req ((6 : Int) ≠ 0) <|
 bnd (Xsx p1) fun q4 =>
 req (0 ≤ (p0.tmod 6) ∧ (p0.tmod 6) < 6) <|
 req (0 ≤ q4 ∧ q4 < 3) <|
 req (((0 + (p0.tmod 6).toNat * 3) + q4.toNat * 1) < ([10, 16, 13, 11, 18, 14, 13, 20, 16, 14, 23, 18, 16, 25, 20, 18, 29, 23] : List Int).length) <|
 req ((6 : Int) ≠ 0) <|
 req (0 ≤ (Xaa .i64 (p0.tdiv 6))) <|
 some (Xaa .i64 ((([10, 16, 13, 11, 18, 14, 13, 20, 16, 14, 23, 18, 16, 25, 20, 18, 29, 23] : List Int).getD ((0 + (p0.tmod 6).toNat * 3) + q4.toNat * 1) 0) * 2 ^ min (Xaa .i64 (p0.tdiv 6)).toNat (IntKind.bits .i64))))
def Xji (p0 : Int) (p1 : Int) (p2 : Int) : Option Int :=
 bnd (Xao p0 (-5000) 5000) fun q1 =>
 sel (!q1) (
 some 0) (
 bnd (Xnr p1 p2) fun q2 =>
 some (Xaa .i64 (p0 * q2)))
def Xea (p0 : Int) (p1 : Int) (p2 : Int) (p3 : Int) : Option (Int × Int × Int × Int) :=
 bnd (Xo0 p1 2) fun q1 =>
 bnd (Xo0 p3 2) fun q2 =>
 some (Xaa .i64 ((Xaa .i64 (p0 + p2)) + (Xaa .i64 (p1 + q2))), Xaa .i64 ((Xaa .i64 (p0 - p2)) + (Xaa .i64 (q1 - p3))), Xaa .i64 ((Xaa .i64 (p0 - p2)) - (Xaa .i64 (q1 - p3))), Xaa .i64 ((Xaa .i64 (p0 + p2)) - (Xaa .i64 (p1 + q2))))
def Xgi (v4 : (Int × (List Int))) : Option (Lp (Int × (List Int)) (List Int)) :=
 sel (decide (v4.1 < 16)) (
 req (0 ≤ v4.1 ∧ v4.1 < v4.2.length) <|
 req (v4.1.toNat < v4.2.length) <|
 req (0 ≤ (Xaa .i64 (v4.1 + 1)) ∧ (Xaa .i64 (v4.1 + 1)) < v4.2.length) <|
 req ((Xaa .i64 (v4.1 + 1)).toNat < v4.2.length) <|
 req (0 ≤ (Xaa .i64 (v4.1 + 2)) ∧ (Xaa .i64 (v4.1 + 2)) < v4.2.length) <|
 req ((Xaa .i64 (v4.1 + 2)).toNat < v4.2.length) <|
 req (0 ≤ (Xaa .i64 (v4.1 + 3)) ∧ (Xaa .i64 (v4.1 + 3)) < v4.2.length) <|
 req ((Xaa .i64 (v4.1 + 3)).toNat < v4.2.length) <|
 bnd (Xea (v4.2.getD v4.1.toNat 0) (v4.2.getD ((Xaa .i64 (v4.1 + 1)).toNat) 0) (v4.2.getD ((Xaa .i64 (v4.1 + 2)).toNat) 0) (v4.2.getD ((Xaa .i64 (v4.1 + 3)).toNat) 0)) fun q8 =>
 req (0 ≤ v4.1 ∧ v4.1 ≤ (Xaa .i64 (v4.1 + 4)) ∧ (Xaa .i64 (v4.1 + 4)) ≤ (v4.2.length : Int)) <|
 req ((v4.1.toNat + ((Xaa .i64 (v4.1 + 4)).toNat - v4.1.toNat) ≤ v4.2.length ∧ ([q8.1, q8.2.1, q8.2.2.1, q8.2.2.2]).length ≤ ((Xaa .i64 (v4.1 + 4)).toNat - v4.1.toNat))) <|
 some (.go (Xaa .i64 (v4.1 + 4), (over v4.2 v4.1.toNat ([q8.1, q8.2.1, q8.2.2.1, q8.2.2.2]))))) (
 some (.done v4.2))
def Xf2 (v17 : (Int × (List Int))) (q26 : (Int × Int × Int × Int)) (v28 : (Int × (List Int))) : Option (Lp (Int × (List Int)) (List Int)) :=
 sel (decide (v28.1 < 4)) (
 req (0 ≤ v28.1 ∧ v28.1 < ([q26.1, q26.2.1, q26.2.2.1, q26.2.2.2] : List Int).length) <|
 req (0 ≤ (Xaa .i64 (v17.1 + (Xaa .i64 (4 * v28.1)))) ∧ (Xaa .i64 (v17.1 + (Xaa .i64 (4 * v28.1)))) < v28.2.length) <|
 req ((Xaa .i64 (v17.1 + (Xaa .i64 (4 * v28.1)))).toNat < v28.2.length) <|
 some (.go (Xaa .i64 (v28.1 + 1), (v28.2.set ((Xaa .i64 (v17.1 + (Xaa .i64 (4 * v28.1)))).toNat) (([q26.1, q26.2.1, q26.2.2.1, q26.2.2.2] : List Int).getD v28.1.toNat 0))))) (
 some (.done v28.2))
def Xf1 (v17 : (Int × (List Int))) : Option (Lp (Int × (List Int)) (List Int)) :=
 sel (decide (v17.1 < 4)) (
 req (0 ≤ v17.1 ∧ v17.1 < v17.2.length) <|
 req (v17.1.toNat < v17.2.length) <|
 req (0 ≤ (Xaa .i64 (v17.1 + 4)) ∧ (Xaa .i64 (v17.1 + 4)) < v17.2.length) <|
 req ((Xaa .i64 (v17.1 + 4)).toNat < v17.2.length) <|
 req (0 ≤ (Xaa .i64 (v17.1 + 8)) ∧ (Xaa .i64 (v17.1 + 8)) < v17.2.length) <|
 req ((Xaa .i64 (v17.1 + 8)).toNat < v17.2.length) <|
 req (0 ≤ (Xaa .i64 (v17.1 + 12)) ∧ (Xaa .i64 (v17.1 + 12)) < v17.2.length) <|
 req ((Xaa .i64 (v17.1 + 12)).toNat < v17.2.length) <|
 bnd (Xea (v17.2.getD v17.1.toNat 0) (v17.2.getD ((Xaa .i64 (v17.1 + 4)).toNat) 0) (v17.2.getD ((Xaa .i64 (v17.1 + 8)).toNat) 0) (v17.2.getD ((Xaa .i64 (v17.1 + 12)).toNat) 0)) fun q26 =>
 bnd (loop (Xf2 v17 q26) (0, v17.2)) fun v30 =>
 some (.go (Xaa .i64 (v17.1 + 1), v30))) (
 some (.done v17.2))
def Xcf (p0 : (List Int)) : Option (List Int) :=
 bnd (Xdt p0) fun q1 =>
 bnd (loop (Xgi) (0, q1)) fun v7 =>
 bnd (loop (Xf1) (0, v7)) fun v25 =>
 some v25
def Xlb (p0 : (List Int)) : Option (List Int) :=
 bnd (Xbf p0 16 (-10000000) 10000000) fun q1 =>
 sel (!q1) (
 some ([] : List Int)) (
 bnd (Xcf p0) fun q2 =>
 bnd (Xkw q2) fun q3 =>
 some q3.2)
def Xoa (p0 : Int) (v7 : (Int × (List Int))) (v16 : (Int × (List Int))) : Option (Lp (Int × (List Int)) (List Int)) :=
 sel (decide (v16.1 < 4)) (
 req ((2 : Int) ≠ 0) <|
 req ((2 : Int) ≠ 0) <|
 req ((v16.2.length + ([Xaa .i64 ((Xaa .i64 ((Xaa .i64 ((Xaa .i64 (v7.1 + (Xaa .i64 ((Xaa .i64 (p0.tdiv 2)) * 4)))) * 8)) + v16.1)) + (Xaa .i64 ((p0.tmod 2) * 4)))]).length) * 8 ≤ 140737488355328 ∧ v16.2.length + ([Xaa .i64 ((Xaa .i64 ((Xaa .i64 ((Xaa .i64 (v7.1 + (Xaa .i64 ((Xaa .i64 (p0.tdiv 2)) * 4)))) * 8)) + v16.1)) + (Xaa .i64 ((p0.tmod 2) * 4)))]).length ≤ maxLen) <|
 some (.go (Xaa .i64 (v16.1 + 1), (v16.2 ++ ([Xaa .i64 ((Xaa .i64 ((Xaa .i64 ((Xaa .i64 (v7.1 + (Xaa .i64 ((Xaa .i64 (p0.tdiv 2)) * 4)))) * 8)) + v16.1)) + (Xaa .i64 ((p0.tmod 2) * 4)))]))))) (
 some (.done v16.2))
def Xj2 (p0 : Int) (v7 : (Int × (List Int))) : Option (Lp (Int × (List Int)) (List Int)) :=
 sel (decide (v7.1 < 4)) (
 bnd (loop (Xoa p0 v7) (0, v7.2)) fun v18 =>
 some (.go (Xaa .i64 (v7.1 + 1), v18))) (
 some (.done v7.2))
def Xkt (p0 : Int) : Option (List Int) :=
 bnd (loop (Xj2 p0) (0, ([] : List Int))) fun v14 =>
 some v14
def Xe0 (p1 : Xfs) (q5 : ((List Int) × Bool)) (v8 : (Int × (List Int))) : Option (Lp (Int × (List Int)) (List Int)) :=
 sel (decide (v8.1 < (q5.1.length : Int))) (
 req (0 ≤ v8.1 ∧ v8.1 < v8.2.length) <|
 req (v8.1.toNat < v8.2.length) <|
 bnd (Xjg (v8.2.getD v8.1.toNat 0) p1.Qp) fun q12 =>
 req (0 ≤ v8.1 ∧ v8.1 < v8.2.length) <|
 req (v8.1.toNat < v8.2.length) <|
 some (.go (Xaa .i64 (v8.1 + 1), (v8.2.set v8.1.toNat q12)))) (
 some (.done v8.2))
def Xeb (p1 : Xfs) (q51 : ((List Int) × Bool)) (v54 : (Int × (List Int))) : Option (Lp (Int × (List Int)) (List Int)) :=
 sel (decide (v54.1 < (q51.1.length : Int))) (
 req (0 ≤ v54.1 ∧ v54.1 < v54.2.length) <|
 req (v54.1.toNat < v54.2.length) <|
 bnd (Xji (v54.2.getD v54.1.toNat 0) p1.Qp v54.1) fun q58 =>
 req (0 ≤ v54.1 ∧ v54.1 < v54.2.length) <|
 req (v54.1.toNat < v54.2.length) <|
 some (.go (Xaa .i64 (v54.1 + 1), (v54.2.set v54.1.toNat q58)))) (
 some (.done v54.2))
def Xgp (q60 : (List Int)) (q61 : (List Int)) (v63 : (Int × (List Int))) : Option (Lp (Int × (List Int)) (List Int)) :=
 sel (decide (v63.1 < (q61.length : Int))) (
 req (0 ≤ v63.1 ∧ v63.1 < q61.length) <|
 req (v63.1.toNat < q61.length) <|
 req (0 ≤ v63.1 ∧ v63.1 < q60.length) <|
 req (v63.1.toNat < q60.length) <|
 req (0 ≤ (q61.getD v63.1.toNat 0) ∧ (q61.getD v63.1.toNat 0) < v63.2.length) <|
 req ((q61.getD v63.1.toNat 0).toNat < v63.2.length) <|
 some (.go (Xaa .i64 (v63.1 + 1), (v63.2.set ((q61.getD v63.1.toNat 0).toNat) (q60.getD v63.1.toNat 0))))) (
 some (.done v63.2))
def Xkc (p0 : (List Int)) (p1 : Xfs) (v32 : (Int × (List Int))) : Option (Lp (Int × (List Int)) (List Int)) :=
 sel (decide (v32.1 < 4)) (
 req (0 ≤ (Xaa .i64 (16 * v32.1)) ∧ (Xaa .i64 (16 * v32.1)) ≤ (Xaa .i64 ((Xaa .i64 (16 * v32.1)) + 16)) ∧ (Xaa .i64 ((Xaa .i64 (16 * v32.1)) + 16)) ≤ (p0.length : Int)) <|
 bnd (Xfh 4 ((p0.drop (Xaa .i64 (16 * v32.1)).toNat).take ((Xaa .i64 ((Xaa .i64 (16 * v32.1)) + 16)).toNat - (Xaa .i64 (16 * v32.1)).toNat))) fun q51 =>
 bnd (loop (Xeb p1 q51) (0, q51.1)) fun v57 =>
 bnd (Xlb v57) fun q60 =>
 bnd (Xkt v32.1) fun q61 =>
 bnd (loop (Xgp q60 q61) (0, v32.2)) fun v65 =>
 some (.go (Xaa .i64 (v32.1 + 1), v65))) (
 some (.done v32.2))
def Xhq (p0 : (List Int)) (p1 : Xfs) : Option ((List Int) × Bool) :=
 bnd (
 bnd (Xfi p0) fun q2 =>
 sel q2 (
 bnd (Xff p1) fun q3 =>
 some (!q3)) (
 some true)) fun v1 =>
 sel v1 (
 some (([] : List Int), false)) (
 sel p1.Exact (
 bnd (Xfh 8 p0) fun q4 =>
 some (q4.1, q4.2)) (
 sel p1.Large (
 bnd (Xfh 8 p0) fun q5 =>
 bnd (loop (Xe0 p1 q5) (0, q5.1)) fun v11 =>
 bnd (Xjf v11) fun q14 =>
 some (q14, true)) (
 req (0 ≤ (64 : Int) ∧ (64 : Int) ≤ (64 : Int) ∧ (64 : Int) * 8 ≤ 281474976710656) <|
 bnd (loop (Xkc p0 p1) (0, (List.replicate (64 : Int).toNat (0 : Int)))) fun v50 =>
 some (v50, true))))
def Xnd (p0 : (List Int)) (p1 : (List Int)) (v6 : (Int × (List Int))) : Option (Lp (Int × (List Int)) (List Int)) :=
 sel (decide (v6.1 < (p0.length : Int))) (
 req (0 ≤ v6.1 ∧ v6.1 < p0.length) <|
 req (0 ≤ v6.1 ∧ v6.1 < p1.length) <|
 bnd (Xco (Xaa .i64 ((p0.getD v6.1.toNat 0) + (p1.getD v6.1.toNat 0))) 0 255) fun q10 =>
 req ((v6.2.length + ([q10]).length) * 8 ≤ 140737488355328 ∧ v6.2.length + ([q10]).length ≤ maxLen) <|
 some (.go (Xaa .i64 (v6.1 + 1), (v6.2 ++ ([q10]))))) (
 some (.done v6.2))
def Xmj (p0 : (List Int)) (p1 : (List Int)) : Option (List Int) :=
 bnd (
 bnd (Xbf p0 64 0 255) fun q2 =>
 sel q2 (
 bnd (Xbf p1 64 (-10000000) 10000000) fun q3 =>
 some (!q3)) (
 some true)) fun v1 =>
 sel v1 (
 some ([] : List Int)) (
 bnd (loop (Xnd p0 p1) (0, ([] : List Int))) fun v9 =>
 some v9)
def Xla (p0 : Pic) (p1 : Int) (p2 : Int) (v9 : (Int × (List Int) × (List Int))) : Option (Lp (Int × (List Int) × (List Int)) ((List Int) × (List Int))) :=
 sel (decide (v9.1 < 8)) (
 bnd (
 bnd (
 sel (decide (p2 > 0)) (
 bnd (Xe3 p0 (Xaa .i64 (p1 + v9.1)) (Xaa .i64 (p2 - 1))) fun q18 =>
 req ((v9.2.1.length + ([q18]).length) * 8 ≤ 140737488355328 ∧ v9.2.1.length + ([q18]).length ≤ maxLen) <|
 some (v9.2.1 ++ ([q18]))) (
 some v9.2.1)) fun v17 =>
 sel (decide (p1 > 0)) (
 bnd (Xe3 p0 (Xaa .i64 (p1 - 1)) (Xaa .i64 (p2 + v9.1))) fun q19 =>
 req ((v9.2.2.length + ([q19]).length) * 8 ≤ 140737488355328 ∧ v9.2.2.length + ([q19]).length ≤ maxLen) <|
 some (v17, (v9.2.2 ++ ([q19])))) (
 some (v17, v9.2.2))) fun v16 =>
 some (.go (Xaa .i64 (v9.1 + 1), v16.1, v16.2))) (
 some (.done (v9.2.1, v9.2.2)))
def Xkn (p0 : Pic) (p1 : Int) (p2 : Int) : Option (Xim × Bool) :=
 bnd (
 bnd (Xcx p0) fun q2 =>
 sel q2 (
 bnd (Xbw p0 p1 p2) fun q3 =>
 some (!q3)) (
 some true)) fun v1 =>
 sel v1 (
 some ((⟨[], [], 0⟩ : Xim), false)) (
 bnd (loop (Xla p0 p1 p2) (0, [], [])) fun v15 =>
 bnd (
 bnd (
 sel (decide (p1 > 0)) (
 some (decide (p2 > 0))) (
 some false)) fun v22 =>
 sel v22 (
 bnd (Xe3 p0 (Xaa .i64 (p1 - 1)) (Xaa .i64 (p2 - 1))) fun q23 =>
 some q23) (
 some (-1))) fun v21 =>
 some ((⟨v15.1, v15.2, v21⟩ : Xim), true))
def Xfx (p0 : Xim) (v4 : Int) : Option (Lp Int (Ou Unit Bool)) :=
 sel (decide (v4 < (([p0.Above, p0.Left]).length : Int))) (
 req (0 ≤ v4 ∧ v4 < ([p0.Above, p0.Left]).length) <|
 req (v4.toNat < ([p0.Above, p0.Left]).length) <|
 bnd (
 sel (decide (((([p0.Above, p0.Left]).getD v4.toNat Xgn).length : Int) > 0)) (
 bnd (Xbf (([p0.Above, p0.Left]).getD v4.toNat Xgn) 8 0 255) fun q10 =>
 some (!q10)) (
 some false)) fun v9 =>
 sel v9 (
 some (.done (.ret false))) (
 some (.go (Xaa .i64 (v4 + 1))))) (
 some (.done (.out ())))
def Xko (p0 : Xim) : Option Bool :=
 bnd (loop (Xfx p0) 0) fun o11 => match o11 with
| .out v8 => (
 bnd (Xao p0.Corner (-1) 255) fun q12 =>
 some q12)
| .ret r => some r
def Xms (p0 : (List Int)) : Option (List Int) :=
 sel ((p0.length : Int) == 0) (
 some ([128, 128, 128, 128, 128, 128, 128, 128])) (
 some p0)
def Xg1 (p0 : Int) (v4 : Int) (q7 : (List Int)) (q8 : (List Int)) (v9 : Int) (v22 : (Int × (List Int))) (v39 : (Int × (List Int))) : Option (Lp (Int × (List Int)) (List Int)) :=
 sel (decide (v39.1 < 8)) (
 bnd (
 sel (p0 == 0) (
 req ((v39.2.length + ([v4]).length) * 8 ≤ 140737488355328 ∧ v39.2.length + ([v4]).length ≤ maxLen) <|
 some (v39.2 ++ ([v4]))) (
 sel (p0 == 1) (
 req (0 ≤ v39.1 ∧ v39.1 < q7.length) <|
 req ((v39.2.length + ([(q7.getD v39.1.toNat 0)]).length) * 8 ≤ 140737488355328 ∧ v39.2.length + ([(q7.getD v39.1.toNat 0)]).length ≤ maxLen) <|
 some (v39.2 ++ ([(q7.getD v39.1.toNat 0)]))) (
 sel (p0 == 2) (
 req (0 ≤ v22.1 ∧ v22.1 < q8.length) <|
 req ((v39.2.length + ([(q8.getD v22.1.toNat 0)]).length) * 8 ≤ 140737488355328 ∧ v39.2.length + ([(q8.getD v22.1.toNat 0)]).length ≤ maxLen) <|
 some (v39.2 ++ ([(q8.getD v22.1.toNat 0)]))) (
 req (0 ≤ v22.1 ∧ v22.1 < q8.length) <|
 req (0 ≤ v39.1 ∧ v39.1 < q7.length) <|
 bnd (Xco (Xaa .i64 ((Xaa .i64 ((q8.getD v22.1.toNat 0) + (q7.getD v39.1.toNat 0))) - v9)) 0 255) fun q45 =>
 req ((v39.2.length + ([q45]).length) * 8 ≤ 140737488355328 ∧ v39.2.length + ([q45]).length ≤ maxLen) <|
 some (v39.2 ++ ([q45])))))) fun v44 =>
 some (.go (Xaa .i64 (v39.1 + 1), v44))) (
 some (.done v39.2))
def Xn5 (p0 : Int) (v4 : Int) (q7 : (List Int)) (q8 : (List Int)) (v9 : Int) (v22 : (Int × (List Int))) : Option (Lp (Int × (List Int)) (List Int)) :=
 sel (decide (v22.1 < 8)) (
 bnd (loop (Xg1 p0 v4 q7 q8 v9 v22) (0, v22.2)) fun v43 =>
 some (.go (Xaa .i64 (v22.1 + 1), v43))) (
 some (.done v22.2))
def Xgh (p0 : Int) (p1 : Xim) : Option (List Int) :=
 bnd (
 bnd (Xko p1) fun q2 =>
 sel q2 (
 bnd (Xao p0 0 3) fun q3 =>
 some (!q3)) (
 some true)) fun v1 =>
 sel v1 (
 some ([] : List Int)) (
 bnd (
 sel (decide ((Xaa .i64 ((p1.Above.length : Int) + (p1.Left.length : Int))) > 0)) (
 bnd (Xb6 p1.Above) fun q5 =>
 bnd (Xb6 p1.Left) fun q6 =>
 req ((2 : Int) ≠ 0) <|
 req ((Xaa .i64 ((p1.Above.length : Int) + (p1.Left.length : Int))) ≠ 0) <|
 some (Xaa .i64 ((Xaa .i64 ((Xaa .i64 (q5 + q6)) + (Xaa .i64 ((Xaa .i64 ((p1.Above.length : Int) + (p1.Left.length : Int))).tdiv 2)))).tdiv (Xaa .i64 ((p1.Above.length : Int) + (p1.Left.length : Int)))))) (
 some 128)) fun v4 =>
 bnd (Xms p1.Above) fun q7 =>
 bnd (Xms p1.Left) fun q8 =>
 bnd (
 sel (decide (p1.Corner < 0)) (
 some 128) (
 some p1.Corner)) fun v9 =>
 bnd (loop (Xn5 p0 v4 q7 q8 v9) (0, ([] : List Int))) fun v35 =>
 some v35)
def Xed (p0 : Pic) (p1 : Pic) (p2 : Int) (p3 : Int) (p4 : Xfs) (p5 : Int) (p6 : Int) (p7 : Xau) : Option ((List Int) × Bool) :=
 bnd (
 bnd (Xcx p0) fun q2 =>
 sel q2 (
 bnd (Xbw p0 p5 p6) fun q3 =>
 sel q3 (
 bnd (Xao p2 0 256) fun q4 =>
 sel q4 (
 bnd (Xao p3 0 256) fun q5 =>
 sel q5 (
 bnd (Xis p7) fun q6 =>
 sel q6 (
 bnd (Xff p4) fun q7 =>
 sel q7 (
 bnd (Xee p7 p4) fun q8 =>
 sel q8 (
 sel (p7.Kind != 2) (
 bnd (Xcx p1) fun q9 =>
 some (!q9)) (
 some false)) (
 some true)) (
 some true)) (
 some true)) (
 some true)) (
 some true)) (
 some true)) (
 some true)) fun v1 =>
 sel v1 (
 some (([] : List Int), false)) (
 sel (p7.Kind == 0) (
 bnd (Xbu p1 (Xaa .i64 (p2 + p5)) (Xaa .i64 (p3 + p6))) fun q10 =>
 some (q10, true)) (
 bnd (Xhq p7.Levels p4) fun q11 =>
 sel (p7.Kind == 1) (
 bnd (Xbu p1 (Xaa .i64 ((Xaa .i64 (p2 + p5)) + p7.Dx)) (Xaa .i64 ((Xaa .i64 (p3 + p6)) + p7.Dy))) fun q12 =>
 bnd (Xmj q12 q11.1) fun q13 =>
 some (q13, true)) (
 bnd (Xkn p0 p5 p6) fun q14 =>
 bnd (Xgh p7.Mode q14.1) fun q15 =>
 bnd (Xmj q15 q11.1) fun q16 =>
 some (q16, true))))
def Yav (p0 : Pic) : Option (List Int) :=
 req (p0.Dots.size ≤ maxLen) <|
 some (Xa8 p0.Dots)
def Xs2 (p0 : Pic) (p1 : Int) (p2 : Int) (p3 : (List Int)) (v3 : (Int × (List Int))) : Option (Lp (Int × (List Int)) (List Int)) :=
 sel (decide (v3.1 < (p3.length : Int))) (
 req (0 ≤ v3.1 ∧ v3.1 < p3.length) <|
 req ((8 : Int) ≠ 0) <|
 req ((8 : Int) ≠ 0) <|
 req (0 ≤ (Xaa .i64 ((Xaa .i64 ((Xaa .i64 ((Xaa .i64 (p2 + (Xaa .i64 (v3.1.tdiv 8)))) * p0.Wide)) + p1)) + (v3.1.tmod 8))) ∧ (Xaa .i64 ((Xaa .i64 ((Xaa .i64 ((Xaa .i64 (p2 + (Xaa .i64 (v3.1.tdiv 8)))) * p0.Wide)) + p1)) + (v3.1.tmod 8))) < v3.2.length) <|
 req ((Xaa .i64 ((Xaa .i64 ((Xaa .i64 ((Xaa .i64 (p2 + (Xaa .i64 (v3.1.tdiv 8)))) * p0.Wide)) + p1)) + (v3.1.tmod 8))).toNat < v3.2.length) <|
 some (.go (Xaa .i64 (v3.1 + 1), (v3.2.set ((Xaa .i64 ((Xaa .i64 ((Xaa .i64 ((Xaa .i64 (p2 + (Xaa .i64 (v3.1.tdiv 8)))) * p0.Wide)) + p1)) + (v3.1.tmod 8))).toNat) (Xaa .u8 ((p3.getD v3.1.toNat 0))))))) (
 some (.done v3.2))
def Ya0 (p0 : Pic) (p1 : Int) (p2 : Int) (p3 : (List Int)) : Option Pic :=
 bnd (Yav p0) fun q1 =>
 bnd (loop (Xs2 p0 p1 p2 p3) (0, q1)) fun v5 =>
 some (⟨p0.Wide, p0.High, (strOfNums v5)⟩ : Pic)
def Xkh (p0 : Rate) : Option Bool :=
 bnd (
 bnd (Xas p0.Qp 0 40) fun q2 =>
 sel q2 (
 bnd (Xas p0.Target 1 100000) fun q3 =>
 sel q3 (
 bnd (Xas p0.Debt (Xaa .i64 ((-8) * p0.Target)) (Xaa .i64 (8 * p0.Target))) fun q4 =>
 some q4) (
 some false)) (
 some false)) fun v1 =>
 some v1
def Xm7 (p0 : Seq) : Option (Int × Int) :=
 bnd (Xo5 p0) fun q1 =>
 sel (!q1) (
 some (0, 0)) (
 bnd (Xig p0.Cols) fun q2 =>
 bnd (Xig p0.Rows) fun q3 =>
 some (Xaa .i64 (8 * q2), Xaa .i64 (8 * q3)))
def Xd6 (p0 : Pic) : Option Bool :=
 bnd (
 bnd (Xas p0.Wide 1 256) fun q2 =>
 sel q2 (
 bnd (Xas p0.High 1 256) fun q3 =>
 sel q3 (
 some ((p0.Dots.size : Int) == (Xaa .i64 (p0.Wide * p0.High)))) (
 some false)) (
 some false)) fun v1 =>
 some v1
def Xgy (p0 : Source) : Option Bool :=
 bnd (
 bnd (Xic p0.Seq) fun q2 =>
 sel (q2 != 1) (
 some true) (
 bnd (Xo4 p0.Par) fun q3 =>
 sel q3 (
 bnd (Xkh p0.Rate) fun q4 =>
 sel q4 (
 sel (decide (p0.Frame < 0)) (
 some true) (
 req (0 ≤ (Xaa .u64 (p0.Seq.Bits))) <|
 some (decide (p0.Frame ≥ (Xaa .i64 (1 * 2 ^ min (Xaa .u64 (p0.Seq.Bits)).toNat (IntKind.bits .i64))))))) (
 some true)) (
 some true))) fun v1 =>
 sel v1 (
 some false) (
 bnd (
 bnd (Xas p0.Every 1 1000) fun q6 =>
 sel q6 (
 bnd (Xas p0.Since 0 1000) fun q7 =>
 sel q7 (
 bnd (Xas p0.Reach 0 4) fun q8 =>
 some (!q8)) (
 some true)) (
 some true)) fun v5 =>
 sel v5 (
 some false) (
 bnd (Xm7 p0.Seq) fun q9 =>
 sel p0.Has (
 bnd (
 bnd (Xd6 p0.Ref) fun q11 =>
 sel q11 (
 sel (p0.Ref.Wide == q9.1) (
 some (p0.Ref.High == q9.2)) (
 some false)) (
 some false)) fun v10 =>
 some v10) (
 bnd (
 sel (p0.Ref.Wide == 0) (
 sel (p0.Ref.High == 0) (
 some ((p0.Ref.Dots.size : Int) == 0)) (
 some false)) (
 some false)) fun v12 =>
 some v12)))
def Xb7 (p0 : Int) (p1 : Int) (p2 : Int) : Option Int :=
 bnd (
 sel (decide (p2 < p1)) (
 some true) (
 some (decide (p0 < p1)))) fun v1 =>
 sel v1 (
 some p1) (
 sel (decide (p0 > p2)) (
 some p2) (
 some p0))
def Xga (p0 : Pic) (p1 : Int) (p2 : Int) : Option Int :=
 bnd (Xd6 p0) fun q1 =>
 sel (!q1) (
 some (-1)) (
 bnd (Xb7 p2 0 (Xaa .i64 (p0.High - 1))) fun q2 =>
 bnd (Xb7 p1 0 (Xaa .i64 (p0.Wide - 1))) fun q3 =>
 req (0 ≤ (Xaa .i64 ((Xaa .i64 (q2 * p0.Wide)) + q3)) ∧ (Xaa .i64 ((Xaa .i64 (q2 * p0.Wide)) + q3)) < p0.Dots.size) <|
 some (Xaa .i64 ((Yqy p0.Dots (Xaa .i64 ((Xaa .i64 (q2 * p0.Wide)) + q3))))))
def Xkd (p0 : Rate) : Option Bool :=
 bnd (
 bnd (Xao p0.Qp 0 40) fun q2 =>
 sel q2 (
 bnd (Xao p0.Target 1 100000) fun q3 =>
 sel q3 (
 bnd (Xao p0.Debt (Xaa .i64 ((-8) * p0.Target)) (Xaa .i64 (8 * p0.Target))) fun q4 =>
 some q4) (
 some false)) (
 some false)) fun v1 =>
 some v1
def Xgr (p0 : Source) : Option Bool :=
 bnd (
 bnd (Xhv p0.Seq) fun q2 =>
 sel (q2 != 1) (
 some true) (
 bnd (Xml p0.Par) fun q3 =>
 sel q3 (
 bnd (Xkd p0.Rate) fun q4 =>
 sel q4 (
 req (0 ≤ p0.Seq.Bits) <|
 bnd (Xao p0.Frame 0 (Xaa .i64 ((Xaa .i64 (1 * 2 ^ min p0.Seq.Bits.toNat (IntKind.bits .i64))) - 1))) fun q5 =>
 sel q5 (
 bnd (Xao p0.Every 1 1000) fun q6 =>
 sel q6 (
 bnd (Xao p0.Since 0 1000) fun q7 =>
 sel q7 (
 bnd (Xao p0.Reach 0 4) fun q8 =>
 some (!q8)) (
 some true)) (
 some true)) (
 some true)) (
 some true)) (
 some true))) fun v1 =>
 sel v1 (
 some false) (
 sel p0.Has (
 bnd (Xrt p0.Ref p0.Seq) fun q9 =>
 some q9) (
 some (((p0.Ref.Wide == 0) && ((p0.Ref.High == 0) && (p0.Ref.Dots.toList == (⟨#[]⟩ : ByteArray).toList))) == true)))
def Xce (p0 : Source) : Option Source :=
 bnd (Xnt p0.Seq) fun q1 =>
 some (⟨q1, p0.Par, p0.Rate, p0.Frame, p0.Since, p0.Every, p0.Reach, p0.Has, p0.Ref⟩ : Source)
def Xpa (p0 : Source) (p1 : Bool) : Option Bool :=
 bnd (
 bnd (Xgr p0) fun q2 =>
 sel q2 (
 sel p1 (
 some true) (
 sel p0.Has (
 some (decide (p0.Since ≥ p0.Every))) (
 some true))) (
 some false)) fun v1 =>
 some v1
def Xrq (p0 : Rate) (p1 : Bool) : Option Int :=
 bnd (Xkd p0) fun q1 =>
 sel (!q1) (
 some 0) (
 sel p1 (
 some (if (Xaa .i64 (p0.Qp - 2)) > (0 : Int) then (Xaa .i64 (p0.Qp - 2)) else (0 : Int))) (
 some p0.Qp))
def Xnu (p0 : Int) : Option Int :=
 some (if (Xaa .i64 (0 - p0)) > p0 then (Xaa .i64 (0 - p0)) else p0)
def Xpg (p0 : (List Int)) (p1 : (List Int)) (v3 : (Int × Int)) : Option (Lp (Int × Int) Int) :=
 sel (decide (v3.2 < (p0.length : Int))) (
 req (0 ≤ v3.2 ∧ v3.2 < p0.length) <|
 req (0 ≤ v3.2 ∧ v3.2 < p1.length) <|
 bnd (Xnu (Xaa .i64 ((p0.getD v3.2.toNat 0) - (p1.getD v3.2.toNat 0)))) fun q7 =>
 some (.go (Xaa .i64 (v3.1 + q7), Xaa .i64 (v3.2 + 1)))) (
 some (.done v3.1))
def Xqo (p0 : (List Int)) (p1 : (List Int)) : Option Int :=
 bnd (loop (Xpg p0 p1) (0, 0)) fun v6 =>
 some v6
def Xcy (v2 : (Int × Int)) : Option (Lp (Int × Int) Int) :=
 sel (decide (v2.1 > 0)) (
 req (0 ≤ (1 : Int)) <|
 some (.go ((v2.1 / 2 ^ min (1 : Int).toNat (IntKind.bits .i64)), Xaa .i64 (v2.2 + 1)))) (
 some (.done v2.2))
def Xnf (p0 : Int) : Option Int :=
 bnd (loop (Xcy) (p0, 0)) fun v4 =>
 some v4
def Xln (v2 : (Int × Int × (List Int))) : Option (Lp (Int × Int × (List Int)) (List Int)) :=
 sel (decide (v2.2.1 ≥ 0)) (
 req (0 ≤ v2.2.1 ∧ v2.2.1 < v2.2.2.length) <|
 req (v2.2.1.toNat < v2.2.2.length) <|
 req (0 ≤ (1 : Int)) <|
 some (.go ((v2.1 / 2 ^ min (1 : Int).toNat (IntKind.bits .i64)), Xaa .i64 (v2.2.1 - 1), (v2.2.2.set v2.2.1.toNat (Xaa .u8 (Xaa .i64 (48 + (IntKind.wrap .i64 (BitVec.ofInt (IntKind.bits .i64) v2.1 &&& BitVec.ofInt (IntKind.bits .i64) 1).toNat)))))))) (
 some (.done v2.2.2))
def Xkx (p0 : Int) (p1 : Int) : Option ByteArray :=
 req (0 ≤ p1 ∧ p1 ≤ p1 ∧ p1 * 1 ≤ 281474976710656) <|
 bnd (loop (Xln) (p0, Xaa .i64 (p1 - 1), (List.replicate p1.toNat (0 : Int)))) fun v4 =>
 some (strOfNums v4)
def Xi8 (p0 : Int) : Option ByteArray :=
 bnd (Xnf (Xaa .i64 (p0 + 1))) fun q1 =>
 bnd (Xkx (Xaa .i64 (p0 + 1)) (Xaa .i64 ((Xaa .i64 (2 * q1)) - 1))) fun q2 =>
 some q2
def Xoz (p0 : Int) : Option (ByteArray × Bool) :=
 bnd (Xao p0 0 1000000) fun q1 =>
 sel (!q1) (
 some (⟨#[]⟩, false)) (
 bnd (Xi8 p0) fun q2 =>
 some (q2, true))
def Xmo (p0 : Int) : Option Int :=
 bnd (Xoz p0) fun q1 =>
 some (q1.1.size : Int)
def Xiq (p0 : (List Int)) (p1 : Xim) (v16 : (Int × Int × Int)) : Option (Lp (Int × Int × Int) (Int × Int)) :=
 sel (decide (v16.2.2 ≤ 3)) (
 bnd (
 bnd (Xgh v16.2.2 p1) fun q25 =>
 bnd (Xqo p0 q25) fun q26 =>
 bnd (Xmo v16.2.2) fun q27 =>
 bnd (
 sel (decide (v16.2.1 < 0)) (
 some true) (
 some (decide ((Xaa .i64 (q26 + q27)) < v16.2.1)))) fun v28 =>
 sel v28 (
 some (v16.2.2, Xaa .i64 (q26 + q27))) (
 some (v16.1, v16.2.1))) fun v24 =>
 some (.go (v24.1, v24.2, Xaa .i64 (v16.2.2 + 1)))) (
 some (.done (v16.1, v16.2.1)))
def Xje (p0 : (List Int)) (p1 : Xim) : Option (Int × Int) :=
 bnd (
 bnd (Xko p1) fun q2 =>
 sel q2 (
 bnd (Xbf p0 64 0 255) fun q3 =>
 some (!q3)) (
 some true)) fun v1 =>
 sel v1 (
 some (0, (-1))) (
 bnd (loop (Xiq p0 p1) (0, (-1), 0)) fun v23 =>
 some (v23.1, v23.2))
def Xj1 (p0 : (List Int)) (p1 : (List Int)) (v2 : (Int × (List Int))) : Option (Lp (Int × (List Int)) (List Int)) :=
 sel (decide (v2.1 < (p0.length : Int))) (
 req (0 ≤ v2.1 ∧ v2.1 < p0.length) <|
 req (0 ≤ v2.1 ∧ v2.1 < p1.length) <|
 req ((v2.2.length + ([Xaa .i64 ((p0.getD v2.1.toNat 0) - (p1.getD v2.1.toNat 0))]).length) * 8 ≤ 140737488355328 ∧ v2.2.length + ([Xaa .i64 ((p0.getD v2.1.toNat 0) - (p1.getD v2.1.toNat 0))]).length ≤ maxLen) <|
 some (.go (Xaa .i64 (v2.1 + 1), (v2.2 ++ ([Xaa .i64 ((p0.getD v2.1.toNat 0) - (p1.getD v2.1.toNat 0))]))))) (
 some (.done v2.2))
def Xgt (p0 : (List Int)) (p1 : (List Int)) : Option (List Int) :=
 bnd (loop (Xj1 p0 p1) (0, ([] : List Int))) fun v4 =>
 some v4
def Xlg (p1 : (List Int)) (q2 : (List Int)) (v4 : (Int × (List Int))) : Option (Lp (Int × (List Int)) (List Int)) :=
 sel (decide (v4.1 < (q2.length : Int))) (
 req (0 ≤ v4.1 ∧ v4.1 < q2.length) <|
 req (v4.1.toNat < q2.length) <|
 req (0 ≤ (q2.getD v4.1.toNat 0) ∧ (q2.getD v4.1.toNat 0) < p1.length) <|
 req ((v4.2.length + ([(p1.getD (q2.getD v4.1.toNat 0).toNat 0)]).length) * 8 ≤ 140737488355328 ∧ v4.2.length + ([(p1.getD (q2.getD v4.1.toNat 0).toNat 0)]).length ≤ maxLen) <|
 some (.go (Xaa .i64 (v4.1 + 1), (v4.2 ++ ([(p1.getD (q2.getD v4.1.toNat 0).toNat 0)]))))) (
 some (.done v4.2))
def Xhr (p0 : Int) (p1 : (List Int)) : Option ((List Int) × Bool) :=
 bnd (
 sel (p0 != 4) (
 sel (p0 != 8) (
 some true) (
 some ((p1.length : Int) != (Xaa .i64 (p0 * p0))))) (
 some ((p1.length : Int) != (Xaa .i64 (p0 * p0))))) fun v1 =>
 sel v1 (
 some (([] : List Int), false)) (
 bnd (Xhe p0) fun q2 =>
 bnd (loop (Xlg p1 q2) (0, ([] : List Int))) fun v6 =>
 some (v6, true))
def Xrp (p0 : (List Int)) : Option (List Int) :=
 bnd (Xbf p0 64 (-1000) 1000) fun q1 =>
 sel (!q1) (
 some ([] : List Int)) (
 bnd (Xr0 p0) fun q2 =>
 some q2)
def Xpk (p0 : Int) (p1 : Int) : Option Int :=
 sel (decide (p1 < 0)) (
 some (Xaa .i64 (0 - p0))) (
 some p0)
def Xhp (p0 : Int) (p1 : Int) : Option Int :=
 bnd (
 bnd (Xao p0 (-20000) 20000) fun q2 =>
 sel q2 (
 bnd (Xao p1 0 40) fun q3 =>
 some (!q3)) (
 some true)) fun v1 =>
 sel v1 (
 some 0) (
 bnd (Xke p1) fun q4 =>
 bnd (Xnu p0) fun q5 =>
 req ((2 : Int) ≠ 0) <|
 req (q4 ≠ 0) <|
 bnd (Xpk (Xaa .i64 ((Xaa .i64 (q5 + (Xaa .i64 (q4.tdiv 2)))).tdiv q4)) p0) fun q6 =>
 some q6)
def Xmi (p0 : Int) (p1 : Int) (p2 : Int) (p3 : Int) : Option (Int × Int × Int × Int) :=
 some (Xaa .i64 ((Xaa .i64 ((Xaa .i64 (p0 + p1)) + p2)) + p3), Xaa .i64 ((Xaa .i64 ((Xaa .i64 ((Xaa .i64 (2 * p0)) + p1)) - p2)) - (Xaa .i64 (2 * p3))), Xaa .i64 ((Xaa .i64 ((Xaa .i64 (p0 - p1)) - p2)) + p3), Xaa .i64 ((Xaa .i64 ((Xaa .i64 (p0 - (Xaa .i64 (2 * p1)))) + (Xaa .i64 (2 * p2)))) - p3))
def Xi6 (v4 : (Int × (List Int))) : Option (Lp (Int × (List Int)) (List Int)) :=
 sel (decide (v4.1 < 16)) (
 req (0 ≤ v4.1 ∧ v4.1 < v4.2.length) <|
 req (v4.1.toNat < v4.2.length) <|
 req (0 ≤ (Xaa .i64 (v4.1 + 1)) ∧ (Xaa .i64 (v4.1 + 1)) < v4.2.length) <|
 req ((Xaa .i64 (v4.1 + 1)).toNat < v4.2.length) <|
 req (0 ≤ (Xaa .i64 (v4.1 + 2)) ∧ (Xaa .i64 (v4.1 + 2)) < v4.2.length) <|
 req ((Xaa .i64 (v4.1 + 2)).toNat < v4.2.length) <|
 req (0 ≤ (Xaa .i64 (v4.1 + 3)) ∧ (Xaa .i64 (v4.1 + 3)) < v4.2.length) <|
 req ((Xaa .i64 (v4.1 + 3)).toNat < v4.2.length) <|
 bnd (Xmi (v4.2.getD v4.1.toNat 0) (v4.2.getD ((Xaa .i64 (v4.1 + 1)).toNat) 0) (v4.2.getD ((Xaa .i64 (v4.1 + 2)).toNat) 0) (v4.2.getD ((Xaa .i64 (v4.1 + 3)).toNat) 0)) fun q8 =>
 req (0 ≤ v4.1 ∧ v4.1 ≤ (Xaa .i64 (v4.1 + 4)) ∧ (Xaa .i64 (v4.1 + 4)) ≤ (v4.2.length : Int)) <|
 req ((v4.1.toNat + ((Xaa .i64 (v4.1 + 4)).toNat - v4.1.toNat) ≤ v4.2.length ∧ ([q8.1, q8.2.1, q8.2.2.1, q8.2.2.2]).length ≤ ((Xaa .i64 (v4.1 + 4)).toNat - v4.1.toNat))) <|
 some (.go (Xaa .i64 (v4.1 + 4), (over v4.2 v4.1.toNat ([q8.1, q8.2.1, q8.2.2.1, q8.2.2.2]))))) (
 some (.done v4.2))
def Xhy (v17 : (Int × (List Int))) (q26 : (Int × Int × Int × Int)) (v28 : (Int × (List Int))) : Option (Lp (Int × (List Int)) (List Int)) :=
 sel (decide (v28.1 < 4)) (
 req (0 ≤ v28.1 ∧ v28.1 < ([q26.1, q26.2.1, q26.2.2.1, q26.2.2.2] : List Int).length) <|
 req (0 ≤ (Xaa .i64 (v17.1 + (Xaa .i64 (4 * v28.1)))) ∧ (Xaa .i64 (v17.1 + (Xaa .i64 (4 * v28.1)))) < v28.2.length) <|
 req ((Xaa .i64 (v17.1 + (Xaa .i64 (4 * v28.1)))).toNat < v28.2.length) <|
 some (.go (Xaa .i64 (v28.1 + 1), (v28.2.set ((Xaa .i64 (v17.1 + (Xaa .i64 (4 * v28.1)))).toNat) (([q26.1, q26.2.1, q26.2.2.1, q26.2.2.2] : List Int).getD v28.1.toNat 0))))) (
 some (.done v28.2))
def Xhx (v17 : (Int × (List Int))) : Option (Lp (Int × (List Int)) (List Int)) :=
 sel (decide (v17.1 < 4)) (
 req (0 ≤ v17.1 ∧ v17.1 < v17.2.length) <|
 req (v17.1.toNat < v17.2.length) <|
 req (0 ≤ (Xaa .i64 (v17.1 + 4)) ∧ (Xaa .i64 (v17.1 + 4)) < v17.2.length) <|
 req ((Xaa .i64 (v17.1 + 4)).toNat < v17.2.length) <|
 req (0 ≤ (Xaa .i64 (v17.1 + 8)) ∧ (Xaa .i64 (v17.1 + 8)) < v17.2.length) <|
 req ((Xaa .i64 (v17.1 + 8)).toNat < v17.2.length) <|
 req (0 ≤ (Xaa .i64 (v17.1 + 12)) ∧ (Xaa .i64 (v17.1 + 12)) < v17.2.length) <|
 req ((Xaa .i64 (v17.1 + 12)).toNat < v17.2.length) <|
 bnd (Xmi (v17.2.getD v17.1.toNat 0) (v17.2.getD ((Xaa .i64 (v17.1 + 4)).toNat) 0) (v17.2.getD ((Xaa .i64 (v17.1 + 8)).toNat) 0) (v17.2.getD ((Xaa .i64 (v17.1 + 12)).toNat) 0)) fun q26 =>
 bnd (loop (Xhy v17 q26) (0, v17.2)) fun v30 =>
 some (.go (Xaa .i64 (v17.1 + 1), v30))) (
 some (.done v17.2))
def Xdv (p0 : (List Int)) : Option (List Int) :=
 bnd (Xdt p0) fun q1 =>
 bnd (loop (Xi6) (0, q1)) fun v7 =>
 bnd (loop (Xhx) (0, v7)) fun v25 =>
 some v25
def Xuo (p0 : (List Int)) : Option (List Int) :=
 bnd (Xbf p0 16 (-1000) 1000) fun q1 =>
 sel (!q1) (
 some ([] : List Int)) (
 bnd (Xdv p0) fun q2 =>
 some q2)
def Xns (p0 : Int) (p1 : Int) : Option Int :=
 bnd (
 bnd (Xao p0 0 40) fun q2 =>
 sel q2 (
 bnd (Xao p1 0 15) fun q3 =>
 some (!q3)) (
 some true)) fun v1 =>
 sel v1 (
 some 0) (
 req ((6 : Int) ≠ 0) <|
 bnd (Xsx p1) fun q4 =>
 req (0 ≤ (p0.tmod 6) ∧ (p0.tmod 6) < 6) <|
 req (0 ≤ q4 ∧ q4 < 3) <|
 req (((0 + (p0.tmod 6).toNat * 3) + q4.toNat * 1) < ([13107, 5243, 8066, 11916, 4660, 7490, 10082, 4194, 6554, 9362, 3647, 5825, 8192, 3355, 5243, 7282, 2893, 4559] : List Int).length) <|
 some (([13107, 5243, 8066, 11916, 4660, 7490, 10082, 4194, 6554, 9362, 3647, 5825, 8192, 3355, 5243, 7282, 2893, 4559] : List Int).getD ((0 + (p0.tmod 6).toNat * 3) + q4.toNat * 1) 0))
def Xht (p0 : Int) (p1 : Int) (p2 : Int) : Option Int :=
 bnd (
 bnd (Xao p0 (-20000) 20000) fun q2 =>
 sel q2 (
 bnd (Xao p1 0 40) fun q3 =>
 sel q3 (
 bnd (Xao p2 0 15) fun q4 =>
 some (!q4)) (
 some true)) (
 some true)) fun v1 =>
 sel v1 (
 some 0) (
 req ((6 : Int) ≠ 0) <|
 req (0 ≤ (Xaa .i64 (15 + (Xaa .i64 (p1.tdiv 6))))) <|
 bnd (Xnu p0) fun q5 =>
 bnd (Xns p1 p2) fun q6 =>
 req ((3 : Int) ≠ 0) <|
 req ((Xaa .i64 (1 * 2 ^ min (Xaa .i64 (15 + (Xaa .i64 (p1.tdiv 6)))).toNat (IntKind.bits .i64))) ≠ 0) <|
 bnd (Xpk (Xaa .i64 ((Xaa .i64 ((Xaa .i64 (q5 * q6)) + (Xaa .i64 ((Xaa .i64 (1 * 2 ^ min (Xaa .i64 (15 + (Xaa .i64 (p1.tdiv 6)))).toNat (IntKind.bits .i64))).tdiv 3)))).tdiv (Xaa .i64 (1 * 2 ^ min (Xaa .i64 (15 + (Xaa .i64 (p1.tdiv 6)))).toNat (IntKind.bits .i64))))) p0) fun q7 =>
 some q7)
def Xjz (p1 : Xfs) (q5 : (List Int)) (v8 : (Int × (List Int))) : Option (Lp (Int × (List Int)) (List Int)) :=
 sel (decide (v8.1 < (q5.length : Int))) (
 req (0 ≤ v8.1 ∧ v8.1 < v8.2.length) <|
 req (v8.1.toNat < v8.2.length) <|
 bnd (Xhp (v8.2.getD v8.1.toNat 0) p1.Qp) fun q12 =>
 req (0 ≤ v8.1 ∧ v8.1 < v8.2.length) <|
 req (v8.1.toNat < v8.2.length) <|
 some (.go (Xaa .i64 (v8.1 + 1), (v8.2.set v8.1.toNat q12)))) (
 some (.done v8.2))
def Xfz (p0 : (List Int)) (q51 : (List Int)) (v53 : (Int × (List Int))) : Option (Lp (Int × (List Int)) (List Int)) :=
 sel (decide (v53.1 < (q51.length : Int))) (
 req (0 ≤ v53.1 ∧ v53.1 < q51.length) <|
 req (v53.1.toNat < q51.length) <|
 req (0 ≤ (q51.getD v53.1.toNat 0) ∧ (q51.getD v53.1.toNat 0) < p0.length) <|
 req ((v53.2.length + ([(p0.getD (q51.getD v53.1.toNat 0).toNat 0)]).length) * 8 ≤ 140737488355328 ∧ v53.2.length + ([(p0.getD (q51.getD v53.1.toNat 0).toNat 0)]).length ≤ maxLen) <|
 some (.go (Xaa .i64 (v53.1 + 1), (v53.2 ++ ([(p0.getD (q51.getD v53.1.toNat 0).toNat 0)]))))) (
 some (.done v53.2))
def Xir (p1 : Xfs) (q57 : (List Int)) (v60 : (Int × (List Int))) : Option (Lp (Int × (List Int)) (List Int)) :=
 sel (decide (v60.1 < (q57.length : Int))) (
 req (0 ≤ v60.1 ∧ v60.1 < v60.2.length) <|
 req (v60.1.toNat < v60.2.length) <|
 bnd (Xht (v60.2.getD v60.1.toNat 0) p1.Qp v60.1) fun q64 =>
 req (0 ≤ v60.1 ∧ v60.1 < v60.2.length) <|
 req (v60.1.toNat < v60.2.length) <|
 some (.go (Xaa .i64 (v60.1 + 1), (v60.2.set v60.1.toNat q64)))) (
 some (.done v60.2))
def Xmk (p0 : (List Int)) (p1 : Xfs) (v32 : (Int × (List Int))) : Option (Lp (Int × (List Int)) (List Int)) :=
 sel (decide (v32.1 < 4)) (
 bnd (Xkt v32.1) fun q51 =>
 bnd (loop (Xfz p0 q51) (0, ([] : List Int))) fun v55 =>
 bnd (Xuo v55) fun q57 =>
 bnd (loop (Xir p1 q57) (0, q57)) fun v63 =>
 bnd (Xhr 4 v63) fun q66 =>
 req ((v32.2.length + q66.1.length) * 8 ≤ 140737488355328 ∧ v32.2.length + q66.1.length ≤ maxLen) <|
 some (.go (Xaa .i64 (v32.1 + 1), (v32.2 ++ q66.1)))) (
 some (.done v32.2))
def Xgq (p0 : (List Int)) (p1 : Xfs) : Option ((List Int) × Bool) :=
 bnd (
 bnd (Xbf p0 64 (-255) 255) fun q2 =>
 sel q2 (
 bnd (Xff p1) fun q3 =>
 some (!q3)) (
 some true)) fun v1 =>
 sel v1 (
 some (([] : List Int), false)) (
 sel p1.Exact (
 bnd (Xhr 8 p0) fun q4 =>
 some (q4.1, q4.2)) (
 sel p1.Large (
 bnd (Xrp p0) fun q5 =>
 bnd (loop (Xjz p1 q5) (0, q5)) fun v11 =>
 bnd (Xhr 8 v11) fun q14 =>
 some (q14.1, q14.2)) (
 bnd (loop (Xmk p0 p1) (0, ([] : List Int))) fun v50 =>
 some (v50, true))))
def Xmh (p0 : Int) : Option (Int × Bool) :=
 bnd (Xao p0 (-500000) 500000) fun q1 =>
 sel (!q1) (
 some (0, false)) (
 sel (decide (p0 > 0)) (
 some (Xaa .i64 ((Xaa .i64 (2 * p0)) - 1), true)) (
 some (Xaa .i64 ((-2) * p0), true)))
def Xkp (p0 : Int) : Option (ByteArray × Bool) :=
 bnd (Xmh p0) fun q1 =>
 sel (!q1.2) (
 some (⟨#[]⟩, false)) (
 bnd (Xoz q1.1) fun q2 =>
 some (q2.1, q2.2))
def Xmm (p0 : Int) : Option Int :=
 bnd (Xkp p0) fun q1 =>
 some (q1.1.size : Int)
def Xcw (p0 : Pic) (p1 : (List Int)) (p2 : Int) (p3 : Int) (p4 : Int) (v33 : (Int × Int × Int × Int)) (v70 : (Int × Int × Int × Int)) : Option (Lp (Int × Int × Int × Int) (Int × Int × Int)) :=
 sel (decide (v70.2.2.2 ≤ p4)) (
 bnd (
 bnd (Xjh p0 (⟨Xaa .i64 (p2 + v70.2.2.2), Xaa .i64 (p3 + v33.2.2.2), 8, 8⟩ : Zb6)) fun q81 =>
 sel (!q81) (
 some (v70.1, v70.2.1, v70.2.2.1)) (
 bnd (Xbu p0 (Xaa .i64 (p2 + v70.2.2.2)) (Xaa .i64 (p3 + v33.2.2.2))) fun q82 =>
 bnd (Xqo p1 q82) fun q83 =>
 bnd (Xmm v70.2.2.2) fun q84 =>
 bnd (Xmm v33.2.2.2) fun q85 =>
 bnd (
 sel (decide (v70.2.2.1 < 0)) (
 some true) (
 some (decide ((Xaa .i64 ((Xaa .i64 (q83 + q84)) + q85)) < v70.2.2.1)))) fun v86 =>
 sel v86 (
 some (v70.2.2.2, v33.2.2.2, Xaa .i64 ((Xaa .i64 (q83 + q84)) + q85))) (
 some (v70.1, v70.2.1, v70.2.2.1)))) fun v80 =>
 some (.go (v80.1, v80.2.1, v80.2.2, Xaa .i64 (v70.2.2.2 + 1)))) (
 some (.done (v70.1, v70.2.1, v70.2.2.1)))
def Xfw (p0 : Pic) (p1 : (List Int)) (p2 : Int) (p3 : Int) (p4 : Int) (v33 : (Int × Int × Int × Int)) : Option (Lp (Int × Int × Int × Int) (Int × Int × Int)) :=
 sel (decide (v33.2.2.2 ≤ p4)) (
 bnd (loop (Xcw p0 p1 p2 p3 p4 v33) (v33.1, v33.2.1, v33.2.2.1, Xaa .i64 (0 - p4))) fun v79 =>
 some (.go (v79.1, v79.2.1, v79.2.2, Xaa .i64 (v33.2.2.2 + 1)))) (
 some (.done (v33.1, v33.2.1, v33.2.2.1)))
def Xdr (p0 : Pic) (p1 : (List Int)) (p2 : Int) (p3 : Int) (p4 : Int) : Option (Int × Int × Int) :=
 bnd (
 bnd (Xcx p0) fun q2 =>
 sel q2 (
 bnd (Xbf p1 64 0 255) fun q3 =>
 sel q3 (
 bnd (Xao p4 0 4) fun q4 =>
 sel q4 (
 bnd (Xbw p0 p2 p3) fun q5 =>
 some (!q5)) (
 some true)) (
 some true)) (
 some true)) fun v1 =>
 sel v1 (
 some (0, 0, (-1))) (
 bnd (loop (Xfw p0 p1 p2 p3 p4) (0, 0, (-1), Xaa .i64 (0 - p4))) fun v61 =>
 some (v61.1, v61.2.1, v61.2.2))
def Xfg (p0 : Pic) (p1 : Pic) (p2 : (List Int)) (p3 : Int) (p4 : Int) (p5 : Xfs) (p6 : Int) : Option (Xau × (List Int) × Bool) :=
 bnd (
 bnd (Xcx p0) fun q2 =>
 sel q2 (
 bnd (Xbw p0 p3 p4) fun q3 =>
 sel q3 (
 bnd (Xbf p2 64 0 255) fun q4 =>
 sel q4 (
 bnd (Xff p5) fun q5 =>
 sel q5 (
 bnd (Xao p6 0 4) fun q6 =>
 some (!q6)) (
 some true)) (
 some true)) (
 some true)) (
 some true)) fun v1 =>
 sel v1 (
 some ((⟨0, 0, 0, 0, []⟩ : Xau), ([] : List Int), false)) (
 bnd (
 sel p5.Key (
 some false) (
 bnd (Xcx p1) fun q8 =>
 sel q8 (
 sel (p1.Wide != p0.Wide) (
 some true) (
 some (p1.High != p0.High))) (
 some true))) fun v7 =>
 sel v7 (
 some ((⟨0, 0, 0, 0, []⟩ : Xau), ([] : List Int), false)) (
 bnd (Xkn p0 p3 p4) fun q9 =>
 bnd (Xje p2 q9.1) fun q10 =>
 bnd (Xgh q10.1 q9.1) fun q11 =>
 bnd (Xgt p2 q11) fun q12 =>
 bnd (Xgq q12 p5) fun q13 =>
 bnd (
 sel (!p5.Key) (
 bnd (Xbu p1 p3 p4) fun q15 =>
 bnd (Xqo p2 q15) fun q16 =>
 sel (q16 == 0) (
 some (0, 0, 0, 0, [])) (
 bnd (Xdr p1 p2 p3 p4 p6) fun q17 =>
 sel (decide (q17.2.2 ≤ q10.2)) (
 bnd (Xbu p1 (Xaa .i64 (p3 + q17.1)) (Xaa .i64 (p4 + q17.2.1))) fun q18 =>
 bnd (Xgt p2 q18) fun q19 =>
 bnd (Xgq q19 p5) fun q20 =>
 bnd (
 sel (q17.1 == 0) (
 sel (q17.2.1 == 0) (
 bnd (Xbf q20.1 64 0 0) fun q22 =>
 some q22) (
 some false)) (
 some false)) fun v21 =>
 sel v21 (
 some (0, 0, 0, 0, [])) (
 some (1, 0, q17.1, q17.2.1, q20.1))) (
 some (2, q10.1, 0, 0, q13.1)))) (
 some (2, q10.1, 0, 0, q13.1))) fun v14 =>
 bnd (Xed p0 p1 0 0 p5 p3 p4 (⟨v14.1, v14.2.1, v14.2.2.1, v14.2.2.2.1, v14.2.2.2.2⟩ : Xau)) fun q23 =>
 sel (!q23.2) (
 some ((⟨0, 0, 0, 0, []⟩ : Xau), ([] : List Int), false)) (
 some ((⟨v14.1, v14.2.1, v14.2.2.1, v14.2.2.2.1, v14.2.2.2.2⟩ : Xau), q23.1, true))))
def Xeu (p0 : Pic) (p1 : Pic) (p2 : Xfs) (p3 : Int) (v25 : (Int × (List Xau) × Int × Int × ByteArray)) (v46 : (Int × (List Xau) × Int × Int × ByteArray)) : Option (Lp (Int × (List Xau) × Int × Int × ByteArray) (Ou ((List Xau) × Int × Int × ByteArray) ((List Xau) × Pic × Bool))) :=
 sel (decide (v46.1 < p0.Wide)) (
 bnd (Xbu p0 v46.1 v25.1) fun q52 =>
 bnd (Xfg (⟨v46.2.2.1, v46.2.2.2.1, v46.2.2.2.2⟩ : Pic) p1 q52 v46.1 v25.1 p2 p3) fun q53 =>
 sel (!q53.2.2) (
 some (.done (.ret (([] : List Xau), (⟨0, 0, ⟨#[]⟩⟩ : Pic), false)))) (
 req ((v46.2.1.length + ([q53.1]).length) * 56 ≤ 140737488355328 ∧ v46.2.1.length + ([q53.1]).length ≤ maxLen) <|
 bnd (Ya0 (⟨v46.2.2.1, v46.2.2.2.1, v46.2.2.2.2⟩ : Pic) v46.1 v25.1 q53.2.1) fun q54 =>
 some (.go (Xaa .i64 (v46.1 + 8), (v46.2.1 ++ ([q53.1])), q54.Wide, q54.High, q54.Dots)))) (
 some (.done (.out (v46.2.1, v46.2.2.1, v46.2.2.2.1, v46.2.2.2.2))))
def Xet (p0 : Pic) (p1 : Pic) (p2 : Xfs) (p3 : Int) (v25 : (Int × (List Xau) × Int × Int × ByteArray)) : Option (Lp (Int × (List Xau) × Int × Int × ByteArray) (Ou ((List Xau) × Int × Int × ByteArray) ((List Xau) × Pic × Bool))) :=
 sel (decide (v25.1 < p0.High)) (
 bnd (loop (Xeu p0 p1 p2 p3 v25) (0, v25.2.1, v25.2.2.1, v25.2.2.2.1, v25.2.2.2.2)) fun o55 => match o55 with
| .out v51 => (
 some (.go (Xaa .i64 (v25.1 + 8), v51.1, v51.2.1, v51.2.2.1, v51.2.2.2)))
| .ret r => some (.done (.ret r))) (
 some (.done (.out (v25.2.1, v25.2.2.1, v25.2.2.2.1, v25.2.2.2.2))))
def Xkr (p0 : Pic) (p1 : Pic) (p2 : Xfs) (p3 : Int) : Option ((List Xau) × Pic × Bool) :=
 bnd (
 bnd (Xcx p0) fun q2 =>
 sel q2 (
 bnd (Xmr p0.Wide) fun q3 =>
 sel q3 (
 bnd (Xmr p0.High) fun q4 =>
 sel q4 (
 bnd (Xff p2) fun q5 =>
 sel q5 (
 bnd (Xao p3 0 4) fun q6 =>
 some (!q6)) (
 some true)) (
 some true)) (
 some true)) (
 some true)) fun v1 =>
 sel v1 (
 some (([] : List Xau), (⟨0, 0, ⟨#[]⟩⟩ : Pic), false)) (
 bnd (
 sel p2.Key (
 some false) (
 bnd (Xcx p1) fun q8 =>
 sel q8 (
 sel (p1.Wide != p0.Wide) (
 some true) (
 some (p1.High != p0.High))) (
 some true))) fun v7 =>
 sel v7 (
 some (([] : List Xau), (⟨0, 0, ⟨#[]⟩⟩ : Pic), false)) (
 bnd (Xup p0.Wide p0.High) fun q9 =>
 bnd (loop (Xet p0 p1 p2 p3) (0, ([] : List Xau), q9.Wide, q9.High, q9.Dots)) fun o56 => match o56 with
| .out v41 => (
 some (v41.1, (⟨v41.2.1, v41.2.2.1, v41.2.2.2⟩ : Pic), true))
| .ret r => some r))
def Xnq (p0 : Seq) (p1 : Par) (p2 : Yv5) : Option (ByteArray × Bool) :=
 bnd (Xo9 p0 p1 p2) fun q1 =>
 sel (!q1) (
 some (⟨#[]⟩, false)) (
 bnd (Xkp (Xaa .i64 (p2.Qp - p1.Qp))) fun q2 =>
 bnd (Xi8 p2.Tile) fun q3 =>
 bnd (Xkx p2.Frame p0.Bits) fun q4 =>
 req (q3.size + q4.size ≤ 9223372036854775807) <|
 req ((q3 ++ q4).size + q2.1.size ≤ 9223372036854775807) <|
 some (((q3 ++ q4) ++ q2.1), true))
def Xku (p0 : (List Int)) (v3 : (Int × Int)) : Option (Lp (Int × Int) Int) :=
 sel (decide (v3.2 < (p0.length : Int))) (
 bnd (
 req (0 ≤ v3.2 ∧ v3.2 < p0.length) <|
 sel ((p0.getD v3.2.toNat 0) != 0) (
 some (Xaa .i64 (v3.1 + 1))) (
 some v3.1)) fun v7 =>
 some (.go (v7, Xaa .i64 (v3.2 + 1)))) (
 some (.done v3.1))
def Xkv (p0 : (List Int)) (v15 : (Int × Int × (List Int))) : Option (Lp (Int × Int × (List Int)) (List Int)) :=
 sel (decide (v15.2.1 < (p0.length : Int))) (
 bnd (
 req (0 ≤ v15.2.1 ∧ v15.2.1 < p0.length) <|
 sel ((p0.getD v15.2.1.toNat 0) == 0) (
 some (Xaa .i64 (v15.1 + 1), v15.2.2)) (
 bnd (Xmh (p0.getD v15.2.1.toNat 0)) fun q23 =>
 bnd (Xi8 v15.1) fun q24 =>
 req ((v15.2.2.length + (Xa8 q24).length) * 1 ≤ 140737488355328 ∧ v15.2.2.length + (Xa8 q24).length ≤ maxLen) <|
 bnd (Xi8 q23.1) fun q25 =>
 req (((v15.2.2 ++ (Xa8 q24)).length + (Xa8 q25).length) * 1 ≤ 140737488355328 ∧ (v15.2.2 ++ (Xa8 q24)).length + (Xa8 q25).length ≤ maxLen) <|
 some (0, ((v15.2.2 ++ (Xa8 q24)) ++ (Xa8 q25))))) fun v22 =>
 some (.go (v22.1, Xaa .i64 (v15.2.1 + 1), v22.2))) (
 some (.done v15.2.2))
def Xrw (p0 : (List Int)) : Option (List Int) :=
 bnd (loop (Xku p0) (0, 0)) fun v6 =>
 bnd (Xi8 v6) fun q9 =>
 req ((([] : List Int).length + (Xa8 q9).length) * 1 ≤ 140737488355328 ∧ ([] : List Int).length + (Xa8 q9).length ≤ maxLen) <|
 bnd (loop (Xkv p0) (0, 0, (([] : List Int) ++ (Xa8 q9)))) fun v21 =>
 some v21
def Xcz (p0 : (List Int)) (v5 : (Int × (List Int))) : Option (Lp (Int × (List Int)) (List Int)) :=
 sel (decide (v5.1 < 4)) (
 req (0 ≤ (Xaa .i64 (16 * v5.1)) ∧ (Xaa .i64 (16 * v5.1)) ≤ (Xaa .i64 ((Xaa .i64 (16 * v5.1)) + 16)) ∧ (Xaa .i64 ((Xaa .i64 (16 * v5.1)) + 16)) ≤ (p0.length : Int)) <|
 bnd (Xrw ((p0.drop (Xaa .i64 (16 * v5.1)).toNat).take ((Xaa .i64 ((Xaa .i64 (16 * v5.1)) + 16)).toNat - (Xaa .i64 (16 * v5.1)).toNat))) fun q9 =>
 req ((v5.2.length + q9.length) * 1 ≤ 140737488355328 ∧ v5.2.length + q9.length ≤ maxLen) <|
 some (.go (Xaa .i64 (v5.1 + 1), (v5.2 ++ q9)))) (
 some (.done v5.2))
def Xhd (p0 : (List Int)) (p1 : Xfs) : Option (List Int) :=
 bnd (
 sel p1.Large (
 some true) (
 some p1.Exact)) fun v1 =>
 sel v1 (
 bnd (Xrw p0) fun q2 =>
 some q2) (
 bnd (loop (Xcz p0) (0, ([] : List Int))) fun v8 =>
 some v8)
def Xjj (p0 : Xau) (p1 : Xfs) : Option (ByteArray × Bool) :=
 bnd (
 bnd (Xis p0) fun q2 =>
 sel q2 (
 bnd (Xff p1) fun q3 =>
 sel q3 (
 bnd (Xee p0 p1) fun q4 =>
 some (!q4)) (
 some true)) (
 some true)) fun v1 =>
 sel v1 (
 some (⟨#[]⟩, false)) (
 bnd (
 sel (!p1.Key) (
 bnd (Xi8 p0.Kind) fun q6 =>
 req ((([] : List Int).length + (Xa8 q6).length) * 1 ≤ 140737488355328 ∧ ([] : List Int).length + (Xa8 q6).length ≤ maxLen) <|
 some (([] : List Int) ++ (Xa8 q6))) (
 some ([] : List Int))) fun v5 =>
 bnd (
 sel (p0.Kind == 1) (
 bnd (Xkp p0.Dx) fun q8 =>
 bnd (Xkp p0.Dy) fun q9 =>
 req ((v5.length + (Xa8 q8.1).length) * 1 ≤ 140737488355328 ∧ v5.length + (Xa8 q8.1).length ≤ maxLen) <|
 req (((v5 ++ (Xa8 q8.1)).length + (Xa8 q9.1).length) * 1 ≤ 140737488355328 ∧ (v5 ++ (Xa8 q8.1)).length + (Xa8 q9.1).length ≤ maxLen) <|
 bnd (Xhd p0.Levels p1) fun q10 =>
 req ((((v5 ++ (Xa8 q8.1)) ++ (Xa8 q9.1)).length + q10.length) * 1 ≤ 140737488355328 ∧ ((v5 ++ (Xa8 q8.1)) ++ (Xa8 q9.1)).length + q10.length ≤ maxLen) <|
 some (((v5 ++ (Xa8 q8.1)) ++ (Xa8 q9.1)) ++ q10)) (
 sel (p0.Kind == 2) (
 bnd (Xi8 p0.Mode) fun q11 =>
 req ((v5.length + (Xa8 q11).length) * 1 ≤ 140737488355328 ∧ v5.length + (Xa8 q11).length ≤ maxLen) <|
 bnd (Xhd p0.Levels p1) fun q12 =>
 req (((v5 ++ (Xa8 q11)).length + q12.length) * 1 ≤ 140737488355328 ∧ (v5 ++ (Xa8 q11)).length + q12.length ≤ maxLen) <|
 some ((v5 ++ (Xa8 q11)) ++ q12)) (
 some v5))) fun v7 =>
 some ((strOfNums v7), true))
def Xf0 (p0 : (List Xau)) (p1 : Xfs) (v4 : (Int × (List Int))) : Option (Lp (Int × (List Int)) (Ou (List Int) (ByteArray × Bool))) :=
 sel (decide (v4.1 < (p0.length : Int))) (
 req (0 ≤ v4.1 ∧ v4.1 < p0.length) <|
 bnd (Xjj (⟨(p0.getD v4.1.toNat Xmg).Kind, (p0.getD v4.1.toNat Xmg).Mode, (p0.getD v4.1.toNat Xmg).Dx, (p0.getD v4.1.toNat Xmg).Dy, (p0.getD v4.1.toNat Xmg).Levels⟩ : Xau) p1) fun q8 =>
 sel (!q8.2) (
 some (.done (.ret (⟨#[]⟩, false)))) (
 req ((v4.2.length + (Xa8 q8.1).length) * 1 ≤ 140737488355328 ∧ v4.2.length + (Xa8 q8.1).length ≤ maxLen) <|
 some (.go (Xaa .i64 (v4.1 + 1), (v4.2 ++ (Xa8 q8.1)))))) (
 some (.done (.out v4.2)))
def Xks (p0 : (List Xau)) (p1 : Xfs) : Option (ByteArray × Bool) :=
 bnd (Xao (p0.length : Int) 1 64) fun q1 =>
 sel (!q1) (
 some (⟨#[]⟩, false)) (
 bnd (loop (Xf0 p0 p1) (0, ([] : List Int))) fun o9 => match o9 with
| .out v7 => (
 some ((strOfNums v7), true))
| .ret r => some r)
def Xhs (p0 : Seq) (v14 : (ByteArray × Int)) (v29 : (ByteArray × Int)) : Option (Lp (ByteArray × Int) ByteArray) :=
 sel (decide (v29.2 < ((([p0.Cols, p0.Rows]).getD v14.2.toNat Xgn).length : Int))) (
 req (0 ≤ v29.2 ∧ v29.2 < (([p0.Cols, p0.Rows]).getD v14.2.toNat Xgn).length) <|
 bnd (Xi8 ((([p0.Cols, p0.Rows]).getD v14.2.toNat Xgn).getD v29.2.toNat 0)) fun q33 =>
 req (v29.1.size + q33.size ≤ 9223372036854775807) <|
 some (.go ((v29.1 ++ q33), Xaa .i64 (v29.2 + 1)))) (
 some (.done v29.1))
def Xec (p0 : Seq) (v14 : (ByteArray × Int)) : Option (Lp (ByteArray × Int) ByteArray) :=
 sel (decide (v14.2 < (([p0.Cols, p0.Rows]).length : Int))) (
 req (0 ≤ v14.2 ∧ v14.2 < ([p0.Cols, p0.Rows]).length) <|
 req (v14.2.toNat < ([p0.Cols, p0.Rows]).length) <|
 bnd (Xi8 ((([p0.Cols, p0.Rows]).getD v14.2.toNat Xgn).length : Int)) fun q26 =>
 req (v14.1.size + q26.size ≤ 9223372036854775807) <|
 bnd (loop (Xhs p0 v14) ((v14.1 ++ q26), 0)) fun v32 =>
 some (.go (v32, Xaa .i64 (v14.2 + 1)))) (
 some (.done v14.1))
def Xpd (p0 : Seq) : Option (ByteArray × Bool) :=
 bnd (Xkq p0) fun q1 =>
 sel (!q1) (
 some (⟨#[]⟩, false)) (
 bnd (Xi8 p0.Level) fun q2 =>
 bnd (Xkx p0.Bits 4) fun q3 =>
 req (q2.size + q3.size ≤ 9223372036854775807) <|
 bnd (loop (Xec p0) ((q2 ++ q3), 0)) fun v25 =>
 some (v25, true))
def Xrz (p0 : Bool) : Option ByteArray :=
 sel p0 (
 some ⟨#[49]⟩) (
 some ⟨#[48]⟩)
def Xpb (p0 : Par) : Option (ByteArray × Bool) :=
 bnd (Xml p0) fun q1 =>
 sel (!q1) (
 some (⟨#[]⟩, false)) (
 bnd (Xkx p0.Qp 6) fun q2 =>
 bnd (Xrz p0.Large) fun q3 =>
 req (q2.size + q3.size ≤ 9223372036854775807) <|
 bnd (Xrz p0.Exact) fun q4 =>
 req ((q2 ++ q3).size + q4.size ≤ 9223372036854775807) <|
 bnd (Xrz p0.Confined) fun q5 =>
 req (((q2 ++ q3) ++ q4).size + q5.size ≤ 9223372036854775807) <|
 some ((((q2 ++ q3) ++ q4) ++ q5), true))
def Xg2 (p0 : ByteArray) (v4 : (Int × (List Int))) : Option (Lp (Int × (List Int)) (List Int)) :=
 sel (decide (v4.1 < (p0.size : Int))) (
 bnd (
 req (0 ≤ v4.1 ∧ v4.1 < p0.size) <|
 sel ((Yqy p0 v4.1) == 49) (
 req ((8 : Int) ≠ 0) <|
 req (0 ≤ (Xaa .i64 (v4.1.tdiv 8)) ∧ (Xaa .i64 (v4.1.tdiv 8)) < v4.2.length) <|
 req ((Xaa .i64 (v4.1.tdiv 8)).toNat < v4.2.length) <|
 req ((8 : Int) ≠ 0) <|
 req (0 ≤ (v4.1.tmod 8)) <|
 req (0 ≤ (Xaa .i64 (v4.1.tdiv 8)) ∧ (Xaa .i64 (v4.1.tdiv 8)) < v4.2.length) <|
 req ((Xaa .i64 (v4.1.tdiv 8)).toNat < v4.2.length) <|
 some (v4.2.set ((Xaa .i64 (v4.1.tdiv 8)).toNat) (IntKind.wrap .u8 (BitVec.ofInt (IntKind.bits .u8) (v4.2.getD ((Xaa .i64 (v4.1.tdiv 8)).toNat) 0) ||| BitVec.ofInt (IntKind.bits .u8) ((128 : Int) / 2 ^ min (v4.1.tmod 8).toNat (IntKind.bits .u8))).toNat))) (
 some v4.2)) fun v8 =>
 some (.go (Xaa .i64 (v4.1 + 1), v8))) (
 some (.done v4.2))
def Xle (p0 : ByteArray) : Option (ByteArray × Bool) :=
 bnd (Xrr p0) fun q1 =>
 sel (!q1) (
 some (⟨#[]⟩, false)) (
 req ((8 : Int) ≠ 0) <|
 req (0 ≤ (Xaa .i64 ((Xaa .i64 ((p0.size : Int).tdiv 8)) + 1)) ∧ (Xaa .i64 ((Xaa .i64 ((p0.size : Int).tdiv 8)) + 1)) ≤ (Xaa .i64 ((Xaa .i64 ((p0.size : Int).tdiv 8)) + 1)) ∧ (Xaa .i64 ((Xaa .i64 ((p0.size : Int).tdiv 8)) + 1)) * 1 ≤ 281474976710656) <|
 bnd (loop (Xg2 p0) (0, (List.replicate (Xaa .i64 ((Xaa .i64 ((p0.size : Int).tdiv 8)) + 1)).toNat (0 : Int)))) fun v7 =>
 req ((8 : Int) ≠ 0) <|
 req (0 ≤ (Xaa .i64 ((p0.size : Int).tdiv 8)) ∧ (Xaa .i64 ((p0.size : Int).tdiv 8)) < v7.length) <|
 req ((Xaa .i64 ((p0.size : Int).tdiv 8)).toNat < v7.length) <|
 req ((8 : Int) ≠ 0) <|
 req (0 ≤ ((p0.size : Int).tmod 8)) <|
 req (0 ≤ (Xaa .i64 ((p0.size : Int).tdiv 8)) ∧ (Xaa .i64 ((p0.size : Int).tdiv 8)) < v7.length) <|
 req ((Xaa .i64 ((p0.size : Int).tdiv 8)).toNat < v7.length) <|
 some ((strOfNums (v7.set ((Xaa .i64 ((p0.size : Int).tdiv 8)).toNat) (IntKind.wrap .u8 (BitVec.ofInt (IntKind.bits .u8) (v7.getD ((Xaa .i64 ((p0.size : Int).tdiv 8)).toNat) 0) ||| BitVec.ofInt (IntKind.bits .u8) ((128 : Int) / 2 ^ min ((p0.size : Int).tmod 8).toNat (IntKind.bits .u8))).toNat))), true))
def Xkf (p0 : Int) (p1 : ByteArray) : Option (ByteArray × Bool) :=
 bnd (Xle p1) fun q1 =>
 bnd (
 sel q1.2 (
 bnd (Xph p0) fun q3 =>
 some (!q3)) (
 some true)) fun v2 =>
 sel v2 (
 some (⟨#[]⟩, false)) (
 req ((strOfNums ([Xaa .u8 (p0)])).size + q1.1.size ≤ 9223372036854775807) <|
 some (((strOfNums ([Xaa .u8 (p0)])) ++ q1.1), true))
def Xhu (p0 : Source) : Option (List ByteArray) :=
 bnd (Xgr p0) fun q1 =>
 sel (!q1) (
 some ([] : List ByteArray)) (
 bnd (Xpd p0.Seq) fun q2 =>
 bnd (Xpb p0.Par) fun q3 =>
 bnd (Xkf 7 q2.1) fun q4 =>
 bnd (Xkf 8 q3.1) fun q5 =>
 some ([q4.1, q5.1]))
def Xld (p0 : Rate) (p1 : Int) : Option Rate :=
 bnd (Xkd p0) fun q1 =>
 sel (!q1) (
 some p0) (
 bnd (Xco p1 0 400000) fun q2 =>
 bnd (Xco (Xaa .i64 ((Xaa .i64 (p0.Debt + q2)) - p0.Target)) (Xaa .i64 ((-8) * p0.Target)) (Xaa .i64 (8 * p0.Target))) fun q3 =>
 bnd (
 sel (decide (q3 > p0.Target)) (
 some (Xaa .i64 (p0.Qp + 1))) (
 sel (decide (q3 < (Xaa .i64 (0 - p0.Target)))) (
 some (Xaa .i64 (p0.Qp - 1))) (
 some p0.Qp))) fun v4 =>
 bnd (Xco v4 0 40) fun q5 =>
 some (⟨q5, p0.Target, q3⟩ : Rate))
def Xbz (p0 : Source) (p1 : Pic) (p2 : Bool) : Option (Source × (List ByteArray) × Bool) :=
 bnd (
 bnd (Xgr p0) fun q2 =>
 sel q2 (
 bnd (Xrt p1 p0.Seq) fun q3 =>
 some (!q3)) (
 some true)) fun v1 =>
 sel v1 (
 bnd (Xce p0) fun q4 =>
 some (q4, ([] : List ByteArray), false)) (
 bnd (Xpa p0 p2) fun q5 =>
 bnd (
 sel q5 (
 some false) (
 some (decide (p0.Since ≥ 1000)))) fun v6 =>
 sel v6 (
 bnd (Xce p0) fun q7 =>
 some (q7, ([] : List ByteArray), false)) (
 bnd (Xrq p0.Rate q5) fun q8 =>
 bnd (Xkr p1 p0.Ref (⟨q5, q8, p0.Par.Large, p0.Par.Exact⟩ : Xfs) p0.Reach) fun q9 =>
 bnd (Xnq p0.Seq p0.Par (⟨0, p0.Frame, q8⟩ : Yv5)) fun q10 =>
 bnd (Xks q9.1 (⟨q5, q8, p0.Par.Large, p0.Par.Exact⟩ : Xfs)) fun q11 =>
 bnd (Xce p0) fun q12 =>
 bnd (
 sel q5 (
 bnd (Xhu p0) fun q14 =>
 some (5, 1, q14)) (
 some (1, Xaa .i64 (q12.Since + 1), ([] : List ByteArray)))) fun v13 =>
 req (q10.1.size + q11.1.size ≤ 9223372036854775807) <|
 bnd (Xkf v13.1 (q10.1 ++ q11.1)) fun q15 =>
 bnd (Xld p0.Rate (Xaa .i64 ((q10.1.size : Int) + (q11.1.size : Int)))) fun q16 =>
 req (0 ≤ p0.Seq.Bits) <|
 req ((Xaa .i64 (1 * 2 ^ min p0.Seq.Bits.toNat (IntKind.bits .i64))) ≠ 0) <|
 req ((v13.2.2.length + ([q15.1]).length) * 16 ≤ 140737488355328 ∧ v13.2.2.length + ([q15.1]).length ≤ maxLen) <|
 some ((⟨q12.Seq, q12.Par, q16, ((Xaa .i64 (p0.Frame + 1)).tmod (Xaa .i64 (1 * 2 ^ min p0.Seq.Bits.toNat (IntKind.bits .i64)))), v13.2.1, q12.Every, q12.Reach, true, q9.2.1⟩ : Source), (v13.2.2 ++ ([q15.1])), true)))
def Xmy (p0 : (List Int)) (p1 : Int) : Option Int :=
 sel (decide ((Xaa .i64 (p1 - (p0.length : Int))) < 0)) (
 some (-1)) (
 some (Xaa .i64 (p1 - (p0.length : Int))))
def Xr7 (p0 : Seq) (p1 : Int) : Option Int :=
 bnd (Xmy p0.Cols p1) fun q1 =>
 sel (decide (q1 < 0)) (
 some (-1)) (
 bnd (Xmy p0.Rows q1) fun q2 =>
 sel (decide (q2 < 0)) (
 some (-1)) (
 some q2))
def Xo1 (p0 : Pic) (p1 : Int) : Option Int :=
 sel (decide ((Xaa .i64 (p1 - (p0.Dots.size : Int))) < 0)) (
 some (-1)) (
 some (Xaa .i64 (p1 - (p0.Dots.size : Int))))
def Xlq (p0 : Source) (p1 : Int) : Option Int :=
 bnd (Xr7 p0.Seq p1) fun q1 =>
 sel (decide (q1 < 0)) (
 some (-1)) (
 bnd (Xo1 p0.Ref q1) fun q2 =>
 sel (decide (q2 < 0)) (
 some (-1)) (
 some q2))
def Xjn (p0 : (List Int)) (v2 : (Int × (List Int))) : Option (Lp (Int × (List Int)) (List Int)) :=
 sel (decide (v2.1 < (p0.length : Int))) (
 req (0 ≤ v2.1 ∧ v2.1 < p0.length) <|
 req (0 ≤ v2.1 ∧ v2.1 < v2.2.length) <|
 req (v2.1.toNat < v2.2.length) <|
 some (.go (Xaa .i64 (v2.1 + 1), (v2.2.set v2.1.toNat (p0.getD v2.1.toNat 0))))) (
 some (.done v2.2))
def Xmz (p0 : (List Int)) : Option (List Int) :=
 req (0 ≤ (p0.length : Int) ∧ (p0.length : Int) ≤ (p0.length : Int) ∧ (p0.length : Int) * 8 ≤ 281474976710656) <|
 bnd (loop (Xjn p0) (0, (List.replicate (p0.length : Int).toNat (0 : Int)))) fun v4 =>
 some v4
def Xr8 (p0 : Seq) : Option Seq :=
 bnd (Xmz p0.Cols) fun q1 =>
 bnd (Xmz p0.Rows) fun q2 =>
 some (⟨p0.Level, p0.Bits, q1, q2⟩ : Seq)
def Ydx (p0 : Par) : Option Par :=
 some p0
def Xy6 (p0 : Rate) : Option Rate :=
 some p0
def Xm0 (p0 : Pic) : Option Pic :=
 some p0
def Xe6 (p0 : Source) : Option Source :=
 bnd (Xr8 p0.Seq) fun q1 =>
 bnd (Ydx p0.Par) fun q2 =>
 bnd (Xy6 p0.Rate) fun q3 =>
 bnd (Xm0 p0.Ref) fun q4 =>
 some (⟨q1, q2, q3, p0.Frame, p0.Since, p0.Every, p0.Reach, p0.Has, q4⟩ : Source)
def Xpx (p0 : Source) (p1 : Bool) : Option Bool :=
 bnd (
 bnd (Xgy p0) fun q2 =>
 sel q2 (
 sel p1 (
 some true) (
 sel p0.Has (
 some (decide (p0.Since ≥ p0.Every))) (
 some true))) (
 some false)) fun v1 =>
 some v1
def Xk2 (p0 : Seq) : Option Seq :=
 req ((([] : List Int).length + p0.Cols.length) * 8 ≤ 140737488355328 ∧ ([] : List Int).length + p0.Cols.length ≤ maxLen) <|
 req ((([] : List Int).length + p0.Rows.length) * 8 ≤ 140737488355328 ∧ ([] : List Int).length + p0.Rows.length ≤ maxLen) <|
 some (⟨p0.Level, p0.Bits, (([] : List Int) ++ p0.Cols), (([] : List Int) ++ p0.Rows)⟩ : Seq)
def Xsf (p0 : Rate) (p1 : Bool) : Option Int :=
 bnd (Xkh p0) fun q1 =>
 sel (!q1) (
 some 0) (
 sel p1 (
 bnd (Xb7 (Xaa .i64 (p0.Qp - 2)) 0 40) fun q2 =>
 some q2) (
 some p0.Qp))
def Xk6 (p0 : Int) : Option Bool :=
 bnd (
 req ((8 : Int) ≠ 0) <|
 sel ((p0.tmod 8) == 0) (
 bnd (Xas p0 8 64) fun q2 =>
 some q2) (
 some false)) fun v1 =>
 some v1
def Xgw (p0 : Xfs) : Option Bool :=
 bnd (
 bnd (Xas p0.Qp 0 40) fun q2 =>
 sel q2 (
 sel p0.Large (
 some (!p0.Exact)) (
 some true)) (
 some false)) fun v1 =>
 some v1
def Xgm (p0 : Pic) (p1 : Pic) : Option Bool :=
 bnd (
 bnd (Xd6 p0) fun q2 =>
 sel q2 (
 bnd (Xd6 p1) fun q3 =>
 sel q3 (
 sel (p0.Wide == p1.Wide) (
 some (p0.High == p1.High)) (
 some false)) (
 some false)) (
 some false)) fun v1 =>
 some v1
def Xu9 (p0 : Int) (p1 : Int) : Option Pic :=
 bnd (
 bnd (Xas p0 1 256) fun q2 =>
 sel q2 (
 bnd (Xas p1 1 256) fun q3 =>
 some (!q3)) (
 some true)) fun v1 =>
 sel v1 (
 some (⟨0, 0, ⟨#[]⟩⟩ : Pic)) (
 bnd (Xk1 (Xaa .i64 (p0 * p1)) 128) fun q4 =>
 some (⟨p0, p1, q4⟩ : Pic))
def Xh6 (p0 : Pic) (p1 : Int) (p2 : Int) (v7 : (Int × (List Int))) : Option (Lp (Int × (List Int)) (List Int)) :=
 sel (decide (v7.1 < 64)) (
 req ((8 : Int) ≠ 0) <|
 req ((8 : Int) ≠ 0) <|
 bnd (Xga p0 (Xaa .i64 (p1 + (v7.1.tmod 8))) (Xaa .i64 (p2 + (Xaa .i64 (v7.1.tdiv 8))))) fun q11 =>
 req ((v7.2.length + ([q11]).length) * 8 ≤ 140737488355328 ∧ v7.2.length + ([q11]).length ≤ maxLen) <|
 some (.go (Xaa .i64 (v7.1 + 1), (v7.2 ++ ([q11]))))) (
 some (.done v7.2))
def Xe9 (p0 : Pic) (p1 : Int) (p2 : Int) : Option (List Int) :=
 bnd (
 bnd (Xd6 p0) fun q2 =>
 sel q2 (
 bnd (Xas p1 (-1000) 1000) fun q3 =>
 sel q3 (
 bnd (Xas p2 (-1000) 1000) fun q4 =>
 some (!q4)) (
 some true)) (
 some true)) fun v1 =>
 sel v1 (
 some ([] : List Int)) (
 bnd (loop (Xh6 p0 p1 p2) (0, ([] : List Int))) fun v10 =>
 some v10)
def Xhi (p0 : Pic) (p1 : Int) (p2 : Int) (p3 : Int) (p4 : Int) : Option Bool :=
 bnd (
 bnd (Xd6 p0) fun q2 =>
 sel q2 (
 bnd (Xas p3 1 p0.Wide) fun q3 =>
 sel q3 (
 bnd (Xas p4 1 p0.High) fun q4 =>
 sel q4 (
 bnd (Xas p1 0 (Xaa .i64 (p0.Wide - p3))) fun q5 =>
 sel q5 (
 bnd (Xas p2 0 (Xaa .i64 (p0.High - p4))) fun q6 =>
 some q6) (
 some false)) (
 some false)) (
 some false)) (
 some false)) fun v1 =>
 some v1
def Xgl (p0 : Pic) (p1 : Int) (p2 : Int) : Option Bool :=
 bnd (
 req ((8 : Int) ≠ 0) <|
 sel ((p1.tmod 8) == 0) (
 req ((8 : Int) ≠ 0) <|
 sel ((p2.tmod 8) == 0) (
 bnd (Xhi p0 p1 p2 8 8) fun q2 =>
 some q2) (
 some false)) (
 some false)) fun v1 =>
 some v1
def Xdl (p0 : (List Int)) (v3 : Int) : Option (Lp Int (Ou Unit Bool)) :=
 sel (decide (v3 < 64)) (
 req (0 ≤ v3 ∧ v3 < p0.length) <|
 bnd (Xas (p0.getD v3.toNat 0) 0 255) fun q7 =>
 sel (!q7) (
 some (.done (.ret false))) (
 some (.go (Xaa .i64 (v3 + 1))))) (
 some (.done (.out ())))
def Xd3 (p0 : (List Int)) : Option Bool :=
 sel ((p0.length : Int) != 64) (
 some false) (
 bnd (loop (Xdl p0) 0) fun o8 => match o8 with
| .out v6 => (
 some true)
| .ret r => some r)
def Xmb (p0 : (List Int)) (p1 : (List Int)) (v2 : (Int × (List Int))) : Option (Lp (Int × (List Int)) (List Int)) :=
 sel (decide (v2.1 < 64)) (
 req (0 ≤ v2.1 ∧ v2.1 < p0.length) <|
 req (0 ≤ v2.1 ∧ v2.1 < p1.length) <|
 req ((v2.2.length + ([Xaa .i64 ((p0.getD v2.1.toNat 0) - (p1.getD v2.1.toNat 0))]).length) * 8 ≤ 140737488355328 ∧ v2.2.length + ([Xaa .i64 ((p0.getD v2.1.toNat 0) - (p1.getD v2.1.toNat 0))]).length ≤ maxLen) <|
 some (.go (Xaa .i64 (v2.1 + 1), (v2.2 ++ ([Xaa .i64 ((p0.getD v2.1.toNat 0) - (p1.getD v2.1.toNat 0))]))))) (
 some (.done v2.2))
def Xik (p0 : (List Int)) (p1 : (List Int)) : Option (List Int) :=
 bnd (loop (Xmb p0 p1) (0, ([] : List Int))) fun v4 =>
 some v4
def Xil (p0 : (List Int)) (v2 : Int) : Option (Lp Int (Ou Unit Bool)) :=
 sel (decide (v2 < (p0.length : Int))) (
 req (0 ≤ v2 ∧ v2 < p0.length) <|
 sel ((p0.getD v2.toNat 0) != 0) (
 some (.done (.ret false))) (
 some (.go (Xaa .i64 (v2 + 1))))) (
 some (.done (.out ())))
def Xk7 (p0 : (List Int)) : Option Bool :=
 bnd (loop (Xil p0) 0) fun o5 => match o5 with
| .out v4 => (
 some true)
| .ret r => some r
def Xei (p0 : Pic) (p1 : Int) (p2 : Int) (v7 : (Int × (List Int) × (List Int))) : Option (Lp (Int × (List Int) × (List Int)) ((List Int) × (List Int))) :=
 sel (decide (v7.1 < 8)) (
 bnd (
 bnd (
 sel (decide (p2 > 0)) (
 bnd (Xga p0 (Xaa .i64 (p1 + v7.1)) (Xaa .i64 (p2 - 1))) fun q16 =>
 req ((v7.2.1.length + ([q16]).length) * 8 ≤ 140737488355328 ∧ v7.2.1.length + ([q16]).length ≤ maxLen) <|
 some (v7.2.1 ++ ([q16]))) (
 some v7.2.1)) fun v15 =>
 sel (decide (p1 > 0)) (
 bnd (Xga p0 (Xaa .i64 (p1 - 1)) (Xaa .i64 (p2 + v7.1))) fun q17 =>
 req ((v7.2.2.length + ([q17]).length) * 8 ≤ 140737488355328 ∧ v7.2.2.length + ([q17]).length ≤ maxLen) <|
 some (v15, (v7.2.2 ++ ([q17])))) (
 some (v15, v7.2.2))) fun v14 =>
 some (.go (Xaa .i64 (v7.1 + 1), v14.1, v14.2))) (
 some (.done (v7.2.1, v7.2.2)))
def Xfa (p0 : Pic) (p1 : Int) (p2 : Int) : Option (Xim × Bool) :=
 bnd (Xgl p0 p1 p2) fun q1 =>
 sel (!q1) (
 some ((⟨[], [], 0⟩ : Xim), false)) (
 bnd (loop (Xei p0 p1 p2) (0, [], [])) fun v13 =>
 bnd (
 bnd (
 sel (decide (p1 > 0)) (
 some (decide (p2 > 0))) (
 some false)) fun v20 =>
 sel v20 (
 bnd (Xga p0 (Xaa .i64 (p1 - 1)) (Xaa .i64 (p2 - 1))) fun q21 =>
 some q21) (
 some (-1))) fun v19 =>
 some ((⟨v13.1, v13.2, v19⟩ : Xim), true))
def Xij (p0 : (List Int)) (v4 : Int) : Option (Lp Int (Ou Unit Bool)) :=
 sel (decide (v4 < (p0.length : Int))) (
 req (0 ≤ v4 ∧ v4 < p0.length) <|
 bnd (Xas (p0.getD v4.toNat 0) 0 255) fun q8 =>
 sel (!q8) (
 some (.done (.ret false))) (
 some (.go (Xaa .i64 (v4 + 1))))) (
 some (.done (.out ())))
def Xk5 (p0 : (List Int)) : Option Bool :=
 bnd (
 sel ((p0.length : Int) != 0) (
 some ((p0.length : Int) != 8)) (
 some false)) fun v1 =>
 sel v1 (
 some false) (
 bnd (loop (Xij p0) 0) fun o9 => match o9 with
| .out v7 => (
 some true)
| .ret r => some r)
def Xkz (p0 : Xim) : Option Bool :=
 bnd (
 bnd (Xk5 p0.Above) fun q2 =>
 sel q2 (
 bnd (Xk5 p0.Left) fun q3 =>
 sel q3 (
 bnd (Xas p0.Corner (-1) 255) fun q4 =>
 some q4) (
 some false)) (
 some false)) fun v1 =>
 some v1
def Xc8 (p0 : (List Int)) (p1 : Int) : Option Int :=
 sel ((p0.length : Int) == 0) (
 some 128) (
 req (0 ≤ p1 ∧ p1 < p0.length) <|
 some (p0.getD p1.toNat 0))
def Xhj (p0 : Xim) (v2 : (Int × Int)) : Option (Lp (Int × Int) Int) :=
 sel (decide (v2.2 < (p0.Above.length : Int))) (
 req (0 ≤ v2.2 ∧ v2.2 < p0.Above.length) <|
 some (.go (Xaa .i64 (v2.1 + (p0.Above.getD v2.2.toNat 0)), Xaa .i64 (v2.2 + 1)))) (
 some (.done v2.1))
def Xhk (p0 : Xim) (v7 : (Int × Int)) : Option (Lp (Int × Int) Int) :=
 sel (decide (v7.2 < (p0.Left.length : Int))) (
 req (0 ≤ v7.2 ∧ v7.2 < p0.Left.length) <|
 some (.go (Xaa .i64 (v7.1 + (p0.Left.getD v7.2.toNat 0)), Xaa .i64 (v7.2 + 1)))) (
 some (.done v7.1))
def Xkl (p0 : Xim) : Option Int :=
 sel ((Xaa .i64 ((p0.Above.length : Int) + (p0.Left.length : Int))) == 0) (
 some 128) (
 req ((2 : Int) ≠ 0) <|
 bnd (loop (Xhj p0) (Xaa .i64 ((Xaa .i64 ((p0.Above.length : Int) + (p0.Left.length : Int))).tdiv 2), 0)) fun v4 =>
 bnd (loop (Xhk p0) (v4, 0)) fun v9 =>
 req ((Xaa .i64 ((p0.Above.length : Int) + (p0.Left.length : Int))) ≠ 0) <|
 some (Xaa .i64 (v9.tdiv (Xaa .i64 ((p0.Above.length : Int) + (p0.Left.length : Int))))))
def Xdf (p0 : Int) (p1 : Xim) (v4 : Int) (v11 : (Int × (List Int))) : Option (Lp (Int × (List Int)) (List Int)) :=
 sel (decide (v11.1 < 64)) (
 bnd (
 req ((8 : Int) ≠ 0) <|
 bnd (Xc8 p1.Above (v11.1.tmod 8)) fun q20 =>
 req ((8 : Int) ≠ 0) <|
 bnd (Xc8 p1.Left (Xaa .i64 (v11.1.tdiv 8))) fun q21 =>
 sel (p0 == 0) (
 bnd (Xkl p1) fun q22 =>
 req ((v11.2.length + ([q22]).length) * 8 ≤ 140737488355328 ∧ v11.2.length + ([q22]).length ≤ maxLen) <|
 some (v11.2 ++ ([q22]))) (
 sel (p0 == 1) (
 req ((v11.2.length + ([q20]).length) * 8 ≤ 140737488355328 ∧ v11.2.length + ([q20]).length ≤ maxLen) <|
 some (v11.2 ++ ([q20]))) (
 sel (p0 == 2) (
 req ((v11.2.length + ([q21]).length) * 8 ≤ 140737488355328 ∧ v11.2.length + ([q21]).length ≤ maxLen) <|
 some (v11.2 ++ ([q21]))) (
 bnd (Xb7 (Xaa .i64 ((Xaa .i64 (q21 + q20)) - v4)) 0 255) fun q23 =>
 req ((v11.2.length + ([q23]).length) * 8 ≤ 140737488355328 ∧ v11.2.length + ([q23]).length ≤ maxLen) <|
 some (v11.2 ++ ([q23])))))) fun v19 =>
 some (.go (Xaa .i64 (v11.1 + 1), v19))) (
 some (.done v11.2))
def Xde (p0 : Int) (p1 : Xim) : Option (List Int) :=
 bnd (
 bnd (Xkz p1) fun q2 =>
 sel q2 (
 bnd (Xas p0 0 3) fun q3 =>
 some (!q3)) (
 some true)) fun v1 =>
 sel v1 (
 some ([] : List Int)) (
 bnd (
 sel (decide (p1.Corner < 0)) (
 some 128) (
 some p1.Corner)) fun v4 =>
 bnd (loop (Xdf p0 p1 v4) (0, ([] : List Int))) fun v18 =>
 some v18)
def Xd0 (p0 : (List Int)) (p1 : Int) (p2 : Int) (v3 : Int) : Option (Lp Int (Ou Unit Bool)) :=
 sel (decide (v3 < p1)) (
 req (0 ≤ v3 ∧ v3 < p0.length) <|
 bnd (Xas (p0.getD v3.toNat 0) (Xaa .i64 (0 - p2)) p2) fun q7 =>
 sel (!q7) (
 some (.done (.ret false))) (
 some (.go (Xaa .i64 (v3 + 1))))) (
 some (.done (.out ())))
def Xbt (p0 : (List Int)) (p1 : Int) (p2 : Int) : Option Bool :=
 sel ((p0.length : Int) != p1) (
 some false) (
 bnd (loop (Xd0 p0 p1 p2) 0) fun o8 => match o8 with
| .out v6 => (
 some true)
| .ret r => some r)
def Xdy (p0 : Int) : Option Int :=
 sel (decide (p0 < 0)) (
 some (Xaa .i64 (0 - p0))) (
 some p0)
def Xlv (p0 : (List Int)) (p1 : (List Int)) (v6 : (Int × Int)) : Option (Lp (Int × Int) Int) :=
 sel (decide (v6.2 < 64)) (
 req (0 ≤ v6.2 ∧ v6.2 < p0.length) <|
 req (0 ≤ v6.2 ∧ v6.2 < p1.length) <|
 bnd (Xdy (Xaa .i64 ((p0.getD v6.2.toNat 0) - (p1.getD v6.2.toNat 0)))) fun q10 =>
 some (.go (Xaa .i64 (v6.1 + q10), Xaa .i64 (v6.2 + 1)))) (
 some (.done v6.1))
def Xo3 (p0 : (List Int)) (p1 : (List Int)) : Option Int :=
 bnd (
 bnd (Xbt p0 64 1000) fun q2 =>
 sel q2 (
 bnd (Xbt p1 64 1000) fun q3 =>
 some (!q3)) (
 some true)) fun v1 =>
 sel v1 (
 some (-1)) (
 bnd (loop (Xlv p0 p1) (0, 0)) fun v9 =>
 some v9)
def Xsi (p0 : Int) : Option (ByteArray × Bool) :=
 bnd (Xas p0 0 1000000) fun q1 =>
 sel (!q1) (
 some (⟨#[]⟩, false)) (
 bnd (Xcm p0) fun q2 =>
 some (q2, true))
def Xid (p0 : Int) : Option Int :=
 bnd (Xsi p0) fun q1 =>
 some (q1.1.size : Int)
def Xc2 (p0 : (List Int)) (p1 : Xim) (v16 : (Int × Int × Int)) : Option (Lp (Int × Int × Int) (Int × Int)) :=
 sel (decide (v16.2.2 < 4)) (
 bnd (
 bnd (Xde v16.2.2 p1) fun q25 =>
 bnd (Xo3 p0 q25) fun q26 =>
 bnd (Xid v16.2.2) fun q27 =>
 bnd (
 sel (decide (v16.2.1 < 0)) (
 some true) (
 some (decide ((Xaa .i64 (q26 + q27)) < v16.2.1)))) fun v28 =>
 sel v28 (
 some (v16.2.2, Xaa .i64 (q26 + q27))) (
 some (v16.1, v16.2.1))) fun v24 =>
 some (.go (v24.1, v24.2, Xaa .i64 (v16.2.2 + 1)))) (
 some (.done (v16.1, v16.2.1)))
def Xfk (p0 : (List Int)) (p1 : Xim) : Option (Int × Int) :=
 bnd (
 bnd (Xkz p1) fun q2 =>
 sel q2 (
 bnd (Xd3 p0) fun q3 =>
 some (!q3)) (
 some true)) fun v1 =>
 sel v1 (
 some (0, (-1))) (
 bnd (loop (Xc2 p0 p1) (0, (-1), 0)) fun v23 =>
 some (v23.1, v23.2))
def Xwk (p0 : Int) : Option (ByteArray × Bool) :=
 bnd (Xas p0 (-500000) 500000) fun q1 =>
 sel (!q1) (
 some (⟨#[]⟩, false)) (
 bnd (Xi2 p0) fun q2 =>
 some (q2, true))
def Xm6 (p0 : Int) : Option Int :=
 bnd (Xwk p0) fun q1 =>
 some (q1.1.size : Int)
def Xi1 (p0 : Pic) (p1 : (List Int)) (p2 : Int) (p3 : Int) (p4 : Int) (v32 : (Int × Int × Int × Int)) (v69 : (Int × Int × Int × Int)) : Option (Lp (Int × Int × Int × Int) (Int × Int × Int)) :=
 sel (decide (v69.2.2.2 ≤ p4)) (
 bnd (
 bnd (Xhi p0 (Xaa .i64 (p2 + v69.2.2.2)) (Xaa .i64 (p3 + v32.2.2.2)) 8 8) fun q80 =>
 sel (!q80) (
 some (v69.1, v69.2.1, v69.2.2.1)) (
 bnd (Xe9 p0 (Xaa .i64 (p2 + v69.2.2.2)) (Xaa .i64 (p3 + v32.2.2.2))) fun q81 =>
 bnd (Xo3 p1 q81) fun q82 =>
 bnd (Xm6 v69.2.2.2) fun q83 =>
 bnd (Xm6 v32.2.2.2) fun q84 =>
 bnd (
 sel (decide (v69.2.2.1 < 0)) (
 some true) (
 some (decide ((Xaa .i64 ((Xaa .i64 (q82 + q83)) + q84)) < v69.2.2.1)))) fun v85 =>
 sel v85 (
 some (v69.2.2.2, v32.2.2.2, Xaa .i64 ((Xaa .i64 (q82 + q83)) + q84))) (
 some (v69.1, v69.2.1, v69.2.2.1)))) fun v79 =>
 some (.go (v79.1, v79.2.1, v79.2.2, Xaa .i64 (v69.2.2.2 + 1)))) (
 some (.done (v69.1, v69.2.1, v69.2.2.1)))
def Xi0 (p0 : Pic) (p1 : (List Int)) (p2 : Int) (p3 : Int) (p4 : Int) (v32 : (Int × Int × Int × Int)) : Option (Lp (Int × Int × Int × Int) (Int × Int × Int)) :=
 sel (decide (v32.2.2.2 ≤ p4)) (
 bnd (loop (Xi1 p0 p1 p2 p3 p4 v32) (v32.1, v32.2.1, v32.2.2.1, Xaa .i64 (0 - p4))) fun v78 =>
 some (.go (v78.1, v78.2.1, v78.2.2, Xaa .i64 (v32.2.2.2 + 1)))) (
 some (.done (v32.1, v32.2.1, v32.2.2.1)))
def Xiz (p0 : Pic) (p1 : (List Int)) (p2 : Int) (p3 : Int) (p4 : Int) : Option (Int × Int × Int) :=
 bnd (
 bnd (Xd3 p1) fun q2 =>
 sel q2 (
 bnd (Xas p4 0 4) fun q3 =>
 sel q3 (
 bnd (Xgl p0 p2 p3) fun q4 =>
 some (!q4)) (
 some true)) (
 some true)) fun v1 =>
 sel v1 (
 some (0, 0, (-1))) (
 bnd (loop (Xi0 p0 p1 p2 p3 p4) (0, 0, (-1), Xaa .i64 (0 - p4))) fun v60 =>
 some (v60.1, v60.2.1, v60.2.2))
def Xpy (p0 : Int) (p1 : Int) (v17 : (Int × Int)) (v38 : (Int × Int)) : Option (Lp (Int × Int) (Ou Int Int)) :=
 sel (decide (v38.2 < p0)) (
 Zas (fun (v44 : Int) =>
 some (.go (v44, Xaa .i64 (v38.2 + 1)))) fun j36 =>
 bnd (
 req ((2 : Int) ≠ 0) <|
 sel ((v17.2.tmod 2) == 0) (
 some (Xaa .i64 ((Xaa .i64 (p0 - 1)) - v38.2))) (
 some v38.2)) fun v45 =>
 bnd (Xas (Xaa .i64 (v17.2 - v45)) 0 (Xaa .i64 (p0 - 1))) fun q46 =>
 sel (!q46) (
 j36 v38.1) (
 sel (v38.1 == p1) (
 some (.done (.ret (Xaa .i64 ((Xaa .i64 ((Xaa .i64 (p0 * v45)) + v17.2)) - v45))))) (
 j36 (Xaa .i64 (v38.1 + 1))))) (
 some (.done (.out v38.1)))
def Xly (p0 : Int) (p1 : Int) (v17 : (Int × Int)) : Option (Lp (Int × Int) (Ou Unit Int)) :=
 sel (decide (v17.2 ≤ (Xaa .i64 ((Xaa .i64 (2 * p0)) - 2)))) (
 bnd (loop (Xpy p0 p1 v17) (v17.1, 0)) fun o47 => match o47 with
| .out v43 => (
 some (.go (v43, Xaa .i64 (v17.2 + 1))))
| .ret r => some (.done (.ret r))) (
 some (.done (.out ())))
def Xm5 (p0 : Int) (p1 : Int) : Option Int :=
 bnd (
 sel (p0 != 4) (
 sel (p0 != 8) (
 some true) (
 sel (decide (p1 < 0)) (
 some true) (
 some (decide (p1 ≥ (Xaa .i64 (p0 * p0))))))) (
 sel (decide (p1 < 0)) (
 some true) (
 some (decide (p1 ≥ (Xaa .i64 (p0 * p0))))))) fun v1 =>
 sel v1 (
 some (-1)) (
 bnd (loop (Xly p0 p1) (0, 0)) fun o48 => match o48 with
| .out v33 => (
 some (-1))
| .ret r => some r)
def Xdh (p0 : Int) (p1 : (List Int)) (v4 : (Int × (List Int))) : Option (Lp (Int × (List Int)) (List Int)) :=
 sel (decide (v4.1 < (Xaa .i64 (p0 * p0)))) (
 bnd (Xm5 p0 v4.1) fun q8 =>
 req (0 ≤ q8 ∧ q8 < p1.length) <|
 req ((v4.2.length + ([(p1.getD q8.toNat 0)]).length) * 8 ≤ 140737488355328 ∧ v4.2.length + ([(p1.getD q8.toNat 0)]).length ≤ maxLen) <|
 some (.go (Xaa .i64 (v4.1 + 1), (v4.2 ++ ([(p1.getD q8.toNat 0)]))))) (
 some (.done v4.2))
def Xfb (p0 : Int) (p1 : (List Int)) : Option ((List Int) × Bool) :=
 bnd (
 sel (p0 != 4) (
 sel (p0 != 8) (
 some true) (
 some ((p1.length : Int) != (Xaa .i64 (p0 * p0))))) (
 some ((p1.length : Int) != (Xaa .i64 (p0 * p0))))) fun v1 =>
 sel v1 (
 some (([] : List Int), false)) (
 bnd (loop (Xdh p0 p1) (0, ([] : List Int))) fun v7 =>
 some (v7, true))
def Xjq (v6 : (Int × Int)) : Option (Lp (Int × Int) Int) :=
 sel (decide (v6.2 > 0)) (
 bnd (
 req ((2 : Int) ≠ 0) <|
 sel ((v6.2.tmod 2) == 1) (
 some (Xaa .i64 (0 - v6.1))) (
 some v6.1)) fun v10 =>
 req ((2 : Int) ≠ 0) <|
 some (.go (v10, Xaa .i64 (v6.2.tdiv 2)))) (
 some (.done v6.1))
def Xia (p0 : Int) (p1 : Int) : Option Int :=
 bnd (
 bnd (Xas p0 0 7) fun q2 =>
 sel q2 (
 bnd (Xas p1 0 7) fun q3 =>
 some (!q3)) (
 some true)) fun v1 =>
 sel v1 (
 some 0) (
 bnd (loop (Xjq) (1, (IntKind.wrap .i64 (BitVec.ofInt (IntKind.bits .i64) p0 &&& BitVec.ofInt (IntKind.bits .i64) p1).toNat))) fun v9 =>
 some v9)
def Xd2 (p0 : (List Int)) (p1 : Int) (p2 : Int) (v3 : (Int × Int)) : Option (Lp (Int × Int) Int) :=
 sel (decide (v3.2 < 8)) (
 req (0 ≤ (Xaa .i64 ((Xaa .i64 (8 * p1)) + v3.2)) ∧ (Xaa .i64 ((Xaa .i64 (8 * p1)) + v3.2)) < p0.length) <|
 bnd (Xia p2 v3.2) fun q7 =>
 some (.go (Xaa .i64 (v3.1 + (Xaa .i64 ((p0.getD (Xaa .i64 ((Xaa .i64 (8 * p1)) + v3.2)).toNat 0) * q7))), Xaa .i64 (v3.2 + 1)))) (
 some (.done v3.1))
def Xkk (p0 : (List Int)) (p1 : Int) (p2 : Int) : Option Int :=
 bnd (loop (Xd2 p0 p1 p2) (0, 0)) fun v6 =>
 some v6
def Xcs (p0 : (List Int)) (v10 : (Int × (List Int))) (v23 : (Int × (List Int))) : Option (Lp (Int × (List Int)) (List Int)) :=
 sel (decide (v23.1 < 8)) (
 bnd (Xkk p0 v10.1 v23.1) fun q27 =>
 req ((v23.2.length + ([q27]).length) * 8 ≤ 140737488355328 ∧ v23.2.length + ([q27]).length ≤ maxLen) <|
 some (.go (Xaa .i64 (v23.1 + 1), (v23.2 ++ ([q27]))))) (
 some (.done v23.2))
def Xcr (p0 : (List Int)) (v10 : (Int × (List Int))) : Option (Lp (Int × (List Int)) (List Int)) :=
 sel (decide (v10.1 < 8)) (
 bnd (loop (Xcs p0 v10) (0, v10.2)) fun v26 =>
 some (.go (Xaa .i64 (v10.1 + 1), v26))) (
 some (.done v10.2))
def Xcb (v20 : (List Int)) (v60 : (Int × (List Int))) (v101 : (Int × (List Int))) (v114 : (Int × Int)) : Option (Lp (Int × Int) Int) :=
 sel (decide (v114.2 < 8)) (
 bnd (Xia v60.1 v114.2) fun q118 =>
 req (0 ≤ (Xaa .i64 ((Xaa .i64 (8 * v114.2)) + v101.1)) ∧ (Xaa .i64 ((Xaa .i64 (8 * v114.2)) + v101.1)) < v20.length) <|
 req ((Xaa .i64 ((Xaa .i64 (8 * v114.2)) + v101.1)).toNat < v20.length) <|
 some (.go (Xaa .i64 (v114.1 + (Xaa .i64 (q118 * (v20.getD ((Xaa .i64 ((Xaa .i64 (8 * v114.2)) + v101.1)).toNat) 0)))), Xaa .i64 (v114.2 + 1)))) (
 some (.done v114.1))
def Xca (v20 : (List Int)) (v60 : (Int × (List Int))) (v101 : (Int × (List Int))) : Option (Lp (Int × (List Int)) (List Int)) :=
 sel (decide (v101.1 < 8)) (
 bnd (loop (Xcb v20 v60 v101) (0, 0)) fun v117 =>
 req ((v101.2.length + ([v117]).length) * 8 ≤ 140737488355328 ∧ v101.2.length + ([v117]).length ≤ maxLen) <|
 some (.go (Xaa .i64 (v101.1 + 1), (v101.2 ++ ([v117]))))) (
 some (.done v101.2))
def Xb9 (v20 : (List Int)) (v60 : (Int × (List Int))) : Option (Lp (Int × (List Int)) (List Int)) :=
 sel (decide (v60.1 < 8)) (
 bnd (loop (Xca v20 v60) (0, v60.2)) fun v111 =>
 some (.go (Xaa .i64 (v60.1 + 1), v111))) (
 some (.done v60.2))
def Xgk (p0 : (List Int)) : Option (List Int) :=
 bnd (loop (Xcr p0) (0, ([] : List Int))) fun v20 =>
 bnd (loop (Xb9 v20) (0, ([] : List Int))) fun v91 =>
 some v91
def Xm4 (p0 : (List Int)) : Option (List Int) :=
 bnd (Xbt p0 64 1000) fun q1 =>
 sel (!q1) (
 some ([] : List Int)) (
 bnd (Xgk p0) fun q2 =>
 some q2)
def Xjt (p0 : Int) (v4 : (Int × Int)) : Option (Lp (Int × Int) Int) :=
 req ((6 : Int) ≠ 0) <|
 sel (decide (v4.2 < (Xaa .i64 (p0.tdiv 6)))) (
 some (.go (Xaa .i64 (2 * v4.1), Xaa .i64 (v4.2 + 1)))) (
 some (.done v4.1))
def Xgz (p0 : Int) : Option Int :=
 bnd (Xas p0 0 40) fun q1 =>
 sel (!q1) (
 some 0) (
 bnd (
 req ((6 : Int) ≠ 0) <|
 sel ((p0.tmod 6) == 0) (
 some 10) (
 sel ((p0.tmod 6) == 1) (
 some 11) (
 sel ((p0.tmod 6) == 2) (
 some 13) (
 sel ((p0.tmod 6) == 3) (
 some 14) (
 sel ((p0.tmod 6) == 4) (
 some 16) (
 some 18)))))) fun v2 =>
 bnd (loop (Xjt p0) (v2, 0)) fun v6 =>
 some v6)
def Xfr (p0 : Int) (p1 : Int) : Option Int :=
 sel (decide (p0 < 0)) (
 some (Xaa .i64 (0 - p1))) (
 some p1)
def Xej (p0 : Int) (p1 : Int) : Option Int :=
 bnd (
 bnd (Xas p0 (-20000) 20000) fun q2 =>
 sel q2 (
 bnd (Xas p1 0 40) fun q3 =>
 some (!q3)) (
 some true)) fun v1 =>
 sel v1 (
 some 0) (
 bnd (Xgz p1) fun q4 =>
 bnd (Xdy p0) fun q5 =>
 req ((2 : Int) ≠ 0) <|
 req (q4 ≠ 0) <|
 bnd (Xfr p0 (Xaa .i64 ((Xaa .i64 (q5 + (Xaa .i64 (q4.tdiv 2)))).tdiv q4))) fun q6 =>
 some q6)
def Xbn (p0 : (List Int)) (p1 : Int) (v2 : (Int × (List Int))) : Option (Lp (Int × (List Int)) (List Int)) :=
 sel (decide (v2.1 < 16)) (
 req ((2 : Int) ≠ 0) <|
 req ((4 : Int) ≠ 0) <|
 req ((2 : Int) ≠ 0) <|
 req ((4 : Int) ≠ 0) <|
 req (0 ≤ (Xaa .i64 ((Xaa .i64 ((Xaa .i64 (8 * (Xaa .i64 ((Xaa .i64 ((Xaa .i64 (p1.tdiv 2)) * 4)) + (Xaa .i64 (v2.1.tdiv 4)))))) + (Xaa .i64 ((p1.tmod 2) * 4)))) + (v2.1.tmod 4))) ∧ (Xaa .i64 ((Xaa .i64 ((Xaa .i64 (8 * (Xaa .i64 ((Xaa .i64 ((Xaa .i64 (p1.tdiv 2)) * 4)) + (Xaa .i64 (v2.1.tdiv 4)))))) + (Xaa .i64 ((p1.tmod 2) * 4)))) + (v2.1.tmod 4))) < p0.length) <|
 req ((v2.2.length + ([(p0.getD (Xaa .i64 ((Xaa .i64 ((Xaa .i64 (8 * (Xaa .i64 ((Xaa .i64 ((Xaa .i64 (p1.tdiv 2)) * 4)) + (Xaa .i64 (v2.1.tdiv 4)))))) + (Xaa .i64 ((p1.tmod 2) * 4)))) + (v2.1.tmod 4))).toNat 0)]).length) * 8 ≤ 140737488355328 ∧ v2.2.length + ([(p0.getD (Xaa .i64 ((Xaa .i64 ((Xaa .i64 (8 * (Xaa .i64 ((Xaa .i64 ((Xaa .i64 (p1.tdiv 2)) * 4)) + (Xaa .i64 (v2.1.tdiv 4)))))) + (Xaa .i64 ((p1.tmod 2) * 4)))) + (v2.1.tmod 4))).toNat 0)]).length ≤ maxLen) <|
 some (.go (Xaa .i64 (v2.1 + 1), (v2.2 ++ ([(p0.getD (Xaa .i64 ((Xaa .i64 ((Xaa .i64 (8 * (Xaa .i64 ((Xaa .i64 ((Xaa .i64 (p1.tdiv 2)) * 4)) + (Xaa .i64 (v2.1.tdiv 4)))))) + (Xaa .i64 ((p1.tmod 2) * 4)))) + (v2.1.tmod 4))).toNat 0)]))))) (
 some (.done v2.2))
def Xem (p0 : (List Int)) (p1 : Int) : Option (List Int) :=
 bnd (loop (Xbn p0 p1) (0, ([] : List Int))) fun v4 =>
 some v4
def Xdk (p0 : (List Int)) (v2 : (Int × (List Int))) : Option (Lp (Int × (List Int)) (List Int)) :=
 sel (decide (v2.1 < 4)) (
 req (0 ≤ (Xaa .i64 (4 * v2.1)) ∧ (Xaa .i64 (4 * v2.1)) < p0.length) <|
 req (0 ≤ (Xaa .i64 ((Xaa .i64 (4 * v2.1)) + 1)) ∧ (Xaa .i64 ((Xaa .i64 (4 * v2.1)) + 1)) < p0.length) <|
 req (0 ≤ (Xaa .i64 ((Xaa .i64 (4 * v2.1)) + 2)) ∧ (Xaa .i64 ((Xaa .i64 (4 * v2.1)) + 2)) < p0.length) <|
 req (0 ≤ (Xaa .i64 ((Xaa .i64 (4 * v2.1)) + 3)) ∧ (Xaa .i64 ((Xaa .i64 (4 * v2.1)) + 3)) < p0.length) <|
 req ((v2.2.length + ([Xaa .i64 ((Xaa .i64 ((Xaa .i64 ((p0.getD (Xaa .i64 (4 * v2.1)).toNat 0) + (p0.getD (Xaa .i64 ((Xaa .i64 (4 * v2.1)) + 1)).toNat 0))) + (p0.getD (Xaa .i64 ((Xaa .i64 (4 * v2.1)) + 2)).toNat 0))) + (p0.getD (Xaa .i64 ((Xaa .i64 (4 * v2.1)) + 3)).toNat 0)), Xaa .i64 ((Xaa .i64 ((Xaa .i64 ((Xaa .i64 (2 * (p0.getD (Xaa .i64 (4 * v2.1)).toNat 0))) + (p0.getD (Xaa .i64 ((Xaa .i64 (4 * v2.1)) + 1)).toNat 0))) - (p0.getD (Xaa .i64 ((Xaa .i64 (4 * v2.1)) + 2)).toNat 0))) - (Xaa .i64 (2 * (p0.getD (Xaa .i64 ((Xaa .i64 (4 * v2.1)) + 3)).toNat 0)))), Xaa .i64 ((Xaa .i64 ((Xaa .i64 ((p0.getD (Xaa .i64 (4 * v2.1)).toNat 0) - (p0.getD (Xaa .i64 ((Xaa .i64 (4 * v2.1)) + 1)).toNat 0))) - (p0.getD (Xaa .i64 ((Xaa .i64 (4 * v2.1)) + 2)).toNat 0))) + (p0.getD (Xaa .i64 ((Xaa .i64 (4 * v2.1)) + 3)).toNat 0)), Xaa .i64 ((Xaa .i64 ((Xaa .i64 ((p0.getD (Xaa .i64 (4 * v2.1)).toNat 0) - (Xaa .i64 (2 * (p0.getD (Xaa .i64 ((Xaa .i64 (4 * v2.1)) + 1)).toNat 0))))) + (Xaa .i64 (2 * (p0.getD (Xaa .i64 ((Xaa .i64 (4 * v2.1)) + 2)).toNat 0))))) - (p0.getD (Xaa .i64 ((Xaa .i64 (4 * v2.1)) + 3)).toNat 0))]).length) * 8 ≤ 140737488355328 ∧ v2.2.length + ([Xaa .i64 ((Xaa .i64 ((Xaa .i64 ((p0.getD (Xaa .i64 (4 * v2.1)).toNat 0) + (p0.getD (Xaa .i64 ((Xaa .i64 (4 * v2.1)) + 1)).toNat 0))) + (p0.getD (Xaa .i64 ((Xaa .i64 (4 * v2.1)) + 2)).toNat 0))) + (p0.getD (Xaa .i64 ((Xaa .i64 (4 * v2.1)) + 3)).toNat 0)), Xaa .i64 ((Xaa .i64 ((Xaa .i64 ((Xaa .i64 (2 * (p0.getD (Xaa .i64 (4 * v2.1)).toNat 0))) + (p0.getD (Xaa .i64 ((Xaa .i64 (4 * v2.1)) + 1)).toNat 0))) - (p0.getD (Xaa .i64 ((Xaa .i64 (4 * v2.1)) + 2)).toNat 0))) - (Xaa .i64 (2 * (p0.getD (Xaa .i64 ((Xaa .i64 (4 * v2.1)) + 3)).toNat 0)))), Xaa .i64 ((Xaa .i64 ((Xaa .i64 ((p0.getD (Xaa .i64 (4 * v2.1)).toNat 0) - (p0.getD (Xaa .i64 ((Xaa .i64 (4 * v2.1)) + 1)).toNat 0))) - (p0.getD (Xaa .i64 ((Xaa .i64 (4 * v2.1)) + 2)).toNat 0))) + (p0.getD (Xaa .i64 ((Xaa .i64 (4 * v2.1)) + 3)).toNat 0)), Xaa .i64 ((Xaa .i64 ((Xaa .i64 ((p0.getD (Xaa .i64 (4 * v2.1)).toNat 0) - (Xaa .i64 (2 * (p0.getD (Xaa .i64 ((Xaa .i64 (4 * v2.1)) + 1)).toNat 0))))) + (Xaa .i64 (2 * (p0.getD (Xaa .i64 ((Xaa .i64 (4 * v2.1)) + 2)).toNat 0))))) - (p0.getD (Xaa .i64 ((Xaa .i64 (4 * v2.1)) + 3)).toNat 0))]).length ≤ maxLen) <|
 some (.go (Xaa .i64 (v2.1 + 1), (v2.2 ++ ([Xaa .i64 ((Xaa .i64 ((Xaa .i64 ((p0.getD (Xaa .i64 (4 * v2.1)).toNat 0) + (p0.getD (Xaa .i64 ((Xaa .i64 (4 * v2.1)) + 1)).toNat 0))) + (p0.getD (Xaa .i64 ((Xaa .i64 (4 * v2.1)) + 2)).toNat 0))) + (p0.getD (Xaa .i64 ((Xaa .i64 (4 * v2.1)) + 3)).toNat 0)), Xaa .i64 ((Xaa .i64 ((Xaa .i64 ((Xaa .i64 (2 * (p0.getD (Xaa .i64 (4 * v2.1)).toNat 0))) + (p0.getD (Xaa .i64 ((Xaa .i64 (4 * v2.1)) + 1)).toNat 0))) - (p0.getD (Xaa .i64 ((Xaa .i64 (4 * v2.1)) + 2)).toNat 0))) - (Xaa .i64 (2 * (p0.getD (Xaa .i64 ((Xaa .i64 (4 * v2.1)) + 3)).toNat 0)))), Xaa .i64 ((Xaa .i64 ((Xaa .i64 ((p0.getD (Xaa .i64 (4 * v2.1)).toNat 0) - (p0.getD (Xaa .i64 ((Xaa .i64 (4 * v2.1)) + 1)).toNat 0))) - (p0.getD (Xaa .i64 ((Xaa .i64 (4 * v2.1)) + 2)).toNat 0))) + (p0.getD (Xaa .i64 ((Xaa .i64 (4 * v2.1)) + 3)).toNat 0)), Xaa .i64 ((Xaa .i64 ((Xaa .i64 ((p0.getD (Xaa .i64 (4 * v2.1)).toNat 0) - (Xaa .i64 (2 * (p0.getD (Xaa .i64 ((Xaa .i64 (4 * v2.1)) + 1)).toNat 0))))) + (Xaa .i64 (2 * (p0.getD (Xaa .i64 ((Xaa .i64 (4 * v2.1)) + 2)).toNat 0))))) - (p0.getD (Xaa .i64 ((Xaa .i64 (4 * v2.1)) + 3)).toNat 0))]))))) (
 some (.done v2.2))
def Xgj (p0 : (List Int)) : Option (List Int) :=
 bnd (loop (Xdk p0) (0, ([] : List Int))) fun v4 =>
 some v4
def Xdj (p0 : (List Int)) (v2 : (Int × (List Int))) : Option (Lp (Int × (List Int)) (List Int)) :=
 sel (decide (v2.1 < 16)) (
 req ((4 : Int) ≠ 0) <|
 req ((4 : Int) ≠ 0) <|
 req (0 ≤ v2.1 ∧ v2.1 < p0.length) <|
 req (0 ≤ (Xaa .i64 ((Xaa .i64 ((v2.1.tmod 4) * 4)) + (Xaa .i64 (v2.1.tdiv 4)))) ∧ (Xaa .i64 ((Xaa .i64 ((v2.1.tmod 4) * 4)) + (Xaa .i64 (v2.1.tdiv 4)))) < v2.2.length) <|
 req ((Xaa .i64 ((Xaa .i64 ((v2.1.tmod 4) * 4)) + (Xaa .i64 (v2.1.tdiv 4)))).toNat < v2.2.length) <|
 some (.go (Xaa .i64 (v2.1 + 1), (v2.2.set ((Xaa .i64 ((Xaa .i64 ((v2.1.tmod 4) * 4)) + (Xaa .i64 (v2.1.tdiv 4)))).toNat) (p0.getD v2.1.toNat 0))))) (
 some (.done v2.2))
def Xd1 (p0 : (List Int)) : Option (List Int) :=
 req (0 ≤ (16 : Int) ∧ (16 : Int) ≤ (16 : Int) ∧ (16 : Int) * 8 ≤ 281474976710656) <|
 bnd (loop (Xdj p0) (0, (List.replicate (16 : Int).toNat (0 : Int)))) fun v4 =>
 some v4
def Xpu (p0 : (List Int)) : Option (List Int) :=
 bnd (Xbt p0 16 1000) fun q1 =>
 sel (!q1) (
 some ([] : List Int)) (
 bnd (Xgj p0) fun q2 =>
 bnd (Xd1 q2) fun q3 =>
 bnd (Xgj q3) fun q4 =>
 bnd (Xd1 q4) fun q5 =>
 some q5)
def Xkg (p0 : Int) : Option Int :=
 bnd (Xas p0 0 15) fun q1 =>
 sel (!q1) (
 some (-1)) (
 req ((4 : Int) ≠ 0) <|
 req ((2 : Int) ≠ 0) <|
 req ((4 : Int) ≠ 0) <|
 req ((2 : Int) ≠ 0) <|
 bnd (
 sel (((Xaa .i64 (p0.tdiv 4)).tmod 2) == 0) (
 some (((p0.tmod 4).tmod 2) == 0)) (
 some false)) fun v2 =>
 sel v2 (
 some 0) (
 bnd (
 sel (((Xaa .i64 (p0.tdiv 4)).tmod 2) == 1) (
 some (((p0.tmod 4).tmod 2) == 1)) (
 some false)) fun v3 =>
 sel v3 (
 some 1) (
 some 2)))
def Xa9 (p0 : Int) (p1 : Int) (p2 : Int) (p3 : Int) : Option Int :=
 sel (p0 == 0) (
 some p1) (
 sel (p0 == 1) (
 some p2) (
 some p3))
def Xh9 (p0 : Int) (p1 : Int) : Option Int :=
 bnd (Xkg p1) fun q1 =>
 bnd (
 bnd (Xas p0 0 40) fun q3 =>
 sel q3 (
 some (decide (q1 < 0))) (
 some true)) fun v2 =>
 sel v2 (
 some 0) (
 req ((6 : Int) ≠ 0) <|
 sel ((p0.tmod 6) == 0) (
 bnd (Xa9 q1 13107 5243 8066) fun q4 =>
 some q4) (
 sel ((p0.tmod 6) == 1) (
 bnd (Xa9 q1 11916 4660 7490) fun q5 =>
 some q5) (
 sel ((p0.tmod 6) == 2) (
 bnd (Xa9 q1 10082 4194 6554) fun q6 =>
 some q6) (
 sel ((p0.tmod 6) == 3) (
 bnd (Xa9 q1 9362 3647 5825) fun q7 =>
 some q7) (
 sel ((p0.tmod 6) == 4) (
 bnd (Xa9 q1 8192 3355 5243) fun q8 =>
 some q8) (
 bnd (Xa9 q1 7282 2893 4559) fun q9 =>
 some q9))))))
def Xel (p0 : Int) (p1 : Int) (p2 : Int) : Option Int :=
 bnd (
 bnd (Xas p0 (-20000) 20000) fun q2 =>
 sel q2 (
 bnd (Xas p1 0 40) fun q3 =>
 sel q3 (
 bnd (Xas p2 0 15) fun q4 =>
 some (!q4)) (
 some true)) (
 some true)) fun v1 =>
 sel v1 (
 some 0) (
 req ((6 : Int) ≠ 0) <|
 req (0 ≤ (Xaa .u64 (Xaa .i64 (15 + (Xaa .i64 (p1.tdiv 6)))))) <|
 bnd (Xdy p0) fun q5 =>
 bnd (Xh9 p1 p2) fun q6 =>
 req ((3 : Int) ≠ 0) <|
 req ((Xaa .i64 (1 * 2 ^ min (Xaa .u64 (Xaa .i64 (15 + (Xaa .i64 (p1.tdiv 6))))).toNat (IntKind.bits .i64))) ≠ 0) <|
 bnd (Xfr p0 (Xaa .i64 ((Xaa .i64 ((Xaa .i64 (q5 * q6)) + (Xaa .i64 ((Xaa .i64 (1 * 2 ^ min (Xaa .u64 (Xaa .i64 (15 + (Xaa .i64 (p1.tdiv 6))))).toNat (IntKind.bits .i64))).tdiv 3)))).tdiv (Xaa .i64 (1 * 2 ^ min (Xaa .u64 (Xaa .i64 (15 + (Xaa .i64 (p1.tdiv 6))))).toNat (IntKind.bits .i64)))))) fun q7 =>
 some q7)
def Xbv (p1 : Xfs) (v8 : (Int × (List Int))) : Option (Lp (Int × (List Int)) (List Int)) :=
 sel (decide (v8.1 < 64)) (
 req (0 ≤ v8.1 ∧ v8.1 < v8.2.length) <|
 req (v8.1.toNat < v8.2.length) <|
 bnd (Xej (v8.2.getD v8.1.toNat 0) p1.Qp) fun q12 =>
 req (0 ≤ v8.1 ∧ v8.1 < v8.2.length) <|
 req (v8.1.toNat < v8.2.length) <|
 some (.go (Xaa .i64 (v8.1 + 1), (v8.2.set v8.1.toNat q12)))) (
 some (.done v8.2))
def Xbh (p1 : Xfs) (v45 : (Int × (List Int))) : Option (Lp (Int × (List Int)) (List Int)) :=
 sel (decide (v45.1 < 16)) (
 req (0 ≤ v45.1 ∧ v45.1 < v45.2.length) <|
 req (v45.1.toNat < v45.2.length) <|
 bnd (Xel (v45.2.getD v45.1.toNat 0) p1.Qp v45.1) fun q49 =>
 req (0 ≤ v45.1 ∧ v45.1 < v45.2.length) <|
 req (v45.1.toNat < v45.2.length) <|
 some (.go (Xaa .i64 (v45.1 + 1), (v45.2.set v45.1.toNat q49)))) (
 some (.done v45.2))
def Xc3 (p0 : (List Int)) (p1 : Xfs) (v27 : (Int × (List Int))) : Option (Lp (Int × (List Int)) (List Int)) :=
 sel (decide (v27.1 < 4)) (
 bnd (Xem p0 v27.1) fun q41 =>
 bnd (Xpu q41) fun q42 =>
 bnd (loop (Xbh p1) (0, q42)) fun v48 =>
 bnd (Xfb 4 v48) fun q51 =>
 req ((v27.2.length + q51.1.length) * 8 ≤ 140737488355328 ∧ v27.2.length + q51.1.length ≤ maxLen) <|
 some (.go (Xaa .i64 (v27.1 + 1), (v27.2 ++ q51.1)))) (
 some (.done v27.2))
def Xch (p0 : (List Int)) (p1 : Xfs) : Option ((List Int) × Bool) :=
 bnd (
 bnd (Xgw p1) fun q2 =>
 sel q2 (
 bnd (Xbt p0 64 255) fun q3 =>
 some (!q3)) (
 some true)) fun v1 =>
 sel v1 (
 some (([] : List Int), false)) (
 sel p1.Exact (
 bnd (Xfb 8 p0) fun q4 =>
 some (q4.1, q4.2)) (
 sel p1.Large (
 bnd (Xm4 p0) fun q5 =>
 bnd (loop (Xbv p1) (0, q5)) fun v11 =>
 bnd (Xfb 8 v11) fun q14 =>
 some (q14.1, q14.2)) (
 bnd (loop (Xc3 p0 p1) (0, ([] : List Int))) fun v40 =>
 some (v40, true))))
def Xjx (p0 : Pic) (p1 : Pic) (p2 : (List Int)) (p3 : Int) (p4 : Int) (p5 : Xfs) (p6 : Int) : Option Xau :=
 bnd (
 sel p5.Key (
 some false) (
 bnd (Xe9 p1 p3 p4) fun q2 =>
 bnd (Xik p2 q2) fun q3 =>
 bnd (Xk7 q3) fun q4 =>
 some q4)) fun v1 =>
 sel v1 (
 some (⟨0, 0, 0, 0, []⟩ : Xau)) (
 bnd (Xfa p0 p3 p4) fun q5 =>
 bnd (Xfk p2 q5.1) fun q6 =>
 Zas (fun (v7 : Unit) =>
 bnd (Xde q6.1 q5.1) fun q14 =>
 bnd (Xik p2 q14) fun q15 =>
 bnd (Xch q15 p5) fun q16 =>
 some (⟨2, q6.1, 0, 0, q16.1⟩ : Xau)) fun j1 =>
 sel (!p5.Key) (
 bnd (Xiz p1 p2 p3 p4 p6) fun q8 =>
 sel (decide (q8.2.2 ≤ q6.2)) (
 bnd (Xe9 p1 (Xaa .i64 (p3 + q8.1)) (Xaa .i64 (p4 + q8.2.1))) fun q9 =>
 bnd (Xik p2 q9) fun q10 =>
 bnd (Xch q10 p5) fun q11 =>
 bnd (
 sel (q8.1 == 0) (
 sel (q8.2.1 == 0) (
 bnd (Xk7 q11.1) fun q13 =>
 some q13) (
 some false)) (
 some false)) fun v12 =>
 sel v12 (
 some (⟨0, 0, 0, 0, []⟩ : Xau)) (
 some (⟨1, 0, q8.1, q8.2.1, q11.1⟩ : Xau))) (
 j1 ())) (
 j1 ()))
def Xlz (p0 : Xau) : Option Bool :=
 sel (p0.Kind == 0) (
 bnd (
 sel (p0.Mode == 0) (
 sel (p0.Dx == 0) (
 sel (p0.Dy == 0) (
 some ((p0.Levels.length : Int) == 0)) (
 some false)) (
 some false)) (
 some false)) fun v1 =>
 some v1) (
 sel (p0.Kind == 1) (
 bnd (
 sel (p0.Mode == 0) (
 bnd (Xas p0.Dx (-16) 16) fun q3 =>
 sel q3 (
 bnd (Xas p0.Dy (-16) 16) fun q4 =>
 sel q4 (
 bnd (Xbt p0.Levels 64 5000) fun q5 =>
 some q5) (
 some false)) (
 some false)) (
 some false)) fun v2 =>
 some v2) (
 sel (p0.Kind == 2) (
 bnd (
 bnd (Xas p0.Mode 0 3) fun q7 =>
 sel q7 (
 sel (p0.Dx == 0) (
 sel (p0.Dy == 0) (
 bnd (Xbt p0.Levels 64 5000) fun q8 =>
 some q8) (
 some false)) (
 some false)) (
 some false)) fun v6 =>
 some v6) (
 some false)))
def Xb8 (p0 : Int) (p1 : (List Int)) (v4 : (Int × (List Int))) : Option (Lp (Int × (List Int)) (List Int)) :=
 sel (decide (v4.1 < (Xaa .i64 (p0 * p0)))) (
 bnd (Xm5 p0 v4.1) fun q8 =>
 req (0 ≤ v4.1 ∧ v4.1 < p1.length) <|
 req (0 ≤ q8 ∧ q8 < v4.2.length) <|
 req (q8.toNat < v4.2.length) <|
 some (.go (Xaa .i64 (v4.1 + 1), (v4.2.set q8.toNat (p1.getD v4.1.toNat 0))))) (
 some (.done v4.2))
def Xc6 (p0 : Int) (p1 : (List Int)) : Option ((List Int) × Bool) :=
 bnd (
 sel (p0 != 4) (
 sel (p0 != 8) (
 some true) (
 some ((p1.length : Int) != (Xaa .i64 (p0 * p0))))) (
 some ((p1.length : Int) != (Xaa .i64 (p0 * p0))))) fun v1 =>
 sel v1 (
 some (([] : List Int), false)) (
 req (0 ≤ (p1.length : Int) ∧ (p1.length : Int) ≤ (p1.length : Int) ∧ (p1.length : Int) * 8 ≤ 281474976710656) <|
 bnd (loop (Xb8 p0 p1) (0, (List.replicate (p1.length : Int).toNat (0 : Int)))) fun v7 =>
 some (v7, true))
def Xfo (p0 : Int) (p1 : Int) : Option Int :=
 bnd (Xas p0 (-5000) 5000) fun q1 =>
 sel (!q1) (
 some 0) (
 bnd (Xgz p1) fun q2 =>
 some (Xaa .i64 (p0 * q2)))
def Xcq (p0 : Int) (p1 : Int) : Option Int :=
 req (p1 ≠ 0) <|
 bnd (
 req (p1 ≠ 0) <|
 sel (decide ((p0.tmod p1) < 0)) (
 some (Xaa .i64 ((Xaa .i64 (p0.tdiv p1)) - 1))) (
 some (Xaa .i64 (p0.tdiv p1)))) fun v1 =>
 some v1
def Xgb (v5 : (Int × (List Int))) : Option (Lp (Int × (List Int)) (List Int)) :=
 sel (decide (v5.1 < 64)) (
 req (0 ≤ v5.1 ∧ v5.1 < v5.2.length) <|
 req (v5.1.toNat < v5.2.length) <|
 bnd (Xcq (Xaa .i64 ((v5.2.getD v5.1.toNat 0) + 32)) 64) fun q9 =>
 req (0 ≤ v5.1 ∧ v5.1 < v5.2.length) <|
 req (v5.1.toNat < v5.2.length) <|
 some (.go (Xaa .i64 (v5.1 + 1), (v5.2.set v5.1.toNat q9)))) (
 some (.done v5.2))
def Xfm (p0 : (List Int)) : Option (List Int) :=
 bnd (Xbt p0 64 10000000) fun q1 =>
 sel (!q1) (
 some ([] : List Int)) (
 bnd (Xgk p0) fun q2 =>
 bnd (loop (Xgb) (0, q2)) fun v8 =>
 some v8)
def Xek (p0 : Int) (v12 : (Int × Int)) : Option (Lp (Int × Int) Int) :=
 req ((6 : Int) ≠ 0) <|
 sel (decide (v12.2 < (Xaa .i64 (p0.tdiv 6)))) (
 some (.go (Xaa .i64 (2 * v12.1), Xaa .i64 (v12.2 + 1)))) (
 some (.done v12.1))
def Xh8 (p0 : Int) (p1 : Int) : Option Int :=
 bnd (Xkg p1) fun q1 =>
 bnd (
 bnd (Xas p0 0 40) fun q3 =>
 sel q3 (
 some (decide (q1 < 0))) (
 some true)) fun v2 =>
 sel v2 (
 some 0) (
 bnd (
 req ((6 : Int) ≠ 0) <|
 sel ((p0.tmod 6) == 0) (
 bnd (Xa9 q1 10 16 13) fun q5 =>
 some q5) (
 sel ((p0.tmod 6) == 1) (
 bnd (Xa9 q1 11 18 14) fun q6 =>
 some q6) (
 sel ((p0.tmod 6) == 2) (
 bnd (Xa9 q1 13 20 16) fun q7 =>
 some q7) (
 sel ((p0.tmod 6) == 3) (
 bnd (Xa9 q1 14 23 18) fun q8 =>
 some q8) (
 sel ((p0.tmod 6) == 4) (
 bnd (Xa9 q1 16 25 20) fun q9 =>
 some q9) (
 sel ((p0.tmod 6) == 5) (
 bnd (Xa9 q1 18 29 23) fun q10 =>
 some q10) (
 some 0))))))) fun v4 =>
 bnd (loop (Xek p0) (v4, 0)) fun v14 =>
 some v14)
def Xfp (p0 : Int) (p1 : Int) (p2 : Int) : Option Int :=
 bnd (Xas p0 (-5000) 5000) fun q1 =>
 sel (!q1) (
 some 0) (
 bnd (Xh8 p1 p2) fun q2 =>
 some (Xaa .i64 (p0 * q2)))
def Xcp (p0 : (List Int)) (v4 : (Int × (List Int))) : Option (Lp (Int × (List Int)) (List Int)) :=
 sel (decide (v4.1 < 4)) (
 req (0 ≤ (Xaa .i64 (4 * v4.1)) ∧ (Xaa .i64 (4 * v4.1)) < p0.length) <|
 req (0 ≤ (Xaa .i64 ((Xaa .i64 (4 * v4.1)) + 1)) ∧ (Xaa .i64 ((Xaa .i64 (4 * v4.1)) + 1)) < p0.length) <|
 req (0 ≤ (Xaa .i64 ((Xaa .i64 (4 * v4.1)) + 2)) ∧ (Xaa .i64 ((Xaa .i64 (4 * v4.1)) + 2)) < p0.length) <|
 req (0 ≤ (Xaa .i64 ((Xaa .i64 (4 * v4.1)) + 3)) ∧ (Xaa .i64 ((Xaa .i64 (4 * v4.1)) + 3)) < p0.length) <|
 bnd (Xcq (p0.getD (Xaa .i64 ((Xaa .i64 (4 * v4.1)) + 1)).toNat 0) 2) fun q9 =>
 bnd (Xcq (p0.getD (Xaa .i64 ((Xaa .i64 (4 * v4.1)) + 3)).toNat 0) 2) fun q10 =>
 req ((v4.2.length + ([Xaa .i64 ((Xaa .i64 ((p0.getD (Xaa .i64 (4 * v4.1)).toNat 0) + (p0.getD (Xaa .i64 ((Xaa .i64 (4 * v4.1)) + 2)).toNat 0))) + (Xaa .i64 ((p0.getD (Xaa .i64 ((Xaa .i64 (4 * v4.1)) + 1)).toNat 0) + q10))), Xaa .i64 ((Xaa .i64 ((p0.getD (Xaa .i64 (4 * v4.1)).toNat 0) - (p0.getD (Xaa .i64 ((Xaa .i64 (4 * v4.1)) + 2)).toNat 0))) + (Xaa .i64 (q9 - (p0.getD (Xaa .i64 ((Xaa .i64 (4 * v4.1)) + 3)).toNat 0)))), Xaa .i64 ((Xaa .i64 ((p0.getD (Xaa .i64 (4 * v4.1)).toNat 0) - (p0.getD (Xaa .i64 ((Xaa .i64 (4 * v4.1)) + 2)).toNat 0))) - (Xaa .i64 (q9 - (p0.getD (Xaa .i64 ((Xaa .i64 (4 * v4.1)) + 3)).toNat 0)))), Xaa .i64 ((Xaa .i64 ((p0.getD (Xaa .i64 (4 * v4.1)).toNat 0) + (p0.getD (Xaa .i64 ((Xaa .i64 (4 * v4.1)) + 2)).toNat 0))) - (Xaa .i64 ((p0.getD (Xaa .i64 ((Xaa .i64 (4 * v4.1)) + 1)).toNat 0) + q10)))]).length) * 8 ≤ 140737488355328 ∧ v4.2.length + ([Xaa .i64 ((Xaa .i64 ((p0.getD (Xaa .i64 (4 * v4.1)).toNat 0) + (p0.getD (Xaa .i64 ((Xaa .i64 (4 * v4.1)) + 2)).toNat 0))) + (Xaa .i64 ((p0.getD (Xaa .i64 ((Xaa .i64 (4 * v4.1)) + 1)).toNat 0) + q10))), Xaa .i64 ((Xaa .i64 ((p0.getD (Xaa .i64 (4 * v4.1)).toNat 0) - (p0.getD (Xaa .i64 ((Xaa .i64 (4 * v4.1)) + 2)).toNat 0))) + (Xaa .i64 (q9 - (p0.getD (Xaa .i64 ((Xaa .i64 (4 * v4.1)) + 3)).toNat 0)))), Xaa .i64 ((Xaa .i64 ((p0.getD (Xaa .i64 (4 * v4.1)).toNat 0) - (p0.getD (Xaa .i64 ((Xaa .i64 (4 * v4.1)) + 2)).toNat 0))) - (Xaa .i64 (q9 - (p0.getD (Xaa .i64 ((Xaa .i64 (4 * v4.1)) + 3)).toNat 0)))), Xaa .i64 ((Xaa .i64 ((p0.getD (Xaa .i64 (4 * v4.1)).toNat 0) + (p0.getD (Xaa .i64 ((Xaa .i64 (4 * v4.1)) + 2)).toNat 0))) - (Xaa .i64 ((p0.getD (Xaa .i64 ((Xaa .i64 (4 * v4.1)) + 1)).toNat 0) + q10)))]).length ≤ maxLen) <|
 some (.go (Xaa .i64 (v4.1 + 1), (v4.2 ++ ([Xaa .i64 ((Xaa .i64 ((p0.getD (Xaa .i64 (4 * v4.1)).toNat 0) + (p0.getD (Xaa .i64 ((Xaa .i64 (4 * v4.1)) + 2)).toNat 0))) + (Xaa .i64 ((p0.getD (Xaa .i64 ((Xaa .i64 (4 * v4.1)) + 1)).toNat 0) + q10))), Xaa .i64 ((Xaa .i64 ((p0.getD (Xaa .i64 (4 * v4.1)).toNat 0) - (p0.getD (Xaa .i64 ((Xaa .i64 (4 * v4.1)) + 2)).toNat 0))) + (Xaa .i64 (q9 - (p0.getD (Xaa .i64 ((Xaa .i64 (4 * v4.1)) + 3)).toNat 0)))), Xaa .i64 ((Xaa .i64 ((p0.getD (Xaa .i64 (4 * v4.1)).toNat 0) - (p0.getD (Xaa .i64 ((Xaa .i64 (4 * v4.1)) + 2)).toNat 0))) - (Xaa .i64 (q9 - (p0.getD (Xaa .i64 ((Xaa .i64 (4 * v4.1)) + 3)).toNat 0)))), Xaa .i64 ((Xaa .i64 ((p0.getD (Xaa .i64 (4 * v4.1)).toNat 0) + (p0.getD (Xaa .i64 ((Xaa .i64 (4 * v4.1)) + 2)).toNat 0))) - (Xaa .i64 ((p0.getD (Xaa .i64 ((Xaa .i64 (4 * v4.1)) + 1)).toNat 0) + q10)))]))))) (
 some (.done v4.2))
def Xfc (p0 : (List Int)) : Option (List Int) :=
 bnd (loop (Xcp p0) (0, ([] : List Int))) fun v8 =>
 some v8
def Xg7 (v8 : (Int × (List Int))) : Option (Lp (Int × (List Int)) (List Int)) :=
 sel (decide (v8.1 < 16)) (
 req (0 ≤ v8.1 ∧ v8.1 < v8.2.length) <|
 req (v8.1.toNat < v8.2.length) <|
 bnd (Xcq (Xaa .i64 ((v8.2.getD v8.1.toNat 0) + 32)) 64) fun q12 =>
 req (0 ≤ v8.1 ∧ v8.1 < v8.2.length) <|
 req (v8.1.toNat < v8.2.length) <|
 some (.go (Xaa .i64 (v8.1 + 1), (v8.2.set v8.1.toNat q12)))) (
 some (.done v8.2))
def Xgx (p0 : (List Int)) : Option (List Int) :=
 bnd (Xbt p0 16 10000000) fun q1 =>
 sel (!q1) (
 some ([] : List Int)) (
 bnd (Xfc p0) fun q2 =>
 bnd (Xd1 q2) fun q3 =>
 bnd (Xfc q3) fun q4 =>
 bnd (Xd1 q4) fun q5 =>
 bnd (loop (Xg7) (0, q5)) fun v11 =>
 some v11)
def Xbc (p1 : Xfs) (v8 : (Int × (List Int))) : Option (Lp (Int × (List Int)) (List Int)) :=
 sel (decide (v8.1 < 64)) (
 req (0 ≤ v8.1 ∧ v8.1 < v8.2.length) <|
 req (v8.1.toNat < v8.2.length) <|
 bnd (Xfo (v8.2.getD v8.1.toNat 0) p1.Qp) fun q12 =>
 req (0 ≤ v8.1 ∧ v8.1 < v8.2.length) <|
 req (v8.1.toNat < v8.2.length) <|
 some (.go (Xaa .i64 (v8.1 + 1), (v8.2.set v8.1.toNat q12)))) (
 some (.done v8.2))
def Xbb (p1 : Xfs) (v52 : (Int × (List Int))) : Option (Lp (Int × (List Int)) (List Int)) :=
 sel (decide (v52.1 < 16)) (
 req (0 ≤ v52.1 ∧ v52.1 < v52.2.length) <|
 req (v52.1.toNat < v52.2.length) <|
 bnd (Xfp (v52.2.getD v52.1.toNat 0) p1.Qp v52.1) fun q56 =>
 req (0 ≤ v52.1 ∧ v52.1 < v52.2.length) <|
 req (v52.1.toNat < v52.2.length) <|
 some (.go (Xaa .i64 (v52.1 + 1), (v52.2.set v52.1.toNat q56)))) (
 some (.done v52.2))
def Xbe (v31 : (Int × (List Int))) (q58 : (List Int)) (v60 : (Int × (List Int))) : Option (Lp (Int × (List Int)) (List Int)) :=
 sel (decide (v60.1 < 16)) (
 req ((2 : Int) ≠ 0) <|
 req ((4 : Int) ≠ 0) <|
 req ((2 : Int) ≠ 0) <|
 req ((4 : Int) ≠ 0) <|
 req (0 ≤ v60.1 ∧ v60.1 < q58.length) <|
 req (v60.1.toNat < q58.length) <|
 req (0 ≤ (Xaa .i64 ((Xaa .i64 ((Xaa .i64 (8 * (Xaa .i64 ((Xaa .i64 ((Xaa .i64 (v31.1.tdiv 2)) * 4)) + (Xaa .i64 (v60.1.tdiv 4)))))) + (Xaa .i64 ((v31.1.tmod 2) * 4)))) + (v60.1.tmod 4))) ∧ (Xaa .i64 ((Xaa .i64 ((Xaa .i64 (8 * (Xaa .i64 ((Xaa .i64 ((Xaa .i64 (v31.1.tdiv 2)) * 4)) + (Xaa .i64 (v60.1.tdiv 4)))))) + (Xaa .i64 ((v31.1.tmod 2) * 4)))) + (v60.1.tmod 4))) < v60.2.length) <|
 req ((Xaa .i64 ((Xaa .i64 ((Xaa .i64 (8 * (Xaa .i64 ((Xaa .i64 ((Xaa .i64 (v31.1.tdiv 2)) * 4)) + (Xaa .i64 (v60.1.tdiv 4)))))) + (Xaa .i64 ((v31.1.tmod 2) * 4)))) + (v60.1.tmod 4))).toNat < v60.2.length) <|
 some (.go (Xaa .i64 (v60.1 + 1), (v60.2.set ((Xaa .i64 ((Xaa .i64 ((Xaa .i64 (8 * (Xaa .i64 ((Xaa .i64 ((Xaa .i64 (v31.1.tdiv 2)) * 4)) + (Xaa .i64 (v60.1.tdiv 4)))))) + (Xaa .i64 ((v31.1.tmod 2) * 4)))) + (v60.1.tmod 4))).toNat) (q58.getD v60.1.toNat 0))))) (
 some (.done v60.2))
def Xb5 (p0 : (List Int)) (p1 : Xfs) (v31 : (Int × (List Int))) : Option (Lp (Int × (List Int)) (List Int)) :=
 sel (decide (v31.1 < 4)) (
 req (0 ≤ (Xaa .i64 (16 * v31.1)) ∧ (Xaa .i64 (16 * v31.1)) ≤ (Xaa .i64 ((Xaa .i64 (16 * v31.1)) + 16)) ∧ (Xaa .i64 ((Xaa .i64 (16 * v31.1)) + 16)) ≤ (p0.length : Int)) <|
 bnd (Xc6 4 ((p0.drop (Xaa .i64 (16 * v31.1)).toNat).take ((Xaa .i64 ((Xaa .i64 (16 * v31.1)) + 16)).toNat - (Xaa .i64 (16 * v31.1)).toNat))) fun q49 =>
 bnd (loop (Xbb p1) (0, q49.1)) fun v55 =>
 bnd (Xgx v55) fun q58 =>
 bnd (loop (Xbe v31 q58) (0, v31.2)) fun v62 =>
 some (.go (Xaa .i64 (v31.1 + 1), v62))) (
 some (.done v31.2))
def Xdg (p0 : (List Int)) (p1 : Xfs) : Option ((List Int) × Bool) :=
 bnd (
 bnd (Xgw p1) fun q2 =>
 sel q2 (
 bnd (Xbt p0 64 5000) fun q3 =>
 some (!q3)) (
 some true)) fun v1 =>
 sel v1 (
 some (([] : List Int), false)) (
 sel p1.Exact (
 bnd (Xc6 8 p0) fun q4 =>
 some (q4.1, q4.2)) (
 sel p1.Large (
 bnd (Xc6 8 p0) fun q5 =>
 bnd (loop (Xbc p1) (0, q5.1)) fun v11 =>
 bnd (Xfm v11) fun q14 =>
 some (q14, true)) (
 req (0 ≤ (64 : Int) ∧ (64 : Int) ≤ (64 : Int) ∧ (64 : Int) * 8 ≤ 281474976710656) <|
 bnd (loop (Xb5 p0 p1) (0, (List.replicate (64 : Int).toNat (0 : Int)))) fun v48 =>
 some (v48, true))))
def Xfn (p0 : (List Int)) (p1 : (List Int)) (v6 : (Int × (List Int))) : Option (Lp (Int × (List Int)) (List Int)) :=
 sel (decide (v6.1 < 64)) (
 req (0 ≤ v6.1 ∧ v6.1 < p0.length) <|
 req (0 ≤ v6.1 ∧ v6.1 < p1.length) <|
 bnd (Xb7 (Xaa .i64 ((p0.getD v6.1.toNat 0) + (p1.getD v6.1.toNat 0))) 0 255) fun q10 =>
 req ((v6.2.length + ([q10]).length) * 8 ≤ 140737488355328 ∧ v6.2.length + ([q10]).length ≤ maxLen) <|
 some (.go (Xaa .i64 (v6.1 + 1), (v6.2 ++ ([q10]))))) (
 some (.done v6.2))
def Xh7 (p0 : (List Int)) (p1 : (List Int)) : Option (List Int) :=
 bnd (
 bnd (Xd3 p0) fun q2 =>
 sel q2 (
 bnd (Xbt p1 64 10000000) fun q3 =>
 some (!q3)) (
 some true)) fun v1 =>
 sel v1 (
 some ([] : List Int)) (
 bnd (loop (Xfn p0 p1) (0, ([] : List Int))) fun v9 =>
 some v9)
def Xdi (p0 : Pic) (p1 : Pic) (p2 : Int) (p3 : Int) (p4 : Xfs) (p5 : Int) (p6 : Int) (p7 : Xau) : Option ((List Int) × Bool) :=
 bnd (
 bnd (Xgl p0 p5 p6) fun q2 =>
 sel q2 (
 bnd (Xas p2 0 256) fun q3 =>
 sel q3 (
 bnd (Xas p3 0 256) fun q4 =>
 sel q4 (
 bnd (Xlz p7) fun q5 =>
 sel q5 (
 bnd (Xgw p4) fun q6 =>
 some (!q6)) (
 some true)) (
 some true)) (
 some true)) (
 some true)) fun v1 =>
 sel v1 (
 some (([] : List Int), false)) (
 sel (p7.Kind == 2) (
 bnd (Xfa p0 p5 p6) fun q7 =>
 bnd (Xdg p7.Levels p4) fun q8 =>
 bnd (Xde p7.Mode q7.1) fun q9 =>
 bnd (Xh7 q9 q8.1) fun q10 =>
 some (q10, true)) (
 bnd (
 sel p4.Key (
 some true) (
 bnd (Xd6 p1) fun q12 =>
 some (!q12))) fun v11 =>
 sel v11 (
 some (([] : List Int), false)) (
 bnd (Xe9 p1 (Xaa .i64 ((Xaa .i64 (p2 + p5)) + p7.Dx)) (Xaa .i64 ((Xaa .i64 (p3 + p6)) + p7.Dy))) fun q13 =>
 sel (p7.Kind == 0) (
 some (q13, true)) (
 bnd (Xdg p7.Levels p4) fun q14 =>
 bnd (Xh7 q13 q14.1) fun q15 =>
 some (q15, true)))))
def Xfq (p0 : Pic) (p1 : Pic) (p2 : (List Int)) (p3 : Int) (p4 : Int) (p5 : Xfs) (p6 : Int) : Option (Xau × (List Int) × Bool) :=
 bnd (
 bnd (Xgl p0 p3 p4) fun q2 =>
 sel q2 (
 bnd (Xd3 p2) fun q3 =>
 sel q3 (
 bnd (Xgw p5) fun q4 =>
 sel q4 (
 bnd (Xas p6 0 4) fun q5 =>
 sel q5 (
 sel p5.Key (
 some false) (
 bnd (Xgm p0 p1) fun q6 =>
 some (!q6))) (
 some true)) (
 some true)) (
 some true)) (
 some true)) fun v1 =>
 sel v1 (
 some ((⟨0, 0, 0, 0, []⟩ : Xau), ([] : List Int), false)) (
 bnd (Xjx p0 p1 p2 p3 p4 p5 p6) fun q7 =>
 bnd (Xdi p0 p1 0 0 p5 p3 p4 q7) fun q8 =>
 some (q7, q8.1, true))
def Xcc (p0 : Pic) (p1 : Int) (p2 : Int) (p3 : (List Int)) (v2 : (Int × (List Int))) : Option (Lp (Int × (List Int)) (List Int)) :=
 sel (decide (v2.1 < 64)) (
 req ((8 : Int) ≠ 0) <|
 req ((8 : Int) ≠ 0) <|
 req (0 ≤ v2.1 ∧ v2.1 < p3.length) <|
 req (0 ≤ (Xaa .i64 ((Xaa .i64 ((Xaa .i64 ((Xaa .i64 (p2 + (Xaa .i64 (v2.1.tdiv 8)))) * p0.Wide)) + p1)) + (v2.1.tmod 8))) ∧ (Xaa .i64 ((Xaa .i64 ((Xaa .i64 ((Xaa .i64 (p2 + (Xaa .i64 (v2.1.tdiv 8)))) * p0.Wide)) + p1)) + (v2.1.tmod 8))) < v2.2.length) <|
 req ((Xaa .i64 ((Xaa .i64 ((Xaa .i64 ((Xaa .i64 (p2 + (Xaa .i64 (v2.1.tdiv 8)))) * p0.Wide)) + p1)) + (v2.1.tmod 8))).toNat < v2.2.length) <|
 some (.go (Xaa .i64 (v2.1 + 1), (v2.2.set ((Xaa .i64 ((Xaa .i64 ((Xaa .i64 ((Xaa .i64 (p2 + (Xaa .i64 (v2.1.tdiv 8)))) * p0.Wide)) + p1)) + (v2.1.tmod 8))).toNat) (Xaa .u8 ((p3.getD v2.1.toNat 0))))))) (
 some (.done v2.2))
def Xen (p0 : Pic) (p1 : Int) (p2 : Int) (p3 : (List Int)) : Option Pic :=
 req (p0.Dots.size ≤ maxLen) <|
 bnd (loop (Xcc p0 p1 p2 p3) (0, (Xa8 p0.Dots))) fun v4 =>
 some (⟨p0.Wide, p0.High, (strOfNums v4)⟩ : Pic)
def Xey (p0 : Pic) (p1 : Pic) (p2 : Xfs) (p3 : Int) (v24 : (Int × (List Xau) × Int × Int × ByteArray)) (v45 : (Int × (List Xau) × Int × Int × ByteArray)) : Option (Lp (Int × (List Xau) × Int × Int × ByteArray) ((List Xau) × Int × Int × ByteArray)) :=
 sel (decide (v45.1 < p0.Wide)) (
 bnd (Xe9 p0 v45.1 v24.1) fun q51 =>
 bnd (Xfq (⟨v45.2.2.1, v45.2.2.2.1, v45.2.2.2.2⟩ : Pic) p1 q51 v45.1 v24.1 p2 p3) fun q52 =>
 req ((v45.2.1.length + ([q52.1]).length) * 56 ≤ 140737488355328 ∧ v45.2.1.length + ([q52.1]).length ≤ maxLen) <|
 bnd (Xen (⟨v45.2.2.1, v45.2.2.2.1, v45.2.2.2.2⟩ : Pic) v45.1 v24.1 q52.2.1) fun q53 =>
 some (.go (Xaa .i64 (v45.1 + 8), (v45.2.1 ++ ([q52.1])), q53.Wide, q53.High, q53.Dots))) (
 some (.done (v45.2.1, v45.2.2.1, v45.2.2.2.1, v45.2.2.2.2)))
def Xex (p0 : Pic) (p1 : Pic) (p2 : Xfs) (p3 : Int) (v24 : (Int × (List Xau) × Int × Int × ByteArray)) : Option (Lp (Int × (List Xau) × Int × Int × ByteArray) ((List Xau) × Int × Int × ByteArray)) :=
 sel (decide (v24.1 < p0.High)) (
 bnd (loop (Xey p0 p1 p2 p3 v24) (0, v24.2.1, v24.2.2.1, v24.2.2.2.1, v24.2.2.2.2)) fun v50 =>
 some (.go (Xaa .i64 (v24.1 + 8), v50.1, v50.2.1, v50.2.2.1, v50.2.2.2))) (
 some (.done (v24.2.1, v24.2.2.1, v24.2.2.2.1, v24.2.2.2.2)))
def Xk0 (p0 : Pic) (p1 : Pic) (p2 : Xfs) (p3 : Int) : Option ((List Xau) × Pic × Bool) :=
 bnd (
 bnd (Xd6 p0) fun q2 =>
 sel q2 (
 bnd (Xk6 p0.Wide) fun q3 =>
 sel q3 (
 bnd (Xk6 p0.High) fun q4 =>
 sel q4 (
 bnd (Xgw p2) fun q5 =>
 sel q5 (
 bnd (Xas p3 0 4) fun q6 =>
 sel q6 (
 sel p2.Key (
 some false) (
 bnd (Xgm p0 p1) fun q7 =>
 some (!q7))) (
 some true)) (
 some true)) (
 some true)) (
 some true)) (
 some true)) fun v1 =>
 sel v1 (
 some (([] : List Xau), (⟨0, 0, ⟨#[]⟩⟩ : Pic), false)) (
 bnd (Xu9 p0.Wide p0.High) fun q8 =>
 bnd (loop (Xex p0 p1 p2 p3) (0, ([] : List Xau), q8.Wide, q8.High, q8.Dots)) fun v40 =>
 some (v40.1, (⟨v40.2.1, v40.2.2.1, v40.2.2.2⟩ : Pic), true))
def Xib (p0 : Source) : Option (List ByteArray) :=
 bnd (Xgy p0) fun q1 =>
 sel (!q1) (
 some ([] : List ByteArray)) (
 bnd (Xp8 p0.Seq) fun q2 =>
 bnd (Xki 7 q2) fun q3 =>
 bnd (Xp7 p0.Par) fun q4 =>
 bnd (Xki 8 q4) fun q5 =>
 some ([q3.1, q5.1]))
def Xlx (p0 : Rate) (p1 : Int) : Option Rate :=
 bnd (Xkh p0) fun q1 =>
 sel (!q1) (
 some p0) (
 bnd (Xb7 p1 0 400000) fun q2 =>
 bnd (Xb7 (Xaa .i64 ((Xaa .i64 (p0.Debt + q2)) - p0.Target)) (Xaa .i64 ((-8) * p0.Target)) (Xaa .i64 (8 * p0.Target))) fun q3 =>
 bnd (
 sel (decide (q3 > p0.Target)) (
 some (Xaa .i64 (p0.Qp + 1))) (
 some p0.Qp)) fun v4 =>
 bnd (
 sel (decide (q3 < (Xaa .i64 (0 - p0.Target)))) (
 some (Xaa .i64 (v4 - 1))) (
 some v4)) fun v5 =>
 bnd (Xb7 v5 0 40) fun q6 =>
 some (⟨q6, p0.Target, q3⟩ : Rate))
def Xcj (p0 : Source) (p1 : Pic) (p2 : Bool) : Option (Source × (List ByteArray) × Bool) :=
 bnd (Xm7 p0.Seq) fun q1 =>
 bnd (Xpx p0 p2) fun q2 =>
 bnd (
 bnd (Xgy p0) fun q4 =>
 sel q4 (
 bnd (Xd6 p1) fun q5 =>
 sel q5 (
 sel (p1.Wide != q1.1) (
 some true) (
 sel (p1.High != q1.2) (
 some true) (
 sel q2 (
 some false) (
 some (decide (p0.Since ≥ 1000)))))) (
 some true)) (
 some true)) fun v3 =>
 sel v3 (
 bnd (Xk2 p0.Seq) fun q6 =>
 some ((⟨q6, p0.Par, p0.Rate, p0.Frame, p0.Since, p0.Every, p0.Reach, p0.Has, p0.Ref⟩ : Source), ([] : List ByteArray), false)) (
 bnd (Xsf p0.Rate q2) fun q7 =>
 bnd (Xk0 p1 p0.Ref (⟨q2, q7, p0.Par.Large, p0.Par.Exact⟩ : Xfs) p0.Reach) fun q8 =>
 bnd (Xn1 p0.Seq p0.Par (⟨0, p0.Frame, q7⟩ : Yv5)) fun q9 =>
 bnd (Xna q8.1 (⟨q2, q7, p0.Par.Large, p0.Par.Exact⟩ : Xfs)) fun q10 =>
 req (q9.1.size + q10.size ≤ 9223372036854775807) <|
 bnd (
 sel q2 (
 bnd (Xib p0) fun q12 =>
 some (5, q12)) (
 some (1, ([] : List ByteArray)))) fun v11 =>
 bnd (Xki v11.1 (q9.1 ++ q10)) fun q13 =>
 req ((v11.2.length + ([q13.1]).length) * 16 ≤ 140737488355328 ∧ v11.2.length + ([q13.1]).length ≤ maxLen) <|
 bnd (Xk2 p0.Seq) fun q14 =>
 bnd (Xlx p0.Rate ((q9.1 ++ q10).size : Int)) fun q15 =>
 req (0 ≤ (Xaa .u64 (p0.Seq.Bits))) <|
 req ((Xaa .i64 (1 * 2 ^ min (Xaa .u64 (p0.Seq.Bits)).toNat (IntKind.bits .i64))) ≠ 0) <|
 bnd (
 sel q2 (
 some 1) (
 some (Xaa .i64 (p0.Since + 1)))) fun v16 =>
 some ((⟨q14, p0.Par, q15, ((Xaa .i64 (p0.Frame + 1)).tmod (Xaa .i64 (1 * 2 ^ min (Xaa .u64 (p0.Seq.Bits)).toNat (IntKind.bits .i64)))), v16, p0.Every, p0.Reach, true, q8.2.1⟩ : Source), (v11.2 ++ ([q13.1])), true))
def Xjm (p0 : (List Int)) (p1 : (List Int)) (v2 : Int) : Option (Lp Int (Ou Unit Bool)) :=
 sel (decide (v2 < (p0.length : Int))) (
 req (0 ≤ v2 ∧ v2 < p0.length) <|
 req (0 ≤ v2 ∧ v2 < p1.length) <|
 sel ((p0.getD v2.toNat 0) != (p1.getD v2.toNat 0)) (
 some (.done (.ret false))) (
 some (.go (Xaa .i64 (v2 + 1))))) (
 some (.done (.out ())))
def Xmw (p0 : (List Int)) (p1 : (List Int)) : Option Bool :=
 sel ((p0.length : Int) != (p1.length : Int)) (
 some false) (
 bnd (loop (Xjm p0 p1) 0) fun o5 => match o5 with
| .out v4 => (
 some true)
| .ret r => some r)
def Xr4 (p0 : Seq) (p1 : Seq) : Option Bool :=
 sel (p0.Level != p1.Level) (
 some false) (
 sel (p0.Bits != p1.Bits) (
 some false) (
 bnd (Xmw p0.Cols p1.Cols) fun q1 =>
 sel (!q1) (
 some false) (
 bnd (Xmw p0.Rows p1.Rows) fun q2 =>
 sel (!q2) (
 some false) (
 some true))))
def Xr2 (p0 : Par) (p1 : Par) : Option Bool :=
 sel (p0.Qp != p1.Qp) (
 some false) (
 sel (!(p0.Large == p1.Large)) (
 some false) (
 sel (!(p0.Exact == p1.Exact)) (
 some false) (
 sel (!(p0.Confined == p1.Confined)) (
 some false) (
 some true))))
def Xpo (p0 : Rate) (p1 : Rate) : Option Bool :=
 sel (p0.Qp != p1.Qp) (
 some false) (
 sel (p0.Target != p1.Target) (
 some false) (
 sel (p0.Debt != p1.Debt) (
 some false) (
 some true)))
def Xr3 (p0 : Pic) (p1 : Pic) : Option Bool :=
 sel (p0.Wide != p1.Wide) (
 some false) (
 sel (p0.High != p1.High) (
 some false) (
 sel (!(p0.Dots.toList == p1.Dots.toList)) (
 some false) (
 some true)))
def Xe4 (p0 : Source) (p1 : Source) : Option Bool :=
 bnd (Xr4 p0.Seq p1.Seq) fun q1 =>
 sel (!q1) (
 some false) (
 bnd (Xr2 p0.Par p1.Par) fun q2 =>
 sel (!q2) (
 some false) (
 bnd (Xpo p0.Rate p1.Rate) fun q3 =>
 sel (!q3) (
 some false) (
 sel (p0.Frame != p1.Frame) (
 some false) (
 sel (p0.Since != p1.Since) (
 some false) (
 sel (p0.Every != p1.Every) (
 some false) (
 sel (p0.Reach != p1.Reach) (
 some false) (
 sel (!(p0.Has == p1.Has)) (
 some false) (
 bnd (Xr3 p0.Ref p1.Ref) fun q4 =>
 sel (!q4) (
 some false) (
 some true)))))))))
def Xf4 (p0 : (List ByteArray)) (p1 : (List ByteArray)) (v2 : Int) : Option (Lp Int (Ou Unit Bool)) :=
 sel (decide (v2 < (p0.length : Int))) (
 req (0 ≤ v2 ∧ v2 < p0.length) <|
 req (0 ≤ v2 ∧ v2 < p1.length) <|
 sel (!((p0.getD v2.toNat Xv8).toList == (p1.getD v2.toNat Xv8).toList)) (
 some (.done (.ret false))) (
 some (.go (Xaa .i64 (v2 + 1))))) (
 some (.done (.out ())))
def Xfj (p0 : (List ByteArray)) (p1 : (List ByteArray)) : Option Bool :=
 sel ((p0.length : Int) != (p1.length : Int)) (
 some false) (
 bnd (loop (Xf4 p0 p1) 0) fun o5 => match o5 with
| .out v4 => (
 some true)
| .ret r => some r)
def Xg4 (v2 : (Int × Int × (List Int))) : Option (Lp (Int × Int × (List Int)) (Int × (List Int))) :=
 sel (decide (v2.2.1 < (v2.2.2.length : Int))) (
 req (0 ≤ v2.2.1 ∧ v2.2.1 < v2.2.2.length) <|
 req (v2.2.1.toNat < v2.2.2.length) <|
 some (.go (Xaa .i64 (v2.1 + 1), Xaa .i64 (v2.2.1 + 1), (v2.2.2.set v2.2.1.toNat v2.1)))) (
 some (.done (v2.1, v2.2.2)))
def Xiw (p0 : (List Int)) (p1 : Int) : Option (Int × (List Int)) :=
 bnd (loop (Xg4) (p1, 0, p0)) fun v4 =>
 some (v4.1, v4.2)
def Xny (p0 : Seq) (p1 : Int) : Option (Int × Seq) :=
 bnd (Xiw p0.Cols p1) fun q1 =>
 bnd (Xiw p0.Rows q1.1) fun q2 =>
 some (q2.1, (⟨p0.Level, p0.Bits, q1.2, q2.2⟩ : Seq))
def Xf6 (p0 : Source) (p1 : Int) : Option (Int × Source) :=
 bnd (Xny p0.Seq p1) fun q1 =>
 some (q1.1, (⟨(⟨p0.Seq.Level, p0.Seq.Bits, q1.2.Cols, q1.2.Rows⟩ : Seq), p0.Par, p0.Rate, p0.Frame, p0.Since, p0.Every, p0.Reach, p0.Has, p0.Ref⟩ : Source))
def Xj4 (v2 : (Int × ByteArray)) : Option (Lp (Int × ByteArray) ByteArray) :=
 sel (decide (v2.1 > 0)) (
 req ((10 : Int) ≠ 0) <|
 req ((strOfNums ([Xaa .u8 (Xaa .i64 (48 + (v2.1.tmod 10)))])).size + v2.2.size ≤ 9223372036854775807) <|
 req ((10 : Int) ≠ 0) <|
 some (.go (Xaa .i64 (v2.1.tdiv 10), ((strOfNums ([Xaa .u8 (Xaa .i64 (48 + (v2.1.tmod 10)))])) ++ v2.2)))) (
 some (.done v2.2))
def Xe5 (p0 : Int) : Option ByteArray :=
 sel (decide (p0 ≤ 0)) (
 some ⟨#[109, 48]⟩) (
 bnd (loop (Xj4) (p0, ⟨#[]⟩)) fun v4 =>
 req ((⟨#[109]⟩ : ByteArray).size + v4.size ≤ 9223372036854775807) <|
 some ((⟨#[109]⟩ : ByteArray) ++ v4))
def Xeg (v3 : (Int × Int × (List ByteArray))) : Option (Lp (Int × Int × (List ByteArray)) (Int × (List ByteArray))) :=
 sel (decide (v3.2.1 < (v3.2.2.length : Int))) (
 bnd (Xe5 v3.1) fun q7 =>
 req (0 ≤ v3.2.1 ∧ v3.2.1 < v3.2.2.length) <|
 req (v3.2.1.toNat < v3.2.2.length) <|
 some (.go (Xaa .i64 (v3.1 + 1), Xaa .i64 (v3.2.1 + 1), (v3.2.2.set v3.2.1.toNat q7)))) (
 some (.done (v3.1, v3.2.2)))
def Xg5 (p0 : (List ByteArray)) (p1 : Int) : Option (Int × (List ByteArray)) :=
 bnd (loop (Xeg) (p1, 0, p0)) fun v6 =>
 some (v6.1, v6.2)
def Xg3 (p0 : (List Int)) (v2 : (Int × Int)) : Option (Lp (Int × Int) (Ou Int Int)) :=
 sel (decide (v2.2 < (p0.length : Int))) (
 req (0 ≤ v2.2 ∧ v2.2 < p0.length) <|
 sel ((p0.getD v2.2.toNat 0) != v2.1) (
 some (.done (.ret (-1)))) (
 some (.go (Xaa .i64 (v2.1 + 1), Xaa .i64 (v2.2 + 1))))) (
 some (.done (.out v2.1)))
def Xiv (p0 : (List Int)) (p1 : Int) : Option Int :=
 bnd (loop (Xg3 p0) (p1, 0)) fun o5 => match o5 with
| .out v4 => (
 some v4)
| .ret r => some r
def Xnx (p0 : Seq) (p1 : Int) : Option Int :=
 bnd (Xiv p0.Cols p1) fun q1 =>
 sel (decide (q1 < 0)) (
 some (-1)) (
 bnd (Xiv p0.Rows q1) fun q2 =>
 sel (decide (q2 < 0)) (
 some (-1)) (
 some q2))
def Xf5 (p0 : Source) (p1 : Int) : Option Int :=
 bnd (Xnx p0.Seq p1) fun q1 =>
 sel (decide (q1 < 0)) (
 some (-1)) (
 some q1)
def Xef (p0 : (List ByteArray)) (v3 : (Int × Int)) : Option (Lp (Int × Int) (Ou Int Int)) :=
 sel (decide (v3.2 < (p0.length : Int))) (
 req (0 ≤ v3.2 ∧ v3.2 < p0.length) <|
 bnd (Xe5 v3.1) fun q7 =>
 sel (!((p0.getD v3.2.toNat Xv8).toList == q7.toList)) (
 some (.done (.ret (-1)))) (
 some (.go (Xaa .i64 (v3.1 + 1), Xaa .i64 (v3.2 + 1))))) (
 some (.done (.out v3.1)))
def Xev (p0 : (List ByteArray)) (p1 : Int) : Option Int :=
 bnd (loop (Xef p0) (p1, 0)) fun o8 => match o8 with
| .out v6 => (
 some v6)
| .ret r => some r
def Xep (p0 : Source) (p1 : Pic) (p2 : Bool) : Option Bool :=
 bnd (Xlq p0 1048576) fun q1 =>
 sel (decide (q1 < 0)) (
 some true) (
 bnd (Xo1 p1 q1) fun q2 =>
 sel (decide (q2 < 0)) (
 some true) (
 bnd (Xe6 p0) fun q3 =>
 bnd (Xm0 p1) fun q4 =>
 bnd (Xcj q3 q4 p2) fun q5 =>
 bnd (Xe6 p0) fun q6 =>
 bnd (Xm0 p1) fun q7 =>
 bnd (Xbz q6 q7 p2) fun q8 =>
 bnd (
 bnd (Xe4 q8.1 q5.1) fun q10 =>
 sel q10 (
 bnd (Xfj q8.2.1 q5.2.1) fun q11 =>
 sel q11 (
 some (!(q8.2.2 == q5.2.2))) (
 some true)) (
 some true)) fun v9 =>
 sel v9 (
 some false) (
 bnd (Xe6 p0) fun q12 =>
 bnd (Xe4 q6 q12) fun q13 =>
 sel (!q13) (
 some false) (
 bnd (Xf6 q6 1) fun q14 =>
 bnd (
 sel (decide (q14.1 < 0)) (
 some true) (
 bnd (Xe4 q8.1 q5.1) fun q16 =>
 sel q16 (
 bnd (Xfj q8.2.1 q5.2.1) fun q17 =>
 sel q17 (
 some (!(q8.2.2 == q5.2.2))) (
 some true)) (
 some true))) fun v15 =>
 sel v15 (
 some false) (
 bnd (Xf6 q8.1 1) fun q18 =>
 bnd (Xg5 q8.2.1 q18.1) fun q19 =>
 bnd (Xf5 (⟨(⟨q8.1.Seq.Level, q8.1.Seq.Bits, q18.2.Seq.Cols, q18.2.Seq.Rows⟩ : Seq), q8.1.Par, q8.1.Rate, q8.1.Frame, q8.1.Since, q8.1.Every, q8.1.Reach, q8.1.Has, q8.1.Ref⟩ : Source) 1) fun q20 =>
 sel (decide (q20 < 0)) (
 some false) (
 bnd (Xev q19.2 q20) fun q21 =>
 sel (decide (q21 < 0)) (
 some false) (
 sel (q21 != q19.1) (
 some false) (
 bnd (Xe6 p0) fun q22 =>
 bnd (Xm0 p1) fun q23 =>
 bnd (Xbz q22 q23 p2) fun q24 =>
 bnd (
 bnd (Xe4 q24.1 q5.1) fun q26 =>
 sel q26 (
 bnd (Xfj q24.2.1 q5.2.1) fun q27 =>
 sel q27 (
 some (!(q24.2.2 == q5.2.2))) (
 some true)) (
 some true)) fun v25 =>
 sel v25 (
 some false) (
 bnd (Xf5 (⟨(⟨q8.1.Seq.Level, q8.1.Seq.Bits, q18.2.Seq.Cols, q18.2.Seq.Rows⟩ : Seq), q8.1.Par, q8.1.Rate, q8.1.Frame, q8.1.Since, q8.1.Every, q8.1.Reach, q8.1.Has, q8.1.Ref⟩ : Source) 1) fun q28 =>
 sel (decide (q28 < 0)) (
 some false) (
 bnd (Xev q19.2 q28) fun q29 =>
 sel (decide (q29 < 0)) (
 some false) (
 sel (q29 != q19.1) (
 some false) (
 some true))))))))))))
end
end Go.Proofs.YtnhflbeahbcklabGreat.A
