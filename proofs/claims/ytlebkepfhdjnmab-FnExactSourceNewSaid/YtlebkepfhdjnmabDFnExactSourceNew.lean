/- What the functions that the law FnExactSourceNew reaches compute, over numbers, texts and lists. Written by a program of this session. Conditions: none. -/
import Derived.Test.YtlebkepfhdjnmabAL2
namespace Go.Proofs.Ytlebkepfhdjnmab.A
open Go Go.Proofs Go.Proofs.YtlebkepfhdjnmabAL Go.RowKit
set_option linter.unusedVariables false
set_option linter.unusedSimpArgs false
structure Pic where
 Wide : Int
 High : Int
 Dots : ByteArray
structure Par where
 Qp : Int
 Large : Bool
 Exact : Bool
 Confined : Bool
structure Rate where
 Qp : Int
 Target : Int
 Debt : Int
structure Seq where
 Level : Int
 Bits : Int
 Cols : (List Int)
 Rows : (List Int)
structure Xau where
 Seq : Seq
 Par : Par
 Rate : Rate
 Frame : Int
 Since : Int
 Every : Int
 Reach : Int
 Has : Bool
 Ref : Pic
def Xeb : (List Int) := []
def Xtf (x : Par) : Prop := (Lit.int .i64 x.Qp).wf = true ∧ True ∧ True ∧ True
def Xr4 (x : Rate) : Prop := (Lit.int .i64 x.Qp).wf = true ∧ (Lit.int .i64 x.Target).wf = true ∧ (Lit.int .i64 x.Debt).wf = true
noncomputable section
def Xao (p0 : Int) (p1 : Int) (p2 : Int) : Option Bool :=
 bnd (
 sel (decide (p0 ≥ p1)) (
 some (decide (p0 ≤ p2))) (
 some false)) fun v1 =>
 some v1
def Xd9 (p0 : Pic) : Option Bool :=
 bnd (
 bnd (Xao p0.Wide 1 256) fun q2 =>
 sel q2 (
 bnd (Xao p0.High 1 256) fun q3 =>
 sel q3 (
 some ((p0.Dots.size : Int) == (Xav .i64 (p0.Wide * p0.High)))) (
 some false)) (
 some false)) fun v1 =>
 some v1
def Xai (p0 : Int) (p1 : Int) (p2 : Int) : Option Bool :=
 bnd (
 sel (decide (p0 ≥ p1)) (
 some (decide (p0 ≤ p2))) (
 some false)) fun v1 =>
 some v1
def Xdv (p0 : Pic) : Option Bool :=
 bnd (
 bnd (Xai p0.Wide 1 256) fun q2 =>
 sel q2 (
 bnd (Xai p0.High 1 256) fun q3 =>
 sel q3 (
 some ((p0.Dots.size : Int) == (Xav .i64 (p0.Wide * p0.High)))) (
 some false)) (
 some false)) fun v1 =>
 some v1
def Xbm (p0 : (List Int)) (p1 : (List Int)) (v2 : Int) : Option (Lp Int (Ou Unit Bool)) :=
 sel (decide (v2 < (p0.length : Int))) (
 req (0 ≤ v2 ∧ v2 < p0.length) <|
 req (0 ≤ v2 ∧ v2 < p1.length) <|
 sel ((p0.getD v2.toNat 0) != (p1.getD v2.toNat 0)) (
 some (.done (.ret false))) (
 some (.go (Xav .i64 (v2 + 1))))) (
 some (.done (.out ())))
def Xb8 (p0 : (List Int)) (p1 : (List Int)) : Option Bool :=
 sel ((p0.length : Int) != (p1.length : Int)) (
 some false) (
 bnd (loop (Xbm p0 p1) 0) fun o5 => match o5 with
| .out v4 => (
 some true)
| .ret r => some r)
def Xc4 (p0 : Par) : Option Par :=
 some p0
def Xb9 (p0 : Rate) : Option Rate :=
 some p0
def Xa9 (p0 : (List Int)) (v4 : (Int × Int)) : Option (Lp (Int × Int) (Ou Int Int)) :=
 sel (decide (v4.2 < (p0.length : Int))) (
 req (0 ≤ v4.2 ∧ v4.2 < p0.length) <|
 bnd (Xao (p0.getD v4.2.toNat 0) 1 8) fun q8 =>
 sel (!q8) (
 some (.done (.ret 0))) (
 req (0 ≤ v4.2 ∧ v4.2 < p0.length) <|
 some (.go (Xav .i64 (v4.1 + (p0.getD v4.2.toNat 0)), Xav .i64 (v4.2 + 1))))) (
 some (.done (.out v4.1)))
def Xbe (p0 : (List Int)) : Option Int :=
 bnd (
 sel (decide ((p0.length : Int) < 1)) (
 some true) (
 some (decide ((p0.length : Int) > 4)))) fun v1 =>
 sel v1 (
 some 0) (
 bnd (loop (Xa9 p0) (0, 0)) fun o9 => match o9 with
| .out v7 => (
 some v7)
| .ret r => some r)
def Xbo (p0 : Seq) : Option Int :=
 bnd (Xbe p0.Cols) fun q1 =>
 bnd (Xbe p0.Rows) fun q2 =>
 some (Xav .i64 (q1 * q2))
def Xa2 (p0 : Int) : Option Int :=
 sel (p0 == 1) (
 some 16) (
 sel (p0 == 2) (
 some 64) (
 sel (p0 == 3) (
 some 256) (
 some 0)))
def Xce (p0 : Seq) : Option Bool :=
 bnd (
 bnd (Xbo p0) fun q2 =>
 bnd (Xa2 p0.Level) fun q3 =>
 bnd (Xao q2 1 q3) fun q4 =>
 sel q4 (
 bnd (Xao p0.Bits 3 8) fun q5 =>
 some q5) (
 some false)) fun v1 =>
 some v1
def Xbr (p0 : (List Int)) (p1 : (List Int)) (v3 : Int) : Option (Lp Int (Ou Unit Int)) :=
 sel (decide (v3 ≤ 3)) (
 bnd (Xce (⟨v3, 3, p0, p1⟩ : Seq)) fun q7 =>
 sel q7 (
 some (.done (.ret v3))) (
 some (.go (Xav .i64 (v3 + 1))))) (
 some (.done (.out ())))
def Xb3 (p0 : (List Int)) (p1 : (List Int)) : Option Int :=
 bnd (loop (Xbr p0 p1) 1) fun o8 => match o8 with
| .out v6 => (
 some 0)
| .ret r => some r
def Xcq (p0 : Seq) : Option Int :=
 bnd (Xce p0) fun q1 =>
 sel (!q1) (
 some 0) (
 some (Xav .i64 ((p0.Cols.length : Int) * (p0.Rows.length : Int))))
def Xd8 (p0 : Par) : Option Bool :=
 bnd (
 bnd (Xao p0.Qp 0 40) fun q2 =>
 sel q2 (
 sel p0.Large (
 some (!p0.Exact)) (
 some true)) (
 some false)) fun v1 =>
 some v1
def Xdc (p0 : Rate) : Option Bool :=
 bnd (
 bnd (Xao p0.Qp 0 40) fun q2 =>
 sel q2 (
 bnd (Xao p0.Target 1 100000) fun q3 =>
 sel q3 (
 bnd (Xao p0.Debt (Xav .i64 ((-8) * p0.Target)) (Xav .i64 (8 * p0.Target))) fun q4 =>
 some q4) (
 some false)) (
 some false)) fun v1 =>
 some v1
def Xdd (p0 : Seq) : Option (Int × Int) :=
 bnd (Xce p0) fun q1 =>
 sel (!q1) (
 some (0, 0)) (
 bnd (Xbe p0.Cols) fun q2 =>
 bnd (Xbe p0.Rows) fun q3 =>
 some (Xav .i64 (8 * q2), Xav .i64 (8 * q3)))
def Xb4 (p0 : Xau) : Option Bool :=
 bnd (
 bnd (Xcq p0.Seq) fun q2 =>
 sel (q2 != 1) (
 some true) (
 bnd (Xd8 p0.Par) fun q3 =>
 sel q3 (
 bnd (Xdc p0.Rate) fun q4 =>
 sel q4 (
 sel (decide (p0.Frame < 0)) (
 some true) (
 req (0 ≤ (Xav .u64 (p0.Seq.Bits))) <|
 some (decide (p0.Frame ≥ (Xav .i64 (1 * 2 ^ min (Xav .u64 (p0.Seq.Bits)).toNat (IntKind.bits .i64))))))) (
 some true)) (
 some true))) fun v1 =>
 sel v1 (
 some false) (
 bnd (
 bnd (Xao p0.Every 1 1000) fun q6 =>
 sel q6 (
 bnd (Xao p0.Since 0 1000) fun q7 =>
 sel q7 (
 bnd (Xao p0.Reach 0 4) fun q8 =>
 some (!q8)) (
 some true)) (
 some true)) fun v5 =>
 sel v5 (
 some false) (
 bnd (Xdd p0.Seq) fun q9 =>
 sel p0.Has (
 bnd (
 bnd (Xd9 p0.Ref) fun q11 =>
 sel q11 (
 sel (p0.Ref.Wide == q9.1) (
 some (p0.Ref.High == q9.2)) (
 some false)) (
 some false)) fun v10 =>
 some v10) (
 bnd (
 sel (p0.Ref.Wide == 0) (
 sel (p0.Ref.High == 0) (
 some ((p0.Ref.Dots.size : Int) == 0)) (
 some false)) (
 some false)) fun v12 =>
 some v12)))
def Xbn (p0 : Int) (p1 : Int) (p2 : Int) (p3 : Par) (p4 : Rate) (p5 : Int) (p6 : Int) : Option (Xau × Bool) :=
 bnd (Xb3 ([p0]) ([p1])) fun q1 =>
 bnd (Xb4 (⟨(⟨q1, p2, [p0], [p1]⟩ : Seq), p3, p4, 0, 0, p5, p6, false, (⟨0, 0, ⟨#[]⟩⟩ : Pic)⟩ : Xau)) fun q2 =>
 sel (!q2) (
 some ((⟨(⟨0, 0, [], []⟩ : Seq), (⟨0, false, false, false⟩ : Par), (⟨0, 0, 0⟩ : Rate), 0, 0, 0, 0, false, (⟨0, 0, ⟨#[]⟩⟩ : Pic)⟩ : Xau), false)) (
 some ((⟨(⟨q1, p2, [p0], [p1]⟩ : Seq), p3, p4, 0, 0, p5, p6, false, (⟨0, 0, ⟨#[]⟩⟩ : Pic)⟩ : Xau), true))
def Xb0 (p0 : (List Int)) (v2 : (Int × Int)) : Option (Lp (Int × Int) Int) :=
 sel (decide (v2.2 < (p0.length : Int))) (
 req (0 ≤ v2.2 ∧ v2.2 < p0.length) <|
 some (.go (Xav .i64 (v2.1 + (p0.getD v2.2.toNat 0)), Xav .i64 (v2.2 + 1)))) (
 some (.done v2.1))
def Xbt (p0 : (List Int)) : Option Int :=
 bnd (loop (Xb0 p0) (0, 0)) fun v4 =>
 some v4
def Xan (p0 : Seq) (v11 : Int) (v26 : Int) : Option (Lp Int (Ou Unit Int)) :=
 sel (decide (v26 < ((([p0.Cols, p0.Rows]).getD v11.toNat Xeb).length : Int))) (
 req (0 ≤ v26 ∧ v26 < (([p0.Cols, p0.Rows]).getD v11.toNat Xeb).length) <|
 bnd (Xai ((([p0.Cols, p0.Rows]).getD v11.toNat Xeb).getD v26.toNat 0) 1 8) fun q30 =>
 sel (!q30) (
 some (.done (.ret 0))) (
 some (.go (Xav .i64 (v26 + 1))))) (
 some (.done (.out ())))
def Xas (p0 : Seq) (v11 : Int) : Option (Lp Int (Ou Unit Int)) :=
 sel (decide (v11 < (([p0.Cols, p0.Rows]).length : Int))) (
 req (0 ≤ v11 ∧ v11 < ([p0.Cols, p0.Rows]).length) <|
 req (v11.toNat < ([p0.Cols, p0.Rows]).length) <|
 bnd (Xai ((([p0.Cols, p0.Rows]).getD v11.toNat Xeb).length : Int) 1 4) fun q23 =>
 sel (!q23) (
 some (.done (.ret 0))) (
 bnd (loop (Xan p0 v11) 0) fun o31 => match o31 with
| .out v29 => (
 some (.go (Xav .i64 (v11 + 1))))
| .ret r => some (.done (.ret r)))) (
 some (.done (.out ())))
def Xbl (p0 : Seq) : Option Int :=
 bnd (loop (Xas p0) 0) fun o32 => match o32 with
| .out v22 => (
 bnd (Xbt p0.Cols) fun q33 =>
 bnd (Xbt p0.Rows) fun q34 =>
 some (Xav .i64 (q33 * q34)))
| .ret r => some r
def Xa0 (p0 : Int) : Option Int :=
 bnd (Xai p0 1 3) fun q1 =>
 sel (!q1) (
 some 0) (
 req (0 ≤ (Xav .i64 (p0 - 1)) ∧ (Xav .i64 (p0 - 1)) < ([16, 64, 256]).length) <|
 req ((Xav .i64 (p0 - 1)).toNat < ([16, 64, 256]).length) <|
 some (([16, 64, 256]).getD ((Xav .i64 (p0 - 1)).toNat) 0))
def Xb6 (p0 : Seq) : Option Bool :=
 bnd (
 bnd (Xbl p0) fun q2 =>
 bnd (Xa0 p0.Level) fun q3 =>
 bnd (Xai q2 1 q3) fun q4 =>
 sel q4 (
 bnd (Xai p0.Bits 3 8) fun q5 =>
 some q5) (
 some false)) fun v1 =>
 some v1
def Xbp (p0 : (List Int)) (p1 : (List Int)) (v3 : Int) : Option (Lp Int (Ou Unit Int)) :=
 sel (decide (v3 ≤ 3)) (
 bnd (Xb6 (⟨v3, 3, p0, p1⟩ : Seq)) fun q7 =>
 sel q7 (
 some (.done (.ret v3))) (
 some (.go (Xav .i64 (v3 + 1))))) (
 some (.done (.out ())))
def Xbw (p0 : (List Int)) (p1 : (List Int)) : Option Int :=
 bnd (loop (Xbp p0 p1) 1) fun o8 => match o8 with
| .out v6 => (
 some 0)
| .ret r => some r
def Xck (p0 : Seq) : Option Int :=
 bnd (Xb6 p0) fun q1 =>
 sel (!q1) (
 some 0) (
 some (Xav .i64 ((p0.Cols.length : Int) * (p0.Rows.length : Int))))
def Xdu (p0 : Par) : Option Bool :=
 bnd (
 bnd (Xai p0.Qp 0 40) fun q2 =>
 sel q2 (
 sel p0.Large (
 some (!p0.Exact)) (
 some true)) (
 some false)) fun v1 =>
 some v1
def Xc6 (p0 : Rate) : Option Bool :=
 bnd (
 bnd (Xai p0.Qp 0 40) fun q2 =>
 sel q2 (
 bnd (Xai p0.Target 1 100000) fun q3 =>
 sel q3 (
 bnd (Xai p0.Debt (Xav .i64 ((-8) * p0.Target)) (Xav .i64 (8 * p0.Target))) fun q4 =>
 some q4) (
 some false)) (
 some false)) fun v1 =>
 some v1
def Xc7 (p0 : Seq) : Option (Int × Int) :=
 bnd (Xb6 p0) fun q1 =>
 sel (!q1) (
 some (0, 0)) (
 bnd (Xbt p0.Cols) fun q2 =>
 bnd (Xbt p0.Rows) fun q3 =>
 some (Xav .i64 (8 * q2), Xav .i64 (8 * q3)))
def Xez (p0 : Pic) (p1 : Seq) : Option Bool :=
 bnd (Xc7 p1) fun q1 =>
 bnd (
 bnd (Xdv p0) fun q3 =>
 sel q3 (
 sel (p0.Wide == q1.1) (
 some (p0.High == q1.2)) (
 some false)) (
 some false)) fun v2 =>
 some v2
def Xbx (p0 : Xau) : Option Bool :=
 bnd (
 bnd (Xck p0.Seq) fun q2 =>
 sel (q2 != 1) (
 some true) (
 bnd (Xdu p0.Par) fun q3 =>
 sel q3 (
 bnd (Xc6 p0.Rate) fun q4 =>
 sel q4 (
 req (0 ≤ p0.Seq.Bits) <|
 bnd (Xai p0.Frame 0 (Xav .i64 ((Xav .i64 (1 * 2 ^ min p0.Seq.Bits.toNat (IntKind.bits .i64))) - 1))) fun q5 =>
 sel q5 (
 bnd (Xai p0.Every 1 1000) fun q6 =>
 sel q6 (
 bnd (Xai p0.Since 0 1000) fun q7 =>
 sel q7 (
 bnd (Xai p0.Reach 0 4) fun q8 =>
 some (!q8)) (
 some true)) (
 some true)) (
 some true)) (
 some true)) (
 some true))) fun v1 =>
 sel v1 (
 some false) (
 sel p0.Has (
 bnd (Xez p0.Ref p0.Seq) fun q9 =>
 some q9) (
 some (((p0.Ref.Wide == 0) && ((p0.Ref.High == 0) && (p0.Ref.Dots.toList == (⟨#[]⟩ : ByteArray).toList))) == true)))
def Xa7 (p0 : Int) (p1 : Int) (p2 : Int) (p3 : Par) (p4 : Rate) (p5 : Int) (p6 : Int) : Option (Xau × Bool) :=
 bnd (Xbw ([p0]) ([p1])) fun q1 =>
 bnd (Xbx (⟨(⟨q1, p2, [p0], [p1]⟩ : Seq), p3, p4, 0, 0, p5, p6, false, (⟨0, 0, ⟨#[]⟩⟩ : Pic)⟩ : Xau)) fun q2 =>
 sel (!q2) (
 some ((⟨(⟨0, 0, [], []⟩ : Seq), (⟨0, false, false, false⟩ : Par), (⟨0, 0, 0⟩ : Rate), 0, 0, 0, 0, false, (⟨0, 0, ⟨#[]⟩⟩ : Pic)⟩ : Xau), false)) (
 some ((⟨(⟨q1, p2, [p0], [p1]⟩ : Seq), p3, p4, 0, 0, p5, p6, false, (⟨0, 0, ⟨#[]⟩⟩ : Pic)⟩ : Xau), true))
def Xd1 (p0 : Seq) (p1 : Seq) : Option Bool :=
 sel (p0.Level != p1.Level) (
 some false) (
 sel (p0.Bits != p1.Bits) (
 some false) (
 bnd (Xb8 p0.Cols p1.Cols) fun q1 =>
 sel (!q1) (
 some false) (
 bnd (Xb8 p0.Rows p1.Rows) fun q2 =>
 sel (!q2) (
 some false) (
 some true))))
def Xdz (p0 : Par) (p1 : Par) : Option Bool :=
 sel (p0.Qp != p1.Qp) (
 some false) (
 sel (!(p0.Large == p1.Large)) (
 some false) (
 sel (!(p0.Exact == p1.Exact)) (
 some false) (
 sel (!(p0.Confined == p1.Confined)) (
 some false) (
 some true))))
def Xc8 (p0 : Rate) (p1 : Rate) : Option Bool :=
 sel (p0.Qp != p1.Qp) (
 some false) (
 sel (p0.Target != p1.Target) (
 some false) (
 sel (p0.Debt != p1.Debt) (
 some false) (
 some true)))
def Xd0 (p0 : Pic) (p1 : Pic) : Option Bool :=
 sel (p0.Wide != p1.Wide) (
 some false) (
 sel (p0.High != p1.High) (
 some false) (
 sel (!(p0.Dots.toList == p1.Dots.toList)) (
 some false) (
 some true)))
def Xbf (p0 : Xau) (p1 : Xau) : Option Bool :=
 bnd (Xd1 p0.Seq p1.Seq) fun q1 =>
 sel (!q1) (
 some false) (
 bnd (Xdz p0.Par p1.Par) fun q2 =>
 sel (!q2) (
 some false) (
 bnd (Xc8 p0.Rate p1.Rate) fun q3 =>
 sel (!q3) (
 some false) (
 sel (p0.Frame != p1.Frame) (
 some false) (
 sel (p0.Since != p1.Since) (
 some false) (
 sel (p0.Every != p1.Every) (
 some false) (
 sel (p0.Reach != p1.Reach) (
 some false) (
 sel (!(p0.Has == p1.Has)) (
 some false) (
 bnd (Xd0 p0.Ref p1.Ref) fun q4 =>
 sel (!q4) (
 some false) (
 some true)))))))))
def Xa6 (v2 : (Int × Int × (List Int))) : Option (Lp (Int × Int × (List Int)) (Int × (List Int))) :=
 sel (decide (v2.2.1 < (v2.2.2.length : Int))) (
 req (0 ≤ v2.2.1 ∧ v2.2.1 < v2.2.2.length) <|
 req (v2.2.1.toNat < v2.2.2.length) <|
 some (.go (Xav .i64 (v2.1 + 1), Xav .i64 (v2.2.1 + 1), (v2.2.2.set v2.2.1.toNat v2.1)))) (
 some (.done (v2.1, v2.2.2)))
def Xbh (p0 : (List Int)) (p1 : Int) : Option (Int × (List Int)) :=
 bnd (loop (Xa6) (p1, 0, p0)) fun v4 =>
 some (v4.1, v4.2)
def Xcm (p0 : Seq) (p1 : Int) : Option (Int × Seq) :=
 bnd (Xbh p0.Cols p1) fun q1 =>
 bnd (Xbh p0.Rows q1.1) fun q2 =>
 some (q2.1, (⟨p0.Level, p0.Bits, q1.2, q2.2⟩ : Seq))
def Xbb (p0 : Xau) (p1 : Int) : Option (Int × Xau) :=
 bnd (Xcm p0.Seq p1) fun q1 =>
 some (q1.1, (⟨(⟨p0.Seq.Level, p0.Seq.Bits, q1.2.Cols, q1.2.Rows⟩ : Seq), p0.Par, p0.Rate, p0.Frame, p0.Since, p0.Every, p0.Reach, p0.Has, p0.Ref⟩ : Xau))
def Xa5 (p0 : (List Int)) (v2 : (Int × Int)) : Option (Lp (Int × Int) (Ou Int Int)) :=
 sel (decide (v2.2 < (p0.length : Int))) (
 req (0 ≤ v2.2 ∧ v2.2 < p0.length) <|
 sel ((p0.getD v2.2.toNat 0) != v2.1) (
 some (.done (.ret (-1)))) (
 some (.go (Xav .i64 (v2.1 + 1), Xav .i64 (v2.2 + 1))))) (
 some (.done (.out v2.1)))
def Xbg (p0 : (List Int)) (p1 : Int) : Option Int :=
 bnd (loop (Xa5 p0) (p1, 0)) fun o5 => match o5 with
| .out v4 => (
 some v4)
| .ret r => some r
def Xcl (p0 : Seq) (p1 : Int) : Option Int :=
 bnd (Xbg p0.Cols p1) fun q1 =>
 sel (decide (q1 < 0)) (
 some (-1)) (
 bnd (Xbg p0.Rows q1) fun q2 =>
 sel (decide (q2 < 0)) (
 some (-1)) (
 some q2))
def Xa1 (p0 : Xau) (p1 : Int) : Option Int :=
 bnd (Xcl p0.Seq p1) fun q1 =>
 sel (decide (q1 < 0)) (
 some (-1)) (
 some q1)
def Xaz (p0 : Int) (p1 : Int) (p2 : Int) (p3 : Par) (p4 : Rate) (p5 : Int) (p6 : Int) : Option Bool :=
 bnd (Xc4 p3) fun q1 =>
 bnd (Xb9 p4) fun q2 =>
 bnd (Xbn p0 p1 p2 q1 q2 p5 p6) fun q3 =>
 bnd (Xc4 p3) fun q4 =>
 bnd (Xb9 p4) fun q5 =>
 bnd (Xa7 p0 p1 p2 q4 q5 p5 p6) fun q6 =>
 bnd (
 bnd (Xbf q6.1 q3.1) fun q8 =>
 sel q8 (
 some (!(q6.2 == q3.2))) (
 some true)) fun v7 =>
 sel v7 (
 some false) (
 bnd (Xbb q6.1 1) fun q9 =>
 bnd (Xa1 (⟨(⟨q6.1.Seq.Level, q6.1.Seq.Bits, q9.2.Seq.Cols, q9.2.Seq.Rows⟩ : Seq), q6.1.Par, q6.1.Rate, q6.1.Frame, q6.1.Since, q6.1.Every, q6.1.Reach, q6.1.Has, q6.1.Ref⟩ : Xau) 1) fun q10 =>
 sel (decide (q10 < 0)) (
 some false) (
 sel (q10 != q9.1) (
 some false) (
 bnd (Xc4 p3) fun q11 =>
 bnd (Xb9 p4) fun q12 =>
 bnd (Xa7 p0 p1 p2 q11 q12 p5 p6) fun q13 =>
 bnd (
 bnd (Xbf q13.1 q3.1) fun q15 =>
 sel q15 (
 some (!(q13.2 == q3.2))) (
 some true)) fun v14 =>
 sel v14 (
 some false) (
 bnd (Xa1 (⟨(⟨q6.1.Seq.Level, q6.1.Seq.Bits, q9.2.Seq.Cols, q9.2.Seq.Rows⟩ : Seq), q6.1.Par, q6.1.Rate, q6.1.Frame, q6.1.Since, q6.1.Every, q6.1.Reach, q6.1.Has, q6.1.Ref⟩ : Xau) 1) fun q16 =>
 sel (decide (q16 < 0)) (
 some false) (
 sel (q16 != q9.1) (
 some false) (
 some true))))))
end
end Go.Proofs.Ytlebkepfhdjnmab.A
