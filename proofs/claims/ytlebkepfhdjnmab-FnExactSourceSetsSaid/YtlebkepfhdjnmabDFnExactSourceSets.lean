/- What the functions that the law FnExactSourceSets reaches compute, over numbers, texts and lists. Written by a program of this session. Conditions: none. -/
import Derived.Test.YtlebkepfhdjnmabAL2
namespace Go.Proofs.Ytlebkepfhdjnmab.A
open Go Go.Proofs Go.Proofs.YtlebkepfhdjnmabAL Go.RowKit
set_option linter.unusedVariables false
set_option linter.unusedSimpArgs false
structure Pic where
 Wide : Int
 High : Int
 Dots : ByteArray
structure Par where
 Qp : Int
 Large : Bool
 Exact : Bool
 Confined : Bool
structure Rate where
 Qp : Int
 Target : Int
 Debt : Int
structure Seq where
 Level : Int
 Bits : Int
 Cols : (List Int)
 Rows : (List Int)
structure Source where
 Seq : Seq
 Par : Par
 Rate : Rate
 Frame : Int
 Since : Int
 Every : Int
 Reach : Int
 Has : Bool
 Ref : Pic
def Xg2 : ByteArray := ⟨#[]⟩
def Xcm : (List Int) := []
def Xxz (x : Seq) : Prop := (Lit.int .i64 x.Level).wf = true ∧ (Lit.int .i64 x.Bits).wf = true ∧ (x.Cols.length ≤ maxLen ∧ ∀ y ∈ x.Cols, (Lit.int .i64 y).wf = true) ∧ (x.Rows.length ≤ maxLen ∧ ∀ y ∈ x.Rows, (Lit.int .i64 y).wf = true)
def Xz8 (x : Par) : Prop := (Lit.int .i64 x.Qp).wf = true ∧ True ∧ True ∧ True
def Xym (x : Rate) : Prop := (Lit.int .i64 x.Qp).wf = true ∧ (Lit.int .i64 x.Target).wf = true ∧ (Lit.int .i64 x.Debt).wf = true
def Xy6 (x : Pic) : Prop := (Lit.int .i64 x.Wide).wf = true ∧ (Lit.int .i64 x.High).wf = true ∧ x.Dots.size ≤ maxLen
def Xi4 (x : Source) : Prop := Xxz x.Seq ∧ Xz8 x.Par ∧ Xym x.Rate ∧ (Lit.int .i64 x.Frame).wf = true ∧ (Lit.int .i64 x.Since).wf = true ∧ (Lit.int .i64 x.Every).wf = true ∧ (Lit.int .i64 x.Reach).wf = true ∧ True ∧ Xy6 x.Ref
noncomputable section
def Xat (p0 : Int) (p1 : Int) (p2 : Int) : Option Bool :=
 bnd (
 sel (decide (p0 ≥ p1)) (
 some (decide (p0 ≤ p2))) (
 some false)) fun v1 =>
 some v1
def Xfw (p0 : Pic) : Option Bool :=
 bnd (
 bnd (Xat p0.Wide 1 256) fun q2 =>
 sel q2 (
 bnd (Xat p0.High 1 256) fun q3 =>
 sel q3 (
 some ((p0.Dots.size : Int) == (Xag .i64 (p0.Wide * p0.High)))) (
 some false)) (
 some false)) fun v1 =>
 some v1
def Xal (p0 : Int) (p1 : Int) (p2 : Int) : Option Bool :=
 bnd (
 sel (decide (p0 ≥ p1)) (
 some (decide (p0 ≤ p2))) (
 some false)) fun v1 =>
 some v1
def Xfj (p0 : Pic) : Option Bool :=
 bnd (
 bnd (Xal p0.Wide 1 256) fun q2 =>
 sel q2 (
 bnd (Xal p0.High 1 256) fun q3 =>
 sel q3 (
 some ((p0.Dots.size : Int) == (Xag .i64 (p0.Wide * p0.High)))) (
 some false)) (
 some false)) fun v1 =>
 some v1
def Xax (v2 : (Int × Int)) : Option (Lp (Int × Int) Int) :=
 sel (decide (v2.1 > 0)) (
 req (0 ≤ (1 : Int)) <|
 some (.go ((v2.1 / 2 ^ min (1 : Int).toNat (IntKind.bits .i64)), Xag .i64 (v2.2 + 1)))) (
 some (.done v2.2))
def Xdq (p0 : Int) : Option Int :=
 bnd (loop (Xax) (p0, 0)) fun v4 =>
 some v4
def Xc1 (v2 : (Int × Int × (List Int))) : Option (Lp (Int × Int × (List Int)) (List Int)) :=
 sel (decide (v2.2.1 ≥ 0)) (
 req (0 ≤ v2.2.1 ∧ v2.2.1 < v2.2.2.length) <|
 req (v2.2.1.toNat < v2.2.2.length) <|
 req (0 ≤ (1 : Int)) <|
 some (.go ((v2.1 / 2 ^ min (1 : Int).toNat (IntKind.bits .i64)), Xag .i64 (v2.2.1 - 1), (v2.2.2.set v2.2.1.toNat (Xag .u8 (Xag .i64 (48 + (IntKind.wrap .i64 (BitVec.ofInt (IntKind.bits .i64) v2.1 &&& BitVec.ofInt (IntKind.bits .i64) 1).toNat)))))))) (
 some (.done v2.2.2))
def Xdd (p0 : Int) (p1 : Int) : Option ByteArray :=
 req (0 ≤ p1 ∧ p1 ≤ p1 ∧ p1 * 1 ≤ 281474976710656) <|
 bnd (loop (Xc1) (p0, Xag .i64 (p1 - 1), (List.replicate p1.toNat (0 : Int)))) fun v4 =>
 some (strOfNums v4)
def Xh6 (p0 : Int) : Option ByteArray :=
 bnd (Xdq (Xag .i64 (p0 + 1))) fun q1 =>
 bnd (Xdd (Xag .i64 (p0 + 1)) (Xag .i64 ((Xag .i64 (2 * q1)) - 1))) fun q2 =>
 some q2
def Xbl (p0 : (List ByteArray)) (p1 : (List ByteArray)) (v2 : Int) : Option (Lp Int (Ou Unit Bool)) :=
 sel (decide (v2 < (p0.length : Int))) (
 req (0 ≤ v2 ∧ v2 < p0.length) <|
 req (0 ≤ v2 ∧ v2 < p1.length) <|
 sel (!((p0.getD v2.toNat Xg2).toList == (p1.getD v2.toNat Xg2).toList)) (
 some (.done (.ret false))) (
 some (.go (Xag .i64 (v2 + 1))))) (
 some (.done (.out ())))
def Xbg (p0 : (List ByteArray)) (p1 : (List ByteArray)) : Option Bool :=
 sel ((p0.length : Int) != (p1.length : Int)) (
 some false) (
 bnd (loop (Xbl p0 p1) 0) fun o5 => match o5 with
| .out v4 => (
 some true)
| .ret r => some r)
def Xcn (v2 : (Int × ByteArray)) : Option (Lp (Int × ByteArray) ByteArray) :=
 sel (decide (v2.1 > 0)) (
 req ((10 : Int) ≠ 0) <|
 req ((strOfNums ([Xag .u8 (Xag .i64 (48 + (v2.1.tmod 10)))])).size + v2.2.size ≤ 9223372036854775807) <|
 req ((10 : Int) ≠ 0) <|
 some (.go (Xag .i64 (v2.1.tdiv 10), ((strOfNums ([Xag .u8 (Xag .i64 (48 + (v2.1.tmod 10)))])) ++ v2.2)))) (
 some (.done v2.2))
def Xbe (p0 : Int) : Option ByteArray :=
 sel (decide (p0 ≤ 0)) (
 some ⟨#[109, 48]⟩) (
 bnd (loop (Xcn) (p0, ⟨#[]⟩)) fun v4 =>
 req ((⟨#[109]⟩ : ByteArray).size + v4.size ≤ 9223372036854775807) <|
 some ((⟨#[109]⟩ : ByteArray) ++ v4))
def Xa8 (v3 : (Int × Int × (List ByteArray))) : Option (Lp (Int × Int × (List ByteArray)) (Int × (List ByteArray))) :=
 sel (decide (v3.2.1 < (v3.2.2.length : Int))) (
 bnd (Xbe v3.1) fun q7 =>
 req (0 ≤ v3.2.1 ∧ v3.2.1 < v3.2.2.length) <|
 req (v3.2.1.toNat < v3.2.2.length) <|
 some (.go (Xag .i64 (v3.1 + 1), Xag .i64 (v3.2.1 + 1), (v3.2.2.set v3.2.1.toNat q7)))) (
 some (.done (v3.1, v3.2.2)))
def Xbu (p0 : (List ByteArray)) (p1 : Int) : Option (Int × (List ByteArray)) :=
 bnd (loop (Xa8) (p1, 0, p0)) fun v6 =>
 some (v6.1, v6.2)
def Xa7 (p0 : (List ByteArray)) (v3 : (Int × Int)) : Option (Lp (Int × Int) (Ou Int Int)) :=
 sel (decide (v3.2 < (p0.length : Int))) (
 req (0 ≤ v3.2 ∧ v3.2 < p0.length) <|
 bnd (Xbe v3.1) fun q7 =>
 sel (!((p0.getD v3.2.toNat Xg2).toList == q7.toList)) (
 some (.done (.ret (-1)))) (
 some (.go (Xag .i64 (v3.1 + 1), Xag .i64 (v3.2 + 1))))) (
 some (.done (.out v3.1)))
def Xbc (p0 : (List ByteArray)) (p1 : Int) : Option Int :=
 bnd (loop (Xa7 p0) (p1, 0)) fun o8 => match o8 with
| .out v6 => (
 some v6)
| .ret r => some r
def Xdg (p0 : (List Int)) (p1 : Int) : Option Int :=
 sel (decide ((Xag .i64 (p1 - (p0.length : Int))) < 0)) (
 some (-1)) (
 some (Xag .i64 (p1 - (p0.length : Int))))
def Xch (p0 : (List Int)) (v2 : (Int × (List Int))) : Option (Lp (Int × (List Int)) (List Int)) :=
 sel (decide (v2.1 < (p0.length : Int))) (
 req (0 ≤ v2.1 ∧ v2.1 < p0.length) <|
 req (0 ≤ v2.1 ∧ v2.1 < v2.2.length) <|
 req (v2.1.toNat < v2.2.length) <|
 some (.go (Xag .i64 (v2.1 + 1), (v2.2.set v2.1.toNat (p0.getD v2.1.toNat 0))))) (
 some (.done v2.2))
def Xdh (p0 : (List Int)) : Option (List Int) :=
 req (0 ≤ (p0.length : Int) ∧ (p0.length : Int) ≤ (p0.length : Int) ∧ (p0.length : Int) * 8 ≤ 281474976710656) <|
 bnd (loop (Xch p0) (0, (List.replicate (p0.length : Int).toNat (0 : Int)))) fun v4 =>
 some v4
def Xb5 (p0 : Int) (p1 : Int) (v2 : (Int × (List Int))) : Option (Lp (Int × (List Int)) (List Int)) :=
 sel (decide (v2.1 < p0)) (
 req (0 ≤ v2.1 ∧ v2.1 < v2.2.length) <|
 req (v2.1.toNat < v2.2.length) <|
 some (.go (Xag .i64 (v2.1 + 1), (v2.2.set v2.1.toNat p1)))) (
 some (.done v2.2))
def Xd0 (p0 : Int) (p1 : Int) : Option ByteArray :=
 req (0 ≤ p0 ∧ p0 ≤ p0 ∧ p0 * 1 ≤ 281474976710656) <|
 bnd (loop (Xb5 p0 p1) (0, (List.replicate p0.toNat (0 : Int)))) fun v4 =>
 some (strOfNums v4)
def Xcb (v2 : (Int × ByteArray)) : Option (Lp (Int × ByteArray) ByteArray) :=
 sel (decide (v2.1 > 0)) (
 req ((2 : Int) ≠ 0) <|
 req ((strOfNums ([Xag .u8 (Xag .i64 (48 + (v2.1.tmod 2)))])).size + v2.2.size ≤ 9223372036854775807) <|
 req ((2 : Int) ≠ 0) <|
 some (.go (Xag .i64 (v2.1.tdiv 2), ((strOfNums ([Xag .u8 (Xag .i64 (48 + (v2.1.tmod 2)))])) ++ v2.2)))) (
 some (.done v2.2))
def Xdo (p0 : Int) : Option ByteArray :=
 bnd (loop (Xcb) (Xag .i64 (p0 + 1), ⟨#[]⟩)) fun v4 =>
 bnd (Xd0 (Xag .i64 ((v4.size : Int) - 1)) 48) fun q6 =>
 req (q6.size + v4.size ≤ 9223372036854775807) <|
 some (q6 ++ v4)
def Xcg (p0 : (List Int)) (p1 : (List Int)) (v2 : Int) : Option (Lp Int (Ou Unit Bool)) :=
 sel (decide (v2 < (p0.length : Int))) (
 req (0 ≤ v2 ∧ v2 < p0.length) <|
 req (0 ≤ v2 ∧ v2 < p1.length) <|
 sel ((p0.getD v2.toNat 0) != (p1.getD v2.toNat 0)) (
 some (.done (.ret false))) (
 some (.go (Xag .i64 (v2 + 1))))) (
 some (.done (.out ())))
def Xde (p0 : (List Int)) (p1 : (List Int)) : Option Bool :=
 sel ((p0.length : Int) != (p1.length : Int)) (
 some false) (
 bnd (loop (Xcg p0 p1) 0) fun o5 => match o5 with
| .out v4 => (
 some true)
| .ret r => some r)
def Xj7 (p0 : Par) : Option Par :=
 some p0
def Xif (p0 : Rate) : Option Rate :=
 some p0
def Xbx (p0 : (List Int)) (v4 : (Int × Int)) : Option (Lp (Int × Int) (Ou Int Int)) :=
 sel (decide (v4.2 < (p0.length : Int))) (
 req (0 ≤ v4.2 ∧ v4.2 < p0.length) <|
 bnd (Xat (p0.getD v4.2.toNat 0) 1 8) fun q8 =>
 sel (!q8) (
 some (.done (.ret 0))) (
 req (0 ≤ v4.2 ∧ v4.2 < p0.length) <|
 some (.go (Xag .i64 (v4.1 + (p0.getD v4.2.toNat 0)), Xag .i64 (v4.2 + 1))))) (
 some (.done (.out v4.1)))
def Xb7 (p0 : (List Int)) : Option Int :=
 bnd (
 sel (decide ((p0.length : Int) < 1)) (
 some true) (
 some (decide ((p0.length : Int) > 4)))) fun v1 =>
 sel v1 (
 some 0) (
 bnd (loop (Xbx p0) (0, 0)) fun o9 => match o9 with
| .out v7 => (
 some v7)
| .ret r => some r)
def Xci (p0 : Seq) : Option Int :=
 bnd (Xb7 p0.Cols) fun q1 =>
 bnd (Xb7 p0.Rows) fun q2 =>
 some (Xag .i64 (q1 * q2))
def Xbm (p0 : Int) : Option Int :=
 sel (p0 == 1) (
 some 16) (
 sel (p0 == 2) (
 some 64) (
 sel (p0 == 3) (
 some 256) (
 some 0)))
def Xej (p0 : Seq) : Option Bool :=
 bnd (
 bnd (Xci p0) fun q2 =>
 bnd (Xbm p0.Level) fun q3 =>
 bnd (Xat q2 1 q3) fun q4 =>
 sel q4 (
 bnd (Xat p0.Bits 3 8) fun q5 =>
 some q5) (
 some false)) fun v1 =>
 some v1
def Xdz (p0 : Seq) : Option Int :=
 bnd (Xej p0) fun q1 =>
 sel (!q1) (
 some 0) (
 some (Xag .i64 ((p0.Cols.length : Int) * (p0.Rows.length : Int))))
def Xfv (p0 : Par) : Option Bool :=
 bnd (
 bnd (Xat p0.Qp 0 40) fun q2 =>
 sel q2 (
 sel p0.Large (
 some (!p0.Exact)) (
 some true)) (
 some false)) fun v1 =>
 some v1
def Xew (p0 : Rate) : Option Bool :=
 bnd (
 bnd (Xat p0.Qp 0 40) fun q2 =>
 sel q2 (
 bnd (Xat p0.Target 1 100000) fun q3 =>
 sel q3 (
 bnd (Xat p0.Debt (Xag .i64 ((-8) * p0.Target)) (Xag .i64 (8 * p0.Target))) fun q4 =>
 some q4) (
 some false)) (
 some false)) fun v1 =>
 some v1
def Xex (p0 : Seq) : Option (Int × Int) :=
 bnd (Xej p0) fun q1 =>
 sel (!q1) (
 some (0, 0)) (
 bnd (Xb7 p0.Cols) fun q2 =>
 bnd (Xb7 p0.Rows) fun q3 =>
 some (Xag .i64 (8 * q2), Xag .i64 (8 * q3)))
def Xc8 (p0 : Source) : Option Bool :=
 bnd (
 bnd (Xdz p0.Seq) fun q2 =>
 sel (q2 != 1) (
 some true) (
 bnd (Xfv p0.Par) fun q3 =>
 sel q3 (
 bnd (Xew p0.Rate) fun q4 =>
 sel q4 (
 sel (decide (p0.Frame < 0)) (
 some true) (
 req (0 ≤ (Xag .u64 (p0.Seq.Bits))) <|
 some (decide (p0.Frame ≥ (Xag .i64 (1 * 2 ^ min (Xag .u64 (p0.Seq.Bits)).toNat (IntKind.bits .i64))))))) (
 some true)) (
 some true))) fun v1 =>
 sel v1 (
 some false) (
 bnd (
 bnd (Xat p0.Every 1 1000) fun q6 =>
 sel q6 (
 bnd (Xat p0.Since 0 1000) fun q7 =>
 sel q7 (
 bnd (Xat p0.Reach 0 4) fun q8 =>
 some (!q8)) (
 some true)) (
 some true)) fun v5 =>
 sel v5 (
 some false) (
 bnd (Xex p0.Seq) fun q9 =>
 sel p0.Has (
 bnd (
 bnd (Xfw p0.Ref) fun q11 =>
 sel q11 (
 sel (p0.Ref.Wide == q9.1) (
 some (p0.Ref.High == q9.2)) (
 some false)) (
 some false)) fun v10 =>
 some v10) (
 bnd (
 sel (p0.Ref.Wide == 0) (
 sel (p0.Ref.High == 0) (
 some ((p0.Ref.Dots.size : Int) == 0)) (
 some false)) (
 some false)) fun v12 =>
 some v12)))
def Xc2 (p0 : (List Int)) (v2 : (Int × Int)) : Option (Lp (Int × Int) Int) :=
 sel (decide (v2.2 < (p0.length : Int))) (
 req (0 ≤ v2.2 ∧ v2.2 < p0.length) <|
 some (.go (Xag .i64 (v2.1 + (p0.getD v2.2.toNat 0)), Xag .i64 (v2.2 + 1)))) (
 some (.done v2.1))
def Xcr (p0 : (List Int)) : Option Int :=
 bnd (loop (Xc2 p0) (0, 0)) fun v4 =>
 some v4
def Xas (p0 : Seq) (v11 : Int) (v26 : Int) : Option (Lp Int (Ou Unit Int)) :=
 sel (decide (v26 < ((([p0.Cols, p0.Rows]).getD v11.toNat Xcm).length : Int))) (
 req (0 ≤ v26 ∧ v26 < (([p0.Cols, p0.Rows]).getD v11.toNat Xcm).length) <|
 bnd (Xal ((([p0.Cols, p0.Rows]).getD v11.toNat Xcm).getD v26.toNat 0) 1 8) fun q30 =>
 sel (!q30) (
 some (.done (.ret 0))) (
 some (.go (Xag .i64 (v26 + 1))))) (
 some (.done (.out ())))
def Xa1 (p0 : Seq) (v11 : Int) : Option (Lp Int (Ou Unit Int)) :=
 sel (decide (v11 < (([p0.Cols, p0.Rows]).length : Int))) (
 req (0 ≤ v11 ∧ v11 < ([p0.Cols, p0.Rows]).length) <|
 req (v11.toNat < ([p0.Cols, p0.Rows]).length) <|
 bnd (Xal ((([p0.Cols, p0.Rows]).getD v11.toNat Xcm).length : Int) 1 4) fun q23 =>
 sel (!q23) (
 some (.done (.ret 0))) (
 bnd (loop (Xas p0 v11) 0) fun o31 => match o31 with
| .out v29 => (
 some (.go (Xag .i64 (v11 + 1))))
| .ret r => some (.done (.ret r)))) (
 some (.done (.out ())))
def Xcf (p0 : Seq) : Option Int :=
 bnd (loop (Xa1 p0) 0) fun o32 => match o32 with
| .out v22 => (
 bnd (Xcr p0.Cols) fun q33 =>
 bnd (Xcr p0.Rows) fun q34 =>
 some (Xag .i64 (q33 * q34)))
| .ret r => some r
def Xbj (p0 : Int) : Option Int :=
 bnd (Xal p0 1 3) fun q1 =>
 sel (!q1) (
 some 0) (
 req (0 ≤ (Xag .i64 (p0 - 1)) ∧ (Xag .i64 (p0 - 1)) < ([16, 64, 256]).length) <|
 req ((Xag .i64 (p0 - 1)).toNat < ([16, 64, 256]).length) <|
 some (([16, 64, 256]).getD ((Xag .i64 (p0 - 1)).toNat) 0))
def Xdb (p0 : Seq) : Option Bool :=
 bnd (
 bnd (Xcf p0) fun q2 =>
 bnd (Xbj p0.Level) fun q3 =>
 bnd (Xal q2 1 q3) fun q4 =>
 sel q4 (
 bnd (Xal p0.Bits 3 8) fun q5 =>
 some q5) (
 some false)) fun v1 =>
 some v1
def Xdw (p0 : Seq) : Option Int :=
 bnd (Xdb p0) fun q1 =>
 sel (!q1) (
 some 0) (
 some (Xag .i64 ((p0.Cols.length : Int) * (p0.Rows.length : Int))))
def Xei (p0 : Par) : Option Bool :=
 bnd (
 bnd (Xal p0.Qp 0 40) fun q2 =>
 sel q2 (
 sel p0.Large (
 some (!p0.Exact)) (
 some true)) (
 some false)) fun v1 =>
 some v1
def Xel (p0 : Rate) : Option Bool :=
 bnd (
 bnd (Xal p0.Qp 0 40) fun q2 =>
 sel q2 (
 bnd (Xal p0.Target 1 100000) fun q3 =>
 sel q3 (
 bnd (Xal p0.Debt (Xag .i64 ((-8) * p0.Target)) (Xag .i64 (8 * p0.Target))) fun q4 =>
 some q4) (
 some false)) (
 some false)) fun v1 =>
 some v1
def Xen (p0 : Seq) : Option (Int × Int) :=
 bnd (Xdb p0) fun q1 =>
 sel (!q1) (
 some (0, 0)) (
 bnd (Xcr p0.Cols) fun q2 =>
 bnd (Xcr p0.Rows) fun q3 =>
 some (Xag .i64 (8 * q2), Xag .i64 (8 * q3)))
def Xgk (p0 : Pic) (p1 : Seq) : Option Bool :=
 bnd (Xen p1) fun q1 =>
 bnd (
 bnd (Xfj p0) fun q3 =>
 sel q3 (
 sel (p0.Wide == q1.1) (
 some (p0.High == q1.2)) (
 some false)) (
 some false)) fun v2 =>
 some v2
def Xcy (p0 : Source) : Option Bool :=
 bnd (
 bnd (Xdw p0.Seq) fun q2 =>
 sel (q2 != 1) (
 some true) (
 bnd (Xei p0.Par) fun q3 =>
 sel q3 (
 bnd (Xel p0.Rate) fun q4 =>
 sel q4 (
 req (0 ≤ p0.Seq.Bits) <|
 bnd (Xal p0.Frame 0 (Xag .i64 ((Xag .i64 (1 * 2 ^ min p0.Seq.Bits.toNat (IntKind.bits .i64))) - 1))) fun q5 =>
 sel q5 (
 bnd (Xal p0.Every 1 1000) fun q6 =>
 sel q6 (
 bnd (Xal p0.Since 0 1000) fun q7 =>
 sel q7 (
 bnd (Xal p0.Reach 0 4) fun q8 =>
 some (!q8)) (
 some true)) (
 some true)) (
 some true)) (
 some true)) (
 some true))) fun v1 =>
 sel v1 (
 some false) (
 sel p0.Has (
 bnd (Xgk p0.Ref p0.Seq) fun q9 =>
 some q9) (
 some (((p0.Ref.Wide == 0) && ((p0.Ref.High == 0) && (p0.Ref.Dots.toList == (⟨#[]⟩ : ByteArray).toList))) == true)))
def Xfp (p0 : Seq) (p1 : Seq) : Option Bool :=
 sel (p0.Level != p1.Level) (
 some false) (
 sel (p0.Bits != p1.Bits) (
 some false) (
 bnd (Xde p0.Cols p1.Cols) fun q1 =>
 sel (!q1) (
 some false) (
 bnd (Xde p0.Rows p1.Rows) fun q2 =>
 sel (!q2) (
 some false) (
 some true))))
def Xfn (p0 : Par) (p1 : Par) : Option Bool :=
 sel (p0.Qp != p1.Qp) (
 some false) (
 sel (!(p0.Large == p1.Large)) (
 some false) (
 sel (!(p0.Exact == p1.Exact)) (
 some false) (
 sel (!(p0.Confined == p1.Confined)) (
 some false) (
 some true))))
def Xep (p0 : Rate) (p1 : Rate) : Option Bool :=
 sel (p0.Qp != p1.Qp) (
 some false) (
 sel (p0.Target != p1.Target) (
 some false) (
 sel (p0.Debt != p1.Debt) (
 some false) (
 some true)))
def Xfo (p0 : Pic) (p1 : Pic) : Option Bool :=
 sel (p0.Wide != p1.Wide) (
 some false) (
 sel (p0.High != p1.High) (
 some false) (
 sel (!(p0.Dots.toList == p1.Dots.toList)) (
 some false) (
 some true)))
def Xc4 (p0 : Source) (p1 : Source) : Option Bool :=
 bnd (Xfp p0.Seq p1.Seq) fun q1 =>
 sel (!q1) (
 some false) (
 bnd (Xfn p0.Par p1.Par) fun q2 =>
 sel (!q2) (
 some false) (
 bnd (Xep p0.Rate p1.Rate) fun q3 =>
 sel (!q3) (
 some false) (
 sel (p0.Frame != p1.Frame) (
 some false) (
 sel (p0.Since != p1.Since) (
 some false) (
 sel (p0.Every != p1.Every) (
 some false) (
 sel (p0.Reach != p1.Reach) (
 some false) (
 sel (!(p0.Has == p1.Has)) (
 some false) (
 bnd (Xfo p0.Ref p1.Ref) fun q4 =>
 sel (!q4) (
 some false) (
 some true)))))))))
def Xbt (v2 : (Int × Int × (List Int))) : Option (Lp (Int × Int × (List Int)) (Int × (List Int))) :=
 sel (decide (v2.2.1 < (v2.2.2.length : Int))) (
 req (0 ≤ v2.2.1 ∧ v2.2.1 < v2.2.2.length) <|
 req (v2.2.1.toNat < v2.2.2.length) <|
 some (.go (Xag .i64 (v2.1 + 1), Xag .i64 (v2.2.1 + 1), (v2.2.2.set v2.2.1.toNat v2.1)))) (
 some (.done (v2.1, v2.2.2)))
def Xb8 (p0 : (List Int)) (p1 : Int) : Option (Int × (List Int)) :=
 bnd (loop (Xbt) (p1, 0, p0)) fun v4 =>
 some (v4.1, v4.2)
def Xdx (p0 : Seq) (p1 : Int) : Option (Int × Seq) :=
 bnd (Xb8 p0.Cols p1) fun q1 =>
 bnd (Xb8 p0.Rows q1.1) fun q2 =>
 some (q2.1, (⟨p0.Level, p0.Bits, q1.2, q2.2⟩ : Seq))
def Xbz (p0 : Source) (p1 : Int) : Option (Int × Source) :=
 bnd (Xdx p0.Seq p1) fun q1 =>
 some (q1.1, (⟨(⟨p0.Seq.Level, p0.Seq.Bits, q1.2.Cols, q1.2.Rows⟩ : Seq), p0.Par, p0.Rate, p0.Frame, p0.Since, p0.Every, p0.Reach, p0.Has, p0.Ref⟩ : Source))
def Xfr (p0 : Seq) (p1 : Int) : Option Int :=
 bnd (Xdg p0.Cols p1) fun q1 =>
 sel (decide (q1 < 0)) (
 some (-1)) (
 bnd (Xdg p0.Rows q1) fun q2 =>
 sel (decide (q2 < 0)) (
 some (-1)) (
 some q2))
def Xfq (p0 : Pic) (p1 : Int) : Option Int :=
 sel (decide ((Xag .i64 (p1 - (p0.Dots.size : Int))) < 0)) (
 some (-1)) (
 some (Xag .i64 (p1 - (p0.Dots.size : Int))))
def Xc5 (p0 : Source) (p1 : Int) : Option Int :=
 bnd (Xfr p0.Seq p1) fun q1 =>
 sel (decide (q1 < 0)) (
 some (-1)) (
 bnd (Xfq p0.Ref q1) fun q2 =>
 sel (decide (q2 < 0)) (
 some (-1)) (
 some q2))
def Xfs (p0 : Seq) : Option Seq :=
 bnd (Xdh p0.Cols) fun q1 =>
 bnd (Xdh p0.Rows) fun q2 =>
 some (⟨p0.Level, p0.Bits, q1, q2⟩ : Seq)
def Xj8 (p0 : Pic) : Option Pic :=
 some p0
def Xbf (p0 : Source) : Option Source :=
 bnd (Xfs p0.Seq) fun q1 =>
 bnd (Xj7 p0.Par) fun q2 =>
 bnd (Xif p0.Rate) fun q3 =>
 bnd (Xj8 p0.Ref) fun q4 =>
 some (⟨q1, q2, q3, p0.Frame, p0.Since, p0.Every, p0.Reach, p0.Has, q4⟩ : Source)
def Xcj (v2 : (Int × Int × (List Int))) : Option (Lp (Int × Int × (List Int)) (List Int)) :=
 sel (decide (v2.2.1 ≥ 0)) (
 req ((2 : Int) ≠ 0) <|
 req (0 ≤ v2.2.1 ∧ v2.2.1 < v2.2.2.length) <|
 req (v2.2.1.toNat < v2.2.2.length) <|
 req ((2 : Int) ≠ 0) <|
 some (.go (Xag .i64 (v2.1.tdiv 2), Xag .i64 (v2.2.1 - 1), (v2.2.2.set v2.2.1.toNat (Xag .u8 (Xag .i64 (48 + (v2.1.tmod 2)))))))) (
 some (.done v2.2.2))
def Xdn (p0 : Int) (p1 : Int) : Option ByteArray :=
 req (0 ≤ p1 ∧ p1 ≤ p1 ∧ p1 * 1 ≤ 281474976710656) <|
 bnd (loop (Xcj) (p0, Xag .i64 (p1 - 1), (List.replicate p1.toNat (0 : Int)))) fun v4 =>
 some (strOfNums v4)
def Xb6 (p0 : (List Int)) (v4 : (ByteArray × Int)) : Option (Lp (ByteArray × Int) ByteArray) :=
 sel (decide (v4.2 < (p0.length : Int))) (
 req (0 ≤ v4.2 ∧ v4.2 < p0.length) <|
 bnd (Xdo (p0.getD v4.2.toNat 0)) fun q8 =>
 req (v4.1.size + q8.size ≤ 9223372036854775807) <|
 some (.go ((v4.1 ++ q8), Xag .i64 (v4.2 + 1)))) (
 some (.done v4.1))
def Xcv (p0 : (List Int)) : Option ByteArray :=
 bnd (Xdo (p0.length : Int)) fun q1 =>
 bnd (loop (Xb6 p0) (q1, 0)) fun v7 =>
 some v7
def Xe2 (p0 : Seq) : Option ByteArray :=
 bnd (Xdo p0.Level) fun q1 =>
 bnd (Xdn p0.Bits 4) fun q2 =>
 req (q1.size + q2.size ≤ 9223372036854775807) <|
 bnd (Xcv p0.Cols) fun q3 =>
 req ((q1 ++ q2).size + q3.size ≤ 9223372036854775807) <|
 bnd (Xcv p0.Rows) fun q4 =>
 req (((q1 ++ q2) ++ q3).size + q4.size ≤ 9223372036854775807) <|
 some (((q1 ++ q2) ++ q3) ++ q4)
def Xd1 (p0 : Int) : Option Bool :=
 bnd (
 sel (p0 == 1) (
 some true) (
 sel (p0 == 5) (
 some true) (
 sel (p0 == 7) (
 some true) (
 some (p0 == 8))))) fun v1 =>
 some v1
def Xck (p0 : ByteArray) (v3 : Int) : Option (Lp Int (Ou Unit Bool)) :=
 sel (decide (v3 < (p0.size : Int))) (
 bnd (
 req (0 ≤ v3 ∧ v3 < p0.size) <|
 sel ((Xw9 p0 v3) != 48) (
 req (0 ≤ v3 ∧ v3 < p0.size) <|
 some ((Xw9 p0 v3) != 49)) (
 some false)) fun v7 =>
 sel v7 (
 some (.done (.ret false))) (
 some (.go (Xag .i64 (v3 + 1))))) (
 some (.done (.out ())))
def Xey (p0 : ByteArray) : Option Bool :=
 bnd (loop (Xck p0) 0) fun o8 => match o8 with
| .out v6 => (
 some true)
| .ret r => some r
def Xfx (p0 : ByteArray) : Option Bool :=
 bnd (
 sel (decide ((p0.size : Int) ≤ 400000)) (
 bnd (Xey p0) fun q2 =>
 some q2) (
 some false)) fun v1 =>
 some v1
def Xbv (v2 : (List Int)) : Option (Lp (List Int) (List Int)) :=
 req ((8 : Int) ≠ 0) <|
 sel (((v2.length : Int).tmod 8) != 0) (
 req ((v2.length + ([48]).length) * 1 ≤ 140737488355328 ∧ v2.length + ([48]).length ≤ maxLen) <|
 some (.go (v2 ++ ([48])))) (
 some (.done v2))
def Xa5 (v4 : (List Int)) (v12 : (Int × (List Int))) (v21 : (Int × Int)) : Option (Lp (Int × Int) Int) :=
 sel (decide (v21.2 < 8)) (
 req (0 ≤ (Xag .i64 (v12.1 + v21.2)) ∧ (Xag .i64 (v12.1 + v21.2)) < v4.length) <|
 req ((Xag .i64 (v12.1 + v21.2)).toNat < v4.length) <|
 some (.go (Xag .i64 ((Xag .i64 ((Xag .i64 (2 * v21.1)) + (Xag .i64 ((v4.getD ((Xag .i64 (v12.1 + v21.2)).toNat) 0))))) - 48), Xag .i64 (v21.2 + 1)))) (
 some (.done v21.1))
def Xbn (v4 : (List Int)) (v12 : (Int × (List Int))) : Option (Lp (Int × (List Int)) (List Int)) :=
 sel (decide (v12.1 < (v4.length : Int))) (
 bnd (loop (Xa5 v4 v12) (0, 0)) fun v23 =>
 req ((v12.2.length + ([Xag .u8 (v23)]).length) * 1 ≤ 140737488355328 ∧ v12.2.length + ([Xag .u8 (v23)]).length ≤ maxLen) <|
 some (.go (Xag .i64 (v12.1 + 8), (v12.2 ++ ([Xag .u8 (v23)]))))) (
 some (.done v12.2))
def Xc9 (p0 : ByteArray) : Option ByteArray :=
 req (p0.size ≤ maxLen) <|
 req (((Xda p0).length + ([49]).length) * 1 ≤ 140737488355328 ∧ (Xda p0).length + ([49]).length ≤ maxLen) <|
 bnd (loop (Xbv) ((Xda p0) ++ ([49]))) fun v4 =>
 bnd (loop (Xbn v4) (0, ([] : List Int))) fun v19 =>
 some (strOfNums v19)
def Xdm (p0 : Int) (p1 : ByteArray) : Option (ByteArray × Bool) :=
 bnd (
 bnd (Xd1 p0) fun q2 =>
 sel q2 (
 bnd (Xfx p1) fun q3 =>
 some (!q3)) (
 some true)) fun v1 =>
 sel v1 (
 some (⟨#[]⟩, false)) (
 bnd (Xc9 p1) fun q4 =>
 req ((strOfNums ([Xag .u8 (p0)])).size + q4.size ≤ 9223372036854775807) <|
 some (((strOfNums ([Xag .u8 (p0)])) ++ q4), true))
def Xcu (p0 : Bool) : Option ByteArray :=
 sel p0 (
 some ⟨#[49]⟩) (
 some ⟨#[48]⟩)
def Xe1 (p0 : Par) : Option ByteArray :=
 bnd (Xdn p0.Qp 6) fun q1 =>
 bnd (Xcu p0.Large) fun q2 =>
 req (q1.size + q2.size ≤ 9223372036854775807) <|
 bnd (Xcu p0.Exact) fun q3 =>
 req ((q1 ++ q2).size + q3.size ≤ 9223372036854775807) <|
 bnd (Xcu p0.Confined) fun q4 =>
 req (((q1 ++ q2) ++ q3).size + q4.size ≤ 9223372036854775807) <|
 some (((q1 ++ q2) ++ q3) ++ q4)
def Xb4 (p0 : Source) : Option (List ByteArray) :=
 bnd (Xc8 p0) fun q1 =>
 sel (!q1) (
 some ([] : List ByteArray)) (
 bnd (Xe2 p0.Seq) fun q2 =>
 bnd (Xdm 7 q2) fun q3 =>
 bnd (Xe1 p0.Par) fun q4 =>
 bnd (Xdm 8 q4) fun q5 =>
 some ([q3.1, q5.1]))
def Xby (p0 : Seq) (v14 : (ByteArray × Int)) (v29 : (ByteArray × Int)) : Option (Lp (ByteArray × Int) ByteArray) :=
 sel (decide (v29.2 < ((([p0.Cols, p0.Rows]).getD v14.2.toNat Xcm).length : Int))) (
 req (0 ≤ v29.2 ∧ v29.2 < (([p0.Cols, p0.Rows]).getD v14.2.toNat Xcm).length) <|
 bnd (Xh6 ((([p0.Cols, p0.Rows]).getD v14.2.toNat Xcm).getD v29.2.toNat 0)) fun q33 =>
 req (v29.1.size + q33.size ≤ 9223372036854775807) <|
 some (.go ((v29.1 ++ q33), Xag .i64 (v29.2 + 1)))) (
 some (.done v29.1))
def Xa6 (p0 : Seq) (v14 : (ByteArray × Int)) : Option (Lp (ByteArray × Int) ByteArray) :=
 sel (decide (v14.2 < (([p0.Cols, p0.Rows]).length : Int))) (
 req (0 ≤ v14.2 ∧ v14.2 < ([p0.Cols, p0.Rows]).length) <|
 req (v14.2.toNat < ([p0.Cols, p0.Rows]).length) <|
 bnd (Xh6 ((([p0.Cols, p0.Rows]).getD v14.2.toNat Xcm).length : Int)) fun q26 =>
 req (v14.1.size + q26.size ≤ 9223372036854775807) <|
 bnd (loop (Xby p0 v14) ((v14.1 ++ q26), 0)) fun v32 =>
 some (.go (v32, Xag .i64 (v14.2 + 1)))) (
 some (.done v14.1))
def Xem (p0 : Seq) : Option (ByteArray × Bool) :=
 bnd (Xdb p0) fun q1 =>
 sel (!q1) (
 some (⟨#[]⟩, false)) (
 bnd (Xh6 p0.Level) fun q2 =>
 bnd (Xdd p0.Bits 4) fun q3 =>
 req (q2.size + q3.size ≤ 9223372036854775807) <|
 bnd (loop (Xa6 p0) ((q2 ++ q3), 0)) fun v25 =>
 some (v25, true))
def Xfl (p0 : Bool) : Option ByteArray :=
 sel p0 (
 some ⟨#[49]⟩) (
 some ⟨#[48]⟩)
def Xek (p0 : Par) : Option (ByteArray × Bool) :=
 bnd (Xei p0) fun q1 =>
 sel (!q1) (
 some (⟨#[]⟩, false)) (
 bnd (Xdd p0.Qp 6) fun q2 =>
 bnd (Xfl p0.Large) fun q3 =>
 req (q2.size + q3.size ≤ 9223372036854775807) <|
 bnd (Xfl p0.Exact) fun q4 =>
 req ((q2 ++ q3).size + q4.size ≤ 9223372036854775807) <|
 bnd (Xfl p0.Confined) fun q5 =>
 req (((q2 ++ q3) ++ q4).size + q5.size ≤ 9223372036854775807) <|
 some ((((q2 ++ q3) ++ q4) ++ q5), true))
def Xcx (p0 : ByteArray) (v3 : Int) : Option (Lp Int (Ou Unit Bool)) :=
 sel (decide (v3 < (p0.size : Int))) (
 bnd (
 req (0 ≤ v3 ∧ v3 < p0.size) <|
 sel ((Xw9 p0 v3) != 48) (
 req (0 ≤ v3 ∧ v3 < p0.size) <|
 some ((Xw9 p0 v3) != 49)) (
 some false)) fun v7 =>
 sel v7 (
 some (.done (.ret false))) (
 some (.go (Xag .i64 (v3 + 1))))) (
 some (.done (.out ())))
def Xfk (p0 : ByteArray) : Option Bool :=
 sel (decide ((p0.size : Int) > 400000)) (
 some false) (
 bnd (loop (Xcx p0) 0) fun o8 => match o8 with
| .out v6 => (
 some true)
| .ret r => some r)
def Xbs (p0 : ByteArray) (v4 : (Int × (List Int))) : Option (Lp (Int × (List Int)) (List Int)) :=
 sel (decide (v4.1 < (p0.size : Int))) (
 bnd (
 req (0 ≤ v4.1 ∧ v4.1 < p0.size) <|
 sel ((Xw9 p0 v4.1) == 49) (
 req ((8 : Int) ≠ 0) <|
 req (0 ≤ (Xag .i64 (v4.1.tdiv 8)) ∧ (Xag .i64 (v4.1.tdiv 8)) < v4.2.length) <|
 req ((Xag .i64 (v4.1.tdiv 8)).toNat < v4.2.length) <|
 req ((8 : Int) ≠ 0) <|
 req (0 ≤ (v4.1.tmod 8)) <|
 req (0 ≤ (Xag .i64 (v4.1.tdiv 8)) ∧ (Xag .i64 (v4.1.tdiv 8)) < v4.2.length) <|
 req ((Xag .i64 (v4.1.tdiv 8)).toNat < v4.2.length) <|
 some (v4.2.set ((Xag .i64 (v4.1.tdiv 8)).toNat) (IntKind.wrap .u8 (BitVec.ofInt (IntKind.bits .u8) (v4.2.getD ((Xag .i64 (v4.1.tdiv 8)).toNat) 0) ||| BitVec.ofInt (IntKind.bits .u8) ((128 : Int) / 2 ^ min (v4.1.tmod 8).toNat (IntKind.bits .u8))).toNat))) (
 some v4.2)) fun v8 =>
 some (.go (Xag .i64 (v4.1 + 1), v8))) (
 some (.done v4.2))
def Xcw (p0 : ByteArray) : Option (ByteArray × Bool) :=
 bnd (Xfk p0) fun q1 =>
 sel (!q1) (
 some (⟨#[]⟩, false)) (
 req ((8 : Int) ≠ 0) <|
 req (0 ≤ (Xag .i64 ((Xag .i64 ((p0.size : Int).tdiv 8)) + 1)) ∧ (Xag .i64 ((Xag .i64 ((p0.size : Int).tdiv 8)) + 1)) ≤ (Xag .i64 ((Xag .i64 ((p0.size : Int).tdiv 8)) + 1)) ∧ (Xag .i64 ((Xag .i64 ((p0.size : Int).tdiv 8)) + 1)) * 1 ≤ 281474976710656) <|
 bnd (loop (Xbs p0) (0, (List.replicate (Xag .i64 ((Xag .i64 ((p0.size : Int).tdiv 8)) + 1)).toNat (0 : Int)))) fun v7 =>
 req ((8 : Int) ≠ 0) <|
 req (0 ≤ (Xag .i64 ((p0.size : Int).tdiv 8)) ∧ (Xag .i64 ((p0.size : Int).tdiv 8)) < v7.length) <|
 req ((Xag .i64 ((p0.size : Int).tdiv 8)).toNat < v7.length) <|
 req ((8 : Int) ≠ 0) <|
 req (0 ≤ ((p0.size : Int).tmod 8)) <|
 req (0 ≤ (Xag .i64 ((p0.size : Int).tdiv 8)) ∧ (Xag .i64 ((p0.size : Int).tdiv 8)) < v7.length) <|
 req ((Xag .i64 ((p0.size : Int).tdiv 8)).toNat < v7.length) <|
 some ((strOfNums (v7.set ((Xag .i64 ((p0.size : Int).tdiv 8)).toNat) (IntKind.wrap .u8 (BitVec.ofInt (IntKind.bits .u8) (v7.getD ((Xag .i64 ((p0.size : Int).tdiv 8)).toNat) 0) ||| BitVec.ofInt (IntKind.bits .u8) ((128 : Int) / 2 ^ min ((p0.size : Int).tmod 8).toNat (IntKind.bits .u8))).toNat))), true))
def Xeo (p0 : Int) : Option Bool :=
 bnd (
 sel (p0 == 1) (
 some true) (
 sel (p0 == 5) (
 some true) (
 sel (p0 == 7) (
 some true) (
 some (p0 == 8))))) fun v1 =>
 some v1
def Xdc (p0 : Int) (p1 : ByteArray) : Option (ByteArray × Bool) :=
 bnd (Xcw p1) fun q1 =>
 bnd (
 sel q1.2 (
 bnd (Xeo p0) fun q3 =>
 some (!q3)) (
 some true)) fun v2 =>
 sel v2 (
 some (⟨#[]⟩, false)) (
 req ((strOfNums ([Xag .u8 (p0)])).size + q1.1.size ≤ 9223372036854775807) <|
 some (((strOfNums ([Xag .u8 (p0)])) ++ q1.1), true))
def Xbk (p0 : Source) : Option (List ByteArray) :=
 bnd (Xcy p0) fun q1 =>
 sel (!q1) (
 some ([] : List ByteArray)) (
 bnd (Xem p0.Seq) fun q2 =>
 bnd (Xek p0.Par) fun q3 =>
 bnd (Xdc 7 q2.1) fun q4 =>
 bnd (Xdc 8 q3.1) fun q5 =>
 some ([q4.1, q5.1]))
def Xa9 (p0 : Source) : Option Bool :=
 bnd (Xc5 p0 1048576) fun q1 =>
 sel (decide (q1 < 0)) (
 some true) (
 bnd (Xbf p0) fun q2 =>
 bnd (Xb4 q2) fun q3 =>
 bnd (Xbf p0) fun q4 =>
 bnd (Xbk q4) fun q5 =>
 bnd (Xbg q5 q3) fun q6 =>
 sel (!q6) (
 some false) (
 bnd (Xbf p0) fun q7 =>
 bnd (Xc4 q4 q7) fun q8 =>
 sel (!q8) (
 some false) (
 bnd (Xbz q4 1) fun q9 =>
 bnd (
 sel (decide (q9.1 < 0)) (
 some true) (
 bnd (Xbg q5 q3) fun q11 =>
 some (!q11))) fun v10 =>
 sel v10 (
 some false) (
 bnd (Xbu q5 1) fun q12 =>
 bnd (Xbc q12.2 1) fun q13 =>
 sel (decide (q13 < 0)) (
 some false) (
 sel (q13 != q12.1) (
 some false) (
 bnd (Xbf p0) fun q14 =>
 bnd (Xbk q14) fun q15 =>
 bnd (Xbg q15 q3) fun q16 =>
 sel (!q16) (
 some false) (
 bnd (Xbc q12.2 1) fun q17 =>
 sel (decide (q17 < 0)) (
 some false) (
 sel (q17 != q12.1) (
 some false) (
 some true)))))))))
end
end Go.Proofs.Ytlebkepfhdjnmab.A
