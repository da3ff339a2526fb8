/- What the functions that the law FnExactAdmitStep reaches compute, over numbers, texts and lists. Written by a program of this session. Conditions: none. -/
import Derived.Test.YtnhflbeahbcklabGreatAL2
namespace Go.Proofs.YtnhflbeahbcklabGreat.A
open Go Go.Proofs Go.Proofs.YtnhflbeahbcklabGreatAL Go.RowKit
set_option linter.unusedVariables false
set_option linter.unusedSimpArgs false
structure Seq where
 Level : Int
 Bits : Int
 Cols : (List Int)
 Rows : (List Int)
structure Par where
 Qp : Int
 Large : Bool
 Exact : Bool
 Confined : Bool
structure Admit where
 Has : Bool
 Live : Bool
 Seq : Seq
 Par : Par
 Frame : Int
 Count : Int
 Gone : Int
structure Xhz where
 Key : Bool
 Qp : Int
 Row : ByteArray
structure Xmv where
 Key : Bool
 Qp : Int
 Large : Bool
 Exact : Bool
structure Xjk where
 Tile : Int
 Frame : Int
 Qp : Int
structure Xas where
 Kind : Int
 Mode : Int
 Dx : Int
 Dy : Int
 Levels : (List Int)
structure Yer where
 Left : Int
 Top : Int
 Wide : Int
 High : Int
structure Xf2 where
 row_ : ByteArray
 at_ : Int
 bad_ : Bool
def Xai : ByteArray := ⟨#[]⟩
def Xjm : (List Int) := []
def Ygi : Xas := ⟨0, 0, 0, 0, []⟩
def Ygs (x : Seq) : Prop := (Lit.int .i64 x.Level).wf = true ∧ (Lit.int .i64 x.Bits).wf = true ∧ (x.Cols.length ≤ maxLen ∧ ∀ y ∈ x.Cols, (Lit.int .i64 y).wf = true) ∧ (x.Rows.length ≤ maxLen ∧ ∀ y ∈ x.Rows, (Lit.int .i64 y).wf = true)
def Ygr (x : Par) : Prop := (Lit.int .i64 x.Qp).wf = true ∧ True ∧ True ∧ True
def Yam (x : Admit) : Prop := True ∧ True ∧ Ygs x.Seq ∧ Ygr x.Par ∧ (Lit.int .i64 x.Frame).wf = true ∧ (Lit.int .i64 x.Count).wf = true ∧ (Lit.int .i64 x.Gone).wf = true
noncomputable section
def Xe5 (v2 : (Int × Int × (List Int))) : Option (Lp (Int × Int × (List Int)) (List Int)) :=
 sel (decide (v2.2.1 ≥ 0)) (
 req ((2 : Int) ≠ 0) <|
 req (0 ≤ v2.2.1 ∧ v2.2.1 < v2.2.2.length) <|
 req (v2.2.1.toNat < v2.2.2.length) <|
 req ((2 : Int) ≠ 0) <|
 some (.go (Xah .i64 (v2.1.tdiv 2), Xah .i64 (v2.2.1 - 1), (v2.2.2.set v2.2.1.toNat (Xah .u8 (Xah .i64 (48 + (v2.1.tmod 2)))))))) (
 some (.done v2.2.2))
def Xhx (p0 : Int) (p1 : Int) : Option ByteArray :=
 req (0 ≤ p1 ∧ p1 ≤ p1 ∧ p1 * 1 ≤ 281474976710656) <|
 bnd (loop (Xe5) (p0, Xah .i64 (p1 - 1), (List.replicate p1.toNat (0 : Int)))) fun v4 =>
 some (strOfNums v4)
def Xgz (p0 : Int) : Option Bool :=
 bnd (
 sel (p0 == 1) (
 some true) (
 sel (p0 == 5) (
 some true) (
 sel (p0 == 7) (
 some true) (
 some (p0 == 8))))) fun v1 =>
 some v1
def Xb5 (p0 : ByteArray) (v3 : Int) : Option (Lp Int (Ou Unit Bool)) :=
 sel (decide (v3 < (p0.size : Int))) (
 bnd (
 req (0 ≤ v3 ∧ v3 < p0.size) <|
 sel ((Xhd p0 v3) != 48) (
 req (0 ≤ v3 ∧ v3 < p0.size) <|
 some ((Xhd p0 v3) != 49)) (
 some false)) fun v7 =>
 sel v7 (
 some (.done (.ret false))) (
 some (.go (Xah .i64 (v3 + 1))))) (
 some (.done (.out ())))
def Xgf (p0 : ByteArray) : Option Bool :=
 bnd (loop (Xb5 p0) 0) fun o8 => match o8 with
| .out v6 => (
 some true)
| .ret r => some r
def Xer (p0 : ByteArray) : Option Bool :=
 bnd (
 sel (decide ((p0.size : Int) ≤ 400000)) (
 bnd (Xgf p0) fun q2 =>
 some q2) (
 some false)) fun v1 =>
 some v1
def Xa9 (p0 : Int) (p1 : Int) (p2 : Int) : Option Bool :=
 bnd (
 sel (decide (p0 ≥ p1)) (
 some (decide (p0 ≤ p2))) (
 some false)) fun v1 =>
 some v1
def Xd2 (p0 : (List Int)) (v4 : (Int × Int)) : Option (Lp (Int × Int) (Ou Int Int)) :=
 sel (decide (v4.2 < (p0.length : Int))) (
 req (0 ≤ v4.2 ∧ v4.2 < p0.length) <|
 bnd (Xa9 (p0.getD v4.2.toNat 0) 1 8) fun q8 =>
 sel (!q8) (
 some (.done (.ret 0))) (
 req (0 ≤ v4.2 ∧ v4.2 < p0.length) <|
 some (.go (Xah .i64 (v4.1 + (p0.getD v4.2.toNat 0)), Xah .i64 (v4.2 + 1))))) (
 some (.done (.out v4.1)))
def Xgg (p0 : (List Int)) : Option Int :=
 bnd (
 sel (decide ((p0.length : Int) < 1)) (
 some true) (
 some (decide ((p0.length : Int) > 4)))) fun v1 =>
 sel v1 (
 some 0) (
 bnd (loop (Xd2 p0) (0, 0)) fun o9 => match o9 with
| .out v7 => (
 some v7)
| .ret r => some r)
def Xe4 (p0 : Seq) : Option Int :=
 bnd (Xgg p0.Cols) fun q1 =>
 bnd (Xgg p0.Rows) fun q2 =>
 some (Xah .i64 (q1 * q2))
def Xdb (p0 : Int) : Option Int :=
 sel (p0 == 1) (
 some 16) (
 sel (p0 == 2) (
 some 64) (
 sel (p0 == 3) (
 some 256) (
 some 0)))
def Xge (p0 : Seq) : Option Bool :=
 bnd (
 bnd (Xe4 p0) fun q2 =>
 bnd (Xdb p0.Level) fun q3 =>
 bnd (Xa9 q2 1 q3) fun q4 =>
 sel q4 (
 bnd (Xa9 p0.Bits 3 8) fun q5 =>
 some q5) (
 some false)) fun v1 =>
 some v1
def Xc2 (p0 : Seq) : Option Int :=
 bnd (Xge p0) fun q1 =>
 sel (!q1) (
 some 0) (
 some (Xah .i64 ((p0.Cols.length : Int) * (p0.Rows.length : Int))))
def Xd0 (p0 : Par) : Option Bool :=
 bnd (
 bnd (Xa9 p0.Qp 0 40) fun q2 =>
 sel q2 (
 sel p0.Large (
 some (!p0.Exact)) (
 some true)) (
 some false)) fun v1 =>
 some v1
def Xhv (p0 : Seq) (p1 : Par) (p2 : Xjk) : Option Bool :=
 bnd (
 bnd (Xd0 p1) fun q2 =>
 sel q2 (
 sel (decide (p2.Tile ≥ 0)) (
 bnd (Xc2 p0) fun q3 =>
 sel (decide (p2.Tile < q3)) (
 sel (decide (p2.Frame ≥ 0)) (
 req (0 ≤ (Xah .u64 (p0.Bits))) <|
 sel (decide (p2.Frame < (Xah .i64 (1 * 2 ^ min (Xah .u64 (p0.Bits)).toNat (IntKind.bits .i64))))) (
 bnd (Xa9 p2.Qp 0 40) fun q4 =>
 some q4) (
 some false)) (
 some false)) (
 some false)) (
 some false)) (
 some false)) fun v1 =>
 some v1
def Xdc (p0 : (List Int)) (p1 : Int) (v2 : (Int × Int)) : Option (Lp (Int × Int) Int) :=
 sel (decide (v2.2 < p1)) (
 req (0 ≤ v2.2 ∧ v2.2 < p0.length) <|
 some (.go (Xah .i64 (v2.1 + (p0.getD v2.2.toNat 0)), Xah .i64 (v2.2 + 1)))) (
 some (.done v2.1))
def Xe6 (p0 : (List Int)) (p1 : Int) : Option Int :=
 bnd (loop (Xdc p0 p1) (0, 0)) fun v4 =>
 some v4
def Xfx (p0 : Seq) (p1 : Int) : Option (Yer × Bool) :=
 bnd (
 sel (decide (p1 < 0)) (
 some true) (
 bnd (Xc2 p0) fun q2 =>
 some (decide (p1 ≥ q2)))) fun v1 =>
 sel v1 (
 some ((⟨0, 0, 0, 0⟩ : Yer), false)) (
 req ((p0.Cols.length : Int) ≠ 0) <|
 req ((p0.Cols.length : Int) ≠ 0) <|
 bnd (Xe6 p0.Cols (p1.tmod (p0.Cols.length : Int))) fun q3 =>
 bnd (Xe6 p0.Rows (Xah .i64 (p1.tdiv (p0.Cols.length : Int)))) fun q4 =>
 req (0 ≤ (p1.tmod (p0.Cols.length : Int)) ∧ (p1.tmod (p0.Cols.length : Int)) < p0.Cols.length) <|
 req (0 ≤ (Xah .i64 (p1.tdiv (p0.Cols.length : Int))) ∧ (Xah .i64 (p1.tdiv (p0.Cols.length : Int))) < p0.Rows.length) <|
 some ((⟨Xah .i64 (8 * q3), Xah .i64 (8 * q4), Xah .i64 (8 * (p0.Cols.getD (p1.tmod (p0.Cols.length : Int)).toNat 0)), Xah .i64 (8 * (p0.Rows.getD (Xah .i64 (p1.tdiv (p0.Cols.length : Int))).toNat 0))⟩ : Yer), true))
def Xcd (p0 : Seq) (p1 : Int) : Option Int :=
 bnd (Xfx p0 p1) fun q1 =>
 req ((8 : Int) ≠ 0) <|
 req ((8 : Int) ≠ 0) <|
 some (Xah .i64 ((Xah .i64 (q1.1.Wide.tdiv 8)) * (Xah .i64 (q1.1.High.tdiv 8))))
def Xfp (p0 : (List Int)) : Option (List Int) :=
 req ((([] : List Int).length + p0.length) * 8 ≤ 140737488355328 ∧ ([] : List Int).length + p0.length ≤ maxLen) <|
 some (([] : List Int) ++ p0)
def Xfe (p0 : Seq) : Option Seq :=
 bnd (Xfp p0.Cols) fun q1 =>
 bnd (Xfp p0.Rows) fun q2 =>
 some (⟨p0.Level, p0.Bits, q1, q2⟩ : Seq)
def Xgs (p0 : Seq) : Option Bool :=
 bnd (
 sel (p0.Level == 0) (
 sel (p0.Bits == 0) (
 sel ((p0.Cols.length : Int) == 0) (
 some ((p0.Rows.length : Int) == 0)) (
 some false)) (
 some false)) (
 some false)) fun v1 =>
 some v1
def Xaq (p0 : Int) (p1 : Int) (p2 : Int) : Option Bool :=
 bnd (
 sel (decide (p0 ≥ p1)) (
 some (decide (p0 ≤ p2))) (
 some false)) fun v1 =>
 some v1
def Xcz (p0 : (List Int)) (v2 : (Int × Int)) : Option (Lp (Int × Int) Int) :=
 sel (decide (v2.2 < (p0.length : Int))) (
 req (0 ≤ v2.2 ∧ v2.2 < p0.length) <|
 some (.go (Xah .i64 (v2.1 + (p0.getD v2.2.toNat 0)), Xah .i64 (v2.2 + 1)))) (
 some (.done v2.1))
def Xel (p0 : (List Int)) : Option Int :=
 bnd (loop (Xcz p0) (0, 0)) fun v4 =>
 some v4
def Xbu (p0 : Seq) (v11 : Int) (v26 : Int) : Option (Lp Int (Ou Unit Int)) :=
 sel (decide (v26 < ((([p0.Cols, p0.Rows]).getD v11.toNat Xjm).length : Int))) (
 req (0 ≤ v26 ∧ v26 < (([p0.Cols, p0.Rows]).getD v11.toNat Xjm).length) <|
 bnd (Xaq ((([p0.Cols, p0.Rows]).getD v11.toNat Xjm).getD v26.toNat 0) 1 8) fun q30 =>
 sel (!q30) (
 some (.done (.ret 0))) (
 some (.go (Xah .i64 (v26 + 1))))) (
 some (.done (.out ())))
def Xb9 (p0 : Seq) (v11 : Int) : Option (Lp Int (Ou Unit Int)) :=
 sel (decide (v11 < (([p0.Cols, p0.Rows]).length : Int))) (
 req (0 ≤ v11 ∧ v11 < ([p0.Cols, p0.Rows]).length) <|
 req (v11.toNat < ([p0.Cols, p0.Rows]).length) <|
 bnd (Xaq ((([p0.Cols, p0.Rows]).getD v11.toNat Xjm).length : Int) 1 4) fun q23 =>
 sel (!q23) (
 some (.done (.ret 0))) (
 bnd (loop (Xbu p0 v11) 0) fun o31 => match o31 with
| .out v29 => (
 some (.go (Xah .i64 (v11 + 1))))
| .ret r => some (.done (.ret r)))) (
 some (.done (.out ())))
def Xch (p0 : Seq) : Option Int :=
 bnd (loop (Xb9 p0) 0) fun o32 => match o32 with
| .out v22 => (
 bnd (Xel p0.Cols) fun q33 =>
 bnd (Xel p0.Rows) fun q34 =>
 some (Xah .i64 (q33 * q34)))
| .ret r => some r
def Xc7 (p0 : Int) : Option Int :=
 bnd (Xaq p0 1 3) fun q1 =>
 sel (!q1) (
 some 0) (
 req (0 ≤ (Xah .i64 (p0 - 1)) ∧ (Xah .i64 (p0 - 1)) < ([16, 64, 256]).length) <|
 req ((Xah .i64 (p0 - 1)).toNat < ([16, 64, 256]).length) <|
 some (([16, 64, 256]).getD ((Xah .i64 (p0 - 1)).toNat) 0))
def Xfd (p0 : Seq) : Option Bool :=
 bnd (
 bnd (Xch p0) fun q2 =>
 bnd (Xc7 p0.Level) fun q3 =>
 bnd (Xaq q2 1 q3) fun q4 =>
 sel q4 (
 bnd (Xaq p0.Bits 3 8) fun q5 =>
 some q5) (
 some false)) fun v1 =>
 some v1
def Xdv (p0 : Par) : Option Bool :=
 bnd (
 bnd (Xaq p0.Qp 0 40) fun q2 =>
 sel q2 (
 sel p0.Large (
 some (!p0.Exact)) (
 some true)) (
 some false)) fun v1 =>
 some v1
def Xcy (p0 : Seq) : Option Int :=
 bnd (Xfd p0) fun q1 =>
 sel (!q1) (
 some 0) (
 some (Xah .i64 ((p0.Cols.length : Int) * (p0.Rows.length : Int))))
def Xhp (p0 : Int) : Option Bool :=
 bnd (
 sel (p0 == 1) (
 some true) (
 sel (p0 == 5) (
 some true) (
 sel (p0 == 7) (
 some true) (
 some (p0 == 8))))) fun v1 =>
 some v1
def Xct (p0 : ByteArray) (v3 : (Int × (List Int))) : Option (Lp (Int × (List Int)) (List Int)) :=
 sel (decide (v3.1 < (Xah .i64 (8 * (p0.size : Int))))) (
 req ((8 : Int) ≠ 0) <|
 req (0 ≤ (Xah .i64 (v3.1.tdiv 8)) ∧ (Xah .i64 (v3.1.tdiv 8)) < p0.size) <|
 req ((8 : Int) ≠ 0) <|
 req (0 ≤ (Xah .i64 (7 - (v3.1.tmod 8)))) <|
 req ((v3.2.length + ([Xah .u8 (48 + (IntKind.wrap .u8 (BitVec.ofInt (IntKind.bits .u8) ((Xhd p0 (Xah .i64 (v3.1.tdiv 8))) / 2 ^ min (Xah .i64 (7 - (v3.1.tmod 8))).toNat (IntKind.bits .u8)) &&& BitVec.ofInt (IntKind.bits .u8) 1).toNat))]).length) * 1 ≤ 140737488355328 ∧ v3.2.length + ([Xah .u8 (48 + (IntKind.wrap .u8 (BitVec.ofInt (IntKind.bits .u8) ((Xhd p0 (Xah .i64 (v3.1.tdiv 8))) / 2 ^ min (Xah .i64 (7 - (v3.1.tmod 8))).toNat (IntKind.bits .u8)) &&& BitVec.ofInt (IntKind.bits .u8) 1).toNat))]).length ≤ maxLen) <|
 some (.go (Xah .i64 (v3.1 + 1), (v3.2 ++ ([Xah .u8 (48 + (IntKind.wrap .u8 (BitVec.ofInt (IntKind.bits .u8) ((Xhd p0 (Xah .i64 (v3.1.tdiv 8))) / 2 ^ min (Xah .i64 (7 - (v3.1.tmod 8))).toNat (IntKind.bits .u8)) &&& BitVec.ofInt (IntKind.bits .u8) 1).toNat))]))))) (
 some (.done v3.2))
def Xcu (v5 : (List Int)) (v8 : Int) : Option (Lp Int Int) :=
 req (0 ≤ (Xah .i64 (v8 - 1)) ∧ (Xah .i64 (v8 - 1)) < v5.length) <|
 req ((Xah .i64 (v8 - 1)).toNat < v5.length) <|
 sel ((v5.getD ((Xah .i64 (v8 - 1)).toNat) 0) == 48) (
 some (.go (Xah .i64 (v8 - 1)))) (
 some (.done v8))
def Xeh (p0 : ByteArray) : Option (ByteArray × Bool) :=
 bnd (
 sel ((Xah .i64 (8 * (p0.size : Int))) == 0) (
 some true) (
 req (0 ≤ (Xah .i64 ((p0.size : Int) - 1)) ∧ (Xah .i64 ((p0.size : Int) - 1)) < p0.size) <|
 sel ((Xhd p0 (Xah .i64 ((p0.size : Int) - 1))) == 0) (
 some true) (
 some (decide ((Xah .i64 (8 * (p0.size : Int))) > 400008))))) fun v1 =>
 sel v1 (
 some (⟨#[]⟩, false)) (
 req (0 ≤ (0 : Int) ∧ (0 : Int) ≤ (Xah .i64 (8 * (p0.size : Int))) ∧ (Xah .i64 (8 * (p0.size : Int))) * 1 ≤ 281474976710656) <|
 bnd (loop (Xct p0) (0, (List.replicate (0 : Int).toNat (0 : Int)))) fun v5 =>
 bnd (loop (Xcu v5) (Xah .i64 (8 * (p0.size : Int)))) fun v10 =>
 sel (decide ((Xah .i64 (v10 - 1)) > 400000)) (
 some (⟨#[]⟩, false)) (
 req (0 ≤ (0 : Int) ∧ (0 : Int) ≤ (Xah .i64 (v10 - 1)) ∧ (Xah .i64 (v10 - 1)) ≤ (v5.length : Int)) <|
 req ((0 : Int).toNat + ((Xah .i64 (v10 - 1)).toNat - (0 : Int).toNat) ≤ v5.length) <|
 some ((strOfNums ((v5.drop ((0 : Int).toNat)).take ((Xah .i64 (v10 - 1)).toNat - (0 : Int).toNat))), true)))
def Xdi (p0 : ByteArray) : Option (Int × ByteArray × Bool) :=
 bnd (
 sel (p0.toList == (⟨#[]⟩ : ByteArray).toList) (
 some true) (
 req (0 ≤ (0 : Int) ∧ (0 : Int) < p0.size) <|
 bnd (Xhp (Xah .i64 ((Xhd p0 (0 : Int))))) fun q2 =>
 some (!q2))) fun v1 =>
 sel v1 (
 some (0, ⟨#[]⟩, false)) (
 req (0 ≤ (1 : Int) ∧ (1 : Int) ≤ (p0.size : Int) ∧ (p0.size : Int) ≤ (p0.size : Int)) <|
 bnd (Xeh (p0.extract (1 : Int).toNat (p0.size : Int).toNat)) fun q3 =>
 sel (!q3.2) (
 some (0, ⟨#[]⟩, false)) (
 req (0 ≤ (0 : Int) ∧ (0 : Int) < p0.size) <|
 some (Xah .i64 ((Xhd p0 (0 : Int))), q3.1, true)))
def Xej (p0 : ByteArray) (v3 : Int) : Option (Lp Int (Ou Unit Bool)) :=
 sel (decide (v3 < (p0.size : Int))) (
 bnd (
 req (0 ≤ v3 ∧ v3 < p0.size) <|
 sel ((Xhd p0 v3) != 48) (
 req (0 ≤ v3 ∧ v3 < p0.size) <|
 some ((Xhd p0 v3) != 49)) (
 some false)) fun v7 =>
 sel v7 (
 some (.done (.ret false))) (
 some (.go (Xah .i64 (v3 + 1))))) (
 some (.done (.out ())))
def Xfc (p0 : ByteArray) : Option Bool :=
 sel (decide ((p0.size : Int) > 400000)) (
 some false) (
 bnd (loop (Xej p0) 0) fun o8 => match o8 with
| .out v6 => (
 some true)
| .ret r => some r)
def Xc4 (p0 : ByteArray) (p1 : Int) : Option Xf2 :=
 bnd (
 bnd (Xfc p0) fun q2 =>
 sel q2 (
 bnd (Xaq p1 0 (p0.size : Int)) fun q3 =>
 some (!q3)) (
 some true)) fun v1 =>
 some (⟨p0, p1, v1⟩ : Xf2)
def Xdq (p0 : Xf2) (p1 : Int) (v3 : (Int × Int)) : Option (Lp (Int × Int) Int) :=
 sel (decide (v3.2 < p1)) (
 req (0 ≤ (1 : Int)) <|
 req (0 ≤ (Xah .i64 (p0.at_ + v3.2)) ∧ (Xah .i64 (p0.at_ + v3.2)) < p0.row_.size) <|
 some (.go ((IntKind.wrap .i64 (BitVec.ofInt (IntKind.bits .i64) (Xah .i64 (v3.1 * 2 ^ min (1 : Int).toNat (IntKind.bits .i64))) ||| BitVec.ofInt (IntKind.bits .i64) (Xah .i64 (Xah .u8 ((Xhd p0.row_ (Xah .i64 (p0.at_ + v3.2))) - 48)))).toNat), Xah .i64 (v3.2 + 1)))) (
 some (.done v3.1))
def Xap (p0 : Xf2) (p1 : Int) : Option (Int × Xf2) :=
 bnd (
 sel p0.bad_ (
 some true) (
 some (decide ((Xah .i64 ((p0.row_.size : Int) - p0.at_)) < p1)))) fun v1 =>
 sel v1 (
 some (0, (⟨p0.row_, p0.at_, true⟩ : Xf2))) (
 bnd (loop (Xdq p0 p1) (0, 0)) fun v5 =>
 some (v5, (⟨p0.row_, Xah .i64 (p0.at_ + p1), p0.bad_⟩ : Xf2)))
def Xck (p0 : Xf2) (v3 : Int) : Option (Lp Int Int) :=
 bnd (
 sel p0.bad_ (
 some false) (
 sel (decide ((Xah .i64 (p0.at_ + v3)) < (p0.row_.size : Int))) (
 req (0 ≤ (Xah .i64 (p0.at_ + v3)) ∧ (Xah .i64 (p0.at_ + v3)) < p0.row_.size) <|
 some ((Xhd p0.row_ (Xah .i64 (p0.at_ + v3))) == 48)) (
 some false))) fun v7 =>
 sel v7 (
 some (.go (Xah .i64 (v3 + 1)))) (
 some (.done v3))
def Xa6 (p0 : Xf2) : Option (Int × Xf2) :=
 bnd (loop (Xck p0) 0) fun v6 =>
 bnd (
 sel (decide (v6 > 20)) (
 some true) (
 some p0.bad_)) fun v9 =>
 bnd (Xap (⟨p0.row_, p0.at_, v9⟩ : Xf2) (Xah .i64 ((Xah .i64 (2 * v6)) + 1))) fun q10 =>
 bnd (
 sel q10.2.bad_ (
 some true) (
 some (decide ((Xah .i64 (q10.1 - 1)) > 1000000)))) fun v11 =>
 sel v11 (
 some (0, (⟨q10.2.row_, q10.2.at_, true⟩ : Xf2))) (
 some (Xah .i64 (q10.1 - 1), q10.2))
def Xar (q1 : (Int × Xf2)) (v6 : (Int × ByteArray × Int × Bool × (List Int))) : Option (Lp (Int × ByteArray × Int × Bool × (List Int)) ((List Int) × ByteArray × Int × Bool)) :=
 bnd (
 sel (decide (v6.1 < q1.1)) (
 some (!v6.2.2.2.1)) (
 some false)) fun v11 =>
 sel v11 (
 bnd (Xa6 (⟨v6.2.1, v6.2.2.1, v6.2.2.2.1⟩ : Xf2)) fun q12 =>
 req ((v6.2.2.2.2.length + ([q12.1]).length) * 8 ≤ 140737488355328 ∧ v6.2.2.2.2.length + ([q12.1]).length ≤ maxLen) <|
 some (.go (Xah .i64 (v6.1 + 1), q12.2.row_, q12.2.at_, q12.2.bad_, (v6.2.2.2.2 ++ ([q12.1]))))) (
 some (.done (v6.2.2.2.2, v6.2.1, v6.2.2.1, v6.2.2.2.1)))
def Xb3 (p0 : Xf2) : Option ((List Int) × Xf2) :=
 bnd (Xa6 p0) fun q1 =>
 bnd (
 sel (decide (q1.1 > 4)) (
 some true) (
 some q1.2.bad_)) fun v2 =>
 bnd (loop (Xar q1) (0, q1.2.row_, q1.2.at_, v2, ([] : List Int))) fun v10 =>
 some (v10.1, (⟨v10.2.1, v10.2.2.1, v10.2.2.2⟩ : Xf2))
def Xd6 (p0 : ByteArray) (p1 : Int) : Option (Seq × Int × Bool) :=
 bnd (Xc4 p0 p1) fun q1 =>
 bnd (Xa6 q1) fun q2 =>
 bnd (Xap q2.2 4) fun q3 =>
 bnd (Xb3 q3.2) fun q4 =>
 bnd (Xb3 q4.2) fun q5 =>
 bnd (
 sel q5.2.bad_ (
 some true) (
 bnd (Xfd (⟨q2.1, q3.1, q4.1, q5.1⟩ : Seq)) fun q7 =>
 some (!q7))) fun v6 =>
 sel v6 (
 some ((⟨0, 0, [], []⟩ : Seq), 0, false)) (
 some ((⟨q2.1, q3.1, q4.1, q5.1⟩ : Seq), q5.2.at_, true))
def Xd5 (p0 : ByteArray) (p1 : Int) : Option (Par × Int × Bool) :=
 bnd (Xc4 p0 p1) fun q1 =>
 bnd (Xap q1 6) fun q2 =>
 bnd (Xap q2.2 1) fun q3 =>
 bnd (Xap q3.2 1) fun q4 =>
 bnd (Xap q4.2 1) fun q5 =>
 bnd (
 sel q5.2.bad_ (
 some true) (
 bnd (Xdv (⟨q2.1, (q3.1 == 1), (q4.1 == 1), (q5.1 == 1)⟩ : Par)) fun q7 =>
 some (!q7))) fun v6 =>
 sel v6 (
 some ((⟨0, false, false, false⟩ : Par), 0, false)) (
 some ((⟨q2.1, (q3.1 == 1), (q4.1 == 1), (q5.1 == 1)⟩ : Par), q5.2.at_, true))
def Xhn (p0 : Int) : Option (Int × Bool) :=
 bnd (Xaq p0 0 1000000) fun q1 =>
 sel (!q1) (
 some (0, false)) (
 req ((2 : Int) ≠ 0) <|
 sel ((p0.tmod 2) == 1) (
 req ((2 : Int) ≠ 0) <|
 some (Xah .i64 ((Xah .i64 (p0 + 1)).tdiv 2), true)) (
 req ((2 : Int) ≠ 0) <|
 some (Xah .i64 ((Xah .i64 (0 - p0)).tdiv 2), true)))
def Xbm (p0 : Xf2) : Option (Int × Xf2) :=
 bnd (Xa6 p0) fun q1 =>
 bnd (Xhn q1.1) fun q2 =>
 bnd (
 sel q1.2.bad_ (
 some true) (
 some (!q2.2))) fun v3 =>
 some (q2.1, (⟨q1.2.row_, q1.2.at_, v3⟩ : Xf2))
def Xhm (p0 : Seq) (p1 : Par) (p2 : Xjk) : Option Bool :=
 bnd (
 bnd (Xfd p0) fun q2 =>
 sel q2 (
 bnd (Xdv p1) fun q3 =>
 sel q3 (
 bnd (Xcy p0) fun q4 =>
 bnd (Xaq p2.Tile 0 (Xah .i64 (q4 - 1))) fun q5 =>
 sel q5 (
 req (0 ≤ p0.Bits) <|
 bnd (Xaq p2.Frame 0 (Xah .i64 ((Xah .i64 (1 * 2 ^ min p0.Bits.toNat (IntKind.bits .i64))) - 1))) fun q6 =>
 sel q6 (
 bnd (Xaq p2.Qp 0 40) fun q7 =>
 some q7) (
 some false)) (
 some false)) (
 some false)) (
 some false)) fun v1 =>
 some v1
def Xdh (p0 : Seq) (p1 : Par) (p2 : ByteArray) : Option (Xjk × Int × Bool) :=
 bnd (Xc4 p2 0) fun q1 =>
 bnd (
 bnd (Xfd p0) fun q3 =>
 sel q3 (
 bnd (Xdv p1) fun q4 =>
 some (!q4)) (
 some true)) fun v2 =>
 sel v2 (
 some ((⟨0, 0, 0⟩ : Xjk), 0, false)) (
 bnd (Xa6 q1) fun q5 =>
 bnd (Xap q5.2 p0.Bits) fun q6 =>
 bnd (Xbm q6.2) fun q7 =>
 bnd (
 sel q7.2.bad_ (
 some true) (
 bnd (Xhm p0 p1 (⟨q5.1, q6.1, Xah .i64 (q7.1 + p1.Qp)⟩ : Xjk)) fun q9 =>
 some (!q9))) fun v8 =>
 sel v8 (
 some ((⟨0, 0, 0⟩ : Xjk), 0, false)) (
 some ((⟨q5.1, q6.1, Xah .i64 (q7.1 + p1.Qp)⟩ : Xjk), q7.2.at_, true)))
def Xhl (p0 : Xmv) : Option Bool :=
 bnd (
 bnd (Xaq p0.Qp 0 40) fun q2 =>
 sel q2 (
 sel p0.Large (
 some (!p0.Exact)) (
 some true)) (
 some false)) fun v1 =>
 some v1
def Xa4 (p1 : Int) (v8 : (Int × Int × ByteArray × Int × Bool × (List Int))) : Option (Lp (Int × Int × ByteArray × Int × Bool × (List Int)) ((List Int) × ByteArray × Int × Bool)) :=
 bnd (
 sel (decide (v8.2.1 > 0)) (
 some (!v8.2.2.2.2.1)) (
 some false)) fun v16 =>
 sel v16 (
 bnd (Xa6 (⟨v8.2.2.1, v8.2.2.2.1, v8.2.2.2.2.1⟩ : Xf2)) fun q17 =>
 bnd (Xbm q17.2) fun q18 =>
 bnd (
 sel (decide ((Xah .i64 (v8.1 + q17.1)) ≥ p1)) (
 some true) (
 sel (q18.1 == 0) (
 some true) (
 bnd (Xaq q18.1 (-5000) 5000) fun q20 =>
 some (!q20)))) fun v19 =>
 sel v19 (
 some (.done (v8.2.2.2.2.2, q18.2.row_, q18.2.at_, true))) (
 req (0 ≤ (Xah .i64 (v8.1 + q17.1)) ∧ (Xah .i64 (v8.1 + q17.1)) < v8.2.2.2.2.2.length) <|
 req ((Xah .i64 (v8.1 + q17.1)).toNat < v8.2.2.2.2.2.length) <|
 some (.go (Xah .i64 ((Xah .i64 (v8.1 + q17.1)) + 1), Xah .i64 (v8.2.1 - 1), q18.2.row_, q18.2.at_, q18.2.bad_, (v8.2.2.2.2.2.set ((Xah .i64 (v8.1 + q17.1)).toNat) q18.1))))) (
 some (.done (v8.2.2.2.2.2, v8.2.2.1, v8.2.2.2.1, v8.2.2.2.2.1)))
def Xb4 (p0 : Xf2) (p1 : Int) : Option ((List Int) × Xf2) :=
 req (0 ≤ p1 ∧ p1 ≤ p1 ∧ p1 * 8 ≤ 281474976710656) <|
 bnd (Xa6 p0) fun q1 =>
 bnd (loop (Xa4 p1) (0, q1.1, q1.2.row_, q1.2.at_, q1.2.bad_, (List.replicate p1.toNat (0 : Int)))) fun v15 =>
 some (v15.1, (⟨v15.2.1, v15.2.2.1, v15.2.2.2⟩ : Xf2))
def Xa1 (v5 : (Int × ByteArray × Int × Bool × (List Int))) : Option (Lp (Int × ByteArray × Int × Bool × (List Int)) ((List Int) × ByteArray × Int × Bool)) :=
 sel (decide (v5.1 < 4)) (
 bnd (Xb4 (⟨v5.2.1, v5.2.2.1, v5.2.2.2.1⟩ : Xf2) 16) fun q9 =>
 req ((v5.2.2.2.2.length + q9.1.length) * 8 ≤ 140737488355328 ∧ v5.2.2.2.2.length + q9.1.length ≤ maxLen) <|
 some (.go (Xah .i64 (v5.1 + 1), q9.2.row_, q9.2.at_, q9.2.bad_, (v5.2.2.2.2 ++ q9.1)))) (
 some (.done (v5.2.2.2.2, v5.2.1, v5.2.2.1, v5.2.2.2.1)))
def Xbd (p0 : Xf2) (p1 : Xmv) : Option ((List Int) × Xf2) :=
 bnd (
 sel p1.Large (
 some true) (
 some p1.Exact)) fun v1 =>
 sel v1 (
 bnd (Xb4 p0 64) fun q2 =>
 some (q2.1, q2.2)) (
 bnd (loop (Xa1) (0, p0.row_, p0.at_, p0.bad_, ([] : List Int))) fun v8 =>
 some (v8.1, (⟨v8.2.1, v8.2.2.1, v8.2.2.2⟩ : Xf2)))
def Xfo (p0 : (List Int)) (p2 : Int) (p3 : Int) (v3 : Int) : Option (Lp Int (Ou Unit Bool)) :=
 sel (decide (v3 < (p0.length : Int))) (
 req (0 ≤ v3 ∧ v3 < p0.length) <|
 bnd (Xaq (p0.getD v3.toNat 0) p2 p3) fun q7 =>
 sel (!q7) (
 some (.done (.ret false))) (
 some (.go (Xah .i64 (v3 + 1))))) (
 some (.done (.out ())))
def Xix (p0 : (List Int)) (p1 : Int) (p2 : Int) (p3 : Int) : Option Bool :=
 bnd (loop (Xfo p0 p2 p3) 0) fun o8 => match o8 with
| .out v6 => (
 some ((p0.length : Int) == p1))
| .ret r => some r
def Xdw (p0 : (List Int)) : Option Bool :=
 bnd (Xix p0 64 (-5000) 5000) fun q1 =>
 some q1
def Xek (p0 : Xas) : Option Bool :=
 sel (p0.Kind == 0) (
 bnd (
 sel (p0.Mode == 0) (
 sel (p0.Dx == 0) (
 sel (p0.Dy == 0) (
 some ((p0.Levels.length : Int) == 0)) (
 some false)) (
 some false)) (
 some false)) fun v1 =>
 some v1) (
 sel (p0.Kind == 1) (
 bnd (
 sel (p0.Mode == 0) (
 bnd (Xaq p0.Dx (-16) 16) fun q3 =>
 sel q3 (
 bnd (Xaq p0.Dy (-16) 16) fun q4 =>
 sel q4 (
 bnd (Xdw p0.Levels) fun q5 =>
 some q5) (
 some false)) (
 some false)) (
 some false)) fun v2 =>
 some v2) (
 sel (p0.Kind == 2) (
 bnd (
 bnd (Xaq p0.Mode 0 3) fun q7 =>
 sel q7 (
 sel (p0.Dx == 0) (
 sel (p0.Dy == 0) (
 bnd (Xdw p0.Levels) fun q8 =>
 some q8) (
 some false)) (
 some false)) (
 some false)) fun v6 =>
 some v6) (
 some false)))
def Xby (p0 : Xf2) (p1 : Xmv) : Option (Xas × Xf2) :=
 bnd (
 sel (!p1.Key) (
 bnd (Xa6 p0) fun q2 =>
 some (q2.2.row_, q2.2.at_, q2.2.bad_, q2.1)) (
 some (p0.row_, p0.at_, p0.bad_, 2))) fun v1 =>
 bnd (
 sel v1.2.2.1 (
 some (v1.1, v1.2.1, v1.2.2.1, 0, 0, 0, [])) (
 sel (v1.2.2.2 == 1) (
 bnd (Xbm (⟨v1.1, v1.2.1, v1.2.2.1⟩ : Xf2)) fun q4 =>
 bnd (Xbm q4.2) fun q5 =>
 bnd (Xbd q5.2 p1) fun q6 =>
 some (q6.2.row_, q6.2.at_, q6.2.bad_, 0, q4.1, q5.1, q6.1)) (
 sel (v1.2.2.2 == 2) (
 bnd (Xa6 (⟨v1.1, v1.2.1, v1.2.2.1⟩ : Xf2)) fun q7 =>
 bnd (Xbd q7.2 p1) fun q8 =>
 some (q8.2.row_, q8.2.at_, q8.2.bad_, q7.1, 0, 0, q8.1)) (
 some (v1.1, v1.2.1, v1.2.2.1, 0, 0, 0, []))))) fun v3 =>
 bnd (
 sel v3.2.2.1 (
 some true) (
 bnd (Xek (⟨v1.2.2.2, v3.2.2.2.1, v3.2.2.2.2.1, v3.2.2.2.2.2.1, v3.2.2.2.2.2.2⟩ : Xas)) fun q10 =>
 some (!q10))) fun v9 =>
 some ((⟨v1.2.2.2, v3.2.2.2.1, v3.2.2.2.2.1, v3.2.2.2.2.2.1, v3.2.2.2.2.2.2⟩ : Xas), (⟨v3.1, v3.2.1, v9⟩ : Xf2))
def Xa0 (p2 : Int) (p3 : Xmv) (v7 : (Int × ByteArray × Int × Bool × (List Xas))) : Option (Lp (Int × ByteArray × Int × Bool × (List Xas)) (Ou (ByteArray × Int × Bool × (List Xas)) ((List Xas) × Bool))) :=
 sel (decide (v7.1 < p2)) (
 bnd (Xby (⟨v7.2.1, v7.2.2.1, v7.2.2.2.1⟩ : Xf2) p3) fun q11 =>
 req ((v7.2.2.2.2.length + ([q11.1]).length) * 56 ≤ 140737488355328 ∧ v7.2.2.2.2.length + ([q11.1]).length ≤ maxLen) <|
 sel q11.2.bad_ (
 some (.done (.ret (([] : List Xas), false)))) (
 some (.go (Xah .i64 (v7.1 + 1), q11.2.row_, q11.2.at_, q11.2.bad_, (v7.2.2.2.2 ++ ([q11.1])))))) (
 some (.done (.out (v7.2.1, v7.2.2.1, v7.2.2.2.1, v7.2.2.2.2))))
def Xfk (p0 : ByteArray) (p1 : Int) (p2 : Int) (p3 : Xmv) : Option ((List Xas) × Bool) :=
 bnd (Xc4 p0 p1) fun q1 =>
 bnd (
 bnd (Xaq p2 1 64) fun q3 =>
 sel q3 (
 bnd (Xhl p3) fun q4 =>
 some (!q4)) (
 some true)) fun v2 =>
 sel v2 (
 some (([] : List Xas), false)) (
 bnd (loop (Xa0 p2 p3) (0, q1.row_, q1.at_, q1.bad_, ([] : List Xas))) fun o12 => match o12 with
| .out v10 => (
 sel (v10.2.1 != (p0.size : Int)) (
 some (([] : List Xas), false)) (
 some (v10.2.2.2, true)))
| .ret r => some r)
def Xhi (p0 : Int) (p1 : Int) : Option Int :=
 req (0 ≤ p1) <|
 req ((Xah .i64 (1 * 2 ^ min p1.toNat (IntKind.bits .i64))) ≠ 0) <|
 some ((Xah .i64 (p0 + 1)).tmod (Xah .i64 (1 * 2 ^ min p1.toNat (IntKind.bits .i64))))
def Xgy (p0 : Int) (p1 : Int) (p2 : Int) : Option Int :=
 bnd (
 sel (decide (p2 < p1)) (
 some true) (
 some (decide (p0 < p1)))) fun v1 =>
 sel v1 (
 some p1) (
 sel (decide (p0 > p2)) (
 some p2) (
 some p0))
def Xdx (p0 : Admit) : Option Admit :=
 bnd (Xfe p0.Seq) fun q1 =>
 some (⟨p0.Has, p0.Live, q1, p0.Par, p0.Frame, p0.Count, p0.Gone⟩ : Admit)
def Xfb (p0 : Admit) : Option Bool :=
 bnd (
 bnd (Xaq p0.Count 0 1000000000) fun q2 =>
 sel q2 (
 bnd (Xaq p0.Gone 0 1000000000) fun q3 =>
 some (!q3)) (
 some true)) fun v1 =>
 sel v1 (
 some false) (
 sel (!p0.Has) (
 bnd (
 sel p0.Live (
 some false) (
 bnd (Xgs p0.Seq) fun q5 =>
 sel q5 (
 sel (((p0.Par.Qp == 0) && ((p0.Par.Large == false) && ((p0.Par.Exact == false) && (p0.Par.Confined == false)))) == true) (
 some (p0.Frame == 0)) (
 some false)) (
 some false))) fun v4 =>
 some v4) (
 bnd (
 bnd (Xcy p0.Seq) fun q7 =>
 sel (q7 == 1) (
 bnd (Xdv p0.Par) fun q8 =>
 sel q8 (
 req (0 ≤ p0.Seq.Bits) <|
 bnd (Xaq p0.Frame 0 (Xah .i64 ((Xah .i64 (1 * 2 ^ min p0.Seq.Bits.toNat (IntKind.bits .i64))) - 1))) fun q9 =>
 some q9) (
 some false)) (
 some false)) fun v6 =>
 some v6))
def Xh4 (p0 : Par) (p1 : Xhz) : Option Xmv :=
 some (⟨p1.Key, p1.Qp, p0.Large, p0.Exact⟩ : Xmv)
def Xf4 (p0 : Par) (p1 : Xhz) (p2 : Int) : Option Bool :=
 bnd (Xh4 p0 p1) fun q1 =>
 bnd (Xfk p1.Row 0 p2 q1) fun q2 =>
 bnd (
 sel q2.2 (
 bnd (Xdv p0) fun q4 =>
 some q4) (
 some false)) fun v3 =>
 some v3
def Xan (p1 : (List ByteArray)) (v4 : (Int × (List Int) × (List ByteArray))) : Option (Lp (Int × (List Int) × (List ByteArray)) (Ou ((List Int) × (List ByteArray)) (Int × Seq × Par × Xjk × Xhz))) :=
 sel (decide (v4.1 < (p1.length : Int))) (
 req (0 ≤ v4.1 ∧ v4.1 < p1.length) <|
 bnd (Xdi (p1.getD v4.1.toNat Xai)) fun q9 =>
 bnd (
 sel q9.2.2 (
 some ((v4.2.1.length : Int) == 3)) (
 some true)) fun v10 =>
 sel v10 (
 some (.done (.ret (2, (⟨0, 0, [], []⟩ : Seq), (⟨0, false, false, false⟩ : Par), (⟨0, 0, 0⟩ : Xjk), (⟨false, 0, ⟨#[]⟩⟩ : Xhz))))) (
 req ((v4.2.1.length + ([q9.1]).length) * 8 ≤ 140737488355328 ∧ v4.2.1.length + ([q9.1]).length ≤ maxLen) <|
 req ((v4.2.2.length + ([q9.2.1]).length) * 16 ≤ 140737488355328 ∧ v4.2.2.length + ([q9.2.1]).length ≤ maxLen) <|
 some (.go (Xah .i64 (v4.1 + 1), (v4.2.1 ++ ([q9.1])), (v4.2.2 ++ ([q9.2.1])))))) (
 some (.done (.out (v4.2.1, v4.2.2))))
def Xa3 (p0 : Admit) (p1 : (List ByteArray)) (p2 : Par) : Option (Int × Seq × Par × Xjk × Xhz) :=
 bnd (loop (Xan p1) (0, ([] : List Int), ([] : List ByteArray))) fun o11 => match o11 with
| .out v8 => (
 Xta (fun (v12 : (Int × Int × (List Int) × (List Int) × Int × Bool × Bool × Bool)) =>
 req (0 ≤ (Xah .i64 ((v8.2.length : Int) - 1)) ∧ (Xah .i64 ((v8.2.length : Int) - 1)) < v8.2.length) <|
 req ((Xah .i64 ((v8.2.length : Int) - 1)).toNat < v8.2.length) <|
 bnd (Xdh (⟨v12.1, v12.2.1, v12.2.2.1, v12.2.2.2.1⟩ : Seq) (⟨v12.2.2.2.2.1, v12.2.2.2.2.2.1, v12.2.2.2.2.2.2.1, v12.2.2.2.2.2.2.2⟩ : Par) (v8.2.getD ((Xah .i64 ((v8.2.length : Int) - 1)).toNat) Xai)) fun q18 =>
 sel (!q18.2.2) (
 some (5, (⟨0, 0, [], []⟩ : Seq), (⟨0, false, false, false⟩ : Par), (⟨0, 0, 0⟩ : Xjk), (⟨false, 0, ⟨#[]⟩⟩ : Xhz))) (
 bnd (
 sel ((v8.1.length : Int) == 3) (
 some false) (
 some (!p0.Live))) fun v19 =>
 sel v19 (
 some (6, (⟨0, 0, [], []⟩ : Seq), (⟨0, false, false, false⟩ : Par), (⟨0, 0, 0⟩ : Xjk), (⟨false, 0, ⟨#[]⟩⟩ : Xhz))) (
 bnd (
 sel ((v8.1.length : Int) == 3) (
 some false) (
 some (q18.1.Frame != p0.Frame))) fun v20 =>
 sel v20 (
 some (7, (⟨0, 0, [], []⟩ : Seq), (⟨0, false, false, false⟩ : Par), (⟨0, 0, 0⟩ : Xjk), (⟨false, 0, ⟨#[]⟩⟩ : Xhz))) (
 req (0 ≤ q18.2.1 ∧ q18.2.1 ≤ ((v8.2.getD ((Xah .i64 ((v8.2.length : Int) - 1)).toNat) Xai).size : Int) ∧ ((v8.2.getD ((Xah .i64 ((v8.2.length : Int) - 1)).toNat) Xai).size : Int) ≤ ((v8.2.getD ((Xah .i64 ((v8.2.length : Int) - 1)).toNat) Xai).size : Int)) <|
 bnd (Xch (⟨v12.1, v12.2.1, v12.2.2.1, v12.2.2.2.1⟩ : Seq)) fun q21 =>
 bnd (Xf4 (⟨v12.2.2.2.2.1, v12.2.2.2.2.2.1, v12.2.2.2.2.2.2.1, v12.2.2.2.2.2.2.2⟩ : Par) (⟨((v8.1.length : Int) == 3), q18.1.Qp, ((v8.2.getD ((Xah .i64 ((v8.2.length : Int) - 1)).toNat) Xai).extract q18.2.1.toNat ((v8.2.getD ((Xah .i64 ((v8.2.length : Int) - 1)).toNat) Xai).size : Int).toNat)⟩ : Xhz) q21) fun q22 =>
 sel (!q22) (
 some (8, (⟨0, 0, [], []⟩ : Seq), (⟨0, false, false, false⟩ : Par), (⟨0, 0, 0⟩ : Xjk), (⟨false, 0, ⟨#[]⟩⟩ : Xhz))) (
 some (0, (⟨v12.1, v12.2.1, v12.2.2.1, v12.2.2.2.1⟩ : Seq), (⟨v12.2.2.2.2.1, v12.2.2.2.2.2.1, v12.2.2.2.2.2.2.1, v12.2.2.2.2.2.2.2⟩ : Par), q18.1, (⟨((v8.1.length : Int) == 3), q18.1.Qp, ((v8.2.getD ((Xah .i64 ((v8.2.length : Int) - 1)).toNat) Xai).extract q18.2.1.toNat ((v8.2.getD ((Xah .i64 ((v8.2.length : Int) - 1)).toNat) Xai).size : Int).toNat)⟩ : Xhz))))))) fun j1 =>
 bnd (
 sel ((v8.1.length : Int) == 3) (
 req (0 ≤ (0 : Int) ∧ (0 : Int) < v8.1.length) <|
 req ((0 : Int).toNat < v8.1.length) <|
 sel ((v8.1.getD ((0 : Int).toNat) 0) != 7) (
 some true) (
 req (0 ≤ (1 : Int) ∧ (1 : Int) < v8.1.length) <|
 req ((1 : Int).toNat < v8.1.length) <|
 sel ((v8.1.getD ((1 : Int).toNat) 0) != 8) (
 some true) (
 req (0 ≤ (2 : Int) ∧ (2 : Int) < v8.1.length) <|
 req ((2 : Int).toNat < v8.1.length) <|
 sel ((v8.1.getD ((2 : Int).toNat) 0) != 5) (
 some true) (
 some false)))) (
 sel ((v8.1.length : Int) != 1) (
 some true) (
 req (0 ≤ (0 : Int) ∧ (0 : Int) < v8.1.length) <|
 req ((0 : Int).toNat < v8.1.length) <|
 some ((v8.1.getD ((0 : Int).toNat) 0) != 1)))) fun v13 =>
 sel v13 (
 some (2, (⟨0, 0, [], []⟩ : Seq), (⟨0, false, false, false⟩ : Par), (⟨0, 0, 0⟩ : Xjk), (⟨false, 0, ⟨#[]⟩⟩ : Xhz))) (
 sel ((v8.1.length : Int) == 3) (
 req (0 ≤ (0 : Int) ∧ (0 : Int) < v8.2.length) <|
 req ((0 : Int).toNat < v8.2.length) <|
 bnd (Xd6 (v8.2.getD ((0 : Int).toNat) Xai) 0) fun q14 =>
 req (0 ≤ (1 : Int) ∧ (1 : Int) < v8.2.length) <|
 req ((1 : Int).toNat < v8.2.length) <|
 bnd (Xd5 (v8.2.getD ((1 : Int).toNat) Xai) 0) fun q15 =>
 bnd (
 sel q14.2.2 (
 req (0 ≤ (0 : Int) ∧ (0 : Int) < v8.2.length) <|
 req ((0 : Int).toNat < v8.2.length) <|
 sel (q14.2.1 != ((v8.2.getD ((0 : Int).toNat) Xai).size : Int)) (
 some true) (
 sel q15.2.2 (
 req (0 ≤ (1 : Int) ∧ (1 : Int) < v8.2.length) <|
 req ((1 : Int).toNat < v8.2.length) <|
 sel (q15.2.1 != ((v8.2.getD ((1 : Int).toNat) Xai).size : Int)) (
 some true) (
 bnd (Xcy q14.1) fun q17 =>
 sel (q17 != 1) (
 some true) (
 sel q15.1.Confined (
 sel (q15.1.Large == p2.Large) (
 some (!(q15.1.Exact == p2.Exact))) (
 some true)) (
 some true)))) (
 some true))) (
 some true)) fun v16 =>
 sel v16 (
 some (3, (⟨0, 0, [], []⟩ : Seq), (⟨0, false, false, false⟩ : Par), (⟨0, 0, 0⟩ : Xjk), (⟨false, 0, ⟨#[]⟩⟩ : Xhz))) (
 j1 (q14.1.Level, q14.1.Bits, q14.1.Cols, q14.1.Rows, q15.1.Qp, q15.1.Large, q15.1.Exact, q15.1.Confined))) (
 sel (!p0.Has) (
 some (4, (⟨0, 0, [], []⟩ : Seq), (⟨0, false, false, false⟩ : Par), (⟨0, 0, 0⟩ : Xjk), (⟨false, 0, ⟨#[]⟩⟩ : Xhz))) (
 j1 (p0.Seq.Level, p0.Seq.Bits, p0.Seq.Cols, p0.Seq.Rows, p0.Par.Qp, p0.Par.Large, p0.Par.Exact, p0.Par.Confined)))))
| .ret r => some r
def Xff (p0 : Int) : Option Int :=
 some (if (1000000000 : Int) < (Xah .i64 (p0 + 1)) then (1000000000 : Int) else (Xah .i64 (p0 + 1)))
def Xex (p0 : Admit) : Option Admit :=
 bnd (Xdx p0) fun q1 =>
 bnd (
 bnd (Xfb p0) fun q3 =>
 sel q3 (
 bnd (Xff p0.Gone) fun q4 =>
 some (false, q4)) (
 some (q1.Live, q1.Gone))) fun v2 =>
 some (⟨q1.Has, v2.1, q1.Seq, q1.Par, q1.Frame, q1.Count, v2.2⟩ : Admit)
def Xbp (p0 : Admit) (p1 : (List ByteArray)) (p2 : Par) : Option (Admit × Int × Xhz) :=
 bnd (Xdx p0) fun q1 =>
 bnd (
 bnd (Xfb p0) fun q3 =>
 sel q3 (
 bnd (Xdv p2) fun q4 =>
 some (!q4)) (
 some true)) fun v2 =>
 sel v2 (
 some (q1, 1, (⟨false, 0, ⟨#[]⟩⟩ : Xhz))) (
 bnd (Xa3 p0 p1 p2) fun q5 =>
 sel (q5.1 != 0) (
 bnd (Xex p0) fun q6 =>
 some (q6, q5.1, (⟨false, 0, ⟨#[]⟩⟩ : Xhz))) (
 bnd (Xfe q5.2.1) fun q7 =>
 bnd (Xhi q5.2.2.2.1.Frame q5.2.1.Bits) fun q8 =>
 bnd (Xff p0.Count) fun q9 =>
 some ((⟨true, true, q7, q5.2.2.1, q8, q9, q1.Gone⟩ : Admit), 0, q5.2.2.2.2)))
def Xf6 (p0 : (List Int)) (p1 : Int) : Option Int :=
 sel (decide ((Xah .i64 (p1 - (p0.length : Int))) < 0)) (
 some (-1)) (
 some (Xah .i64 (p1 - (p0.length : Int))))
def Xjc (p0 : Seq) (p1 : Int) : Option Int :=
 bnd (Xf6 p0.Cols p1) fun q1 =>
 sel (decide (q1 < 0)) (
 some (-1)) (
 bnd (Xf6 p0.Rows q1) fun q2 =>
 sel (decide (q2 < 0)) (
 some (-1)) (
 some q2))
def Xe2 (p0 : (List Int)) (v2 : (Int × (List Int))) : Option (Lp (Int × (List Int)) (List Int)) :=
 sel (decide (v2.1 < (p0.length : Int))) (
 req (0 ≤ v2.1 ∧ v2.1 < p0.length) <|
 req (0 ≤ v2.1 ∧ v2.1 < v2.2.length) <|
 req (v2.1.toNat < v2.2.length) <|
 some (.go (Xah .i64 (v2.1 + 1), (v2.2.set v2.1.toNat (p0.getD v2.1.toNat 0))))) (
 some (.done v2.2))
def Xf7 (p0 : (List Int)) : Option (List Int) :=
 req (0 ≤ (p0.length : Int) ∧ (p0.length : Int) ≤ (p0.length : Int) ∧ (p0.length : Int) * 8 ≤ 281474976710656) <|
 bnd (loop (Xe2 p0) (0, (List.replicate (p0.length : Int).toNat (0 : Int)))) fun v4 =>
 some v4
def Xhk (p0 : Seq) : Option Seq :=
 bnd (Xf7 p0.Cols) fun q1 =>
 bnd (Xf7 p0.Rows) fun q2 =>
 some (⟨p0.Level, p0.Bits, q1, q2⟩ : Seq)
def Xeo (p0 : Par) : Option Par :=
 some p0
def Xhu (p0 : Xmv) : Option Bool :=
 bnd (
 bnd (Xa9 p0.Qp 0 40) fun q2 =>
 sel q2 (
 sel p0.Large (
 some (!p0.Exact)) (
 some true)) (
 some false)) fun v1 =>
 some v1
def Xe7 (p0 : (List Int)) (p1 : Int) (p2 : Int) (v3 : Int) : Option (Lp Int (Ou Unit Bool)) :=
 sel (decide (v3 < p1)) (
 req (0 ≤ v3 ∧ v3 < p0.length) <|
 bnd (Xa9 (p0.getD v3.toNat 0) (Xah .i64 (0 - p2)) p2) fun q7 =>
 sel (!q7) (
 some (.done (.ret false))) (
 some (.go (Xah .i64 (v3 + 1))))) (
 some (.done (.out ())))
def Xgh (p0 : (List Int)) (p1 : Int) (p2 : Int) : Option Bool :=
 sel ((p0.length : Int) != p1) (
 some false) (
 bnd (loop (Xe7 p0 p1 p2) 0) fun o8 => match o8 with
| .out v6 => (
 some true)
| .ret r => some r)
def Xdn (p0 : Xas) : Option Bool :=
 sel (p0.Kind == 0) (
 bnd (
 sel (p0.Mode == 0) (
 sel (p0.Dx == 0) (
 sel (p0.Dy == 0) (
 some ((p0.Levels.length : Int) == 0)) (
 some false)) (
 some false)) (
 some false)) fun v1 =>
 some v1) (
 sel (p0.Kind == 1) (
 bnd (
 sel (p0.Mode == 0) (
 bnd (Xa9 p0.Dx (-16) 16) fun q3 =>
 sel q3 (
 bnd (Xa9 p0.Dy (-16) 16) fun q4 =>
 sel q4 (
 bnd (Xgh p0.Levels 64 5000) fun q5 =>
 some q5) (
 some false)) (
 some false)) (
 some false)) fun v2 =>
 some v2) (
 sel (p0.Kind == 2) (
 bnd (
 bnd (Xa9 p0.Mode 0 3) fun q7 =>
 sel q7 (
 sel (p0.Dx == 0) (
 sel (p0.Dy == 0) (
 bnd (Xgh p0.Levels 64 5000) fun q8 =>
 some q8) (
 some false)) (
 some false)) (
 some false)) fun v6 =>
 some v6) (
 some false)))
def Xey (p0 : (List Int)) (p1 : (List Int)) (v2 : Int) : Option (Lp Int (Ou Unit Bool)) :=
 sel (decide (v2 < (p0.length : Int))) (
 req (0 ≤ v2 ∧ v2 < p0.length) <|
 req (0 ≤ v2 ∧ v2 < p1.length) <|
 sel ((p0.getD v2.toNat 0) != (p1.getD v2.toNat 0)) (
 some (.done (.ret false))) (
 some (.go (Xah .i64 (v2 + 1))))) (
 some (.done (.out ())))
def Xf5 (p0 : (List Int)) (p1 : (List Int)) : Option Bool :=
 sel ((p0.length : Int) != (p1.length : Int)) (
 some false) (
 bnd (loop (Xey p0 p1) 0) fun o5 => match o5 with
| .out v4 => (
 some true)
| .ret r => some r)
def Xi7 (p0 : Seq) (p1 : Seq) : Option Bool :=
 sel (p0.Level != p1.Level) (
 some false) (
 sel (p0.Bits != p1.Bits) (
 some false) (
 bnd (Xf5 p0.Cols p1.Cols) fun q1 =>
 sel (!q1) (
 some false) (
 bnd (Xf5 p0.Rows p1.Rows) fun q2 =>
 sel (!q2) (
 some false) (
 some true))))
def Xi6 (p0 : Par) (p1 : Par) : Option Bool :=
 sel (p0.Qp != p1.Qp) (
 some false) (
 sel (!(p0.Large == p1.Large)) (
 some false) (
 sel (!(p0.Exact == p1.Exact)) (
 some false) (
 sel (!(p0.Confined == p1.Confined)) (
 some false) (
 some true))))
def Xc8 (p0 : (List ByteArray)) (p1 : (List ByteArray)) (v2 : Int) : Option (Lp Int (Ou Unit Bool)) :=
 sel (decide (v2 < (p0.length : Int))) (
 req (0 ≤ v2 ∧ v2 < p0.length) <|
 req (0 ≤ v2 ∧ v2 < p1.length) <|
 sel (!((p0.getD v2.toNat Xai).toList == (p1.getD v2.toNat Xai).toList)) (
 some (.done (.ret false))) (
 some (.go (Xah .i64 (v2 + 1))))) (
 some (.done (.out ())))
def Xez (p0 : (List ByteArray)) (p1 : (List ByteArray)) : Option Bool :=
 sel ((p0.length : Int) != (p1.length : Int)) (
 some false) (
 bnd (loop (Xc8 p0 p1) 0) fun o5 => match o5 with
| .out v4 => (
 some true)
| .ret r => some r)
def Xds (v2 : (Int × Int × (List Int))) : Option (Lp (Int × Int × (List Int)) (Int × (List Int))) :=
 sel (decide (v2.2.1 < (v2.2.2.length : Int))) (
 req (0 ≤ v2.2.1 ∧ v2.2.1 < v2.2.2.length) <|
 req (v2.2.1.toNat < v2.2.2.length) <|
 some (.go (Xah .i64 (v2.1 + 1), Xah .i64 (v2.2.1 + 1), (v2.2.2.set v2.2.1.toNat v2.1)))) (
 some (.done (v2.1, v2.2.2)))
def Xen (p0 : (List Int)) (p1 : Int) : Option (Int × (List Int)) :=
 bnd (loop (Xds) (p1, 0, p0)) fun v4 =>
 some (v4.1, v4.2)
def Xgu (p0 : Seq) (p1 : Int) : Option (Int × Seq) :=
 bnd (Xen p0.Cols p1) fun q1 =>
 bnd (Xen p0.Rows q1.1) fun q2 =>
 some (q2.1, (⟨p0.Level, p0.Bits, q1.2, q2.2⟩ : Seq))
def Xe8 (v2 : (Int × ByteArray)) : Option (Lp (Int × ByteArray) ByteArray) :=
 sel (decide (v2.1 > 0)) (
 req ((10 : Int) ≠ 0) <|
 req ((strOfNums ([Xah .u8 (Xah .i64 (48 + (v2.1.tmod 10)))])).size + v2.2.size ≤ 9223372036854775807) <|
 req ((10 : Int) ≠ 0) <|
 some (.go (Xah .i64 (v2.1.tdiv 10), ((strOfNums ([Xah .u8 (Xah .i64 (48 + (v2.1.tmod 10)))])) ++ v2.2)))) (
 some (.done v2.2))
def Xdj (p0 : Int) : Option ByteArray :=
 sel (decide (p0 ≤ 0)) (
 some ⟨#[109, 48]⟩) (
 bnd (loop (Xe8) (p0, ⟨#[]⟩)) fun v4 =>
 req ((⟨#[109]⟩ : ByteArray).size + v4.size ≤ 9223372036854775807) <|
 some ((⟨#[109]⟩ : ByteArray) ++ v4))
def Xcl (v3 : (Int × Int × (List ByteArray))) : Option (Lp (Int × Int × (List ByteArray)) (Int × (List ByteArray))) :=
 sel (decide (v3.2.1 < (v3.2.2.length : Int))) (
 bnd (Xdj v3.1) fun q7 =>
 req (0 ≤ v3.2.1 ∧ v3.2.1 < v3.2.2.length) <|
 req (v3.2.1.toNat < v3.2.2.length) <|
 some (.go (Xah .i64 (v3.1 + 1), Xah .i64 (v3.2.1 + 1), (v3.2.2.set v3.2.1.toNat q7)))) (
 some (.done (v3.1, v3.2.2)))
def Xdt (p0 : (List ByteArray)) (p1 : Int) : Option (Int × (List ByteArray)) :=
 bnd (loop (Xcl) (p1, 0, p0)) fun v6 =>
 some (v6.1, v6.2)
def Xdr (p0 : (List Int)) (v2 : (Int × Int)) : Option (Lp (Int × Int) (Ou Int Int)) :=
 sel (decide (v2.2 < (p0.length : Int))) (
 req (0 ≤ v2.2 ∧ v2.2 < p0.length) <|
 sel ((p0.getD v2.2.toNat 0) != v2.1) (
 some (.done (.ret (-1)))) (
 some (.go (Xah .i64 (v2.1 + 1), Xah .i64 (v2.2 + 1))))) (
 some (.done (.out v2.1)))
def Xem (p0 : (List Int)) (p1 : Int) : Option Int :=
 bnd (loop (Xdr p0) (p1, 0)) fun o5 => match o5 with
| .out v4 => (
 some v4)
| .ret r => some r
def Xgt (p0 : Seq) (p1 : Int) : Option Int :=
 bnd (Xem p0.Cols p1) fun q1 =>
 sel (decide (q1 < 0)) (
 some (-1)) (
 bnd (Xem p0.Rows q1) fun q2 =>
 sel (decide (q2 < 0)) (
 some (-1)) (
 some q2))
def Xgv (p0 : Admit) (p1 : Int) : Option Int :=
 bnd (Xjc p0.Seq p1) fun q1 =>
 sel (decide (q1 < 0)) (
 some (-1)) (
 some q1)
def Xb1 (p0 : (List ByteArray)) (v2 : (Int × Int)) : Option (Lp (Int × Int) (Ou Int Int)) :=
 sel (decide (v2.2 < (p0.length : Int))) (
 req (0 ≤ v2.2 ∧ v2.2 < p0.length) <|
 sel (decide ((Xah .i64 (v2.1 - ((p0.getD v2.2.toNat Xai).size : Int))) < 0)) (
 some (.done (.ret (-1)))) (
 some (.go (Xah .i64 (v2.1 - ((p0.getD v2.2.toNat Xai).size : Int)), Xah .i64 (v2.2 + 1))))) (
 some (.done (.out v2.1)))
def Xe0 (p0 : (List ByteArray)) (p1 : Int) : Option Int :=
 sel (decide ((Xah .i64 (p1 - (p0.length : Int))) < 0)) (
 some (-1)) (
 bnd (loop (Xb1 p0) (Xah .i64 (p1 - (p0.length : Int)), 0)) fun o5 => match o5 with
| .out v4 => (
 some v4)
| .ret r => some r)
def Xd7 (p0 : Admit) : Option Admit :=
 bnd (Xhk p0.Seq) fun q1 =>
 bnd (Xeo p0.Par) fun q2 =>
 some (⟨p0.Has, p0.Live, q1, q2, p0.Frame, p0.Count, p0.Gone⟩ : Admit)
def Xc9 (p0 : (List ByteArray)) (v2 : (Int × (List ByteArray))) : Option (Lp (Int × (List ByteArray)) (List ByteArray)) :=
 sel (decide (v2.1 < (p0.length : Int))) (
 req (0 ≤ v2.1 ∧ v2.1 < p0.length) <|
 req (0 ≤ v2.1 ∧ v2.1 < v2.2.length) <|
 req (v2.1.toNat < v2.2.length) <|
 some (.go (Xah .i64 (v2.1 + 1), (v2.2.set v2.1.toNat (p0.getD v2.1.toNat Xai))))) (
 some (.done v2.2))
def Xc5 (p0 : (List ByteArray)) : Option (List ByteArray) :=
 req (0 ≤ (p0.length : Int) ∧ (p0.length : Int) ≤ (p0.length : Int) ∧ (p0.length : Int) * 16 ≤ 281474976710656) <|
 bnd (loop (Xc9 p0) (0, (List.replicate (p0.length : Int).toNat Xai))) fun v4 =>
 some v4
def Xet (p0 : Int) : Option Bool :=
 bnd (Xa9 p0 0 1000000000) fun q1 =>
 some q1
def Xfh (p0 : Admit) : Option Bool :=
 bnd (
 bnd (Xet p0.Count) fun q2 =>
 sel q2 (
 bnd (Xet p0.Gone) fun q3 =>
 some (!q3)) (
 some true)) fun v1 =>
 sel v1 (
 some false) (
 sel (!p0.Has) (
 bnd (
 sel p0.Live (
 some false) (
 sel (p0.Seq.Level == 0) (
 sel (p0.Seq.Bits == 0) (
 sel ((p0.Seq.Cols.length : Int) == 0) (
 sel ((p0.Seq.Rows.length : Int) == 0) (
 sel (((p0.Par.Qp == 0) && ((p0.Par.Large == false) && ((p0.Par.Exact == false) && (p0.Par.Confined == false)))) == true) (
 some (p0.Frame == 0)) (
 some false)) (
 some false)) (
 some false)) (
 some false)) (
 some false))) fun v4 =>
 some v4) (
 bnd (
 bnd (Xc2 p0.Seq) fun q6 =>
 sel (q6 == 1) (
 bnd (Xd0 p0.Par) fun q7 =>
 sel q7 (
 sel (decide (p0.Frame ≥ 0)) (
 req (0 ≤ (Xah .u64 (p0.Seq.Bits))) <|
 some (decide (p0.Frame < (Xah .i64 (1 * 2 ^ min (Xah .u64 (p0.Seq.Bits)).toNat (IntKind.bits .i64)))))) (
 some false)) (
 some false)) (
 some false)) fun v5 =>
 some v5))
def Xcv (p0 : ByteArray) (v4 : (Int × (List Int))) : Option (Lp (Int × (List Int)) (List Int)) :=
 sel (decide (v4.1 < (p0.size : Int))) (
 req (0 ≤ v4.1 ∧ v4.1 < p0.size) <|
 bnd (Xhx (Xah .i64 ((Xhd p0 v4.1))) 8) fun q8 =>
 req ((v4.2.length + (Xde q8).length) * 1 ≤ 140737488355328 ∧ v4.2.length + (Xde q8).length ≤ maxLen) <|
 some (.go (Xah .i64 (v4.1 + 1), (v4.2 ++ (Xde q8))))) (
 some (.done v4.2))
def Xcw (v7 : (List Int)) (v12 : Int) : Option (Lp Int Int) :=
 bnd (
 sel (decide (v12 > 0)) (
 req (0 ≤ (Xah .i64 (v12 - 1)) ∧ (Xah .i64 (v12 - 1)) < v7.length) <|
 req ((Xah .i64 (v12 - 1)).toNat < v7.length) <|
 some ((v7.getD ((Xah .i64 (v12 - 1)).toNat) 0) == 48)) (
 some false)) fun v16 =>
 sel v16 (
 some (.go (Xah .i64 (v12 - 1)))) (
 some (.done v12))
def Xep (p0 : ByteArray) : Option (ByteArray × Bool) :=
 bnd (
 sel ((p0.size : Int) == 0) (
 some true) (
 sel (decide ((p0.size : Int) > 50001)) (
 some true) (
 req (0 ≤ (Xah .i64 ((p0.size : Int) - 1)) ∧ (Xah .i64 ((p0.size : Int) - 1)) < p0.size) <|
 some ((Xhd p0 (Xah .i64 ((p0.size : Int) - 1))) == 0)))) fun v1 =>
 sel v1 (
 some (⟨#[]⟩, false)) (
 bnd (loop (Xcv p0) (0, ([] : List Int))) fun v7 =>
 bnd (loop (Xcw v7) (v7.length : Int)) fun v15 =>
 sel (decide ((Xah .i64 (v15 - 1)) > 400000)) (
 some (⟨#[]⟩, false)) (
 req (0 ≤ (0 : Int) ∧ (0 : Int) ≤ (Xah .i64 (v15 - 1)) ∧ (Xah .i64 (v15 - 1)) ≤ (v7.length : Int)) <|
 req ((0 : Int).toNat + ((Xah .i64 (v15 - 1)).toNat - (0 : Int).toNat) ≤ v7.length) <|
 some ((strOfNums ((v7.drop ((0 : Int).toNat)).take ((Xah .i64 (v15 - 1)).toNat - (0 : Int).toNat))), true)))
def Xdo (p0 : ByteArray) : Option (Int × ByteArray × Bool) :=
 bnd (
 sel (decide ((p0.size : Int) < 1)) (
 some true) (
 req (0 ≤ (0 : Int) ∧ (0 : Int) < p0.size) <|
 bnd (Xgz (Xah .i64 ((Xhd p0 (0 : Int))))) fun q2 =>
 some (!q2))) fun v1 =>
 sel v1 (
 some (0, ⟨#[]⟩, false)) (
 req (0 ≤ (1 : Int) ∧ (1 : Int) ≤ (p0.size : Int) ∧ (p0.size : Int) ≤ (p0.size : Int)) <|
 bnd (Xep (p0.extract (1 : Int).toNat (p0.size : Int).toNat)) fun q3 =>
 sel (!q3.2) (
 some (0, ⟨#[]⟩, false)) (
 req (0 ≤ (0 : Int) ∧ (0 : Int) < p0.size) <|
 some (Xah .i64 ((Xhd p0 (0 : Int))), q3.1, true)))
def Xbe (p0 : (List ByteArray)) (v1 : (List Int)) (v5 : (Int × (List ByteArray))) : Option (Lp (Int × (List ByteArray)) (Ou (List ByteArray) ((List ByteArray) × Bool))) :=
 sel (decide (v5.1 < (p0.length : Int))) (
 req (0 ≤ v5.1 ∧ v5.1 < p0.length) <|
 bnd (Xdo (p0.getD v5.1.toNat Xai)) fun q10 =>
 bnd (
 sel q10.2.2 (
 req (0 ≤ v5.1 ∧ v5.1 < v1.length) <|
 req (v5.1.toNat < v1.length) <|
 some (q10.1 != (v1.getD v5.1.toNat 0))) (
 some true)) fun v11 =>
 sel v11 (
 some (.done (.ret (([] : List ByteArray), false)))) (
 req ((v5.2.length + ([q10.2.1]).length) * 16 ≤ 140737488355328 ∧ v5.2.length + ([q10.2.1]).length ≤ maxLen) <|
 some (.go (Xah .i64 (v5.1 + 1), (v5.2 ++ ([q10.2.1])))))) (
 some (.done (.out v5.2)))
def Xbo (p0 : (List ByteArray)) : Option ((List ByteArray) × Bool) :=
 bnd (
 sel ((p0.length : Int) == 1) (
 some ([1])) (
 some ([7, 8, 5]))) fun v1 =>
 sel ((p0.length : Int) != (v1.length : Int)) (
 some (([] : List ByteArray), false)) (
 bnd (loop (Xbe p0 v1) (0, ([] : List ByteArray))) fun o12 => match o12 with
| .out v9 => (
 some (v9, true))
| .ret r => some r)
def Xef (p0 : Int) : Option Int :=
 bnd (Xgy (Xah .i64 (p0 + 1)) 0 1000000000) fun q1 =>
 some q1
def Xb8 (p0 : Admit) : Option Admit :=
 bnd (Xef p0.Gone) fun q1 =>
 some (⟨p0.Has, false, p0.Seq, p0.Par, p0.Frame, p0.Count, q1⟩ : Admit)
def Xed (p0 : ByteArray) (p1 : Int) (p2 : Int) (v2 : (Int × Int)) : Option (Lp (Int × Int) Int) :=
 sel (decide (v2.2 < (Xah .i64 (p1 + p2)))) (
 req (0 ≤ v2.2 ∧ v2.2 < p0.size) <|
 some (.go (Xah .i64 ((Xah .i64 ((Xah .i64 (2 * v2.1)) + (Xah .i64 ((Xhd p0 v2.2))))) - 48), Xah .i64 (v2.2 + 1)))) (
 some (.done v2.1))
def Xbn (p0 : ByteArray) (p1 : Int) (p2 : Int) : Option (Int × Int × Bool) :=
 sel (decide (p2 > (Xah .i64 ((p0.size : Int) - p1)))) (
 some (0, 0, false)) (
 bnd (loop (Xed p0 p1 p2) (0, p1)) fun v4 =>
 some (v4, Xah .i64 (p1 + p2), true))
def Xcj (p0 : ByteArray) (p1 : Int) (v3 : Int) : Option (Lp Int Int) :=
 bnd (
 sel (decide ((Xah .i64 (p1 + v3)) < (p0.size : Int))) (
 req (0 ≤ (Xah .i64 (p1 + v3)) ∧ (Xah .i64 (p1 + v3)) < p0.size) <|
 sel ((Xhd p0 (Xah .i64 (p1 + v3))) == 48) (
 some (decide (v3 < 21))) (
 some false)) (
 some false)) fun v7 =>
 sel v7 (
 some (.go (Xah .i64 (v3 + 1)))) (
 some (.done v3))
def Xay (p0 : ByteArray) (p1 : Int) : Option (Int × Int × Bool) :=
 bnd (loop (Xcj p0 p1) 0) fun v6 =>
 bnd (Xbn p0 (Xah .i64 (p1 + v6)) (Xah .i64 (v6 + 1))) fun q9 =>
 bnd (
 sel q9.2.2 (
 req (0 ≤ (Xah .u64 (v6))) <|
 sel (decide (q9.1 < (Xah .i64 (1 * 2 ^ min (Xah .u64 (v6)).toNat (IntKind.bits .i64))))) (
 some true) (
 some (decide ((Xah .i64 (q9.1 - 1)) > 1000000)))) (
 some true)) fun v10 =>
 sel v10 (
 some (0, 0, false)) (
 some (Xah .i64 (q9.1 - 1), q9.2.1, true))
def Xa5 (p0 : ByteArray) (q1 : (Int × Int × Bool)) (v5 : (Int × Int × (List Int))) : Option (Lp (Int × Int × (List Int)) (Ou (Int × (List Int)) ((List Int) × Int × Bool))) :=
 sel (decide (v5.2.1 < q1.1)) (
 bnd (Xay p0 v5.1) fun q9 =>
 sel (!q9.2.2) (
 some (.done (.ret (([] : List Int), 0, false)))) (
 req ((v5.2.2.length + ([q9.1]).length) * 8 ≤ 140737488355328 ∧ v5.2.2.length + ([q9.1]).length ≤ maxLen) <|
 some (.go (q9.2.1, Xah .i64 (v5.2.1 + 1), (v5.2.2 ++ ([q9.1])))))) (
 some (.done (.out (v5.1, v5.2.2))))
def Xce (p0 : ByteArray) (p1 : Int) : Option ((List Int) × Int × Bool) :=
 bnd (Xay p0 p1) fun q1 =>
 bnd (
 sel q1.2.2 (
 some (decide (q1.1 > 4))) (
 some true)) fun v2 =>
 sel v2 (
 some (([] : List Int), 0, false)) (
 bnd (loop (Xa5 p0 q1) (q1.2.1, 0, ([] : List Int))) fun o10 => match o10 with
| .out v8 => (
 some (v8.2, v8.1, true))
| .ret r => some r)
def Xco (p0 : ByteArray) (p1 : Int) : Option (Seq × Int × Bool) :=
 bnd (Xay p0 p1) fun q1 =>
 sel (!q1.2.2) (
 some ((⟨0, 0, [], []⟩ : Seq), 0, false)) (
 bnd (Xbn p0 q1.2.1 4) fun q2 =>
 sel (!q2.2.2) (
 some ((⟨0, 0, [], []⟩ : Seq), 0, false)) (
 bnd (Xce p0 q2.2.1) fun q3 =>
 sel (!q3.2.2) (
 some ((⟨0, 0, [], []⟩ : Seq), 0, false)) (
 bnd (Xce p0 q3.2.1) fun q4 =>
 bnd (
 sel q4.2.2 (
 bnd (Xge (⟨q1.1, q2.1, q3.1, q4.1⟩ : Seq)) fun q6 =>
 some (!q6)) (
 some true)) fun v5 =>
 sel v5 (
 some ((⟨0, 0, [], []⟩ : Seq), 0, false)) (
 some ((⟨q1.1, q2.1, q3.1, q4.1⟩ : Seq), q4.2.1, true)))))
def Xcn (p0 : ByteArray) (p1 : Int) : Option (Par × Int × Bool) :=
 bnd (Xbn p0 p1 6) fun q1 =>
 bnd (
 sel q1.2.2 (
 some (decide ((Xah .i64 ((p0.size : Int) - q1.2.1)) < 3))) (
 some true)) fun v2 =>
 sel v2 (
 some ((⟨0, false, false, false⟩ : Par), 0, false)) (
 req (0 ≤ q1.2.1 ∧ q1.2.1 < p0.size) <|
 req (0 ≤ (Xah .i64 (q1.2.1 + 1)) ∧ (Xah .i64 (q1.2.1 + 1)) < p0.size) <|
 req (0 ≤ (Xah .i64 (q1.2.1 + 2)) ∧ (Xah .i64 (q1.2.1 + 2)) < p0.size) <|
 bnd (Xd0 (⟨q1.1, ((Xhd p0 q1.2.1) == 49), ((Xhd p0 (Xah .i64 (q1.2.1 + 1))) == 49), ((Xhd p0 (Xah .i64 (q1.2.1 + 2))) == 49)⟩ : Par)) fun q3 =>
 sel (!q3) (
 some ((⟨0, false, false, false⟩ : Par), 0, false)) (
 some ((⟨q1.1, ((Xhd p0 q1.2.1) == 49), ((Xhd p0 (Xah .i64 (q1.2.1 + 1))) == 49), ((Xhd p0 (Xah .i64 (q1.2.1 + 2))) == 49)⟩ : Par), Xah .i64 (q1.2.1 + 3), true)))
def Xhw (p0 : Int) : Option (Int × Bool) :=
 bnd (Xa9 p0 0 1000000) fun q1 =>
 sel (!q1) (
 some (0, false)) (
 req ((2 : Int) ≠ 0) <|
 sel ((p0.tmod 2) == 1) (
 req ((2 : Int) ≠ 0) <|
 some (Xah .i64 ((Xah .i64 (p0 + 1)).tdiv 2), true)) (
 req ((2 : Int) ≠ 0) <|
 some (Xah .i64 (0 - (Xah .i64 (p0.tdiv 2))), true)))
def Xbj (p0 : ByteArray) (p1 : Int) : Option (Int × Int × Bool) :=
 bnd (Xay p0 p1) fun q1 =>
 sel (!q1.2.2) (
 some (0, 0, false)) (
 bnd (Xhw q1.1) fun q2 =>
 some (q2.1, q1.2.1, true))
def Xdm (p0 : Seq) (p1 : Par) (p2 : ByteArray) : Option (Xjk × Int × Bool) :=
 bnd (
 bnd (Xer p2) fun q2 =>
 sel q2 (
 bnd (Xge p0) fun q3 =>
 sel q3 (
 bnd (Xd0 p1) fun q4 =>
 some (!q4)) (
 some true)) (
 some true)) fun v1 =>
 sel v1 (
 some ((⟨0, 0, 0⟩ : Xjk), 0, false)) (
 bnd (Xay p2 0) fun q5 =>
 sel (!q5.2.2) (
 some ((⟨0, 0, 0⟩ : Xjk), 0, false)) (
 bnd (Xbn p2 q5.2.1 p0.Bits) fun q6 =>
 sel (!q6.2.2) (
 some ((⟨0, 0, 0⟩ : Xjk), 0, false)) (
 bnd (Xbj p2 q6.2.1) fun q7 =>
 bnd (
 sel q7.2.2 (
 bnd (Xhv p0 p1 (⟨q5.1, q6.1, Xah .i64 (p1.Qp + q7.1)⟩ : Xjk)) fun q9 =>
 some (!q9)) (
 some true)) fun v8 =>
 sel v8 (
 some ((⟨0, 0, 0⟩ : Xjk), 0, false)) (
 some ((⟨q5.1, q6.1, Xah .i64 (p1.Qp + q7.1)⟩ : Xjk), q7.2.1, true)))))
def Xib (p0 : Par) (p1 : Xhz) : Option Xmv :=
 some (⟨p1.Key, p1.Qp, p0.Large, p0.Exact⟩ : Xmv)
def Xbr (p0 : ByteArray) (p2 : Int) (q1 : (Int × Int × Bool)) (v9 : (Int × Int × Int × (List Int))) : Option (Lp (Int × Int × Int × (List Int)) (Ou (Int × (List Int)) ((List Int) × Int × Bool))) :=
 sel (decide (v9.2.2.1 < q1.1)) (
 bnd (Xay p0 v9.1) fun q17 =>
 bnd (
 sel q17.2.2 (
 some (decide (q17.1 > (Xah .i64 ((Xah .i64 (p2 - 1)) - v9.2.1))))) (
 some true)) fun v18 =>
 sel v18 (
 some (.done (.ret (([] : List Int), 0, false)))) (
 bnd (Xbj p0 q17.2.1) fun q19 =>
 bnd (
 sel q19.2.2 (
 sel (q19.1 == 0) (
 some true) (
 bnd (Xa9 q19.1 (-5000) 5000) fun q21 =>
 some (!q21))) (
 some true)) fun v20 =>
 sel v20 (
 some (.done (.ret (([] : List Int), 0, false)))) (
 req (0 ≤ (Xah .i64 (v9.2.1 + q17.1)) ∧ (Xah .i64 (v9.2.1 + q17.1)) < v9.2.2.2.length) <|
 req ((Xah .i64 (v9.2.1 + q17.1)).toNat < v9.2.2.2.length) <|
 some (.go (q19.2.1, Xah .i64 ((Xah .i64 (v9.2.1 + q17.1)) + 1), Xah .i64 (v9.2.2.1 + 1), (v9.2.2.2.set ((Xah .i64 (v9.2.1 + q17.1)).toNat) q19.1)))))) (
 some (.done (.out (v9.1, v9.2.2.2))))
def Xee (p0 : ByteArray) (p1 : Int) (p2 : Int) : Option ((List Int) × Int × Bool) :=
 req (0 ≤ p2 ∧ p2 ≤ p2 ∧ p2 * 8 ≤ 281474976710656) <|
 bnd (Xay p0 p1) fun q1 =>
 bnd (
 sel q1.2.2 (
 some (decide (q1.1 > p2))) (
 some true)) fun v2 =>
 sel v2 (
 some (([] : List Int), 0, false)) (
 bnd (loop (Xbr p0 p2 q1) (q1.2.1, 0, 0, (List.replicate p2.toNat (0 : Int)))) fun o22 => match o22 with
| .out v16 => (
 some (v16.2, v16.1, true))
| .ret r => some r)
def Xb7 (p0 : ByteArray) (v5 : (Int × Int × (List Int))) : Option (Lp (Int × Int × (List Int)) (Ou (Int × (List Int)) ((List Int) × Int × Bool))) :=
 sel (decide (v5.2.1 < 4)) (
 bnd (Xee p0 v5.1 16) fun q9 =>
 sel (!q9.2.2) (
 some (.done (.ret (([] : List Int), 0, false)))) (
 req ((v5.2.2.length + q9.1.length) * 8 ≤ 140737488355328 ∧ v5.2.2.length + q9.1.length ≤ maxLen) <|
 some (.go (q9.2.1, Xah .i64 (v5.2.1 + 1), (v5.2.2 ++ q9.1))))) (
 some (.done (.out (v5.1, v5.2.2))))
def Xdf (p0 : ByteArray) (p1 : Int) (p2 : Xmv) : Option ((List Int) × Int × Bool) :=
 bnd (
 sel p2.Large (
 some true) (
 some p2.Exact)) fun v1 =>
 sel v1 (
 bnd (Xee p0 p1 64) fun q2 =>
 some (q2.1, q2.2.1, q2.2.2)) (
 bnd (loop (Xb7 p0) (p1, 0, ([] : List Int))) fun o10 => match o10 with
| .out v8 => (
 some (v8.2, v8.1, true))
| .ret r => some r)
def Xfi (p0 : ByteArray) (p1 : Int) (p2 : Xmv) : Option (Xas × Int × Bool) :=
 Xta (fun (v1 : (Int × Int)) =>
 Xta (fun (v4 : (Int × Bool × Int × Int × Int)) =>
 sel (!v4.2.1) (
 some ((⟨0, 0, 0, 0, []⟩ : Xas), 0, false)) (
 bnd (Xdf p0 v4.1 p2) fun q8 =>
 bnd (
 sel q8.2.2 (
 bnd (Xdn (⟨v1.2, v4.2.2.1, v4.2.2.2.1, v4.2.2.2.2, q8.1⟩ : Xas)) fun q10 =>
 some (!q10)) (
 some true)) fun v9 =>
 sel v9 (
 some ((⟨0, 0, 0, 0, []⟩ : Xas), 0, false)) (
 some ((⟨v1.2, v4.2.2.1, v4.2.2.2.1, v4.2.2.2.2, q8.1⟩ : Xas), q8.2.1, true)))) fun j2 =>
 sel (v1.2 == 0) (
 some ((⟨v1.2, 0, 0, 0, []⟩ : Xas), v1.1, true)) (
 sel (v1.2 == 1) (
 bnd (Xbj p0 v1.1) fun q5 =>
 sel (!q5.2.2) (
 some ((⟨0, 0, 0, 0, []⟩ : Xas), 0, false)) (
 bnd (Xbj p0 q5.2.1) fun q6 =>
 j2 (q6.2.1, q6.2.2, 0, q5.1, q6.1))) (
 bnd (Xay p0 v1.1) fun q7 =>
 j2 (q7.2.1, q7.2.2, q7.1, 0, 0)))) fun j1 =>
 sel (!p2.Key) (
 bnd (Xay p0 p1) fun q2 =>
 bnd (
 sel q2.2.2 (
 some (decide (q2.1 > 2))) (
 some true)) fun v3 =>
 sel v3 (
 some ((⟨0, 0, 0, 0, []⟩ : Xas), 0, false)) (
 j1 (q2.2.1, q2.1))) (
 j1 (p1, 2))
def Xbi (p0 : ByteArray) (p2 : Int) (p3 : Xmv) (v8 : (Int × Int × (List Xas))) : Option (Lp (Int × Int × (List Xas)) (Ou (Int × (List Xas)) ((List Xas) × Bool))) :=
 sel (decide (v8.2.1 < p2)) (
 bnd (Xfi p0 v8.1 p3) fun q12 =>
 sel (!q12.2.2) (
 some (.done (.ret (([] : List Xas), false)))) (
 req ((v8.2.2.length + ([q12.1]).length) * 56 ≤ 140737488355328 ∧ v8.2.2.length + ([q12.1]).length ≤ maxLen) <|
 some (.go (q12.2.1, Xah .i64 (v8.2.1 + 1), (v8.2.2 ++ ([q12.1])))))) (
 some (.done (.out (v8.1, v8.2.2))))
def Xfw (p0 : ByteArray) (p1 : Int) (p2 : Int) (p3 : Xmv) : Option ((List Xas) × Bool) :=
 bnd (
 bnd (Xer p0) fun q2 =>
 sel q2 (
 bnd (Xa9 p1 0 (p0.size : Int)) fun q3 =>
 sel q3 (
 bnd (Xhu p3) fun q4 =>
 sel q4 (
 bnd (Xa9 p2 1 64) fun q5 =>
 some (!q5)) (
 some true)) (
 some true)) (
 some true)) fun v1 =>
 sel v1 (
 some (([] : List Xas), false)) (
 bnd (loop (Xbi p0 p2 p3) (p1, 0, ([] : List Xas))) fun o13 => match o13 with
| .out v11 => (
 sel (v11.1 != (p0.size : Int)) (
 some (([] : List Xas), false)) (
 some (v11.2, true)))
| .ret r => some r)
def Xgd (p0 : Par) (p1 : Xhz) (p2 : Int) : Option Bool :=
 bnd (Xib p0 p1) fun q1 =>
 bnd (Xfw p1.Row 0 p2 q1) fun q2 =>
 bnd (
 bnd (Xd0 p0) fun q4 =>
 sel q4 (
 some q2.2) (
 some false)) fun v3 =>
 some v3
def Xd1 (p0 : Seq) : Option Seq :=
 req ((([] : List Int).length + p0.Cols.length) * 8 ≤ 140737488355328 ∧ ([] : List Int).length + p0.Cols.length ≤ maxLen) <|
 req ((([] : List Int).length + p0.Rows.length) * 8 ≤ 140737488355328 ∧ ([] : List Int).length + p0.Rows.length ≤ maxLen) <|
 some (⟨p0.Level, p0.Bits, (([] : List Int) ++ p0.Cols), (([] : List Int) ++ p0.Rows)⟩ : Seq)
def Xbh (p0 : Admit) (p1 : (List ByteArray)) (p2 : Par) : Option (Admit × Int × Xhz) :=
 bnd (Xd1 p0.Seq) fun q1 =>
 bnd (
 bnd (Xfh (⟨p0.Has, p0.Live, q1, p0.Par, p0.Frame, p0.Count, p0.Gone⟩ : Admit)) fun q3 =>
 sel q3 (
 bnd (Xd0 p2) fun q4 =>
 some (!q4)) (
 some true)) fun v2 =>
 sel v2 (
 some ((⟨p0.Has, p0.Live, q1, p0.Par, p0.Frame, p0.Count, p0.Gone⟩ : Admit), 1, (⟨false, 0, ⟨#[]⟩⟩ : Xhz))) (
 bnd (Xbo p1) fun q5 =>
 sel (!q5.2) (
 bnd (Xb8 (⟨p0.Has, p0.Live, q1, p0.Par, p0.Frame, p0.Count, p0.Gone⟩ : Admit)) fun q6 =>
 some (q6, 2, (⟨false, 0, ⟨#[]⟩⟩ : Xhz))) (
 Xta (fun (v7 : (Bool × Int × Int × (List Int) × (List Int) × Int × Bool × Bool × Bool)) =>
 sel (!v7.1) (
 bnd (Xb8 (⟨p0.Has, p0.Live, q1, p0.Par, p0.Frame, p0.Count, p0.Gone⟩ : Admit)) fun q13 =>
 some (q13, 4, (⟨false, 0, ⟨#[]⟩⟩ : Xhz))) (
 req (0 ≤ (Xah .i64 ((q5.1.length : Int) - 1)) ∧ (Xah .i64 ((q5.1.length : Int) - 1)) < q5.1.length) <|
 req ((Xah .i64 ((q5.1.length : Int) - 1)).toNat < q5.1.length) <|
 bnd (Xdm (⟨v7.2.1, v7.2.2.1, v7.2.2.2.1, v7.2.2.2.2.1⟩ : Seq) (⟨v7.2.2.2.2.2.1, v7.2.2.2.2.2.2.1, v7.2.2.2.2.2.2.2.1, v7.2.2.2.2.2.2.2.2⟩ : Par) (q5.1.getD ((Xah .i64 ((q5.1.length : Int) - 1)).toNat) Xai)) fun q14 =>
 sel (!q14.2.2) (
 bnd (Xb8 (⟨p0.Has, p0.Live, q1, p0.Par, p0.Frame, p0.Count, p0.Gone⟩ : Admit)) fun q15 =>
 some (q15, 5, (⟨false, 0, ⟨#[]⟩⟩ : Xhz))) (
 bnd (
 sel ((q5.1.length : Int) == 3) (
 some false) (
 some (!p0.Live))) fun v16 =>
 sel v16 (
 bnd (Xb8 (⟨p0.Has, p0.Live, q1, p0.Par, p0.Frame, p0.Count, p0.Gone⟩ : Admit)) fun q17 =>
 some (q17, 6, (⟨false, 0, ⟨#[]⟩⟩ : Xhz))) (
 bnd (
 sel ((q5.1.length : Int) == 3) (
 some false) (
 some (q14.1.Frame != p0.Frame))) fun v18 =>
 sel v18 (
 bnd (Xb8 (⟨p0.Has, p0.Live, q1, p0.Par, p0.Frame, p0.Count, p0.Gone⟩ : Admit)) fun q19 =>
 some (q19, 7, (⟨false, 0, ⟨#[]⟩⟩ : Xhz))) (
 req (0 ≤ q14.2.1 ∧ q14.2.1 ≤ ((q5.1.getD ((Xah .i64 ((q5.1.length : Int) - 1)).toNat) Xai).size : Int) ∧ ((q5.1.getD ((Xah .i64 ((q5.1.length : Int) - 1)).toNat) Xai).size : Int) ≤ ((q5.1.getD ((Xah .i64 ((q5.1.length : Int) - 1)).toNat) Xai).size : Int)) <|
 bnd (Xcd (⟨v7.2.1, v7.2.2.1, v7.2.2.2.1, v7.2.2.2.2.1⟩ : Seq) 0) fun q20 =>
 bnd (Xgd (⟨v7.2.2.2.2.2.1, v7.2.2.2.2.2.2.1, v7.2.2.2.2.2.2.2.1, v7.2.2.2.2.2.2.2.2⟩ : Par) (⟨((q5.1.length : Int) == 3), q14.1.Qp, ((q5.1.getD ((Xah .i64 ((q5.1.length : Int) - 1)).toNat) Xai).extract q14.2.1.toNat ((q5.1.getD ((Xah .i64 ((q5.1.length : Int) - 1)).toNat) Xai).size : Int).toNat)⟩ : Xhz) q20) fun q21 =>
 sel (!q21) (
 bnd (Xb8 (⟨p0.Has, p0.Live, q1, p0.Par, p0.Frame, p0.Count, p0.Gone⟩ : Admit)) fun q22 =>
 some (q22, 8, (⟨false, 0, ⟨#[]⟩⟩ : Xhz))) (
 req (0 ≤ (Xah .u64 (v7.2.2.1))) <|
 req ((Xah .i64 (1 * 2 ^ min (Xah .u64 (v7.2.2.1)).toNat (IntKind.bits .i64))) ≠ 0) <|
 bnd (Xef p0.Count) fun q23 =>
 some ((⟨v7.1, true, (⟨v7.2.1, v7.2.2.1, v7.2.2.2.1, v7.2.2.2.2.1⟩ : Seq), (⟨v7.2.2.2.2.2.1, v7.2.2.2.2.2.2.1, v7.2.2.2.2.2.2.2.1, v7.2.2.2.2.2.2.2.2⟩ : Par), ((Xah .i64 (q14.1.Frame + 1)).tmod (Xah .i64 (1 * 2 ^ min (Xah .u64 (v7.2.2.1)).toNat (IntKind.bits .i64)))), q23, p0.Gone⟩ : Admit), 0, (⟨((q5.1.length : Int) == 3), q14.1.Qp, ((q5.1.getD ((Xah .i64 ((q5.1.length : Int) - 1)).toNat) Xai).extract q14.2.1.toNat ((q5.1.getD ((Xah .i64 ((q5.1.length : Int) - 1)).toNat) Xai).size : Int).toNat)⟩ : Xhz)))))))) fun j1 =>
 sel ((q5.1.length : Int) == 3) (
 req (0 ≤ (0 : Int) ∧ (0 : Int) < q5.1.length) <|
 req ((0 : Int).toNat < q5.1.length) <|
 bnd (Xco (q5.1.getD ((0 : Int).toNat) Xai) 0) fun q8 =>
 req (0 ≤ (1 : Int) ∧ (1 : Int) < q5.1.length) <|
 req ((1 : Int).toNat < q5.1.length) <|
 bnd (Xcn (q5.1.getD ((1 : Int).toNat) Xai) 0) fun q9 =>
 bnd (
 sel q8.2.2 (
 req (0 ≤ (0 : Int) ∧ (0 : Int) < q5.1.length) <|
 req ((0 : Int).toNat < q5.1.length) <|
 sel (q8.2.1 != ((q5.1.getD ((0 : Int).toNat) Xai).size : Int)) (
 some true) (
 sel q9.2.2 (
 req (0 ≤ (1 : Int) ∧ (1 : Int) < q5.1.length) <|
 req ((1 : Int).toNat < q5.1.length) <|
 sel (q9.2.1 != ((q5.1.getD ((1 : Int).toNat) Xai).size : Int)) (
 some true) (
 bnd (Xc2 q8.1) fun q11 =>
 sel (q11 != 1) (
 some true) (
 sel q9.1.Confined (
 sel (q9.1.Large == p2.Large) (
 some (!(q9.1.Exact == p2.Exact))) (
 some true)) (
 some true)))) (
 some true))) (
 some true)) fun v10 =>
 sel v10 (
 bnd (Xb8 (⟨p0.Has, p0.Live, q1, p0.Par, p0.Frame, p0.Count, p0.Gone⟩ : Admit)) fun q12 =>
 some (q12, 3, (⟨false, 0, ⟨#[]⟩⟩ : Xhz))) (
 j1 (true, q8.1.Level, q8.1.Bits, q8.1.Cols, q8.1.Rows, q9.1.Qp, q9.1.Large, q9.1.Exact, q9.1.Confined))) (
 j1 (p0.Has, q1.Level, q1.Bits, q1.Cols, q1.Rows, p0.Par.Qp, p0.Par.Large, p0.Par.Exact, p0.Par.Confined))))
def Xdd (p0 : Admit) (p1 : Admit) : Option Bool :=
 sel (!(p0.Has == p1.Has)) (
 some false) (
 sel (!(p0.Live == p1.Live)) (
 some false) (
 bnd (Xi7 p0.Seq p1.Seq) fun q1 =>
 sel (!q1) (
 some false) (
 bnd (Xi6 p0.Par p1.Par) fun q2 =>
 sel (!q2) (
 some false) (
 sel (p0.Frame != p1.Frame) (
 some false) (
 sel (p0.Count != p1.Count) (
 some false) (
 sel (p0.Gone != p1.Gone) (
 some false) (
 some true)))))))
def Xfa (p0 : Xhz) (p1 : Xhz) : Option Bool :=
 sel (!(p0.Key == p1.Key)) (
 some false) (
 sel (p0.Qp != p1.Qp) (
 some false) (
 sel (!(p0.Row.toList == p1.Row.toList)) (
 some false) (
 some true)))
def Xdz (p0 : Admit) (p1 : Int) : Option (Int × Admit) :=
 bnd (Xgu p0.Seq p1) fun q1 =>
 some (q1.1, (⟨p0.Has, p0.Live, (⟨p0.Seq.Level, p0.Seq.Bits, q1.2.Cols, q1.2.Rows⟩ : Seq), p0.Par, p0.Frame, p0.Count, p0.Gone⟩ : Admit))
def Xdy (p0 : Admit) (p1 : Int) : Option Int :=
 bnd (Xgt p0.Seq p1) fun q1 =>
 sel (decide (q1 < 0)) (
 some (-1)) (
 some q1)
def Xe1 (p0 : Admit) : Option Admit :=
 bnd (Xhk p0.Seq) fun q1 =>
 bnd (Xeo p0.Par) fun q2 =>
 some (⟨p0.Has, p0.Live, q1, q2, p0.Frame, p0.Count, p0.Gone⟩ : Admit)
def Xcm (p0 : (List ByteArray)) (v2 : (Int × (List ByteArray))) : Option (Lp (Int × (List ByteArray)) (List ByteArray)) :=
 sel (decide (v2.1 < (p0.length : Int))) (
 req (0 ≤ v2.1 ∧ v2.1 < p0.length) <|
 req (0 ≤ v2.1 ∧ v2.1 < v2.2.length) <|
 req (v2.1.toNat < v2.2.length) <|
 some (.go (Xah .i64 (v2.1 + 1), (v2.2.set v2.1.toNat (p0.getD v2.1.toNat Xai))))) (
 some (.done v2.2))
def Xdu (p0 : (List ByteArray)) : Option (List ByteArray) :=
 req (0 ≤ (p0.length : Int) ∧ (p0.length : Int) ≤ (p0.length : Int) ∧ (p0.length : Int) * 16 ≤ 281474976710656) <|
 bnd (loop (Xcm p0) (0, (List.replicate (p0.length : Int).toNat Xai))) fun v4 =>
 some v4
def Xc0 (p0 : Admit) (p1 : (List ByteArray)) (p2 : Par) : Option Bool :=
 bnd (Xgv p0 1048576) fun q1 =>
 sel (decide (q1 < 0)) (
 some true) (
 bnd (Xe0 p1 q1) fun q2 =>
 sel (decide (q2 < 0)) (
 some true) (
 bnd (Xe1 p0) fun q3 =>
 bnd (Xdu p1) fun q4 =>
 bnd (Xeo p2) fun q5 =>
 bnd (Xbh q3 q4 q5) fun q6 =>
 bnd (Xd7 p0) fun q7 =>
 bnd (Xc5 p1) fun q8 =>
 bnd (Xeo p2) fun q9 =>
 bnd (Xbp q7 q8 q9) fun q10 =>
 bnd (
 bnd (Xdd q10.1 q6.1) fun q12 =>
 sel q12 (
 sel (q10.2.1 != q6.2.1) (
 some true) (
 bnd (Xfa q10.2.2 q6.2.2) fun q13 =>
 some (!q13))) (
 some true)) fun v11 =>
 sel v11 (
 some false) (
 bnd (Xd7 p0) fun q14 =>
 bnd (Xdd q7 q14) fun q15 =>
 sel (!q15) (
 some false) (
 bnd (Xc5 p1) fun q16 =>
 bnd (Xez q8 q16) fun q17 =>
 sel (!q17) (
 some false) (
 bnd (Xdz q7 1) fun q18 =>
 bnd (Xdt q8 q18.1) fun q19 =>
 bnd (
 sel (decide (q19.1 < 0)) (
 some true) (
 bnd (Xdd q10.1 q6.1) fun q21 =>
 sel q21 (
 sel (q10.2.1 != q6.2.1) (
 some true) (
 bnd (Xfa q10.2.2 q6.2.2) fun q22 =>
 some (!q22))) (
 some true))) fun v20 =>
 sel v20 (
 some false) (
 bnd (Xdz q10.1 1) fun q23 =>
 bnd (Xdy (⟨q10.1.Has, q10.1.Live, (⟨q10.1.Seq.Level, q10.1.Seq.Bits, q23.2.Seq.Cols, q23.2.Seq.Rows⟩ : Seq), q10.1.Par, q10.1.Frame, q10.1.Count, q10.1.Gone⟩ : Admit) 1) fun q24 =>
 sel (decide (q24 < 0)) (
 some false) (
 sel (q24 != q23.1) (
 some false) (
 bnd (Xd7 p0) fun q25 =>
 bnd (Xc5 p1) fun q26 =>
 bnd (Xeo p2) fun q27 =>
 bnd (Xbp q25 q26 q27) fun q28 =>
 bnd (
 bnd (Xdd q28.1 q6.1) fun q30 =>
 sel q30 (
 sel (q28.2.1 != q6.2.1) (
 some true) (
 bnd (Xfa q28.2.2 q6.2.2) fun q31 =>
 some (!q31))) (
 some true)) fun v29 =>
 sel v29 (
 some false) (
 bnd (Xdy (⟨q10.1.Has, q10.1.Live, (⟨q10.1.Seq.Level, q10.1.Seq.Bits, q23.2.Seq.Cols, q23.2.Seq.Rows⟩ : Seq), q10.1.Par, q10.1.Frame, q10.1.Count, q10.1.Gone⟩ : Admit) 1) fun q32 =>
 sel (decide (q32 < 0)) (
 some false) (
 sel (q32 != q23.1) (
 some false) (
 some true)))))))))))
end
end Go.Proofs.YtnhflbeahbcklabGreat.A
