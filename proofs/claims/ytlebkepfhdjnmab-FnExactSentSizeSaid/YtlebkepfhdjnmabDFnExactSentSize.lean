/- What the functions that the law FnExactSentSize reaches compute, over numbers, texts and lists. Written by a program of this session. Conditions: none. -/
import Derived.Test.YtlebkepfhdjnmabAL2
namespace Go.Proofs.Ytlebkepfhdjnmab.A
open Go Go.Proofs Go.Proofs.YtlebkepfhdjnmabAL Go.RowKit
set_option linter.unusedVariables false
set_option linter.unusedSimpArgs false
structure Cond where
 Key : Bool
 Qp : Int
 Large : Bool
 Exact : Bool
structure Square where
 Kind : Int
 Mode : Int
 Dx : Int
 Dy : Int
 Levels : (List Int)
def Xah : Square := ⟨0, 0, 0, 0, []⟩
def Xpo (x : Square) : Prop := (Lit.int .i64 x.Kind).wf = true ∧ (Lit.int .i64 x.Mode).wf = true ∧ (Lit.int .i64 x.Dx).wf = true ∧ (Lit.int .i64 x.Dy).wf = true ∧ (x.Levels.length ≤ maxLen ∧ ∀ y ∈ x.Levels, (Lit.int .i64 y).wf = true)
def Xsy (x : Cond) : Prop := True ∧ (Lit.int .i64 x.Qp).wf = true ∧ True ∧ True
noncomputable section
def Xba (p0 : Int) (p1 : Int) (p2 : Int) : Option Bool :=
 bnd (
 sel (decide (p0 ≥ p1)) (
 some (decide (p0 ≤ p2))) (
 some false)) fun v1 =>
 some v1
def Xat (p0 : Int) (p1 : Int) (p2 : Int) : Option Bool :=
 bnd (
 sel (decide (p0 ≥ p1)) (
 some (decide (p0 ≤ p2))) (
 some false)) fun v1 =>
 some v1
def Xce (p0 : (List Int)) (p2 : Int) (p3 : Int) (v3 : Int) : Option (Lp Int (Ou Unit Bool)) :=
 sel (decide (v3 < (p0.length : Int))) (
 req (0 ≤ v3 ∧ v3 < p0.length) <|
 bnd (Xat (p0.getD v3.toNat 0) p2 p3) fun q7 =>
 sel (!q7) (
 some (.done (.ret false))) (
 some (.go (Xal .i64 (v3 + 1))))) (
 some (.done (.out ())))
def Xed (p0 : (List Int)) (p1 : Int) (p2 : Int) (p3 : Int) : Option Bool :=
 bnd (loop (Xce p0 p2 p3) 0) fun o8 => match o8 with
| .out v6 => (
 some ((p0.length : Int) == p1))
| .ret r => some r
def Xcr (p0 : Int) : Option (Int × Bool) :=
 bnd (Xat p0 (-500000) 500000) fun q1 =>
 sel (!q1) (
 some (0, false)) (
 sel (decide (p0 > 0)) (
 some (Xal .i64 ((Xal .i64 (2 * p0)) - 1), true)) (
 some (Xal .i64 ((-2) * p0), true)))
def Xam (v2 : (Int × Int)) : Option (Lp (Int × Int) Int) :=
 sel (decide (v2.1 > 0)) (
 req (0 ≤ (1 : Int)) <|
 some (.go ((v2.1 / 2 ^ min (1 : Int).toNat (IntKind.bits .i64)), Xal .i64 (v2.2 + 1)))) (
 some (.done v2.2))
def Xc3 (p0 : Int) : Option Int :=
 bnd (loop (Xam) (p0, 0)) fun v4 =>
 some v4
def Xcf (v2 : (Int × Int × (List Int))) : Option (Lp (Int × Int × (List Int)) (List Int)) :=
 sel (decide (v2.2.1 ≥ 0)) (
 req (0 ≤ v2.2.1 ∧ v2.2.1 < v2.2.2.length) <|
 req (v2.2.1.toNat < v2.2.2.length) <|
 req (0 ≤ (1 : Int)) <|
 some (.go ((v2.1 / 2 ^ min (1 : Int).toNat (IntKind.bits .i64)), Xal .i64 (v2.2.1 - 1), (v2.2.2.set v2.2.1.toNat (Xal .u8 (Xal .i64 (48 + (IntKind.wrap .i64 (BitVec.ofInt (IntKind.bits .i64) v2.1 &&& BitVec.ofInt (IntKind.bits .i64) 1).toNat)))))))) (
 some (.done v2.2.2))
def Xei (p0 : Int) (p1 : Int) : Option ByteArray :=
 req (0 ≤ p1 ∧ p1 ≤ p1 ∧ p1 * 1 ≤ 281474976710656) <|
 bnd (loop (Xcf) (p0, Xal .i64 (p1 - 1), (List.replicate p1.toNat (0 : Int)))) fun v4 =>
 some (strOfNums v4)
def Xdu (p0 : Int) : Option ByteArray :=
 bnd (Xc3 (Xal .i64 (p0 + 1))) fun q1 =>
 bnd (Xei (Xal .i64 (p0 + 1)) (Xal .i64 ((Xal .i64 (2 * q1)) - 1))) fun q2 =>
 some q2
def Xfb (p0 : Int) : Option (ByteArray × Bool) :=
 bnd (Xat p0 0 1000000) fun q1 =>
 sel (!q1) (
 some (⟨#[]⟩, false)) (
 bnd (Xdu p0) fun q2 =>
 some (q2, true))
def Xdo (p0 : Int) : Option (ByteArray × Bool) :=
 bnd (Xcr p0) fun q1 =>
 sel (!q1.2) (
 some (⟨#[]⟩, false)) (
 bnd (Xfb q1.1) fun q2 =>
 some (q2.1, q2.2))
def Xdw (p0 : (List Int)) (p1 : Int) : Option Int :=
 sel (decide ((Xal .i64 (p1 - (p0.length : Int))) < 0)) (
 some (-1)) (
 some (Xal .i64 (p1 - (p0.length : Int))))
def Xdj (p0 : Square) (p1 : Int) : Option Int :=
 bnd (Xdw p0.Levels p1) fun q1 =>
 sel (decide (q1 < 0)) (
 some (-1)) (
 some q1)
def Xa7 (p0 : (List Square)) (v3 : (Int × Int)) : Option (Lp (Int × Int) (Ou Int Int)) :=
 sel (decide (v3.2 < (p0.length : Int))) (
 req (0 ≤ v3.2 ∧ v3.2 < p0.length) <|
 bnd (Xdj (⟨(p0.getD v3.2.toNat Xah).Kind, (p0.getD v3.2.toNat Xah).Mode, (p0.getD v3.2.toNat Xah).Dx, (p0.getD v3.2.toNat Xah).Dy, (p0.getD v3.2.toNat Xah).Levels⟩ : Square) v3.1) fun q7 =>
 sel (decide (q7 < 0)) (
 some (.done (.ret (-1)))) (
 some (.go (q7, Xal .i64 (v3.2 + 1))))) (
 some (.done (.out v3.1)))
def Xb0 (p0 : (List Square)) (p1 : Int) : Option Int :=
 sel (decide ((Xal .i64 (p1 - (p0.length : Int))) < 0)) (
 some (-1)) (
 bnd (loop (Xa7 p0) (Xal .i64 (p1 - (p0.length : Int)), 0)) fun o8 => match o8 with
| .out v6 => (
 some v6)
| .ret r => some r)
def Xb1 (p0 : (List Int)) (v2 : (Int × (List Int))) : Option (Lp (Int × (List Int)) (List Int)) :=
 sel (decide (v2.1 < (p0.length : Int))) (
 req (0 ≤ v2.1 ∧ v2.1 < p0.length) <|
 req (0 ≤ v2.1 ∧ v2.1 < v2.2.length) <|
 req (v2.1.toNat < v2.2.length) <|
 some (.go (Xal .i64 (v2.1 + 1), (v2.2.set v2.1.toNat (p0.getD v2.1.toNat 0))))) (
 some (.done v2.2))
def Xdy (p0 : (List Int)) : Option (List Int) :=
 req (0 ≤ (p0.length : Int) ∧ (p0.length : Int) ≤ (p0.length : Int) ∧ (p0.length : Int) * 8 ≤ 281474976710656) <|
 bnd (loop (Xb1 p0) (0, (List.replicate (p0.length : Int).toNat (0 : Int)))) fun v4 =>
 some v4
def Xdk (p0 : Square) : Option Square :=
 bnd (Xdy p0.Levels) fun q1 =>
 some (⟨p0.Kind, p0.Mode, p0.Dx, p0.Dy, q1⟩ : Square)
def Xa8 (p0 : (List Square)) (v4 : (Int × (List Square))) : Option (Lp (Int × (List Square)) (List Square)) :=
 sel (decide (v4.1 < (p0.length : Int))) (
 req (0 ≤ v4.1 ∧ v4.1 < p0.length) <|
 bnd (Xdk (⟨(p0.getD v4.1.toNat Xah).Kind, (p0.getD v4.1.toNat Xah).Mode, (p0.getD v4.1.toNat Xah).Dx, (p0.getD v4.1.toNat Xah).Dy, (p0.getD v4.1.toNat Xah).Levels⟩ : Square)) fun q9 =>
 req (0 ≤ v4.1 ∧ v4.1 < v4.2.length) <|
 req (v4.1.toNat < v4.2.length) <|
 bnd (some (v4.2.set v4.1.toNat q9)) fun s10 =>
 some (.go (Xal .i64 (v4.1 + 1), s10))) (
 some (.done v4.2))
def Xa2 (p0 : (List Square)) : Option (List Square) :=
 req (0 ≤ (p0.length : Int) ∧ (p0.length : Int) ≤ (p0.length : Int) ∧ (p0.length : Int) * 56 ≤ 281474976710656) <|
 bnd (loop (Xa8 p0) (0, (List.replicate (p0.length : Int).toNat Xah))) fun v8 =>
 some v8
def Xdx (p0 : Cond) : Option Cond :=
 some p0
def Xd0 (p0 : Cond) : Option Bool :=
 bnd (
 bnd (Xba p0.Qp 0 40) fun q2 =>
 sel q2 (
 sel p0.Large (
 some (!p0.Exact)) (
 some true)) (
 some false)) fun v1 =>
 some v1
def Xb2 (p0 : (List Int)) (p1 : Int) (p2 : Int) (v3 : Int) : Option (Lp Int (Ou Unit Bool)) :=
 sel (decide (v3 < p1)) (
 req (0 ≤ v3 ∧ v3 < p0.length) <|
 bnd (Xba (p0.getD v3.toNat 0) (Xal .i64 (0 - p2)) p2) fun q7 =>
 sel (!q7) (
 some (.done (.ret false))) (
 some (.go (Xal .i64 (v3 + 1))))) (
 some (.done (.out ())))
def Xcz (p0 : (List Int)) (p1 : Int) (p2 : Int) : Option Bool :=
 sel ((p0.length : Int) != p1) (
 some false) (
 bnd (loop (Xb2 p0 p1 p2) 0) fun o8 => match o8 with
| .out v6 => (
 some true)
| .ret r => some r)
def Xcl (p0 : Square) : Option Bool :=
 sel (p0.Kind == 0) (
 bnd (
 sel (p0.Mode == 0) (
 sel (p0.Dx == 0) (
 sel (p0.Dy == 0) (
 some ((p0.Levels.length : Int) == 0)) (
 some false)) (
 some false)) (
 some false)) fun v1 =>
 some v1) (
 sel (p0.Kind == 1) (
 bnd (
 sel (p0.Mode == 0) (
 bnd (Xba p0.Dx (-16) 16) fun q3 =>
 sel q3 (
 bnd (Xba p0.Dy (-16) 16) fun q4 =>
 sel q4 (
 bnd (Xcz p0.Levels 64 5000) fun q5 =>
 some q5) (
 some false)) (
 some false)) (
 some false)) fun v2 =>
 some v2) (
 sel (p0.Kind == 2) (
 bnd (
 bnd (Xba p0.Mode 0 3) fun q7 =>
 sel q7 (
 sel (p0.Dx == 0) (
 sel (p0.Dy == 0) (
 bnd (Xcz p0.Levels 64 5000) fun q8 =>
 some q8) (
 some false)) (
 some false)) (
 some false)) fun v6 =>
 some v6) (
 some false)))
def Xbu (p0 : (List Square)) (p1 : Cond) (v7 : Int) : Option (Lp Int (Ou Unit Bool)) :=
 sel (decide (v7 < (p0.length : Int))) (
 bnd (
 req (0 ≤ v7 ∧ v7 < p0.length) <|
 bnd (Xcl (⟨(p0.getD v7.toNat Xah).Kind, (p0.getD v7.toNat Xah).Mode, (p0.getD v7.toNat Xah).Dx, (p0.getD v7.toNat Xah).Dy, (p0.getD v7.toNat Xah).Levels⟩ : Square)) fun q13 =>
 sel q13 (
 sel p1.Key (
 req (0 ≤ v7 ∧ v7 < p0.length) <|
 some (((p0.getD v7.toNat Xah).Kind) != 2)) (
 some false)) (
 some true)) fun v12 =>
 sel v12 (
 some (.done (.ret false))) (
 some (.go (Xal .i64 (v7 + 1))))) (
 some (.done (.out ())))
def Xfj (p0 : (List Square)) (p1 : Cond) : Option Bool :=
 bnd (
 bnd (Xd0 p1) fun q2 =>
 sel q2 (
 bnd (Xba (p0.length : Int) 1 64) fun q3 =>
 some (!q3)) (
 some true)) fun v1 =>
 sel v1 (
 some false) (
 bnd (loop (Xbu p0 p1) 0) fun o14 => match o14 with
| .out v11 => (
 some true)
| .ret r => some r)
def Xbq (p0 : Int) (p1 : Int) (v2 : (Int × (List Int))) : Option (Lp (Int × (List Int)) (List Int)) :=
 sel (decide (v2.1 < p0)) (
 req (0 ≤ v2.1 ∧ v2.1 < v2.2.length) <|
 req (v2.1.toNat < v2.2.length) <|
 some (.go (Xal .i64 (v2.1 + 1), (v2.2.set v2.1.toNat p1)))) (
 some (.done v2.2))
def Xc9 (p0 : Int) (p1 : Int) : Option ByteArray :=
 req (0 ≤ p0 ∧ p0 ≤ p0 ∧ p0 * 1 ≤ 281474976710656) <|
 bnd (loop (Xbq p0 p1) (0, (List.replicate p0.toNat (0 : Int)))) fun v4 =>
 some (strOfNums v4)
def Xbt (v2 : (Int × ByteArray)) : Option (Lp (Int × ByteArray) ByteArray) :=
 sel (decide (v2.1 > 0)) (
 req ((2 : Int) ≠ 0) <|
 req ((strOfNums ([Xal .u8 (Xal .i64 (48 + (v2.1.tmod 2)))])).size + v2.2.size ≤ 9223372036854775807) <|
 req ((2 : Int) ≠ 0) <|
 some (.go (Xal .i64 (v2.1.tdiv 2), ((strOfNums ([Xal .u8 (Xal .i64 (48 + (v2.1.tmod 2)))])) ++ v2.2)))) (
 some (.done v2.2))
def Xbl (p0 : Int) : Option ByteArray :=
 bnd (loop (Xbt) (Xal .i64 (p0 + 1), ⟨#[]⟩)) fun v4 =>
 bnd (Xc9 (Xal .i64 ((v4.size : Int) - 1)) 48) fun q6 =>
 req (q6.size + v4.size ≤ 9223372036854775807) <|
 some (q6 ++ v4)
def Xd1 (p0 : Int) : Option (Int × Bool) :=
 bnd (Xba p0 (-500000) 500000) fun q1 =>
 sel (!q1) (
 some (0, false)) (
 sel (decide (p0 > 0)) (
 some (Xal .i64 ((Xal .i64 (2 * p0)) - 1), true)) (
 some (Xal .i64 ((-2) * p0), true)))
def Xcy (p0 : Int) : Option ByteArray :=
 bnd (Xd1 p0) fun q1 =>
 bnd (Xbl q1.1) fun q2 =>
 some q2
def Xbb (p0 : (List Int)) (v5 : (Int × Int × ByteArray × Int)) : Option (Lp (Int × Int × ByteArray × Int) (Int × ByteArray)) :=
 sel (decide (v5.2.2.2 < (p0.length : Int))) (
 bnd (
 req (0 ≤ v5.2.2.2 ∧ v5.2.2.2 < p0.length) <|
 sel ((p0.getD v5.2.2.2.toNat 0) == 0) (
 some (v5.1, Xal .i64 (v5.2.1 + 1), v5.2.2.1)) (
 bnd (Xbl v5.2.1) fun q12 =>
 req (v5.2.2.1.size + q12.size ≤ 9223372036854775807) <|
 req (0 ≤ v5.2.2.2 ∧ v5.2.2.2 < p0.length) <|
 bnd (Xcy (p0.getD v5.2.2.2.toNat 0)) fun q13 =>
 req ((v5.2.2.1 ++ q12).size + q13.size ≤ 9223372036854775807) <|
 some (Xal .i64 (v5.1 + 1), 0, ((v5.2.2.1 ++ q12) ++ q13)))) fun v11 =>
 some (.go (v11.1, v11.2.1, v11.2.2, Xal .i64 (v5.2.2.2 + 1)))) (
 some (.done (v5.1, v5.2.2.1)))
def Xa1 (p0 : (List Int)) : Option ByteArray :=
 bnd (loop (Xbb p0) (0, 0, ⟨#[]⟩, 0)) fun v10 =>
 bnd (Xbl v10.1) fun q15 =>
 req (q15.size + v10.2.size ≤ 9223372036854775807) <|
 some (q15 ++ v10.2)
def Xc0 (p0 : (List Int)) (p1 : Cond) : Option ByteArray :=
 bnd (
 sel p1.Large (
 some true) (
 some p1.Exact)) fun v1 =>
 sel v1 (
 bnd (Xa1 p0) fun q2 =>
 some q2) (
 req (0 ≤ (0 : Int) ∧ (0 : Int) ≤ (16 : Int) ∧ (16 : Int) ≤ (p0.length : Int)) <|
 bnd (Xa1 ((p0.drop (0 : Int).toNat).take ((16 : Int).toNat - (0 : Int).toNat))) fun q3 =>
 req (0 ≤ (16 : Int) ∧ (16 : Int) ≤ (32 : Int) ∧ (32 : Int) ≤ (p0.length : Int)) <|
 bnd (Xa1 ((p0.drop (16 : Int).toNat).take ((32 : Int).toNat - (16 : Int).toNat))) fun q4 =>
 req (q3.size + q4.size ≤ 9223372036854775807) <|
 req (0 ≤ (32 : Int) ∧ (32 : Int) ≤ (48 : Int) ∧ (48 : Int) ≤ (p0.length : Int)) <|
 bnd (Xa1 ((p0.drop (32 : Int).toNat).take ((48 : Int).toNat - (32 : Int).toNat))) fun q5 =>
 req ((q3 ++ q4).size + q5.size ≤ 9223372036854775807) <|
 req (0 ≤ (48 : Int) ∧ (48 : Int) ≤ (p0.length : Int) ∧ (p0.length : Int) ≤ (p0.length : Int)) <|
 bnd (Xa1 ((p0.drop (48 : Int).toNat).take ((p0.length : Int).toNat - (48 : Int).toNat))) fun q6 =>
 req (((q3 ++ q4) ++ q5).size + q6.size ≤ 9223372036854775807) <|
 some (((q3 ++ q4) ++ q5) ++ q6))
def Xd2 (p0 : Square) (p1 : Cond) : Option ByteArray :=
 bnd (
 sel (!p1.Key) (
 bnd (Xbl p0.Kind) fun q2 =>
 some q2) (
 some ⟨#[]⟩)) fun v1 =>
 sel (p0.Kind == 1) (
 bnd (Xcy p0.Dx) fun q3 =>
 req (v1.size + q3.size ≤ 9223372036854775807) <|
 bnd (Xcy p0.Dy) fun q4 =>
 req ((v1 ++ q3).size + q4.size ≤ 9223372036854775807) <|
 bnd (Xc0 p0.Levels p1) fun q5 =>
 req (((v1 ++ q3) ++ q4).size + q5.size ≤ 9223372036854775807) <|
 some (((v1 ++ q3) ++ q4) ++ q5)) (
 sel (p0.Kind == 2) (
 bnd (Xbl p0.Mode) fun q6 =>
 req (v1.size + q6.size ≤ 9223372036854775807) <|
 bnd (Xc0 p0.Levels p1) fun q7 =>
 req ((v1 ++ q6).size + q7.size ≤ 9223372036854775807) <|
 some ((v1 ++ q6) ++ q7)) (
 some v1))
def Xb3 (p0 : (List Square)) (p1 : Cond) (v3 : (Int × (List Int))) : Option (Lp (Int × (List Int)) (List Int)) :=
 sel (decide (v3.1 < (p0.length : Int))) (
 req (0 ≤ v3.1 ∧ v3.1 < p0.length) <|
 bnd (Xd2 (⟨(p0.getD v3.1.toNat Xah).Kind, (p0.getD v3.1.toNat Xah).Mode, (p0.getD v3.1.toNat Xah).Dx, (p0.getD v3.1.toNat Xah).Dy, (p0.getD v3.1.toNat Xah).Levels⟩ : Square) p1) fun q7 =>
 req ((v3.2.length + (Xaj q7).length) * 1 ≤ 140737488355328 ∧ v3.2.length + (Xaj q7).length ≤ maxLen) <|
 some (.go (Xal .i64 (v3.1 + 1), (v3.2 ++ (Xaj q7))))) (
 some (.done v3.2))
def Xd3 (p0 : (List Square)) (p1 : Cond) : Option ByteArray :=
 bnd (loop (Xb3 p0 p1) (0, ([] : List Int))) fun v6 =>
 some (strOfNums v6)
def Xc8 (p0 : (List Square)) (p1 : Cond) : Option (ByteArray × Bool) :=
 bnd (Xfj p0 p1) fun q1 =>
 sel (!q1) (
 some (⟨#[]⟩, false)) (
 bnd (Xd3 p0 p1) fun q2 =>
 some (q2, true))
def Xck (p0 : (List Square)) (p1 : Cond) : Option Int :=
 bnd (Xc8 p0 p1) fun q1 =>
 some (q1.1.size : Int)
def Xbi (p0 : (List Int)) : Option Bool :=
 bnd (Xed p0 64 (-5000) 5000) fun q1 =>
 some q1
def Xcc (p0 : Square) : Option Bool :=
 sel (p0.Kind == 0) (
 bnd (
 sel (p0.Mode == 0) (
 sel (p0.Dx == 0) (
 sel (p0.Dy == 0) (
 some ((p0.Levels.length : Int) == 0)) (
 some false)) (
 some false)) (
 some false)) fun v1 =>
 some v1) (
 sel (p0.Kind == 1) (
 bnd (
 sel (p0.Mode == 0) (
 bnd (Xat p0.Dx (-16) 16) fun q3 =>
 sel q3 (
 bnd (Xat p0.Dy (-16) 16) fun q4 =>
 sel q4 (
 bnd (Xbi p0.Levels) fun q5 =>
 some q5) (
 some false)) (
 some false)) (
 some false)) fun v2 =>
 some v2) (
 sel (p0.Kind == 2) (
 bnd (
 bnd (Xat p0.Mode 0 3) fun q7 =>
 sel q7 (
 sel (p0.Dx == 0) (
 sel (p0.Dy == 0) (
 bnd (Xbi p0.Levels) fun q8 =>
 some q8) (
 some false)) (
 some false)) (
 some false)) fun v6 =>
 some v6) (
 some false)))
def Xdt (p0 : Cond) : Option Bool :=
 bnd (
 bnd (Xat p0.Qp 0 40) fun q2 =>
 sel q2 (
 sel p0.Large (
 some (!p0.Exact)) (
 some true)) (
 some false)) fun v1 =>
 some v1
def Xcd (p0 : Square) (p1 : Cond) : Option Bool :=
 bnd (
 sel p1.Key (
 some (p0.Kind == 2)) (
 some true)) fun v1 =>
 some v1
def Xb6 (p0 : (List Int)) (v3 : (Int × Int)) : Option (Lp (Int × Int) Int) :=
 sel (decide (v3.2 < (p0.length : Int))) (
 bnd (
 req (0 ≤ v3.2 ∧ v3.2 < p0.length) <|
 sel ((p0.getD v3.2.toNat 0) != 0) (
 some (Xal .i64 (v3.1 + 1))) (
 some v3.1)) fun v7 =>
 some (.go (v7, Xal .i64 (v3.2 + 1)))) (
 some (.done v3.1))
def Xb7 (p0 : (List Int)) (v15 : (Int × Int × (List Int))) : Option (Lp (Int × Int × (List Int)) (List Int)) :=
 sel (decide (v15.2.1 < (p0.length : Int))) (
 bnd (
 req (0 ≤ v15.2.1 ∧ v15.2.1 < p0.length) <|
 sel ((p0.getD v15.2.1.toNat 0) == 0) (
 some (Xal .i64 (v15.1 + 1), v15.2.2)) (
 bnd (Xcr (p0.getD v15.2.1.toNat 0)) fun q23 =>
 bnd (Xdu v15.1) fun q24 =>
 req ((v15.2.2.length + (Xaj q24).length) * 1 ≤ 140737488355328 ∧ v15.2.2.length + (Xaj q24).length ≤ maxLen) <|
 bnd (Xdu q23.1) fun q25 =>
 req (((v15.2.2 ++ (Xaj q24)).length + (Xaj q25).length) * 1 ≤ 140737488355328 ∧ (v15.2.2 ++ (Xaj q24)).length + (Xaj q25).length ≤ maxLen) <|
 some (0, ((v15.2.2 ++ (Xaj q24)) ++ (Xaj q25))))) fun v22 =>
 some (.go (v22.1, Xal .i64 (v15.2.1 + 1), v22.2))) (
 some (.done v15.2.2))
def Xeh (p0 : (List Int)) : Option (List Int) :=
 bnd (loop (Xb6 p0) (0, 0)) fun v6 =>
 bnd (Xdu v6) fun q9 =>
 req ((([] : List Int).length + (Xaj q9).length) * 1 ≤ 140737488355328 ∧ ([] : List Int).length + (Xaj q9).length ≤ maxLen) <|
 bnd (loop (Xb7 p0) (0, 0, (([] : List Int) ++ (Xaj q9)))) fun v21 =>
 some v21
def Xan (p0 : (List Int)) (v5 : (Int × (List Int))) : Option (Lp (Int × (List Int)) (List Int)) :=
 sel (decide (v5.1 < 4)) (
 req (0 ≤ (Xal .i64 (16 * v5.1)) ∧ (Xal .i64 (16 * v5.1)) ≤ (Xal .i64 ((Xal .i64 (16 * v5.1)) + 16)) ∧ (Xal .i64 ((Xal .i64 (16 * v5.1)) + 16)) ≤ (p0.length : Int)) <|
 bnd (Xeh ((p0.drop (Xal .i64 (16 * v5.1)).toNat).take ((Xal .i64 ((Xal .i64 (16 * v5.1)) + 16)).toNat - (Xal .i64 (16 * v5.1)).toNat))) fun q9 =>
 req ((v5.2.length + q9.length) * 1 ≤ 140737488355328 ∧ v5.2.length + q9.length ≤ maxLen) <|
 some (.go (Xal .i64 (v5.1 + 1), (v5.2 ++ q9)))) (
 some (.done v5.2))
def Xbj (p0 : (List Int)) (p1 : Cond) : Option (List Int) :=
 bnd (
 sel p1.Large (
 some true) (
 some p1.Exact)) fun v1 =>
 sel v1 (
 bnd (Xeh p0) fun q2 =>
 some q2) (
 bnd (loop (Xan p0) (0, ([] : List Int))) fun v8 =>
 some v8)
def Xbx (p0 : Square) (p1 : Cond) : Option (ByteArray × Bool) :=
 bnd (
 bnd (Xcc p0) fun q2 =>
 sel q2 (
 bnd (Xdt p1) fun q3 =>
 sel q3 (
 bnd (Xcd p0 p1) fun q4 =>
 some (!q4)) (
 some true)) (
 some true)) fun v1 =>
 sel v1 (
 some (⟨#[]⟩, false)) (
 bnd (
 sel (!p1.Key) (
 bnd (Xdu p0.Kind) fun q6 =>
 req ((([] : List Int).length + (Xaj q6).length) * 1 ≤ 140737488355328 ∧ ([] : List Int).length + (Xaj q6).length ≤ maxLen) <|
 some (([] : List Int) ++ (Xaj q6))) (
 some ([] : List Int))) fun v5 =>
 bnd (
 sel (p0.Kind == 1) (
 bnd (Xdo p0.Dx) fun q8 =>
 bnd (Xdo p0.Dy) fun q9 =>
 req ((v5.length + (Xaj q8.1).length) * 1 ≤ 140737488355328 ∧ v5.length + (Xaj q8.1).length ≤ maxLen) <|
 req (((v5 ++ (Xaj q8.1)).length + (Xaj q9.1).length) * 1 ≤ 140737488355328 ∧ (v5 ++ (Xaj q8.1)).length + (Xaj q9.1).length ≤ maxLen) <|
 bnd (Xbj p0.Levels p1) fun q10 =>
 req ((((v5 ++ (Xaj q8.1)) ++ (Xaj q9.1)).length + q10.length) * 1 ≤ 140737488355328 ∧ ((v5 ++ (Xaj q8.1)) ++ (Xaj q9.1)).length + q10.length ≤ maxLen) <|
 some (((v5 ++ (Xaj q8.1)) ++ (Xaj q9.1)) ++ q10)) (
 sel (p0.Kind == 2) (
 bnd (Xdu p0.Mode) fun q11 =>
 req ((v5.length + (Xaj q11).length) * 1 ≤ 140737488355328 ∧ v5.length + (Xaj q11).length ≤ maxLen) <|
 bnd (Xbj p0.Levels p1) fun q12 =>
 req (((v5 ++ (Xaj q11)).length + q12.length) * 1 ≤ 140737488355328 ∧ (v5 ++ (Xaj q11)).length + q12.length ≤ maxLen) <|
 some ((v5 ++ (Xaj q11)) ++ q12)) (
 some v5))) fun v7 =>
 some ((strOfNums v7), true))
def Xa5 (p0 : (List Square)) (p1 : Cond) (v4 : (Int × (List Int))) : Option (Lp (Int × (List Int)) (Ou (List Int) (ByteArray × Bool))) :=
 sel (decide (v4.1 < (p0.length : Int))) (
 req (0 ≤ v4.1 ∧ v4.1 < p0.length) <|
 bnd (Xbx (⟨(p0.getD v4.1.toNat Xah).Kind, (p0.getD v4.1.toNat Xah).Mode, (p0.getD v4.1.toNat Xah).Dx, (p0.getD v4.1.toNat Xah).Dy, (p0.getD v4.1.toNat Xah).Levels⟩ : Square) p1) fun q8 =>
 sel (!q8.2) (
 some (.done (.ret (⟨#[]⟩, false)))) (
 req ((v4.2.length + (Xaj q8.1).length) * 1 ≤ 140737488355328 ∧ v4.2.length + (Xaj q8.1).length ≤ maxLen) <|
 some (.go (Xal .i64 (v4.1 + 1), (v4.2 ++ (Xaj q8.1)))))) (
 some (.done (.out v4.2)))
def Xc6 (p0 : (List Square)) (p1 : Cond) : Option (ByteArray × Bool) :=
 bnd (Xat (p0.length : Int) 1 64) fun q1 =>
 sel (!q1) (
 some (⟨#[]⟩, false)) (
 bnd (loop (Xa5 p0 p1) (0, ([] : List Int))) fun o9 => match o9 with
| .out v7 => (
 some ((strOfNums v7), true))
| .ret r => some r)
def Xcb (p0 : (List Square)) (p1 : Cond) : Option Int :=
 bnd (Xc6 p0 p1) fun q1 =>
 some (q1.1.size : Int)
def Xby (p0 : (List Int)) (p1 : (List Int)) (v2 : Int) : Option (Lp Int (Ou Unit Bool)) :=
 sel (decide (v2 < (p0.length : Int))) (
 req (0 ≤ v2 ∧ v2 < p0.length) <|
 req (0 ≤ v2 ∧ v2 < p1.length) <|
 sel ((p0.getD v2.toNat 0) != (p1.getD v2.toNat 0)) (
 some (.done (.ret false))) (
 some (.go (Xal .i64 (v2 + 1))))) (
 some (.done (.out ())))
def Xdv (p0 : (List Int)) (p1 : (List Int)) : Option Bool :=
 sel ((p0.length : Int) != (p1.length : Int)) (
 some false) (
 bnd (loop (Xby p0 p1) 0) fun o5 => match o5 with
| .out v4 => (
 some true)
| .ret r => some r)
def Xdi (p0 : Square) (p1 : Square) : Option Bool :=
 sel (p0.Kind != p1.Kind) (
 some false) (
 sel (p0.Mode != p1.Mode) (
 some false) (
 sel (p0.Dx != p1.Dx) (
 some false) (
 sel (p0.Dy != p1.Dy) (
 some false) (
 bnd (Xdv p0.Levels p1.Levels) fun q1 =>
 sel (!q1) (
 some false) (
 some true)))))
def Xa6 (p0 : (List Square)) (p1 : (List Square)) (v3 : Int) : Option (Lp Int (Ou Unit Bool)) :=
 sel (decide (v3 < (p0.length : Int))) (
 req (0 ≤ v3 ∧ v3 < p0.length) <|
 req (0 ≤ v3 ∧ v3 < p1.length) <|
 bnd (Xdi (⟨(p0.getD v3.toNat Xah).Kind, (p0.getD v3.toNat Xah).Mode, (p0.getD v3.toNat Xah).Dx, (p0.getD v3.toNat Xah).Dy, (p0.getD v3.toNat Xah).Levels⟩ : Square) (⟨(p1.getD v3.toNat Xah).Kind, (p1.getD v3.toNat Xah).Mode, (p1.getD v3.toNat Xah).Dx, (p1.getD v3.toNat Xah).Dy, (p1.getD v3.toNat Xah).Levels⟩ : Square)) fun q7 =>
 sel (!q7) (
 some (.done (.ret false))) (
 some (.go (Xal .i64 (v3 + 1))))) (
 some (.done (.out ())))
def Xbz (p0 : (List Square)) (p1 : (List Square)) : Option Bool :=
 sel ((p0.length : Int) != (p1.length : Int)) (
 some false) (
 bnd (loop (Xa6 p0 p1) 0) fun o8 => match o8 with
| .out v6 => (
 some true)
| .ret r => some r)
def Xa3 (p0 : (List Square)) (p1 : Cond) : Option Bool :=
 bnd (Xb0 p0 1048576) fun q1 =>
 sel (decide (q1 < 0)) (
 some true) (
 bnd (Xa2 p0) fun q2 =>
 bnd (Xdx p1) fun q3 =>
 bnd (Xck q2 q3) fun q4 =>
 bnd (Xa2 p0) fun q5 =>
 bnd (Xdx p1) fun q6 =>
 bnd (Xcb q5 q6) fun q7 =>
 sel (q7 != q4) (
 some false) (
 bnd (Xa2 p0) fun q8 =>
 bnd (Xbz q5 q8) fun q9 =>
 sel (!q9) (
 some false) (
 some true)))
end
end Go.Proofs.Ytlebkepfhdjnmab.A
