/- What the functions that the law FnGivenUp reaches compute, over numbers, texts and lists. Written by a program of this session. Conditions: none. -/
import Derived.Test.YtlebkepfhdjnmaaAL2
namespace Go.Proofs.Ytlebkepfhdjnmaa.A
open Go Go.Proofs Go.Proofs.YtlebkepfhdjnmaaAL Go.RowKit
set_option linter.unusedVariables false
set_option linter.unusedSimpArgs false
structure Xaa where
 Seq : Int
 First : Bool
 Last : Bool
 Bytes : ByteArray
structure Xah where
 Begun : Bool
 Next : Int
 Age : Int
 Held : (List Xaa)
 Late : Int
 Far : Int
 Twice : Int
 Over : Int
 Lost : Int
structure Xas where
 b_ : (List Int)
 i_ : Int
 h_ : Int
def Xaf : Xaa := ⟨0, false, false, ⟨#[]⟩⟩
noncomputable section
def Xjc (p0 : (List Int)) : Option Bool :=
 some (decide ((p0.length : Int) > 1048576))
def Xdw (p0 : (List Int)) (v3 : (Int × Int)) : Option (Lp (Int × Int) Int) :=
 bnd (
 sel (decide (v3.2 < (p0.length : Int))) (
 some (decide (v3.2 < 4000))) (
 some false)) fun v7 =>
 sel v7 (
 req (0 ≤ v3.2 ∧ v3.2 < p0.length) <|
 some (.go ((IntKind.wrap .i64 (BitVec.ofInt (IntKind.bits .i64) (Xag .i64 ((Xag .i64 ((Xag .i64 (v3.1 * 131)) + (Xag .i64 ((p0.getD v3.2.toNat 0))))) + 7)) &&& BitVec.ofInt (IntKind.bits .i64) 1073741823).toNat), Xag .i64 (v3.2 + 1)))) (
 some (.done v3.1))
def Xdr (p0 : (List Int)) : Option Xas :=
 bnd (loop (Xdw p0) (Xag .i64 (94701 + (p0.length : Int)), 0)) fun v6 =>
 some (⟨p0, 0, v6⟩ : Xas)
def Xbe (p0 : Xas) : Option (Int × Xas) :=
 req (0 ≤ (33 : Int)) <|
 req (0 ≤ (45 : Int)) <|
 bnd (
 sel (decide (p0.i_ < (p0.b_.length : Int))) (
 req (0 ≤ p0.i_ ∧ p0.i_ < p0.b_.length) <|
 some ((IntKind.wrap .i64 (BitVec.ofInt (IntKind.bits .i64) (Xag .i64 ((IntKind.wrap .i64 (BitVec.ofInt (IntKind.bits .i64) (IntKind.wrap .i64 (BitVec.ofInt (IntKind.bits .i64) ((Xag .i64 ((Xag .i64 (p0.h_ * 6364136223846793005)) + 1442695040888963407)) / 2 ^ min (33 : Int).toNat (IntKind.bits .i64)) ^^^ BitVec.ofInt (IntKind.bits .i64) ((Xag .i64 ((Xag .i64 (p0.h_ * 6364136223846793005)) + 1442695040888963407)) / 2 ^ min (45 : Int).toNat (IntKind.bits .i64))).toNat) &&& BitVec.ofInt (IntKind.bits .i64) 255).toNat) + (Xag .i64 ((p0.b_.getD p0.i_.toNat 0))))) &&& BitVec.ofInt (IntKind.bits .i64) 255).toNat), Xag .i64 (p0.i_ + 1))) (
 some ((IntKind.wrap .i64 (BitVec.ofInt (IntKind.bits .i64) (IntKind.wrap .i64 (BitVec.ofInt (IntKind.bits .i64) ((Xag .i64 ((Xag .i64 (p0.h_ * 6364136223846793005)) + 1442695040888963407)) / 2 ^ min (33 : Int).toNat (IntKind.bits .i64)) ^^^ BitVec.ofInt (IntKind.bits .i64) ((Xag .i64 ((Xag .i64 (p0.h_ * 6364136223846793005)) + 1442695040888963407)) / 2 ^ min (45 : Int).toNat (IntKind.bits .i64))).toNat) &&& BitVec.ofInt (IntKind.bits .i64) 255).toNat), p0.i_))) fun v1 =>
 some (v1.1, (⟨p0.b_, v1.2, Xag .i64 ((Xag .i64 (p0.h_ * 6364136223846793005)) + 1442695040888963407)⟩ : Xas))
def Xar (p0 : Xas) (p1 : Int) : Option (Int × Xas) :=
 sel (decide (p1 ≤ 0)) (
 some (0, p0)) (
 sel (decide (p1 ≤ 256)) (
 bnd (Xbe p0) fun q1 =>
 req (p1 ≠ 0) <|
 some ((q1.1.tmod p1), q1.2)) (
 bnd (Xbe p0) fun q2 =>
 bnd (Xbe q2.2) fun q3 =>
 bnd (Xbe q3.2) fun q4 =>
 bnd (Xbe q4.2) fun q5 =>
 req (p1 ≠ 0) <|
 some (((Xag .i64 ((Xag .i64 ((Xag .i64 ((Xag .i64 (q2.1 * 16777216)) + (Xag .i64 (q3.1 * 65536)))) + (Xag .i64 (q4.1 * 256)))) + q5.1)).tmod p1), q5.2)))
def Xck (v5 : (Int × (List Int) × Int × Int × (List Int))) : Option (Lp (Int × (List Int) × Int × Int × (List Int)) (List Int)) :=
 sel (decide (v5.1 < 12)) (
 bnd (Xar (⟨v5.2.1, v5.2.2.1, v5.2.2.2.1⟩ : Xas) 10000) fun q9 =>
 req ((v5.2.2.2.2.length + ([q9.1]).length) * 8 ≤ 140737488355328 ∧ v5.2.2.2.2.length + ([q9.1]).length ≤ maxLen) <|
 some (.go (Xag .i64 (v5.1 + 1), q9.2.b_, q9.2.i_, q9.2.h_, (v5.2.2.2.2 ++ ([q9.1]))))) (
 some (.done v5.2.2.2.2))
def Xco (p0 : (List Int)) : Option (List Int) :=
 bnd (Xdr p0) fun q1 =>
 bnd (Xbe q1) fun q2 =>
 bnd (loop (Xck) (0, q2.2.b_, q2.2.i_, q2.2.h_, ([] : List Int))) fun v8 =>
 some v8
def Xbv (p0 : Int) (p1 : Int) (p2 : Int) : Option Bool :=
 bnd (
 sel (decide (p0 ≥ p1)) (
 some (decide (p0 ≤ p2))) (
 some false)) fun v1 =>
 some v1
def Xc9 (p0 : Xah) : Option Xah :=
 req ((([] : List Xaa).length + p0.Held.length) * 32 ≤ 140737488355328 ∧ ([] : List Xaa).length + p0.Held.length ≤ maxLen) <|
 some (⟨p0.Begun, p0.Next, p0.Age, (([] : List Xaa) ++ p0.Held), p0.Late, p0.Far, p0.Twice, p0.Over, p0.Lost⟩ : Xah)
def Xa8 (p0 : Int) (p1 : Int) (p2 : Int) : Option Bool :=
 bnd (
 sel (decide (p0 ≥ p1)) (
 some (decide (p0 ≤ p2))) (
 some false)) fun v1 =>
 some v1
def Xbx (p0 : Int) (p1 : Int) : Option Int :=
 bnd (
 bnd (Xa8 p0 0 65535) fun q2 =>
 sel q2 (
 bnd (Xa8 p1 0 65535) fun q3 =>
 some (!q3)) (
 some true)) fun v1 =>
 sel v1 (
 some 0) (
 bnd (
 sel (decide ((Xag .i64 (p1 - p0)) > 32767)) (
 some (Xag .i64 ((Xag .i64 (p1 - p0)) - 65536))) (
 some (Xag .i64 (p1 - p0)))) fun v4 =>
 bnd (
 sel (decide (v4 < (-32768))) (
 some (Xag .i64 (v4 + 65536))) (
 some v4)) fun v5 =>
 some v5)
def Xcw (p0 : Xaa) : Option Bool :=
 bnd (
 bnd (Xa8 p0.Seq 0 65535) fun q2 =>
 sel q2 (
 bnd (Xa8 (p0.Bytes.size : Int) 1 400) fun q3 =>
 some q3) (
 some false)) fun v1 =>
 some v1
def Xbi (p0 : Int) : Option Bool :=
 bnd (Xa8 p0 0 1000000000) fun q1 =>
 some q1
def Xb0 (p0 : Xah) (v9 : (Int × Int)) : Option (Lp (Int × Int) (Ou Unit Bool)) :=
 sel (decide (v9.2 < (p0.Held.length : Int))) (
 req (0 ≤ v9.2 ∧ v9.2 < p0.Held.length) <|
 bnd (Xbx p0.Next ((p0.Held.getD v9.2.toNat Xaf).Seq)) fun q15 =>
 bnd (
 req (0 ≤ v9.2 ∧ v9.2 < p0.Held.length) <|
 bnd (Xcw (⟨(p0.Held.getD v9.2.toNat Xaf).Seq, (p0.Held.getD v9.2.toNat Xaf).First, (p0.Held.getD v9.2.toNat Xaf).Last, (p0.Held.getD v9.2.toNat Xaf).Bytes⟩ : Xaa)) fun q17 =>
 sel q17 (
 sel (decide (q15 ≤ v9.1)) (
 some true) (
 some (decide (q15 ≥ 40)))) (
 some true)) fun v16 =>
 sel v16 (
 some (.done (.ret false))) (
 some (.go (q15, Xag .i64 (v9.2 + 1))))) (
 some (.done (.out ())))
def Xcq (p0 : Xah) : Option Bool :=
 sel (!p0.Begun) (
 bnd (
 sel (p0.Next == 0) (
 sel (p0.Age == 0) (
 sel ((p0.Held.length : Int) == 0) (
 sel (p0.Late == 0) (
 sel (p0.Far == 0) (
 sel (p0.Twice == 0) (
 sel (p0.Over == 0) (
 some (p0.Lost == 0)) (
 some false)) (
 some false)) (
 some false)) (
 some false)) (
 some false)) (
 some false)) (
 some false)) fun v1 =>
 some v1) (
 bnd (
 bnd (Xa8 p0.Next 0 65535) fun q3 =>
 sel q3 (
 bnd (Xa8 p0.Age 0 20) fun q4 =>
 sel q4 (
 some (decide ((p0.Held.length : Int) > 24))) (
 some true)) (
 some true)) fun v2 =>
 sel v2 (
 some false) (
 bnd (loop (Xb0 p0) ((-1), 0)) fun o18 => match o18 with
| .out v14 => (
 bnd (
 bnd (Xbi p0.Late) fun q20 =>
 sel q20 (
 bnd (Xbi p0.Far) fun q21 =>
 sel q21 (
 bnd (Xbi p0.Twice) fun q22 =>
 sel q22 (
 bnd (Xbi p0.Over) fun q23 =>
 sel q23 (
 bnd (Xbi p0.Lost) fun q24 =>
 some q24) (
 some false)) (
 some false)) (
 some false)) (
 some false)) fun v19 =>
 some v19)
| .ret r => some r))
def Xbf (p0 : Xah) (v3 : Int) : Option (Lp Int (Ou Unit Int)) :=
 sel (decide (v3 < (p0.Held.length : Int))) (
 req (0 ≤ v3 ∧ v3 < p0.Held.length) <|
 bnd (Xbx p0.Next ((p0.Held.getD v3.toNat Xaf).Seq)) fun q7 =>
 sel (q7 != v3) (
 some (.done (.ret 0))) (
 req (0 ≤ v3 ∧ v3 < p0.Held.length) <|
 sel ((p0.Held.getD v3.toNat Xaf).Last) (
 some (.done (.ret (Xag .i64 (v3 + 1))))) (
 some (.go (Xag .i64 (v3 + 1)))))) (
 some (.done (.out ())))
def Xdi (p0 : Xah) : Option Int :=
 bnd (loop (Xbf p0) 0) fun o8 => match o8 with
| .out v6 => (
 some 0)
| .ret r => some r
def Xcr (p0 : Int) (p1 : Int) : Option Int :=
 bnd (
 bnd (Xa8 p0 0 65535) fun q2 =>
 sel q2 (
 bnd (Xa8 p1 0 65535) fun q3 =>
 some (!q3)) (
 some true)) fun v1 =>
 sel v1 (
 some 0) (
 req ((65536 : Int) ≠ 0) <|
 some ((Xag .i64 (p0 + p1)).tmod 65536))
def Xd1 (p0 : Int) (p1 : Int) (p2 : Int) : Option Int :=
 bnd (
 sel (decide (p2 < p1)) (
 some true) (
 some (decide (p0 < p1)))) fun v1 =>
 sel v1 (
 some p1) (
 sel (decide (p0 > p2)) (
 some p2) (
 some p0))
def Xbu (p0 : Int) : Option Int :=
 bnd (Xd1 (Xag .i64 (p0 + 1)) 0 1000000000) fun q1 =>
 some q1
def Xa7 (q1 : Xah) (v9 : Int) : Option (Lp Int Int) :=
 bnd (
 sel (decide (v9 < (q1.Held.length : Int))) (
 req (0 ≤ v9 ∧ v9 < q1.Held.length) <|
 req (v9.toNat < q1.Held.length) <|
 sel ((q1.Held.getD v9.toNat Xaf).First) (
 req (0 ≤ v9 ∧ v9 < q1.Held.length) <|
 req (v9.toNat < q1.Held.length) <|
 some (!(((q1.Held.getD v9.toNat Xaf).Seq) != q1.Next))) (
 some true)) (
 some false)) fun v13 =>
 sel v13 (
 some (.go (Xag .i64 (v9 + 1)))) (
 some (.done v9))
def Xcc (p0 : Xah) (p1 : Int) : Option (Xah × (List Xaa) × Int) :=
 bnd (Xc9 p0) fun q1 =>
 bnd (
 bnd (Xcq q1) fun q3 =>
 sel q3 (
 bnd (Xa8 p1 0 20) fun q4 =>
 some (!q4)) (
 some true)) fun v2 =>
 sel v2 (
 some (q1, ([] : List Xaa), 0)) (
 bnd (Xdi q1) fun q5 =>
 sel (decide (q5 > 0)) (
 req (0 ≤ (0 : Int) ∧ (0 : Int) ≤ q5 ∧ q5 ≤ (q1.Held.length : Int)) <|
 req (((0 : Int).toNat + (q5.toNat - (0 : Int).toNat) ≤ q1.Held.length) ∧ (([] : List Xaa).length + ((q1.Held.drop ((0 : Int).toNat)).take (q5.toNat - (0 : Int).toNat)).length) * 32 ≤ 140737488355328 ∧ ([] : List Xaa).length + ((q1.Held.drop ((0 : Int).toNat)).take (q5.toNat - (0 : Int).toNat)).length ≤ maxLen) <|
 bnd (Xcr q1.Next q5) fun q6 =>
 req (0 ≤ q5 ∧ q5 ≤ (q1.Held.length : Int) ∧ (q1.Held.length : Int) ≤ (q1.Held.length : Int)) <|
 req ((q5.toNat + ((q1.Held.length : Int).toNat - q5.toNat) ≤ q1.Held.length) ∧ (([] : List Xaa).length + ((q1.Held.drop q5.toNat).take ((q1.Held.length : Int).toNat - q5.toNat)).length) * 32 ≤ 140737488355328 ∧ ([] : List Xaa).length + ((q1.Held.drop q5.toNat).take ((q1.Held.length : Int).toNat - q5.toNat)).length ≤ maxLen) <|
 some ((⟨q1.Begun, q6, 0, (([] : List Xaa) ++ ((q1.Held.drop q5.toNat).take ((q1.Held.length : Int).toNat - q5.toNat))), q1.Late, q1.Far, q1.Twice, q1.Over, q1.Lost⟩ : Xah), (([] : List Xaa) ++ ((q1.Held.drop ((0 : Int).toNat)).take (q5.toNat - (0 : Int).toNat))), 1)) (
 sel ((q1.Held.length : Int) == 0) (
 some ((⟨q1.Begun, q1.Next, 0, q1.Held, q1.Late, q1.Far, q1.Twice, q1.Over, q1.Lost⟩ : Xah), ([] : List Xaa), 0)) (
 sel (decide (q1.Age < p1)) (
 some ((⟨q1.Begun, q1.Next, Xag .i64 (q1.Age + 1), q1.Held, q1.Late, q1.Far, q1.Twice, q1.Over, q1.Lost⟩ : Xah), ([] : List Xaa), 0)) (
 bnd (loop (Xa7 q1) 0) fun v12 =>
 bnd (
 sel (decide (v12 < (q1.Held.length : Int))) (
 req (0 ≤ v12 ∧ v12 < q1.Held.length) <|
 req (v12.toNat < q1.Held.length) <|
 some ((q1.Held.getD v12.toNat Xaf).Seq)) (
 req (0 ≤ (Xag .i64 (v12 - 1)) ∧ (Xag .i64 (v12 - 1)) < q1.Held.length) <|
 req ((Xag .i64 (v12 - 1)).toNat < q1.Held.length) <|
 bnd (Xcr ((q1.Held.getD ((Xag .i64 (v12 - 1)).toNat) Xaf).Seq) 1) fun q16 =>
 some q16)) fun v15 =>
 req (0 ≤ v12 ∧ v12 ≤ (q1.Held.length : Int) ∧ (q1.Held.length : Int) ≤ (q1.Held.length : Int)) <|
 req ((v12.toNat + ((q1.Held.length : Int).toNat - v12.toNat) ≤ q1.Held.length) ∧ (([] : List Xaa).length + ((q1.Held.drop v12.toNat).take ((q1.Held.length : Int).toNat - v12.toNat)).length) * 32 ≤ 140737488355328 ∧ ([] : List Xaa).length + ((q1.Held.drop v12.toNat).take ((q1.Held.length : Int).toNat - v12.toNat)).length ≤ maxLen) <|
 bnd (Xbu q1.Lost) fun q17 =>
 some ((⟨q1.Begun, v15, 0, (([] : List Xaa) ++ ((q1.Held.drop v12.toNat).take ((q1.Held.length : Int).toNat - v12.toNat))), q1.Late, q1.Far, q1.Twice, q1.Over, q17⟩ : Xah), ([] : List Xaa), 2)))))
def Xc3 (p0 : Xah) : Option Xah :=
 req ((([] : List Xaa).length + p0.Held.length) * 32 ≤ 140737488355328 ∧ ([] : List Xaa).length + p0.Held.length ≤ maxLen) <|
 some (⟨p0.Begun, p0.Next, p0.Age, (([] : List Xaa) ++ p0.Held), p0.Late, p0.Far, p0.Twice, p0.Over, p0.Lost⟩ : Xah)
def Xba (p0 : Int) : Option Bool :=
 bnd (Xbv p0 0 65535) fun q1 =>
 some q1
def Xek (p0 : Int) (p1 : Int) : Option Int :=
 bnd (
 bnd (Xba p0) fun q2 =>
 sel q2 (
 bnd (Xba p1) fun q3 =>
 some (!q3)) (
 some true)) fun v1 =>
 sel v1 (
 some 0) (
 req ((65536 : Int) ≠ 0) <|
 bnd (
 sel (decide (((Xag .i64 ((Xag .i64 (p1 - p0)) + 65536)).tmod 65536) ≥ 32768)) (
 some (Xag .i64 (((Xag .i64 ((Xag .i64 (p1 - p0)) + 65536)).tmod 65536) - 65536))) (
 some ((Xag .i64 ((Xag .i64 (p1 - p0)) + 65536)).tmod 65536))) fun v4 =>
 some v4)
def Xdc (p0 : Xaa) : Option Bool :=
 bnd (
 bnd (Xba p0.Seq) fun q2 =>
 sel q2 (
 bnd (Xbv (p0.Bytes.size : Int) 1 400) fun q3 =>
 some q3) (
 some false)) fun v1 =>
 some v1
def Xby (p0 : Xah) (v10 : (Int × Int)) : Option (Lp (Int × Int) (Ou Unit Bool)) :=
 sel (decide (v10.2 < (p0.Held.length : Int))) (
 req (0 ≤ v10.2 ∧ v10.2 < p0.Held.length) <|
 bnd (Xek p0.Next ((p0.Held.getD v10.2.toNat Xaf).Seq)) fun q17 =>
 bnd (
 bnd (Xdc (⟨(p0.Held.getD v10.2.toNat Xaf).Seq, (p0.Held.getD v10.2.toNat Xaf).First, (p0.Held.getD v10.2.toNat Xaf).Last, (p0.Held.getD v10.2.toNat Xaf).Bytes⟩ : Xaa)) fun q19 =>
 sel q19 (
 bnd (Xbv q17 (Xag .i64 (v10.1 + 1)) 39) fun q20 =>
 some (!q20)) (
 some true)) fun v18 =>
 sel v18 (
 some (.done (.ret false))) (
 some (.go (q17, Xag .i64 (v10.2 + 1))))) (
 some (.done (.out ())))
def Xbc (p0 : Xah) (v24 : Int) : Option (Lp Int (Ou Unit Bool)) :=
 sel (decide (v24 < (([p0.Late, p0.Far, p0.Twice, p0.Over, p0.Lost]).length : Int))) (
 req (0 ≤ v24 ∧ v24 < ([p0.Late, p0.Far, p0.Twice, p0.Over, p0.Lost]).length) <|
 req (v24.toNat < ([p0.Late, p0.Far, p0.Twice, p0.Over, p0.Lost]).length) <|
 bnd (Xbv (([p0.Late, p0.Far, p0.Twice, p0.Over, p0.Lost]).getD v24.toNat 0) 0 1000000000) fun q28 =>
 sel (!q28) (
 some (.done (.ret false))) (
 some (.go (Xag .i64 (v24 + 1))))) (
 some (.done (.out ())))
def Xa1 (p0 : Xah) : Option Bool :=
 sel (!p0.Begun) (
 bnd (
 sel (p0.Next == 0) (
 sel (p0.Age == 0) (
 sel ((p0.Held.length : Int) == 0) (
 sel (p0.Late == 0) (
 sel (p0.Far == 0) (
 sel (p0.Twice == 0) (
 sel (p0.Over == 0) (
 some (p0.Lost == 0)) (
 some false)) (
 some false)) (
 some false)) (
 some false)) (
 some false)) (
 some false)) (
 some false)) fun v1 =>
 some v1) (
 bnd (
 bnd (Xba p0.Next) fun q3 =>
 sel q3 (
 bnd (Xbv p0.Age 0 20) fun q4 =>
 sel q4 (
 some (decide ((p0.Held.length : Int) > 24))) (
 some true)) (
 some true)) fun v2 =>
 sel v2 (
 some false) (
 bnd (loop (Xby p0) ((-1), 0)) fun o21 => match o21 with
| .out v16 => (
 bnd (loop (Xbc p0) 0) fun o29 => match o29 with
| .out v27 => (
 some true)
| .ret r => some r)
| .ret r => some r))
def Xcm (p0 : Int) (p1 : Int) : Option Int :=
 bnd (
 bnd (Xba p0) fun q2 =>
 sel q2 (
 bnd (Xba p1) fun q3 =>
 some (!q3)) (
 some true)) fun v1 =>
 sel v1 (
 some 0) (
 req ((65536 : Int) ≠ 0) <|
 some ((Xag .i64 (p0 + p1)).tmod 65536))
def Xdz (p0 : Int) : Option Int :=
 some (if (1000000000 : Int) < (Xag .i64 (p0 + 1)) then (1000000000 : Int) else (Xag .i64 (p0 + 1)))
def Xa4 (p0 : Xah) (q1 : Xah) (v8 : Int) : Option (Lp Int (Ou Unit (Xah × (List Xaa) × Int))) :=
 sel (decide (v8 < (q1.Held.length : Int))) (
 req (0 ≤ v8 ∧ v8 < q1.Held.length) <|
 req (v8.toNat < q1.Held.length) <|
 bnd (Xcm p0.Next v8) fun q13 =>
 sel (((q1.Held.getD v8.toNat Xaf).Seq) != q13) (
 some (.done (.out ()))) (
 sel ((q1.Held.getD v8.toNat Xaf).Last) (
 req (0 ≤ (0 : Int) ∧ (0 : Int) ≤ (Xag .i64 (v8 + 1)) ∧ (Xag .i64 (v8 + 1)) ≤ (q1.Held.length : Int)) <|
 req (((0 : Int).toNat + ((Xag .i64 (v8 + 1)).toNat - (0 : Int).toNat) ≤ q1.Held.length) ∧ (([] : List Xaa).length + ((q1.Held.drop ((0 : Int).toNat)).take ((Xag .i64 (v8 + 1)).toNat - (0 : Int).toNat)).length) * 32 ≤ 140737488355328 ∧ ([] : List Xaa).length + ((q1.Held.drop ((0 : Int).toNat)).take ((Xag .i64 (v8 + 1)).toNat - (0 : Int).toNat)).length ≤ maxLen) <|
 req (0 ≤ (Xag .i64 (v8 + 1)) ∧ (Xag .i64 (v8 + 1)) ≤ (q1.Held.length : Int) ∧ (q1.Held.length : Int) ≤ (q1.Held.length : Int)) <|
 req (((Xag .i64 (v8 + 1)).toNat + ((q1.Held.length : Int).toNat - (Xag .i64 (v8 + 1)).toNat) ≤ q1.Held.length) ∧ (([] : List Xaa).length + ((q1.Held.drop ((Xag .i64 (v8 + 1)).toNat)).take ((q1.Held.length : Int).toNat - (Xag .i64 (v8 + 1)).toNat)).length) * 32 ≤ 140737488355328 ∧ ([] : List Xaa).length + ((q1.Held.drop ((Xag .i64 (v8 + 1)).toNat)).take ((q1.Held.length : Int).toNat - (Xag .i64 (v8 + 1)).toNat)).length ≤ maxLen) <|
 bnd (Xcm ((q1.Held.getD v8.toNat Xaf).Seq) 1) fun q14 =>
 some (.done (.ret ((⟨q1.Begun, q14, 0, (([] : List Xaa) ++ ((q1.Held.drop ((Xag .i64 (v8 + 1)).toNat)).take ((q1.Held.length : Int).toNat - (Xag .i64 (v8 + 1)).toNat))), q1.Late, q1.Far, q1.Twice, q1.Over, q1.Lost⟩ : Xah), (([] : List Xaa) ++ ((q1.Held.drop ((0 : Int).toNat)).take ((Xag .i64 (v8 + 1)).toNat - (0 : Int).toNat))), 1)))) (
 some (.go (Xag .i64 (v8 + 1)))))) (
 some (.done (.out ())))
def Xa5 (p0 : Xah) (q17 : Int) (v20 : Int) : Option (Lp Int (Int × (List Xaa))) :=
 sel (decide (v20 < (p0.Held.length : Int))) (
 req (0 ≤ v20 ∧ v20 < p0.Held.length) <|
 bnd (
 sel ((p0.Held.getD v20.toNat Xaf).First) (
 some (((p0.Held.getD v20.toNat Xaf).Seq) != p0.Next)) (
 some false)) fun v24 =>
 sel v24 (
 req (0 ≤ v20 ∧ v20 ≤ (p0.Held.length : Int) ∧ (p0.Held.length : Int) ≤ (p0.Held.length : Int)) <|
 req ((([] : List Xaa).length + ((p0.Held.drop v20.toNat).take ((p0.Held.length : Int).toNat - v20.toNat)).length) * 32 ≤ 140737488355328 ∧ ([] : List Xaa).length + ((p0.Held.drop v20.toNat).take ((p0.Held.length : Int).toNat - v20.toNat)).length ≤ maxLen) <|
 some (.done ((p0.Held.getD v20.toNat Xaf).Seq, (([] : List Xaa) ++ ((p0.Held.drop v20.toNat).take ((p0.Held.length : Int).toNat - v20.toNat)))))) (
 some (.go (Xag .i64 (v20 + 1))))) (
 some (.done (q17, ([] : List Xaa))))
def Xc2 (p0 : Xah) (p1 : Int) : Option (Xah × (List Xaa) × Int) :=
 bnd (Xc3 p0) fun q1 =>
 bnd (
 bnd (Xa1 p0) fun q3 =>
 sel q3 (
 bnd (Xbv p1 0 20) fun q4 =>
 some (!q4)) (
 some true)) fun v2 =>
 sel v2 (
 some (q1, ([] : List Xaa), 0)) (
 bnd (loop (Xa4 p0 q1) 0) fun o15 => match o15 with
| .out v12 => (
 sel ((p0.Held.length : Int) == 0) (
 some ((⟨q1.Begun, q1.Next, 0, q1.Held, q1.Late, q1.Far, q1.Twice, q1.Over, q1.Lost⟩ : Xah), ([] : List Xaa), 0)) (
 sel (decide (p0.Age < p1)) (
 some ((⟨q1.Begun, q1.Next, Xag .i64 (q1.Age + 1), q1.Held, q1.Late, q1.Far, q1.Twice, q1.Over, q1.Lost⟩ : Xah), ([] : List Xaa), 0)) (
 bnd (Xdz p0.Lost) fun q16 =>
 req (0 ≤ (Xag .i64 ((p0.Held.length : Int) - 1)) ∧ (Xag .i64 ((p0.Held.length : Int) - 1)) < p0.Held.length) <|
 bnd (Xcm ((p0.Held.getD (Xag .i64 ((p0.Held.length : Int) - 1)).toNat Xaf).Seq) 1) fun q17 =>
 bnd (loop (Xa5 p0 q17) 0) fun v23 =>
 some ((⟨q1.Begun, v23.1, 0, v23.2, q1.Late, q1.Far, q1.Twice, q1.Over, q16⟩ : Xah), ([] : List Xaa), 2))))
| .ret r => some r)
def Xbk (p0 : Xas) (p1 : Int) : Option (Bool × Xas) :=
 bnd (Xar p0 p1) fun q1 =>
 some ((q1.1 == 0), q1.2)
def Xbp (p0 : Xas) (p1 : (List Int)) : Option (Int × Xas) :=
 bnd (Xar p0 (p1.length : Int)) fun q1 =>
 req (0 ≤ q1.1 ∧ q1.1 < p1.length) <|
 some ((p1.getD q1.1.toNat 0), q1.2)
def Xes (p0 : Xas) : Option (Int × Xas) :=
 bnd (Xbk p0 3) fun q1 =>
 sel q1.1 (
 bnd (Xbp q1.2 ([0, 65535, 65530, 65520, 32767, 32768])) fun q2 =>
 some (q2.1, q2.2)) (
 bnd (Xar q1.2 65536) fun q3 =>
 some (q3.1, q3.2))
def Xdh (v1 : Int) (v4 : (Int × (List Int) × Int × Int × (List Int))) : Option (Lp (Int × (List Int) × Int × Int × (List Int)) ((List Int) × (List Int) × Int × Int)) :=
 sel (decide (v4.1 < v1)) (
 bnd (Xbe (⟨v4.2.1, v4.2.2.1, v4.2.2.2.1⟩ : Xas)) fun q8 =>
 req ((v4.2.2.2.2.length + ([Xag .u8 (q8.1)]).length) * 1 ≤ 140737488355328 ∧ v4.2.2.2.2.length + ([Xag .u8 (q8.1)]).length ≤ maxLen) <|
 some (.go (Xag .i64 (v4.1 + 1), q8.2.b_, q8.2.i_, q8.2.h_, (v4.2.2.2.2 ++ ([Xag .u8 (q8.1)]))))) (
 some (.done (v4.2.2.2.2, v4.2.1, v4.2.2.1, v4.2.2.2.1)))
def Xd3 (p0 : Xas) (p1 : Int) : Option (ByteArray × Xas) :=
 bnd (
 sel (decide (p1 > 5000)) (
 some 5000) (
 some p1)) fun v1 =>
 bnd (loop (Xdh v1) (0, p0.b_, p0.i_, p0.h_, ([] : List Int))) fun v7 =>
 some ((strOfNums v7.1), (⟨v7.2.1, v7.2.2.1, v7.2.2.2⟩ : Xas))
def Xcf (p0 : Xas) (p1 : Int) : Option (Xaa × Xas) :=
 bnd (Xar p0 14) fun q1 =>
 bnd (
 bnd (Xar q1.2 16) fun q3 =>
 sel (q3.1 == 0) (
 bnd (Xar q3.2 100) fun q4 =>
 some (Xag .i64 (q4.1 - 50), q4.2.b_, q4.2.i_, q4.2.h_)) (
 sel (q3.1 == 1) (
 bnd (Xbp q3.2 ([39, 40, (-40), (-41), (-1)])) fun q5 =>
 some (q5.1, q5.2.b_, q5.2.i_, q5.2.h_)) (
 some (Xag .i64 (q1.1 - 2), q3.2.b_, q3.2.i_, q3.2.h_)))) fun v2 =>
 req ((65536 : Int) ≠ 0) <|
 bnd (Xbk (⟨v2.2.1, v2.2.2.1, v2.2.2.2⟩ : Xas) 3) fun q6 =>
 bnd (Xbk q6.2 3) fun q7 =>
 bnd (Xar q7.2 3) fun q8 =>
 bnd (Xd3 q8.2 (Xag .i64 (1 + q8.1))) fun q9 =>
 some ((⟨((Xag .i64 ((Xag .i64 (p1 + 65536)) + v2.1)).tmod 65536), q6.1, q7.1, q9.1⟩ : Xaa), q9.2)
def Xb8 (p0 : Xah) (p1 : Int) (v3 : Int) : Option (Lp Int (Ou Unit Bool)) :=
 sel (decide (v3 < (p0.Held.length : Int))) (
 req (0 ≤ v3 ∧ v3 < p0.Held.length) <|
 sel (((p0.Held.getD v3.toNat Xaf).Seq) == p1) (
 some (.done (.ret true))) (
 some (.go (Xag .i64 (v3 + 1))))) (
 some (.done (.out ())))
def Xdg (p0 : Xah) (p1 : Int) : Option Bool :=
 bnd (Xcq p0) fun q1 =>
 sel (!q1) (
 some false) (
 bnd (loop (Xb8 p0 p1) 0) fun o6 => match o6 with
| .out v5 => (
 some false)
| .ret r => some r)
def Xbl (p0 : Xah) (p1 : Xaa) (q1 : Int) (v5 : (Bool × Int × (List Xaa))) : Option (Lp (Bool × Int × (List Xaa)) (Bool × (List Xaa))) :=
 sel (decide (v5.2.1 < (p0.Held.length : Int))) (
 bnd (
 bnd (
 sel v5.1 (
 some false) (
 req (0 ≤ v5.2.1 ∧ v5.2.1 < p0.Held.length) <|
 bnd (Xbx p0.Next ((p0.Held.getD v5.2.1.toNat Xaf).Seq)) fun q13 =>
 some (decide (q13 > q1)))) fun v12 =>
 sel v12 (
 req ((v5.2.2.length + ([p1]).length) * 32 ≤ 140737488355328 ∧ v5.2.2.length + ([p1]).length ≤ maxLen) <|
 some (true, (v5.2.2 ++ ([p1])))) (
 some (v5.1, v5.2.2))) fun v11 =>
 req (0 ≤ v5.2.1 ∧ v5.2.1 < p0.Held.length) <|
 req ((v11.2.length + ([(⟨(p0.Held.getD v5.2.1.toNat Xaf).Seq, (p0.Held.getD v5.2.1.toNat Xaf).First, (p0.Held.getD v5.2.1.toNat Xaf).Last, (p0.Held.getD v5.2.1.toNat Xaf).Bytes⟩ : Xaa)]).length) * 32 ≤ 140737488355328 ∧ v11.2.length + ([(⟨(p0.Held.getD v5.2.1.toNat Xaf).Seq, (p0.Held.getD v5.2.1.toNat Xaf).First, (p0.Held.getD v5.2.1.toNat Xaf).Last, (p0.Held.getD v5.2.1.toNat Xaf).Bytes⟩ : Xaa)]).length ≤ maxLen) <|
 some (.go (v11.1, Xag .i64 (v5.2.1 + 1), (v11.2 ++ ([(⟨(p0.Held.getD v5.2.1.toNat Xaf).Seq, (p0.Held.getD v5.2.1.toNat Xaf).First, (p0.Held.getD v5.2.1.toNat Xaf).Last, (p0.Held.getD v5.2.1.toNat Xaf).Bytes⟩ : Xaa)]))))) (
 some (.done (v5.1, v5.2.2)))
def Xds (p0 : Xah) (p1 : Xaa) : Option Xah :=
 bnd (Xbx p0.Next p1.Seq) fun q1 =>
 bnd (loop (Xbl p0 p1 q1) (false, 0, ([] : List Xaa))) fun v10 =>
 bnd (
 sel (!v10.1) (
 req ((v10.2.length + ([p1]).length) * 32 ≤ 140737488355328 ∧ v10.2.length + ([p1]).length ≤ maxLen) <|
 some (v10.2 ++ ([p1]))) (
 some v10.2)) fun v15 =>
 some (⟨p0.Begun, p0.Next, p0.Age, v15, p0.Late, p0.Far, p0.Twice, p0.Over, p0.Lost⟩ : Xah)
def Xcp (q1 : Xah) (v13 : Int) : Option (Lp Int Int) :=
 bnd (
 sel (decide (v13 < (Xag .i64 ((q1.Held.length : Int) - 1)))) (
 req (0 ≤ v13 ∧ v13 < q1.Held.length) <|
 req (v13.toNat < q1.Held.length) <|
 some (!((q1.Held.getD v13.toNat Xaf).Last))) (
 some false)) fun v17 =>
 sel v17 (
 some (.go (Xag .i64 (v13 + 1)))) (
 some (.done v13))
def Xd2 (p0 : Xah) (p1 : Xaa) : Option (Xah × Int) :=
 bnd (Xc9 p0) fun q1 =>
 bnd (Xcq q1) fun q2 =>
 sel (!q2) (
 some (q1, 1)) (
 bnd (Xcw p1) fun q3 =>
 sel (!q3) (
 some (q1, 2)) (
 sel (!q1.Begun) (
 some ((⟨true, p1.Seq, 0, [p1], 0, 0, 0, 0, 0⟩ : Xah), 0)) (
 bnd (Xbx q1.Next p1.Seq) fun q4 =>
 bnd (
 sel (decide (q4 ≥ 40)) (
 some true) (
 some (decide (q4 < (-40))))) fun v5 =>
 sel v5 (
 bnd (Xbu q1.Far) fun q6 =>
 some ((⟨q1.Begun, p1.Seq, 0, [p1], q1.Late, q6, q1.Twice, q1.Over, q1.Lost⟩ : Xah), 4)) (
 sel (decide (q4 < 0)) (
 bnd (Xbu q1.Late) fun q7 =>
 some ((⟨q1.Begun, q1.Next, q1.Age, q1.Held, q7, q1.Far, q1.Twice, q1.Over, q1.Lost⟩ : Xah), 3)) (
 bnd (Xdg q1 p1.Seq) fun q8 =>
 sel q8 (
 bnd (Xbu q1.Twice) fun q9 =>
 some ((⟨q1.Begun, q1.Next, q1.Age, q1.Held, q1.Late, q1.Far, q9, q1.Over, q1.Lost⟩ : Xah), 5)) (
 sel (decide ((q1.Held.length : Int) < 24)) (
 bnd (Xds q1 p1) fun q10 =>
 some (q10, 0)) (
 bnd (loop (Xcp q1) 0) fun v16 =>
 bnd (Xbu q1.Over) fun q19 =>
 req (0 ≤ v16 ∧ v16 < q1.Held.length) <|
 req (v16.toNat < q1.Held.length) <|
 bnd (Xcr ((q1.Held.getD v16.toNat Xaf).Seq) 1) fun q20 =>
 req (0 ≤ (Xag .i64 (v16 + 1)) ∧ (Xag .i64 (v16 + 1)) ≤ (q1.Held.length : Int) ∧ (q1.Held.length : Int) ≤ (q1.Held.length : Int)) <|
 req (((Xag .i64 (v16 + 1)).toNat + ((q1.Held.length : Int).toNat - (Xag .i64 (v16 + 1)).toNat) ≤ q1.Held.length) ∧ (([] : List Xaa).length + ((q1.Held.drop ((Xag .i64 (v16 + 1)).toNat)).take ((q1.Held.length : Int).toNat - (Xag .i64 (v16 + 1)).toNat)).length) * 32 ≤ 140737488355328 ∧ ([] : List Xaa).length + ((q1.Held.drop ((Xag .i64 (v16 + 1)).toNat)).take ((q1.Held.length : Int).toNat - (Xag .i64 (v16 + 1)).toNat)).length ≤ maxLen) <|
 bnd (
 bnd (Xbx q20 p1.Seq) fun q22 =>
 bnd (Xa8 q22 0 39) fun q23 =>
 sel q23 (
 bnd (Xds (⟨q1.Begun, q20, 0, (([] : List Xaa) ++ ((q1.Held.drop ((Xag .i64 (v16 + 1)).toNat)).take ((q1.Held.length : Int).toNat - (Xag .i64 (v16 + 1)).toNat))), q1.Late, q1.Far, q1.Twice, q19, q1.Lost⟩ : Xah) p1) fun q24 =>
 some (q24.Begun, q24.Next, q24.Age, q24.Late, q24.Far, q24.Twice, q24.Over, q24.Lost, q24.Held)) (
 some (q1.Begun, q20, 0, q1.Late, q1.Far, q1.Twice, q19, q1.Lost, (([] : List Xaa) ++ ((q1.Held.drop ((Xag .i64 (v16 + 1)).toNat)).take ((q1.Held.length : Int).toNat - (Xag .i64 (v16 + 1)).toNat)))))) fun v21 =>
 some ((⟨v21.1, v21.2.1, v21.2.2.1, v21.2.2.2.2.2.2.2.2, v21.2.2.2.1, v21.2.2.2.2.1, v21.2.2.2.2.2.1, v21.2.2.2.2.2.2.1, v21.2.2.2.2.2.2.2.1⟩ : Xah), 6))))))))
def Xc6 (v3 : (Int × (List Int) × Int × Int)) (v15 : (Int × Int × (List Int) × Int × Int × Bool × Int × Int × Int × Int × Int × Int × Int × (List Xaa))) : Option (Lp (Int × Int × (List Int) × Int × Int × Bool × Int × Int × Int × Int × Int × Int × Int × (List Xaa)) (Bool × Int × Int × Int × Int × Int × Int × Int × (List Int) × Int × Int × (List Xaa))) :=
 sel (decide (v15.2.1 < v3.1)) (
 bnd (
 bnd (Xcf (⟨v15.2.2.1, v15.2.2.2.1, v15.2.2.2.2.1⟩ : Xas) v15.1) fun q28 =>
 bnd (Xd2 (⟨v15.2.2.2.2.2.1, v15.2.2.2.2.2.2.1, v15.2.2.2.2.2.2.2.1, v15.2.2.2.2.2.2.2.2.2.2.2.2.2, v15.2.2.2.2.2.2.2.2.1, v15.2.2.2.2.2.2.2.2.2.1, v15.2.2.2.2.2.2.2.2.2.2.1, v15.2.2.2.2.2.2.2.2.2.2.2.1, v15.2.2.2.2.2.2.2.2.2.2.2.2.1⟩ : Xah) q28.1) fun q29 =>
 bnd (
 bnd (Xbk q28.2 12) fun q31 =>
 sel q31.1 (
 bnd (Xar q31.2 3) fun q32 =>
 bnd (Xcc q29.1 q32.1) fun q33 =>
 some (q32.2.b_, q32.2.i_, q32.2.h_, q33.1.Begun, q33.1.Next, q33.1.Age, q33.1.Late, q33.1.Far, q33.1.Twice, q33.1.Over, q33.1.Lost, q33.1.Held)) (
 some (q31.2.b_, q31.2.i_, q31.2.h_, q29.1.Begun, q29.1.Next, q29.1.Age, q29.1.Late, q29.1.Far, q29.1.Twice, q29.1.Over, q29.1.Lost, q29.1.Held))) fun v30 =>
 bnd (
 sel v30.2.2.2.1 (
 some v30.2.2.2.2.1) (
 some v15.1)) fun v34 =>
 bnd (Xbk (⟨v30.1, v30.2.1, v30.2.2.1⟩ : Xas) 9) fun q35 =>
 sel q35.1 (
 req ((65536 : Int) ≠ 0) <|
 some (((Xag .i64 (v34 + 20)).tmod 65536), q35.2.b_, q35.2.i_, q35.2.h_, v30.2.2.2.1, v30.2.2.2.2.1, v30.2.2.2.2.2.1, v30.2.2.2.2.2.2.1, v30.2.2.2.2.2.2.2.1, v30.2.2.2.2.2.2.2.2.1, v30.2.2.2.2.2.2.2.2.2.1, v30.2.2.2.2.2.2.2.2.2.2.1, v30.2.2.2.2.2.2.2.2.2.2.2)) (
 some (v34, q35.2.b_, q35.2.i_, q35.2.h_, v30.2.2.2.1, v30.2.2.2.2.1, v30.2.2.2.2.2.1, v30.2.2.2.2.2.2.1, v30.2.2.2.2.2.2.2.1, v30.2.2.2.2.2.2.2.2.1, v30.2.2.2.2.2.2.2.2.2.1, v30.2.2.2.2.2.2.2.2.2.2.1, v30.2.2.2.2.2.2.2.2.2.2.2))) fun v27 =>
 some (.go (v27.1, Xag .i64 (v15.2.1 + 1), v27.2.1, v27.2.2.1, v27.2.2.2.1, v27.2.2.2.2.1, v27.2.2.2.2.2.1, v27.2.2.2.2.2.2.1, v27.2.2.2.2.2.2.2.1, v27.2.2.2.2.2.2.2.2.1, v27.2.2.2.2.2.2.2.2.2.1, v27.2.2.2.2.2.2.2.2.2.2.1, v27.2.2.2.2.2.2.2.2.2.2.2.1, v27.2.2.2.2.2.2.2.2.2.2.2.2))) (
 some (.done (v15.2.2.2.2.2.1, v15.2.2.2.2.2.2.1, v15.2.2.2.2.2.2.2.1, v15.2.2.2.2.2.2.2.2.1, v15.2.2.2.2.2.2.2.2.2.1, v15.2.2.2.2.2.2.2.2.2.2.1, v15.2.2.2.2.2.2.2.2.2.2.2.1, v15.2.2.2.2.2.2.2.2.2.2.2.2.1, v15.2.2.1, v15.2.2.2.1, v15.2.2.2.2.1, v15.2.2.2.2.2.2.2.2.2.2.2.2.2)))
def Xdj (p0 : Xas) : Option (Xah × Xas) :=
 bnd (Xes p0) fun q1 =>
 bnd (Xar q1.2 30) fun q2 =>
 bnd (
 bnd (Xbk q2.2 6) fun q4 =>
 sel q4.1 (
 some (Xag .i64 (q2.1 + 30), q4.2.b_, q4.2.i_, q4.2.h_)) (
 some (q2.1, q4.2.b_, q4.2.i_, q4.2.h_))) fun v3 =>
 bnd (loop (Xc6 v3) (q1.1, 0, v3.2.1, v3.2.2.1, v3.2.2.2, false, 0, 0, 0, 0, 0, 0, 0, [])) fun v26 =>
 some ((⟨v26.1, v26.2.1, v26.2.2.1, v26.2.2.2.2.2.2.2.2.2.2.2, v26.2.2.2.1, v26.2.2.2.2.1, v26.2.2.2.2.2.1, v26.2.2.2.2.2.2.1, v26.2.2.2.2.2.2.2.1⟩ : Xah), (⟨v26.2.2.2.2.2.2.2.2.1, v26.2.2.2.2.2.2.2.2.2.1, v26.2.2.2.2.2.2.2.2.2.2.1⟩ : Xas))
def Xcv (q2 : (Xah × Xas)) (v6 : (Int × (List Int) × Int × Int × (List Xaa))) : Option (Lp (Int × (List Int) × Int × Int × (List Xaa)) (List Xaa)) :=
 bnd (Xar (⟨v6.2.1, v6.2.2.1, v6.2.2.2.1⟩ : Xas) 9) fun q11 =>
 sel (decide (v6.1 < (Xag .i64 (1 + q11.1)))) (
 bnd (Xcf q11.2 q2.1.Next) fun q12 =>
 req ((v6.2.2.2.2.length + ([q12.1]).length) * 32 ≤ 140737488355328 ∧ v6.2.2.2.2.length + ([q12.1]).length ≤ maxLen) <|
 some (.go (Xag .i64 (v6.1 + 1), q12.2.b_, q12.2.i_, q12.2.h_, (v6.2.2.2.2 ++ ([q12.1]))))) (
 some (.done v6.2.2.2.2))
def Xcb (p0 : (List Int)) : Option (Xah × (List Xaa)) :=
 bnd (Xdr p0) fun q1 =>
 bnd (Xdj q1) fun q2 =>
 bnd (loop (Xcv q2) (0, q2.2.b_, q2.2.i_, q2.2.h_, ([] : List Xaa))) fun v10 =>
 some (q2.1, v10)
def Xcu (q3 : (List Int)) (v11 : (Int × Bool × Int × Int × Int × Int × Int × Int × Int × (List Xaa))) : Option (Lp (Int × Bool × Int × Int × Int × Int × Int × Int × Int × (List Xaa)) (Ou (Bool × Int × Int × Int × Int × Int × Int × Int × (List Xaa)) Bool)) :=
 sel (decide (v11.1 < (Xag .i64 ((Xag .i64 ((Xag .i64 (2 * (Xag .i64 (((q3.getD ((0 : Int).toNat) 0).tmod 3) + 1)))) * 24)) + 1)))) (
 bnd (Xc2 (⟨v11.2.1, v11.2.2.1, v11.2.2.2.1, v11.2.2.2.2.2.2.2.2.2, v11.2.2.2.2.1, v11.2.2.2.2.2.1, v11.2.2.2.2.2.2.1, v11.2.2.2.2.2.2.2.1, v11.2.2.2.2.2.2.2.2.1⟩ : Xah) ((q3.getD ((0 : Int).toNat) 0).tmod 3)) fun q20 =>
 bnd (
 sel (q20.2.2 == 1) (
 sel ((q20.2.1.length : Int) == 0) (
 some true) (
 sel (q20.2.2 != 1) (
 sel (decide ((q20.2.1.length : Int) > 0)) (
 some true) (
 sel (decide ((Xag .i64 ((q20.1.Held.length : Int) + (q20.2.1.length : Int))) > (v11.2.2.2.2.2.2.2.2.2.length : Int))) (
 some true) (
 bnd (Xa1 q20.1) fun q22 =>
 some (!q22)))) (
 sel (decide ((Xag .i64 ((q20.1.Held.length : Int) + (q20.2.1.length : Int))) > (v11.2.2.2.2.2.2.2.2.2.length : Int))) (
 some true) (
 bnd (Xa1 q20.1) fun q23 =>
 some (!q23))))) (
 sel (q20.2.2 != 1) (
 sel (decide ((q20.2.1.length : Int) > 0)) (
 some true) (
 sel (decide ((Xag .i64 ((q20.1.Held.length : Int) + (q20.2.1.length : Int))) > (v11.2.2.2.2.2.2.2.2.2.length : Int))) (
 some true) (
 bnd (Xa1 q20.1) fun q24 =>
 some (!q24)))) (
 sel (decide ((Xag .i64 ((q20.1.Held.length : Int) + (q20.2.1.length : Int))) > (v11.2.2.2.2.2.2.2.2.2.length : Int))) (
 some true) (
 bnd (Xa1 q20.1) fun q25 =>
 some (!q25))))) fun v21 =>
 sel v21 (
 some (.done (.ret false))) (
 some (.go (Xag .i64 (v11.1 + 1), q20.1.Begun, q20.1.Next, q20.1.Age, q20.1.Late, q20.1.Far, q20.1.Twice, q20.1.Over, q20.1.Lost, q20.1.Held)))) (
 some (.done (.out (v11.2.1, v11.2.2.1, v11.2.2.2.1, v11.2.2.2.2.1, v11.2.2.2.2.2.1, v11.2.2.2.2.2.2.1, v11.2.2.2.2.2.2.2.1, v11.2.2.2.2.2.2.2.2.1, v11.2.2.2.2.2.2.2.2.2))))
def Xdu (p0 : (List Int)) : Option Bool :=
 bnd (Xjc p0) fun q1 =>
 sel q1 (
 some true) (
 bnd (Xcb p0) fun q2 =>
 bnd (Xco p0) fun q3 =>
 req (0 ≤ (0 : Int) ∧ (0 : Int) < q3.length) <|
 req ((0 : Int).toNat < q3.length) <|
 req ((3 : Int) ≠ 0) <|
 bnd (loop (Xcu q3) (0, q2.1.Begun, q2.1.Next, q2.1.Age, q2.1.Late, q2.1.Far, q2.1.Twice, q2.1.Over, q2.1.Lost, q2.1.Held)) fun o26 => match o26 with
| .out v19 => (
 bnd (Xcb p0) fun q27 =>
 bnd (
 sel ((v19.2.2.2.2.2.2.2.2.length : Int) == 0) (
 some (v19.1 == q27.1.Begun)) (
 some false)) fun v28 =>
 some v28)
| .ret r => some r)
end
end Go.Proofs.Ytlebkepfhdjnmaa.A
