/- What the functions that the law FnQueues reaches compute, over numbers, texts and lists. Written by a program of this session. Conditions: none. -/
import Derived.Test.YtlebkepfhdjnmaaAL2
namespace Go.Proofs.Ytlebkepfhdjnmaa.A
open Go Go.Proofs Go.Proofs.YtlebkepfhdjnmaaAL Go.RowKit
set_option linter.unusedVariables false
set_option linter.unusedSimpArgs false
structure Xaa where
 Seq : Int
 First : Bool
 Last : Bool
 Bytes : ByteArray
structure Xah where
 Begun : Bool
 Next : Int
 Age : Int
 Held : (List Xaa)
 Late : Int
 Far : Int
 Twice : Int
 Over : Int
 Lost : Int
structure Xat where
 b_ : (List Int)
 i_ : Int
 h_ : Int
def Xad : Xaa := ⟨0, false, false, ⟨#[]⟩⟩
noncomputable section
def Xkk (p0 : (List Int)) : Option Bool :=
 some (decide ((p0.length : Int) > 1048576))
def Xej (p0 : (List Int)) (v3 : (Int × Int)) : Option (Lp (Int × Int) Int) :=
 bnd (
 sel (decide (v3.2 < (p0.length : Int))) (
 some (decide (v3.2 < 4000))) (
 some false)) fun v7 =>
 sel v7 (
 req (0 ≤ v3.2 ∧ v3.2 < p0.length) <|
 some (.go ((IntKind.wrap .i64 (BitVec.ofInt (IntKind.bits .i64) (Xaj .i64 ((Xaj .i64 ((Xaj .i64 (v3.1 * 131)) + (Xaj .i64 ((p0.getD v3.2.toNat 0))))) + 7)) &&& BitVec.ofInt (IntKind.bits .i64) 1073741823).toNat), Xaj .i64 (v3.2 + 1)))) (
 some (.done v3.1))
def Xee (p0 : (List Int)) : Option Xat :=
 bnd (loop (Xej p0) (Xaj .i64 (94701 + (p0.length : Int)), 0)) fun v6 =>
 some (⟨p0, 0, v6⟩ : Xat)
def Xbj (p0 : Xat) : Option (Int × Xat) :=
 req (0 ≤ (33 : Int)) <|
 req (0 ≤ (45 : Int)) <|
 bnd (
 sel (decide (p0.i_ < (p0.b_.length : Int))) (
 req (0 ≤ p0.i_ ∧ p0.i_ < p0.b_.length) <|
 some ((IntKind.wrap .i64 (BitVec.ofInt (IntKind.bits .i64) (Xaj .i64 ((IntKind.wrap .i64 (BitVec.ofInt (IntKind.bits .i64) (IntKind.wrap .i64 (BitVec.ofInt (IntKind.bits .i64) ((Xaj .i64 ((Xaj .i64 (p0.h_ * 6364136223846793005)) + 1442695040888963407)) / 2 ^ min (33 : Int).toNat (IntKind.bits .i64)) ^^^ BitVec.ofInt (IntKind.bits .i64) ((Xaj .i64 ((Xaj .i64 (p0.h_ * 6364136223846793005)) + 1442695040888963407)) / 2 ^ min (45 : Int).toNat (IntKind.bits .i64))).toNat) &&& BitVec.ofInt (IntKind.bits .i64) 255).toNat) + (Xaj .i64 ((p0.b_.getD p0.i_.toNat 0))))) &&& BitVec.ofInt (IntKind.bits .i64) 255).toNat), Xaj .i64 (p0.i_ + 1))) (
 some ((IntKind.wrap .i64 (BitVec.ofInt (IntKind.bits .i64) (IntKind.wrap .i64 (BitVec.ofInt (IntKind.bits .i64) ((Xaj .i64 ((Xaj .i64 (p0.h_ * 6364136223846793005)) + 1442695040888963407)) / 2 ^ min (33 : Int).toNat (IntKind.bits .i64)) ^^^ BitVec.ofInt (IntKind.bits .i64) ((Xaj .i64 ((Xaj .i64 (p0.h_ * 6364136223846793005)) + 1442695040888963407)) / 2 ^ min (45 : Int).toNat (IntKind.bits .i64))).toNat) &&& BitVec.ofInt (IntKind.bits .i64) 255).toNat), p0.i_))) fun v1 =>
 some (v1.1, (⟨p0.b_, v1.2, Xaj .i64 ((Xaj .i64 (p0.h_ * 6364136223846793005)) + 1442695040888963407)⟩ : Xat))
def Xar (p0 : Xat) (p1 : Int) : Option (Int × Xat) :=
 sel (decide (p1 ≤ 0)) (
 some (0, p0)) (
 sel (decide (p1 ≤ 256)) (
 bnd (Xbj p0) fun q1 =>
 req (p1 ≠ 0) <|
 some ((q1.1.tmod p1), q1.2)) (
 bnd (Xbj p0) fun q2 =>
 bnd (Xbj q2.2) fun q3 =>
 bnd (Xbj q3.2) fun q4 =>
 bnd (Xbj q4.2) fun q5 =>
 req (p1 ≠ 0) <|
 some (((Xaj .i64 ((Xaj .i64 ((Xaj .i64 ((Xaj .i64 (q2.1 * 16777216)) + (Xaj .i64 (q3.1 * 65536)))) + (Xaj .i64 (q4.1 * 256)))) + q5.1)).tmod p1), q5.2)))
def Xcy (v5 : (Int × (List Int) × Int × Int × (List Int))) : Option (Lp (Int × (List Int) × Int × Int × (List Int)) (List Int)) :=
 sel (decide (v5.1 < 12)) (
 bnd (Xar (⟨v5.2.1, v5.2.2.1, v5.2.2.2.1⟩ : Xat) 10000) fun q9 =>
 req ((v5.2.2.2.2.length + ([q9.1]).length) * 8 ≤ 140737488355328 ∧ v5.2.2.2.2.length + ([q9.1]).length ≤ maxLen) <|
 some (.go (Xaj .i64 (v5.1 + 1), q9.2.b_, q9.2.i_, q9.2.h_, (v5.2.2.2.2 ++ ([q9.1]))))) (
 some (.done v5.2.2.2.2))
def Xc4 (p0 : (List Int)) : Option (List Int) :=
 bnd (Xee p0) fun q1 =>
 bnd (Xbj q1) fun q2 =>
 bnd (loop (Xcy) (0, q2.2.b_, q2.2.i_, q2.2.h_, ([] : List Int))) fun v8 =>
 some v8
def Xbx (p0 : Int) (p1 : Int) (p2 : Int) : Option Bool :=
 bnd (
 sel (decide (p0 ≥ p1)) (
 some (decide (p0 ≤ p2))) (
 some false)) fun v1 =>
 some v1
def Xds (p0 : Xah) : Option Xah :=
 req ((([] : List Xaa).length + p0.Held.length) * 32 ≤ 140737488355328 ∧ ([] : List Xaa).length + p0.Held.length ≤ maxLen) <|
 some (⟨p0.Begun, p0.Next, p0.Age, (([] : List Xaa) ++ p0.Held), p0.Late, p0.Far, p0.Twice, p0.Over, p0.Lost⟩ : Xah)
def Xbe (p0 : Int) (p1 : Int) (p2 : Int) : Option Bool :=
 bnd (
 sel (decide (p0 ≥ p1)) (
 some (decide (p0 ≤ p2))) (
 some false)) fun v1 =>
 some v1
def Xcb (p0 : Int) (p1 : Int) : Option Int :=
 bnd (
 bnd (Xbe p0 0 65535) fun q2 =>
 sel q2 (
 bnd (Xbe p1 0 65535) fun q3 =>
 some (!q3)) (
 some true)) fun v1 =>
 sel v1 (
 some 0) (
 bnd (
 sel (decide ((Xaj .i64 (p1 - p0)) > 32767)) (
 some (Xaj .i64 ((Xaj .i64 (p1 - p0)) - 65536))) (
 some (Xaj .i64 (p1 - p0)))) fun v4 =>
 bnd (
 sel (decide (v4 < (-32768))) (
 some (Xaj .i64 (v4 + 65536))) (
 some v4)) fun v5 =>
 some v5)
def Xdd (p0 : Xaa) : Option Bool :=
 bnd (
 bnd (Xbe p0.Seq 0 65535) fun q2 =>
 sel q2 (
 bnd (Xbe (p0.Bytes.size : Int) 1 400) fun q3 =>
 some q3) (
 some false)) fun v1 =>
 some v1
def Xbq (p0 : Int) : Option Bool :=
 bnd (Xbe p0 0 1000000000) fun q1 =>
 some q1
def Xce (p0 : Xah) (v9 : (Int × Int)) : Option (Lp (Int × Int) (Ou Unit Bool)) :=
 sel (decide (v9.2 < (p0.Held.length : Int))) (
 req (0 ≤ v9.2 ∧ v9.2 < p0.Held.length) <|
 bnd (Xcb p0.Next ((p0.Held.getD v9.2.toNat Xad).Seq)) fun q15 =>
 bnd (
 req (0 ≤ v9.2 ∧ v9.2 < p0.Held.length) <|
 bnd (Xdd (⟨(p0.Held.getD v9.2.toNat Xad).Seq, (p0.Held.getD v9.2.toNat Xad).First, (p0.Held.getD v9.2.toNat Xad).Last, (p0.Held.getD v9.2.toNat Xad).Bytes⟩ : Xaa)) fun q17 =>
 sel q17 (
 sel (decide (q15 ≤ v9.1)) (
 some true) (
 some (decide (q15 ≥ 40)))) (
 some true)) fun v16 =>
 sel v16 (
 some (.done (.ret false))) (
 some (.go (q15, Xaj .i64 (v9.2 + 1))))) (
 some (.done (.out ())))
def Xc6 (p0 : Xah) : Option Bool :=
 sel (!p0.Begun) (
 bnd (
 sel (p0.Next == 0) (
 sel (p0.Age == 0) (
 sel ((p0.Held.length : Int) == 0) (
 sel (p0.Late == 0) (
 sel (p0.Far == 0) (
 sel (p0.Twice == 0) (
 sel (p0.Over == 0) (
 some (p0.Lost == 0)) (
 some false)) (
 some false)) (
 some false)) (
 some false)) (
 some false)) (
 some false)) (
 some false)) fun v1 =>
 some v1) (
 bnd (
 bnd (Xbe p0.Next 0 65535) fun q3 =>
 sel q3 (
 bnd (Xbe p0.Age 0 20) fun q4 =>
 sel q4 (
 some (decide ((p0.Held.length : Int) > 24))) (
 some true)) (
 some true)) fun v2 =>
 sel v2 (
 some false) (
 bnd (loop (Xce p0) ((-1), 0)) fun o18 => match o18 with
| .out v14 => (
 bnd (
 bnd (Xbq p0.Late) fun q20 =>
 sel q20 (
 bnd (Xbq p0.Far) fun q21 =>
 sel q21 (
 bnd (Xbq p0.Twice) fun q22 =>
 sel q22 (
 bnd (Xbq p0.Over) fun q23 =>
 sel q23 (
 bnd (Xbq p0.Lost) fun q24 =>
 some q24) (
 some false)) (
 some false)) (
 some false)) (
 some false)) fun v19 =>
 some v19)
| .ret r => some r))
def Xbn (p0 : Xah) (v3 : Int) : Option (Lp Int (Ou Unit Int)) :=
 sel (decide (v3 < (p0.Held.length : Int))) (
 req (0 ≤ v3 ∧ v3 < p0.Held.length) <|
 bnd (Xcb p0.Next ((p0.Held.getD v3.toNat Xad).Seq)) fun q7 =>
 sel (q7 != v3) (
 some (.done (.ret 0))) (
 req (0 ≤ v3 ∧ v3 < p0.Held.length) <|
 sel ((p0.Held.getD v3.toNat Xad).Last) (
 some (.done (.ret (Xaj .i64 (v3 + 1))))) (
 some (.go (Xaj .i64 (v3 + 1)))))) (
 some (.done (.out ())))
def Xd3 (p0 : Xah) : Option Int :=
 bnd (loop (Xbn p0) 0) fun o8 => match o8 with
| .out v6 => (
 some 0)
| .ret r => some r
def Xc7 (p0 : Int) (p1 : Int) : Option Int :=
 bnd (
 bnd (Xbe p0 0 65535) fun q2 =>
 sel q2 (
 bnd (Xbe p1 0 65535) fun q3 =>
 some (!q3)) (
 some true)) fun v1 =>
 sel v1 (
 some 0) (
 req ((65536 : Int) ≠ 0) <|
 some ((Xaj .i64 (p0 + p1)).tmod 65536))
def Xep (p0 : Int) (p1 : Int) (p2 : Int) : Option Int :=
 bnd (
 sel (decide (p2 < p1)) (
 some true) (
 some (decide (p0 < p1)))) fun v1 =>
 sel v1 (
 some p1) (
 sel (decide (p0 > p2)) (
 some p2) (
 some p0))
def Xb9 (p0 : Int) : Option Int :=
 bnd (Xep (Xaj .i64 (p0 + 1)) 0 1000000000) fun q1 =>
 some q1
def Xbd (q1 : Xah) (v9 : Int) : Option (Lp Int Int) :=
 bnd (
 sel (decide (v9 < (q1.Held.length : Int))) (
 req (0 ≤ v9 ∧ v9 < q1.Held.length) <|
 req (v9.toNat < q1.Held.length) <|
 sel ((q1.Held.getD v9.toNat Xad).First) (
 req (0 ≤ v9 ∧ v9 < q1.Held.length) <|
 req (v9.toNat < q1.Held.length) <|
 some (!(((q1.Held.getD v9.toNat Xad).Seq) != q1.Next))) (
 some true)) (
 some false)) fun v13 =>
 sel v13 (
 some (.go (Xaj .i64 (v9 + 1)))) (
 some (.done v9))
def Xbu (p0 : Xah) (p1 : Int) : Option (Xah × (List Xaa) × Int) :=
 bnd (Xds p0) fun q1 =>
 bnd (
 bnd (Xc6 q1) fun q3 =>
 sel q3 (
 bnd (Xbe p1 0 20) fun q4 =>
 some (!q4)) (
 some true)) fun v2 =>
 sel v2 (
 some (q1, ([] : List Xaa), 0)) (
 bnd (Xd3 q1) fun q5 =>
 sel (decide (q5 > 0)) (
 req (0 ≤ (0 : Int) ∧ (0 : Int) ≤ q5 ∧ q5 ≤ (q1.Held.length : Int)) <|
 req (((0 : Int).toNat + (q5.toNat - (0 : Int).toNat) ≤ q1.Held.length) ∧ (([] : List Xaa).length + ((q1.Held.drop ((0 : Int).toNat)).take (q5.toNat - (0 : Int).toNat)).length) * 32 ≤ 140737488355328 ∧ ([] : List Xaa).length + ((q1.Held.drop ((0 : Int).toNat)).take (q5.toNat - (0 : Int).toNat)).length ≤ maxLen) <|
 bnd (Xc7 q1.Next q5) fun q6 =>
 req (0 ≤ q5 ∧ q5 ≤ (q1.Held.length : Int) ∧ (q1.Held.length : Int) ≤ (q1.Held.length : Int)) <|
 req ((q5.toNat + ((q1.Held.length : Int).toNat - q5.toNat) ≤ q1.Held.length) ∧ (([] : List Xaa).length + ((q1.Held.drop q5.toNat).take ((q1.Held.length : Int).toNat - q5.toNat)).length) * 32 ≤ 140737488355328 ∧ ([] : List Xaa).length + ((q1.Held.drop q5.toNat).take ((q1.Held.length : Int).toNat - q5.toNat)).length ≤ maxLen) <|
 some ((⟨q1.Begun, q6, 0, (([] : List Xaa) ++ ((q1.Held.drop q5.toNat).take ((q1.Held.length : Int).toNat - q5.toNat))), q1.Late, q1.Far, q1.Twice, q1.Over, q1.Lost⟩ : Xah), (([] : List Xaa) ++ ((q1.Held.drop ((0 : Int).toNat)).take (q5.toNat - (0 : Int).toNat))), 1)) (
 sel ((q1.Held.length : Int) == 0) (
 some ((⟨q1.Begun, q1.Next, 0, q1.Held, q1.Late, q1.Far, q1.Twice, q1.Over, q1.Lost⟩ : Xah), ([] : List Xaa), 0)) (
 sel (decide (q1.Age < p1)) (
 some ((⟨q1.Begun, q1.Next, Xaj .i64 (q1.Age + 1), q1.Held, q1.Late, q1.Far, q1.Twice, q1.Over, q1.Lost⟩ : Xah), ([] : List Xaa), 0)) (
 bnd (loop (Xbd q1) 0) fun v12 =>
 bnd (
 sel (decide (v12 < (q1.Held.length : Int))) (
 req (0 ≤ v12 ∧ v12 < q1.Held.length) <|
 req (v12.toNat < q1.Held.length) <|
 some ((q1.Held.getD v12.toNat Xad).Seq)) (
 req (0 ≤ (Xaj .i64 (v12 - 1)) ∧ (Xaj .i64 (v12 - 1)) < q1.Held.length) <|
 req ((Xaj .i64 (v12 - 1)).toNat < q1.Held.length) <|
 bnd (Xc7 ((q1.Held.getD ((Xaj .i64 (v12 - 1)).toNat) Xad).Seq) 1) fun q16 =>
 some q16)) fun v15 =>
 req (0 ≤ v12 ∧ v12 ≤ (q1.Held.length : Int) ∧ (q1.Held.length : Int) ≤ (q1.Held.length : Int)) <|
 req ((v12.toNat + ((q1.Held.length : Int).toNat - v12.toNat) ≤ q1.Held.length) ∧ (([] : List Xaa).length + ((q1.Held.drop v12.toNat).take ((q1.Held.length : Int).toNat - v12.toNat)).length) * 32 ≤ 140737488355328 ∧ ([] : List Xaa).length + ((q1.Held.drop v12.toNat).take ((q1.Held.length : Int).toNat - v12.toNat)).length ≤ maxLen) <|
 bnd (Xb9 q1.Lost) fun q17 =>
 some ((⟨q1.Begun, v15, 0, (([] : List Xaa) ++ ((q1.Held.drop v12.toNat).take ((q1.Held.length : Int).toNat - v12.toNat))), q1.Late, q1.Far, q1.Twice, q1.Over, q17⟩ : Xah), ([] : List Xaa), 2)))))
def Xcs (p0 : Xah) : Option Xah :=
 req ((([] : List Xaa).length + p0.Held.length) * 32 ≤ 140737488355328 ∧ ([] : List Xaa).length + p0.Held.length ≤ maxLen) <|
 some (⟨p0.Begun, p0.Next, p0.Age, (([] : List Xaa) ++ p0.Held), p0.Late, p0.Far, p0.Twice, p0.Over, p0.Lost⟩ : Xah)
def Xbg (p0 : Int) : Option Bool :=
 bnd (Xbx p0 0 65535) fun q1 =>
 some q1
def Xcl (p0 : Int) (p1 : Int) : Option Int :=
 bnd (
 bnd (Xbg p0) fun q2 =>
 sel q2 (
 bnd (Xbg p1) fun q3 =>
 some (!q3)) (
 some true)) fun v1 =>
 sel v1 (
 some 0) (
 req ((65536 : Int) ≠ 0) <|
 bnd (
 sel (decide (((Xaj .i64 ((Xaj .i64 (p1 - p0)) + 65536)).tmod 65536) ≥ 32768)) (
 some (Xaj .i64 (((Xaj .i64 ((Xaj .i64 (p1 - p0)) + 65536)).tmod 65536) - 65536))) (
 some ((Xaj .i64 ((Xaj .i64 (p1 - p0)) + 65536)).tmod 65536))) fun v4 =>
 some v4)
def Xdb (p0 : Xaa) : Option Bool :=
 bnd (
 bnd (Xbg p0.Seq) fun q2 =>
 sel q2 (
 bnd (Xbx (p0.Bytes.size : Int) 1 400) fun q3 =>
 some q3) (
 some false)) fun v1 =>
 some v1
def Xcd (p0 : Xah) (v10 : (Int × Int)) : Option (Lp (Int × Int) (Ou Unit Bool)) :=
 sel (decide (v10.2 < (p0.Held.length : Int))) (
 req (0 ≤ v10.2 ∧ v10.2 < p0.Held.length) <|
 bnd (Xcl p0.Next ((p0.Held.getD v10.2.toNat Xad).Seq)) fun q17 =>
 bnd (
 bnd (Xdb (⟨(p0.Held.getD v10.2.toNat Xad).Seq, (p0.Held.getD v10.2.toNat Xad).First, (p0.Held.getD v10.2.toNat Xad).Last, (p0.Held.getD v10.2.toNat Xad).Bytes⟩ : Xaa)) fun q19 =>
 sel q19 (
 bnd (Xbx q17 (Xaj .i64 (v10.1 + 1)) 39) fun q20 =>
 some (!q20)) (
 some true)) fun v18 =>
 sel v18 (
 some (.done (.ret false))) (
 some (.go (q17, Xaj .i64 (v10.2 + 1))))) (
 some (.done (.out ())))
def Xbi (p0 : Xah) (v24 : Int) : Option (Lp Int (Ou Unit Bool)) :=
 sel (decide (v24 < (([p0.Late, p0.Far, p0.Twice, p0.Over, p0.Lost]).length : Int))) (
 req (0 ≤ v24 ∧ v24 < ([p0.Late, p0.Far, p0.Twice, p0.Over, p0.Lost]).length) <|
 req (v24.toNat < ([p0.Late, p0.Far, p0.Twice, p0.Over, p0.Lost]).length) <|
 bnd (Xbx (([p0.Late, p0.Far, p0.Twice, p0.Over, p0.Lost]).getD v24.toNat 0) 0 1000000000) fun q28 =>
 sel (!q28) (
 some (.done (.ret false))) (
 some (.go (Xaj .i64 (v24 + 1))))) (
 some (.done (.out ())))
def Xbr (p0 : Xah) : Option Bool :=
 sel (!p0.Begun) (
 bnd (
 sel (p0.Next == 0) (
 sel (p0.Age == 0) (
 sel ((p0.Held.length : Int) == 0) (
 sel (p0.Late == 0) (
 sel (p0.Far == 0) (
 sel (p0.Twice == 0) (
 sel (p0.Over == 0) (
 some (p0.Lost == 0)) (
 some false)) (
 some false)) (
 some false)) (
 some false)) (
 some false)) (
 some false)) (
 some false)) fun v1 =>
 some v1) (
 bnd (
 bnd (Xbg p0.Next) fun q3 =>
 sel q3 (
 bnd (Xbx p0.Age 0 20) fun q4 =>
 sel q4 (
 some (decide ((p0.Held.length : Int) > 24))) (
 some true)) (
 some true)) fun v2 =>
 sel v2 (
 some false) (
 bnd (loop (Xcd p0) ((-1), 0)) fun o21 => match o21 with
| .out v16 => (
 bnd (loop (Xbi p0) 0) fun o29 => match o29 with
| .out v27 => (
 some true)
| .ret r => some r)
| .ret r => some r))
def Xcj (p0 : Int) (p1 : Int) : Option Int :=
 bnd (
 bnd (Xbg p0) fun q2 =>
 sel q2 (
 bnd (Xbg p1) fun q3 =>
 some (!q3)) (
 some true)) fun v1 =>
 sel v1 (
 some 0) (
 req ((65536 : Int) ≠ 0) <|
 some ((Xaj .i64 (p0 + p1)).tmod 65536))
def Xb7 (p0 : Int) : Option Int :=
 some (if (1000000000 : Int) < (Xaj .i64 (p0 + 1)) then (1000000000 : Int) else (Xaj .i64 (p0 + 1)))
def Xa9 (p0 : Xah) (q1 : Xah) (v8 : Int) : Option (Lp Int (Ou Unit (Xah × (List Xaa) × Int))) :=
 sel (decide (v8 < (q1.Held.length : Int))) (
 req (0 ≤ v8 ∧ v8 < q1.Held.length) <|
 req (v8.toNat < q1.Held.length) <|
 bnd (Xcj p0.Next v8) fun q13 =>
 sel (((q1.Held.getD v8.toNat Xad).Seq) != q13) (
 some (.done (.out ()))) (
 sel ((q1.Held.getD v8.toNat Xad).Last) (
 req (0 ≤ (0 : Int) ∧ (0 : Int) ≤ (Xaj .i64 (v8 + 1)) ∧ (Xaj .i64 (v8 + 1)) ≤ (q1.Held.length : Int)) <|
 req (((0 : Int).toNat + ((Xaj .i64 (v8 + 1)).toNat - (0 : Int).toNat) ≤ q1.Held.length) ∧ (([] : List Xaa).length + ((q1.Held.drop ((0 : Int).toNat)).take ((Xaj .i64 (v8 + 1)).toNat - (0 : Int).toNat)).length) * 32 ≤ 140737488355328 ∧ ([] : List Xaa).length + ((q1.Held.drop ((0 : Int).toNat)).take ((Xaj .i64 (v8 + 1)).toNat - (0 : Int).toNat)).length ≤ maxLen) <|
 req (0 ≤ (Xaj .i64 (v8 + 1)) ∧ (Xaj .i64 (v8 + 1)) ≤ (q1.Held.length : Int) ∧ (q1.Held.length : Int) ≤ (q1.Held.length : Int)) <|
 req (((Xaj .i64 (v8 + 1)).toNat + ((q1.Held.length : Int).toNat - (Xaj .i64 (v8 + 1)).toNat) ≤ q1.Held.length) ∧ (([] : List Xaa).length + ((q1.Held.drop ((Xaj .i64 (v8 + 1)).toNat)).take ((q1.Held.length : Int).toNat - (Xaj .i64 (v8 + 1)).toNat)).length) * 32 ≤ 140737488355328 ∧ ([] : List Xaa).length + ((q1.Held.drop ((Xaj .i64 (v8 + 1)).toNat)).take ((q1.Held.length : Int).toNat - (Xaj .i64 (v8 + 1)).toNat)).length ≤ maxLen) <|
 bnd (Xcj ((q1.Held.getD v8.toNat Xad).Seq) 1) fun q14 =>
 some (.done (.ret ((⟨q1.Begun, q14, 0, (([] : List Xaa) ++ ((q1.Held.drop ((Xaj .i64 (v8 + 1)).toNat)).take ((q1.Held.length : Int).toNat - (Xaj .i64 (v8 + 1)).toNat))), q1.Late, q1.Far, q1.Twice, q1.Over, q1.Lost⟩ : Xah), (([] : List Xaa) ++ ((q1.Held.drop ((0 : Int).toNat)).take ((Xaj .i64 (v8 + 1)).toNat - (0 : Int).toNat))), 1)))) (
 some (.go (Xaj .i64 (v8 + 1)))))) (
 some (.done (.out ())))
def Xba (p0 : Xah) (q17 : Int) (v20 : Int) : Option (Lp Int (Int × (List Xaa))) :=
 sel (decide (v20 < (p0.Held.length : Int))) (
 req (0 ≤ v20 ∧ v20 < p0.Held.length) <|
 bnd (
 sel ((p0.Held.getD v20.toNat Xad).First) (
 some (((p0.Held.getD v20.toNat Xad).Seq) != p0.Next)) (
 some false)) fun v24 =>
 sel v24 (
 req (0 ≤ v20 ∧ v20 ≤ (p0.Held.length : Int) ∧ (p0.Held.length : Int) ≤ (p0.Held.length : Int)) <|
 req ((([] : List Xaa).length + ((p0.Held.drop v20.toNat).take ((p0.Held.length : Int).toNat - v20.toNat)).length) * 32 ≤ 140737488355328 ∧ ([] : List Xaa).length + ((p0.Held.drop v20.toNat).take ((p0.Held.length : Int).toNat - v20.toNat)).length ≤ maxLen) <|
 some (.done ((p0.Held.getD v20.toNat Xad).Seq, (([] : List Xaa) ++ ((p0.Held.drop v20.toNat).take ((p0.Held.length : Int).toNat - v20.toNat)))))) (
 some (.go (Xaj .i64 (v20 + 1))))) (
 some (.done (q17, ([] : List Xaa))))
def Xcr (p0 : Xah) (p1 : Int) : Option (Xah × (List Xaa) × Int) :=
 bnd (Xcs p0) fun q1 =>
 bnd (
 bnd (Xbr p0) fun q3 =>
 sel q3 (
 bnd (Xbx p1 0 20) fun q4 =>
 some (!q4)) (
 some true)) fun v2 =>
 sel v2 (
 some (q1, ([] : List Xaa), 0)) (
 bnd (loop (Xa9 p0 q1) 0) fun o15 => match o15 with
| .out v12 => (
 sel ((p0.Held.length : Int) == 0) (
 some ((⟨q1.Begun, q1.Next, 0, q1.Held, q1.Late, q1.Far, q1.Twice, q1.Over, q1.Lost⟩ : Xah), ([] : List Xaa), 0)) (
 sel (decide (p0.Age < p1)) (
 some ((⟨q1.Begun, q1.Next, Xaj .i64 (q1.Age + 1), q1.Held, q1.Late, q1.Far, q1.Twice, q1.Over, q1.Lost⟩ : Xah), ([] : List Xaa), 0)) (
 bnd (Xb7 p0.Lost) fun q16 =>
 req (0 ≤ (Xaj .i64 ((p0.Held.length : Int) - 1)) ∧ (Xaj .i64 ((p0.Held.length : Int) - 1)) < p0.Held.length) <|
 bnd (Xcj ((p0.Held.getD (Xaj .i64 ((p0.Held.length : Int) - 1)).toNat Xad).Seq) 1) fun q17 =>
 bnd (loop (Xba p0 q17) 0) fun v23 =>
 some ((⟨q1.Begun, v23.1, 0, v23.2, q1.Late, q1.Far, q1.Twice, q1.Over, q16⟩ : Xah), ([] : List Xaa), 2))))
| .ret r => some r)
def Xbv (p0 : Xat) (p1 : Int) : Option (Bool × Xat) :=
 bnd (Xar p0 p1) fun q1 =>
 some ((q1.1 == 0), q1.2)
def Xb1 (p0 : Xat) (p1 : (List Int)) : Option (Int × Xat) :=
 bnd (Xar p0 (p1.length : Int)) fun q1 =>
 req (0 ≤ q1.1 ∧ q1.1 < p1.length) <|
 some ((p1.getD q1.1.toNat 0), q1.2)
def Xff (p0 : Xat) : Option (Int × Xat) :=
 bnd (Xbv p0 3) fun q1 =>
 sel q1.1 (
 bnd (Xb1 q1.2 ([0, 65535, 65530, 65520, 32767, 32768])) fun q2 =>
 some (q2.1, q2.2)) (
 bnd (Xar q1.2 65536) fun q3 =>
 some (q3.1, q3.2))
def Xd2 (v1 : Int) (v4 : (Int × (List Int) × Int × Int × (List Int))) : Option (Lp (Int × (List Int) × Int × Int × (List Int)) ((List Int) × (List Int) × Int × Int)) :=
 sel (decide (v4.1 < v1)) (
 bnd (Xbj (⟨v4.2.1, v4.2.2.1, v4.2.2.2.1⟩ : Xat)) fun q8 =>
 req ((v4.2.2.2.2.length + ([Xaj .u8 (q8.1)]).length) * 1 ≤ 140737488355328 ∧ v4.2.2.2.2.length + ([Xaj .u8 (q8.1)]).length ≤ maxLen) <|
 some (.go (Xaj .i64 (v4.1 + 1), q8.2.b_, q8.2.i_, q8.2.h_, (v4.2.2.2.2 ++ ([Xaj .u8 (q8.1)]))))) (
 some (.done (v4.2.2.2.2, v4.2.1, v4.2.2.1, v4.2.2.2.1)))
def Xeq (p0 : Xat) (p1 : Int) : Option (ByteArray × Xat) :=
 bnd (
 sel (decide (p1 > 5000)) (
 some 5000) (
 some p1)) fun v1 =>
 bnd (loop (Xd2 v1) (0, p0.b_, p0.i_, p0.h_, ([] : List Int))) fun v7 =>
 some ((strOfNums v7.1), (⟨v7.2.1, v7.2.2.1, v7.2.2.2⟩ : Xat))
def Xcw (p0 : Xat) (p1 : Int) : Option (Xaa × Xat) :=
 bnd (Xar p0 14) fun q1 =>
 bnd (
 bnd (Xar q1.2 16) fun q3 =>
 sel (q3.1 == 0) (
 bnd (Xar q3.2 100) fun q4 =>
 some (Xaj .i64 (q4.1 - 50), q4.2.b_, q4.2.i_, q4.2.h_)) (
 sel (q3.1 == 1) (
 bnd (Xb1 q3.2 ([39, 40, (-40), (-41), (-1)])) fun q5 =>
 some (q5.1, q5.2.b_, q5.2.i_, q5.2.h_)) (
 some (Xaj .i64 (q1.1 - 2), q3.2.b_, q3.2.i_, q3.2.h_)))) fun v2 =>
 req ((65536 : Int) ≠ 0) <|
 bnd (Xbv (⟨v2.2.1, v2.2.2.1, v2.2.2.2⟩ : Xat) 3) fun q6 =>
 bnd (Xbv q6.2 3) fun q7 =>
 bnd (Xar q7.2 3) fun q8 =>
 bnd (Xeq q8.2 (Xaj .i64 (1 + q8.1))) fun q9 =>
 some ((⟨((Xaj .i64 ((Xaj .i64 (p1 + 65536)) + v2.1)).tmod 65536), q6.1, q7.1, q9.1⟩ : Xaa), q9.2)
def Xcp (p0 : Xah) (p1 : Int) (v3 : Int) : Option (Lp Int (Ou Unit Bool)) :=
 sel (decide (v3 < (p0.Held.length : Int))) (
 req (0 ≤ v3 ∧ v3 < p0.Held.length) <|
 sel (((p0.Held.getD v3.toNat Xad).Seq) == p1) (
 some (.done (.ret true))) (
 some (.go (Xaj .i64 (v3 + 1))))) (
 some (.done (.out ())))
def Xd1 (p0 : Xah) (p1 : Int) : Option Bool :=
 bnd (Xc6 p0) fun q1 =>
 sel (!q1) (
 some false) (
 bnd (loop (Xcp p0 p1) 0) fun o6 => match o6 with
| .out v5 => (
 some false)
| .ret r => some r)
def Xbw (p0 : Xah) (p1 : Xaa) (q1 : Int) (v5 : (Bool × Int × (List Xaa))) : Option (Lp (Bool × Int × (List Xaa)) (Bool × (List Xaa))) :=
 sel (decide (v5.2.1 < (p0.Held.length : Int))) (
 bnd (
 bnd (
 sel v5.1 (
 some false) (
 req (0 ≤ v5.2.1 ∧ v5.2.1 < p0.Held.length) <|
 bnd (Xcb p0.Next ((p0.Held.getD v5.2.1.toNat Xad).Seq)) fun q13 =>
 some (decide (q13 > q1)))) fun v12 =>
 sel v12 (
 req ((v5.2.2.length + ([p1]).length) * 32 ≤ 140737488355328 ∧ v5.2.2.length + ([p1]).length ≤ maxLen) <|
 some (true, (v5.2.2 ++ ([p1])))) (
 some (v5.1, v5.2.2))) fun v11 =>
 req (0 ≤ v5.2.1 ∧ v5.2.1 < p0.Held.length) <|
 req ((v11.2.length + ([(⟨(p0.Held.getD v5.2.1.toNat Xad).Seq, (p0.Held.getD v5.2.1.toNat Xad).First, (p0.Held.getD v5.2.1.toNat Xad).Last, (p0.Held.getD v5.2.1.toNat Xad).Bytes⟩ : Xaa)]).length) * 32 ≤ 140737488355328 ∧ v11.2.length + ([(⟨(p0.Held.getD v5.2.1.toNat Xad).Seq, (p0.Held.getD v5.2.1.toNat Xad).First, (p0.Held.getD v5.2.1.toNat Xad).Last, (p0.Held.getD v5.2.1.toNat Xad).Bytes⟩ : Xaa)]).length ≤ maxLen) <|
 some (.go (v11.1, Xaj .i64 (v5.2.1 + 1), (v11.2 ++ ([(⟨(p0.Held.getD v5.2.1.toNat Xad).Seq, (p0.Held.getD v5.2.1.toNat Xad).First, (p0.Held.getD v5.2.1.toNat Xad).Last, (p0.Held.getD v5.2.1.toNat Xad).Bytes⟩ : Xaa)]))))) (
 some (.done (v5.1, v5.2.2)))
def Xef (p0 : Xah) (p1 : Xaa) : Option Xah :=
 bnd (Xcb p0.Next p1.Seq) fun q1 =>
 bnd (loop (Xbw p0 p1 q1) (false, 0, ([] : List Xaa))) fun v10 =>
 bnd (
 sel (!v10.1) (
 req ((v10.2.length + ([p1]).length) * 32 ≤ 140737488355328 ∧ v10.2.length + ([p1]).length ≤ maxLen) <|
 some (v10.2 ++ ([p1]))) (
 some v10.2)) fun v15 =>
 some (⟨p0.Begun, p0.Next, p0.Age, v15, p0.Late, p0.Far, p0.Twice, p0.Over, p0.Lost⟩ : Xah)
def Xc5 (q1 : Xah) (v13 : Int) : Option (Lp Int Int) :=
 bnd (
 sel (decide (v13 < (Xaj .i64 ((q1.Held.length : Int) - 1)))) (
 req (0 ≤ v13 ∧ v13 < q1.Held.length) <|
 req (v13.toNat < q1.Held.length) <|
 some (!((q1.Held.getD v13.toNat Xad).Last))) (
 some false)) fun v17 =>
 sel v17 (
 some (.go (Xaj .i64 (v13 + 1)))) (
 some (.done v13))
def Xdr (p0 : Xah) (p1 : Xaa) : Option (Xah × Int) :=
 bnd (Xds p0) fun q1 =>
 bnd (Xc6 q1) fun q2 =>
 sel (!q2) (
 some (q1, 1)) (
 bnd (Xdd p1) fun q3 =>
 sel (!q3) (
 some (q1, 2)) (
 sel (!q1.Begun) (
 some ((⟨true, p1.Seq, 0, [p1], 0, 0, 0, 0, 0⟩ : Xah), 0)) (
 bnd (Xcb q1.Next p1.Seq) fun q4 =>
 bnd (
 sel (decide (q4 ≥ 40)) (
 some true) (
 some (decide (q4 < (-40))))) fun v5 =>
 sel v5 (
 bnd (Xb9 q1.Far) fun q6 =>
 some ((⟨q1.Begun, p1.Seq, 0, [p1], q1.Late, q6, q1.Twice, q1.Over, q1.Lost⟩ : Xah), 4)) (
 sel (decide (q4 < 0)) (
 bnd (Xb9 q1.Late) fun q7 =>
 some ((⟨q1.Begun, q1.Next, q1.Age, q1.Held, q7, q1.Far, q1.Twice, q1.Over, q1.Lost⟩ : Xah), 3)) (
 bnd (Xd1 q1 p1.Seq) fun q8 =>
 sel q8 (
 bnd (Xb9 q1.Twice) fun q9 =>
 some ((⟨q1.Begun, q1.Next, q1.Age, q1.Held, q1.Late, q1.Far, q9, q1.Over, q1.Lost⟩ : Xah), 5)) (
 sel (decide ((q1.Held.length : Int) < 24)) (
 bnd (Xef q1 p1) fun q10 =>
 some (q10, 0)) (
 bnd (loop (Xc5 q1) 0) fun v16 =>
 bnd (Xb9 q1.Over) fun q19 =>
 req (0 ≤ v16 ∧ v16 < q1.Held.length) <|
 req (v16.toNat < q1.Held.length) <|
 bnd (Xc7 ((q1.Held.getD v16.toNat Xad).Seq) 1) fun q20 =>
 req (0 ≤ (Xaj .i64 (v16 + 1)) ∧ (Xaj .i64 (v16 + 1)) ≤ (q1.Held.length : Int) ∧ (q1.Held.length : Int) ≤ (q1.Held.length : Int)) <|
 req (((Xaj .i64 (v16 + 1)).toNat + ((q1.Held.length : Int).toNat - (Xaj .i64 (v16 + 1)).toNat) ≤ q1.Held.length) ∧ (([] : List Xaa).length + ((q1.Held.drop ((Xaj .i64 (v16 + 1)).toNat)).take ((q1.Held.length : Int).toNat - (Xaj .i64 (v16 + 1)).toNat)).length) * 32 ≤ 140737488355328 ∧ ([] : List Xaa).length + ((q1.Held.drop ((Xaj .i64 (v16 + 1)).toNat)).take ((q1.Held.length : Int).toNat - (Xaj .i64 (v16 + 1)).toNat)).length ≤ maxLen) <|
 bnd (
 bnd (Xcb q20 p1.Seq) fun q22 =>
 bnd (Xbe q22 0 39) fun q23 =>
 sel q23 (
 bnd (Xef (⟨q1.Begun, q20, 0, (([] : List Xaa) ++ ((q1.Held.drop ((Xaj .i64 (v16 + 1)).toNat)).take ((q1.Held.length : Int).toNat - (Xaj .i64 (v16 + 1)).toNat))), q1.Late, q1.Far, q1.Twice, q19, q1.Lost⟩ : Xah) p1) fun q24 =>
 some (q24.Begun, q24.Next, q24.Age, q24.Late, q24.Far, q24.Twice, q24.Over, q24.Lost, q24.Held)) (
 some (q1.Begun, q20, 0, q1.Late, q1.Far, q1.Twice, q19, q1.Lost, (([] : List Xaa) ++ ((q1.Held.drop ((Xaj .i64 (v16 + 1)).toNat)).take ((q1.Held.length : Int).toNat - (Xaj .i64 (v16 + 1)).toNat)))))) fun v21 =>
 some ((⟨v21.1, v21.2.1, v21.2.2.1, v21.2.2.2.2.2.2.2.2, v21.2.2.2.1, v21.2.2.2.2.1, v21.2.2.2.2.2.1, v21.2.2.2.2.2.2.1, v21.2.2.2.2.2.2.2.1⟩ : Xah), 6))))))))
def Xdm (v3 : (Int × (List Int) × Int × Int)) (v15 : (Int × Int × (List Int) × Int × Int × Bool × Int × Int × Int × Int × Int × Int × Int × (List Xaa))) : Option (Lp (Int × Int × (List Int) × Int × Int × Bool × Int × Int × Int × Int × Int × Int × Int × (List Xaa)) (Bool × Int × Int × Int × Int × Int × Int × Int × (List Int) × Int × Int × (List Xaa))) :=
 sel (decide (v15.2.1 < v3.1)) (
 bnd (
 bnd (Xcw (⟨v15.2.2.1, v15.2.2.2.1, v15.2.2.2.2.1⟩ : Xat) v15.1) fun q28 =>
 bnd (Xdr (⟨v15.2.2.2.2.2.1, v15.2.2.2.2.2.2.1, v15.2.2.2.2.2.2.2.1, v15.2.2.2.2.2.2.2.2.2.2.2.2.2, v15.2.2.2.2.2.2.2.2.1, v15.2.2.2.2.2.2.2.2.2.1, v15.2.2.2.2.2.2.2.2.2.2.1, v15.2.2.2.2.2.2.2.2.2.2.2.1, v15.2.2.2.2.2.2.2.2.2.2.2.2.1⟩ : Xah) q28.1) fun q29 =>
 bnd (
 bnd (Xbv q28.2 12) fun q31 =>
 sel q31.1 (
 bnd (Xar q31.2 3) fun q32 =>
 bnd (Xbu q29.1 q32.1) fun q33 =>
 some (q32.2.b_, q32.2.i_, q32.2.h_, q33.1.Begun, q33.1.Next, q33.1.Age, q33.1.Late, q33.1.Far, q33.1.Twice, q33.1.Over, q33.1.Lost, q33.1.Held)) (
 some (q31.2.b_, q31.2.i_, q31.2.h_, q29.1.Begun, q29.1.Next, q29.1.Age, q29.1.Late, q29.1.Far, q29.1.Twice, q29.1.Over, q29.1.Lost, q29.1.Held))) fun v30 =>
 bnd (
 sel v30.2.2.2.1 (
 some v30.2.2.2.2.1) (
 some v15.1)) fun v34 =>
 bnd (Xbv (⟨v30.1, v30.2.1, v30.2.2.1⟩ : Xat) 9) fun q35 =>
 sel q35.1 (
 req ((65536 : Int) ≠ 0) <|
 some (((Xaj .i64 (v34 + 20)).tmod 65536), q35.2.b_, q35.2.i_, q35.2.h_, v30.2.2.2.1, v30.2.2.2.2.1, v30.2.2.2.2.2.1, v30.2.2.2.2.2.2.1, v30.2.2.2.2.2.2.2.1, v30.2.2.2.2.2.2.2.2.1, v30.2.2.2.2.2.2.2.2.2.1, v30.2.2.2.2.2.2.2.2.2.2.1, v30.2.2.2.2.2.2.2.2.2.2.2)) (
 some (v34, q35.2.b_, q35.2.i_, q35.2.h_, v30.2.2.2.1, v30.2.2.2.2.1, v30.2.2.2.2.2.1, v30.2.2.2.2.2.2.1, v30.2.2.2.2.2.2.2.1, v30.2.2.2.2.2.2.2.2.1, v30.2.2.2.2.2.2.2.2.2.1, v30.2.2.2.2.2.2.2.2.2.2.1, v30.2.2.2.2.2.2.2.2.2.2.2))) fun v27 =>
 some (.go (v27.1, Xaj .i64 (v15.2.1 + 1), v27.2.1, v27.2.2.1, v27.2.2.2.1, v27.2.2.2.2.1, v27.2.2.2.2.2.1, v27.2.2.2.2.2.2.1, v27.2.2.2.2.2.2.2.1, v27.2.2.2.2.2.2.2.2.1, v27.2.2.2.2.2.2.2.2.2.1, v27.2.2.2.2.2.2.2.2.2.2.1, v27.2.2.2.2.2.2.2.2.2.2.2.1, v27.2.2.2.2.2.2.2.2.2.2.2.2))) (
 some (.done (v15.2.2.2.2.2.1, v15.2.2.2.2.2.2.1, v15.2.2.2.2.2.2.2.1, v15.2.2.2.2.2.2.2.2.1, v15.2.2.2.2.2.2.2.2.2.1, v15.2.2.2.2.2.2.2.2.2.2.1, v15.2.2.2.2.2.2.2.2.2.2.2.1, v15.2.2.2.2.2.2.2.2.2.2.2.2.1, v15.2.2.1, v15.2.2.2.1, v15.2.2.2.2.1, v15.2.2.2.2.2.2.2.2.2.2.2.2.2)))
def Xd4 (p0 : Xat) : Option (Xah × Xat) :=
 bnd (Xff p0) fun q1 =>
 bnd (Xar q1.2 30) fun q2 =>
 bnd (
 bnd (Xbv q2.2 6) fun q4 =>
 sel q4.1 (
 some (Xaj .i64 (q2.1 + 30), q4.2.b_, q4.2.i_, q4.2.h_)) (
 some (q2.1, q4.2.b_, q4.2.i_, q4.2.h_))) fun v3 =>
 bnd (loop (Xdm v3) (q1.1, 0, v3.2.1, v3.2.2.1, v3.2.2.2, false, 0, 0, 0, 0, 0, 0, 0, [])) fun v26 =>
 some ((⟨v26.1, v26.2.1, v26.2.2.1, v26.2.2.2.2.2.2.2.2.2.2.2, v26.2.2.2.1, v26.2.2.2.2.1, v26.2.2.2.2.2.1, v26.2.2.2.2.2.2.1, v26.2.2.2.2.2.2.2.1⟩ : Xah), (⟨v26.2.2.2.2.2.2.2.2.1, v26.2.2.2.2.2.2.2.2.2.1, v26.2.2.2.2.2.2.2.2.2.2.1⟩ : Xat))
def Xdc (q2 : (Xah × Xat)) (v6 : (Int × (List Int) × Int × Int × (List Xaa))) : Option (Lp (Int × (List Int) × Int × Int × (List Xaa)) (List Xaa)) :=
 bnd (Xar (⟨v6.2.1, v6.2.2.1, v6.2.2.2.1⟩ : Xat) 9) fun q11 =>
 sel (decide (v6.1 < (Xaj .i64 (1 + q11.1)))) (
 bnd (Xcw q11.2 q2.1.Next) fun q12 =>
 req ((v6.2.2.2.2.length + ([q12.1]).length) * 32 ≤ 140737488355328 ∧ v6.2.2.2.2.length + ([q12.1]).length ≤ maxLen) <|
 some (.go (Xaj .i64 (v6.1 + 1), q12.2.b_, q12.2.i_, q12.2.h_, (v6.2.2.2.2 ++ ([q12.1]))))) (
 some (.done v6.2.2.2.2))
def Xct (p0 : (List Int)) : Option (Xah × (List Xaa)) :=
 bnd (Xee p0) fun q1 =>
 bnd (Xd4 q1) fun q2 =>
 bnd (loop (Xdc q2) (0, q2.2.b_, q2.2.i_, q2.2.h_, ([] : List Xaa))) fun v10 =>
 some (q2.1, v10)
def Xco (p0 : Xah) (p1 : Int) (v3 : Int) : Option (Lp Int (Ou Unit Bool)) :=
 sel (decide (v3 < (p0.Held.length : Int))) (
 req (0 ≤ v3 ∧ v3 < p0.Held.length) <|
 sel (((p0.Held.getD v3.toNat Xad).Seq) == p1) (
 some (.done (.ret true))) (
 some (.go (Xaj .i64 (v3 + 1))))) (
 some (.done (.out ())))
def Xdw (p0 : Xah) (p1 : Int) : Option Bool :=
 bnd (Xbr p0) fun q1 =>
 sel (!q1) (
 some false) (
 bnd (loop (Xco p0 p1) 0) fun o6 => match o6 with
| .out v5 => (
 some false)
| .ret r => some r)
def Xa7 (p0 : Xah) (p1 : Xaa) (v5 : Int) : Option (Lp Int Int) :=
 bnd (
 sel (decide (v5 < (p0.Held.length : Int))) (
 req (0 ≤ v5 ∧ v5 < p0.Held.length) <|
 req (v5.toNat < p0.Held.length) <|
 bnd (Xcl p0.Next ((p0.Held.getD v5.toNat Xad).Seq)) fun q12 =>
 bnd (Xcl p0.Next p1.Seq) fun q13 =>
 some (decide (q12 < q13))) (
 some false)) fun v11 =>
 sel v11 (
 some (.go (Xaj .i64 (v5 + 1)))) (
 some (.done v5))
def Xbb (p0 : Xah) (p1 : Xaa) : Option Xah :=
 bnd (loop (Xa7 p0 p1) 0) fun v10 =>
 req (0 ≤ (0 : Int) ∧ (0 : Int) ≤ v10 ∧ v10 ≤ (p0.Held.length : Int)) <|
 req (((0 : Int).toNat + (v10.toNat - (0 : Int).toNat) ≤ p0.Held.length) ∧ (([] : List Xaa).length + ((p0.Held.drop ((0 : Int).toNat)).take (v10.toNat - (0 : Int).toNat)).length) * 32 ≤ 140737488355328 ∧ ([] : List Xaa).length + ((p0.Held.drop ((0 : Int).toNat)).take (v10.toNat - (0 : Int).toNat)).length ≤ maxLen) <|
 req (((([] : List Xaa) ++ ((p0.Held.drop ((0 : Int).toNat)).take (v10.toNat - (0 : Int).toNat))).length + ([p1]).length) * 32 ≤ 140737488355328 ∧ (([] : List Xaa) ++ ((p0.Held.drop ((0 : Int).toNat)).take (v10.toNat - (0 : Int).toNat))).length + ([p1]).length ≤ maxLen) <|
 req (0 ≤ v10 ∧ v10 ≤ (p0.Held.length : Int) ∧ (p0.Held.length : Int) ≤ (p0.Held.length : Int)) <|
 req ((v10.toNat + ((p0.Held.length : Int).toNat - v10.toNat) ≤ p0.Held.length) ∧ (((([] : List Xaa) ++ ((p0.Held.drop ((0 : Int).toNat)).take (v10.toNat - (0 : Int).toNat))) ++ ([p1])).length + ((p0.Held.drop v10.toNat).take ((p0.Held.length : Int).toNat - v10.toNat)).length) * 32 ≤ 140737488355328 ∧ ((([] : List Xaa) ++ ((p0.Held.drop ((0 : Int).toNat)).take (v10.toNat - (0 : Int).toNat))) ++ ([p1])).length + ((p0.Held.drop v10.toNat).take ((p0.Held.length : Int).toNat - v10.toNat)).length ≤ maxLen) <|
 some (⟨p0.Begun, p0.Next, p0.Age, (((([] : List Xaa) ++ ((p0.Held.drop ((0 : Int).toNat)).take (v10.toNat - (0 : Int).toNat))) ++ ([p1])) ++ ((p0.Held.drop v10.toNat).take ((p0.Held.length : Int).toNat - v10.toNat))), p0.Late, p0.Far, p0.Twice, p0.Over, p0.Lost⟩ : Xah)
def Xa4 (p0 : Xah) (v13 : Int) : Option (Lp Int Int) :=
 bnd (
 sel (decide (v13 < (Xaj .i64 ((p0.Held.length : Int) - 1)))) (
 req (0 ≤ v13 ∧ v13 < p0.Held.length) <|
 some (!((p0.Held.getD v13.toNat Xad).Last))) (
 some false)) fun v17 =>
 sel v17 (
 some (.go (Xaj .i64 (v13 + 1)))) (
 some (.done v13))
def Xdp (p0 : Xah) (p1 : Xaa) : Option (Xah × Int) :=
 bnd (Xcs p0) fun q1 =>
 bnd (Xbr p0) fun q2 =>
 sel (!q2) (
 some (q1, 1)) (
 bnd (Xdb p1) fun q3 =>
 sel (!q3) (
 some (q1, 2)) (
 sel (!p0.Begun) (
 some ((⟨true, p1.Seq, q1.Age, [p1], q1.Late, q1.Far, q1.Twice, q1.Over, q1.Lost⟩ : Xah), 0)) (
 bnd (Xcl p0.Next p1.Seq) fun q4 =>
 bnd (
 sel (decide (q4 ≥ 40)) (
 some true) (
 some (decide (q4 < (-40))))) fun v5 =>
 sel v5 (
 bnd (Xb7 p0.Far) fun q6 =>
 some ((⟨q1.Begun, p1.Seq, 0, [p1], q1.Late, q6, q1.Twice, q1.Over, q1.Lost⟩ : Xah), 4)) (
 sel (decide (q4 < 0)) (
 bnd (Xb7 p0.Late) fun q7 =>
 some ((⟨q1.Begun, q1.Next, q1.Age, q1.Held, q7, q1.Far, q1.Twice, q1.Over, q1.Lost⟩ : Xah), 3)) (
 bnd (Xdw p0 p1.Seq) fun q8 =>
 sel q8 (
 bnd (Xb7 p0.Twice) fun q9 =>
 some ((⟨q1.Begun, q1.Next, q1.Age, q1.Held, q1.Late, q1.Far, q9, q1.Over, q1.Lost⟩ : Xah), 5)) (
 sel ((p0.Held.length : Int) == 24) (
 bnd (Xb7 p0.Over) fun q10 =>
 bnd (loop (Xa4 p0) 0) fun v16 =>
 req (0 ≤ v16 ∧ v16 < p0.Held.length) <|
 bnd (Xcj ((p0.Held.getD v16.toNat Xad).Seq) 1) fun q19 =>
 req (0 ≤ (Xaj .i64 (v16 + 1)) ∧ (Xaj .i64 (v16 + 1)) ≤ (q1.Held.length : Int) ∧ (q1.Held.length : Int) ≤ (q1.Held.length : Int)) <|
 bnd (
 bnd (Xcl q19 p1.Seq) fun q21 =>
 bnd (Xbx q21 0 39) fun q22 =>
 sel q22 (
 bnd (Xbb (⟨q1.Begun, q19, 0, ((q1.Held.drop ((Xaj .i64 (v16 + 1)).toNat)).take ((q1.Held.length : Int).toNat - (Xaj .i64 (v16 + 1)).toNat)), q1.Late, q1.Far, q1.Twice, q10, q1.Lost⟩ : Xah) p1) fun q23 =>
 some (q23.Begun, q23.Next, q23.Age, q23.Late, q23.Far, q23.Twice, q23.Over, q23.Lost, q23.Held)) (
 some (q1.Begun, q19, 0, q1.Late, q1.Far, q1.Twice, q10, q1.Lost, ((q1.Held.drop ((Xaj .i64 (v16 + 1)).toNat)).take ((q1.Held.length : Int).toNat - (Xaj .i64 (v16 + 1)).toNat))))) fun v20 =>
 some ((⟨v20.1, v20.2.1, v20.2.2.1, v20.2.2.2.2.2.2.2.2, v20.2.2.2.1, v20.2.2.2.2.1, v20.2.2.2.2.2.1, v20.2.2.2.2.2.2.1, v20.2.2.2.2.2.2.2.1⟩ : Xah), 6)) (
 bnd (Xbb q1 p1) fun q24 =>
 some (q24, 0))))))))
def Xby (p0 : (List Xaa)) (p1 : (List Xaa)) (v2 : Int) : Option (Lp Int (Ou Unit Bool)) :=
 sel (decide (v2 < (p0.length : Int))) (
 req (0 ≤ v2 ∧ v2 < p0.length) <|
 req (0 ≤ v2 ∧ v2 < p1.length) <|
 sel (((((p0.getD v2.toNat Xad).Seq) == ((p1.getD v2.toNat Xad).Seq)) && ((((p0.getD v2.toNat Xad).First) == ((p1.getD v2.toNat Xad).First)) && ((((p0.getD v2.toNat Xad).Last) == ((p1.getD v2.toNat Xad).Last)) && (((p0.getD v2.toNat Xad).Bytes).toList == ((p1.getD v2.toNat Xad).Bytes).toList)))) == false) (
 some (.done (.ret false))) (
 some (.go (Xaj .i64 (v2 + 1))))) (
 some (.done (.out ())))
def Xbl (p0 : (List Xaa)) (p1 : (List Xaa)) : Option Bool :=
 sel ((p0.length : Int) != (p1.length : Int)) (
 some false) (
 bnd (loop (Xby p0 p1) 0) fun o5 => match o5 with
| .out v4 => (
 some true)
| .ret r => some r)
def Xbt (p0 : Xah) (p1 : Xah) : Option Bool :=
 bnd (
 sel (p0.Begun == p1.Begun) (
 sel (p0.Next == p1.Next) (
 sel (p0.Age == p1.Age) (
 bnd (Xbl p0.Held p1.Held) fun q2 =>
 sel q2 (
 sel (p0.Late == p1.Late) (
 sel (p0.Far == p1.Far) (
 sel (p0.Twice == p1.Twice) (
 sel (p0.Over == p1.Over) (
 some (p0.Lost == p1.Lost)) (
 some false)) (
 some false)) (
 some false)) (
 some false)) (
 some false)) (
 some false)) (
 some false)) (
 some false)) fun v1 =>
 some v1
def Xdl (q2 : (Xah × (List Xaa))) (q4 : (List Int)) (v22 : (Int × Bool × Int × Int × Int × Int × Int × Int × Int × Bool × Int × Int × Int × Int × Int × Int × Int × (List Xaa) × (List Xaa))) : Option (Lp (Int × Bool × Int × Int × Int × Int × Int × Int × Int × Bool × Int × Int × Int × Int × Int × Int × Int × (List Xaa) × (List Xaa)) (Ou Unit Bool)) :=
 sel (decide (v22.1 < (q2.2.length : Int))) (
 Xtg (fun (v41 : (Bool × Int × Int × Int × Int × Int × Int × Int × Bool × Int × Int × Int × Int × Int × Int × Int × (List Xaa) × (List Xaa))) =>
 some (.go (Xaj .i64 (v22.1 + 1), v41.1, v41.2.1, v41.2.2.1, v41.2.2.2.1, v41.2.2.2.2.1, v41.2.2.2.2.2.1, v41.2.2.2.2.2.2.1, v41.2.2.2.2.2.2.2.1, v41.2.2.2.2.2.2.2.2.1, v41.2.2.2.2.2.2.2.2.2.1, v41.2.2.2.2.2.2.2.2.2.2.1, v41.2.2.2.2.2.2.2.2.2.2.2.1, v41.2.2.2.2.2.2.2.2.2.2.2.2.1, v41.2.2.2.2.2.2.2.2.2.2.2.2.2.1, v41.2.2.2.2.2.2.2.2.2.2.2.2.2.2.1, v41.2.2.2.2.2.2.2.2.2.2.2.2.2.2.2.1, v41.2.2.2.2.2.2.2.2.2.2.2.2.2.2.2.2.1, v41.2.2.2.2.2.2.2.2.2.2.2.2.2.2.2.2.2))) fun j17 =>
 req (0 ≤ v22.1 ∧ v22.1 < q2.2.length) <|
 req (v22.1.toNat < q2.2.length) <|
 bnd (Xdp (⟨v22.2.1, v22.2.2.1, v22.2.2.2.1, v22.2.2.2.2.2.2.2.2.2.2.2.2.2.2.2.2.2.1, v22.2.2.2.2.1, v22.2.2.2.2.2.1, v22.2.2.2.2.2.2.1, v22.2.2.2.2.2.2.2.1, v22.2.2.2.2.2.2.2.2.1⟩ : Xah) (⟨(q2.2.getD v22.1.toNat Xad).Seq, (q2.2.getD v22.1.toNat Xad).First, (q2.2.getD v22.1.toNat Xad).Last, (q2.2.getD v22.1.toNat Xad).Bytes⟩ : Xaa)) fun q42 =>
 req (0 ≤ v22.1 ∧ v22.1 < q2.2.length) <|
 req (v22.1.toNat < q2.2.length) <|
 bnd (Xdr (⟨v22.2.2.2.2.2.2.2.2.2.1, v22.2.2.2.2.2.2.2.2.2.2.1, v22.2.2.2.2.2.2.2.2.2.2.2.1, v22.2.2.2.2.2.2.2.2.2.2.2.2.2.2.2.2.2.2, v22.2.2.2.2.2.2.2.2.2.2.2.2.1, v22.2.2.2.2.2.2.2.2.2.2.2.2.2.1, v22.2.2.2.2.2.2.2.2.2.2.2.2.2.2.1, v22.2.2.2.2.2.2.2.2.2.2.2.2.2.2.2.1, v22.2.2.2.2.2.2.2.2.2.2.2.2.2.2.2.2.1⟩ : Xah) (⟨(q2.2.getD v22.1.toNat Xad).Seq, (q2.2.getD v22.1.toNat Xad).First, (q2.2.getD v22.1.toNat Xad).Last, (q2.2.getD v22.1.toNat Xad).Bytes⟩ : Xaa)) fun q43 =>
 bnd (
 sel (q42.2 != q43.2) (
 some true) (
 bnd (Xbt q42.1 q43.1) fun q45 =>
 sel q45 (
 bnd (Xbr q42.1) fun q46 =>
 sel q46 (
 some (decide ((q42.1.Held.length : Int) > 24))) (
 some true)) (
 some true))) fun v44 =>
 sel v44 (
 some (.done (.ret false))) (
 Xtg (fun (v47 : Unit) =>
 req ((12 : Int) ≠ 0) <|
 req (0 ≤ (v22.1.tmod 12) ∧ (v22.1.tmod 12) < q4.length) <|
 req ((v22.1.tmod 12).toNat < q4.length) <|
 req ((3 : Int) ≠ 0) <|
 sel (((q4.getD ((v22.1.tmod 12).toNat) 0).tmod 3) == 0) (
 req (0 ≤ (0 : Int) ∧ (0 : Int) < q4.length) <|
 req ((0 : Int).toNat < q4.length) <|
 req ((3 : Int) ≠ 0) <|
 bnd (Xcr q42.1 ((q4.getD ((0 : Int).toNat) 0).tmod 3)) fun q51 =>
 req (0 ≤ (0 : Int) ∧ (0 : Int) < q4.length) <|
 req ((0 : Int).toNat < q4.length) <|
 req ((3 : Int) ≠ 0) <|
 bnd (Xbu q43.1 ((q4.getD ((0 : Int).toNat) 0).tmod 3)) fun q52 =>
 bnd (
 sel (q51.2.2 != q52.2.2) (
 some true) (
 bnd (Xbl q51.2.1 q52.2.1) fun q54 =>
 sel q54 (
 bnd (Xbt q51.1 q52.1) fun q55 =>
 sel q55 (
 bnd (Xbr q51.1) fun q56 =>
 some (!q56)) (
 some true)) (
 some true))) fun v53 =>
 sel v53 (
 some (.done (.ret false))) (
 j17 (q51.1.Begun, q51.1.Next, q51.1.Age, q51.1.Late, q51.1.Far, q51.1.Twice, q51.1.Over, q51.1.Lost, q52.1.Begun, q52.1.Next, q52.1.Age, q52.1.Late, q52.1.Far, q52.1.Twice, q52.1.Over, q52.1.Lost, q51.1.Held, q52.1.Held))) (
 j17 (q42.1.Begun, q42.1.Next, q42.1.Age, q42.1.Late, q42.1.Far, q42.1.Twice, q42.1.Over, q42.1.Lost, q43.1.Begun, q43.1.Next, q43.1.Age, q43.1.Late, q43.1.Far, q43.1.Twice, q43.1.Over, q43.1.Lost, q42.1.Held, q43.1.Held))) fun j18 =>
 sel (q42.2 == 0) (
 req (0 ≤ v22.1 ∧ v22.1 < q2.2.length) <|
 req (v22.1.toNat < q2.2.length) <|
 bnd (Xdp q42.1 (⟨(q2.2.getD v22.1.toNat Xad).Seq, (q2.2.getD v22.1.toNat Xad).First, (q2.2.getD v22.1.toNat Xad).Last, (q2.2.getD v22.1.toNat Xad).Bytes⟩ : Xaa)) fun q48 =>
 bnd (
 sel (q48.2 != 5) (
 some true) (
 bnd (Xbt (⟨q48.1.Begun, q48.1.Next, q48.1.Age, q48.1.Held, q48.1.Late, q48.1.Far, Xaj .i64 (q48.1.Twice - 1), q48.1.Over, q48.1.Lost⟩ : Xah) q43.1) fun q50 =>
 some (!q50))) fun v49 =>
 sel v49 (
 some (.done (.ret false))) (
 j18 ())) (
 j18 ()))) (
 some (.done (.out ())))
def Xe7 (p0 : (List Int)) : Option Bool :=
 bnd (Xkk p0) fun q1 =>
 sel q1 (
 some true) (
 bnd (Xct p0) fun q2 =>
 bnd (Xct p0) fun q3 =>
 bnd (Xc4 p0) fun q4 =>
 bnd (loop (Xdl q2 q4) (0, q2.1.Begun, q2.1.Next, q2.1.Age, q2.1.Late, q2.1.Far, q2.1.Twice, q2.1.Over, q2.1.Lost, q3.1.Begun, q3.1.Next, q3.1.Age, q3.1.Late, q3.1.Far, q3.1.Twice, q3.1.Over, q3.1.Lost, q2.1.Held, q3.1.Held)) fun o57 => match o57 with
| .out v40 => (
 some true)
| .ret r => some r)
end
end Go.Proofs.Ytlebkepfhdjnmaa.A
