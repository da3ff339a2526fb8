/- What the functions that the law FnExactQueueTick reaches compute, over numbers, texts and lists. Written by a program of this session. Conditions: none. -/
import Derived.Test.YtlebkepfhdjnmaaAL2
namespace Go.Proofs.Ytlebkepfhdjnmaa.A
open Go Go.Proofs Go.Proofs.YtlebkepfhdjnmaaAL Go.RowKit
set_option linter.unusedVariables false
set_option linter.unusedSimpArgs false
structure Packet where
 Seq : Int
 First : Bool
 Last : Bool
 Bytes : ByteArray
structure Queue where
 Begun : Bool
 Next : Int
 Age : Int
 Held : (List Packet)
 Late : Int
 Far : Int
 Twice : Int
 Over : Int
 Lost : Int
def Xac : Packet := ⟨0, false, false, ⟨#[]⟩⟩
def Xn2 (x : Packet) : Prop := (Lit.int .i64 x.Seq).wf = true ∧ True ∧ True ∧ x.Bytes.size ≤ maxLen
def Xlk (x : Queue) : Prop := True ∧ (Lit.int .i64 x.Next).wf = true ∧ (Lit.int .i64 x.Age).wf = true ∧ (x.Held.length ≤ maxLen ∧ ∀ y ∈ x.Held, Xn2 y) ∧ (Lit.int .i64 x.Late).wf = true ∧ (Lit.int .i64 x.Far).wf = true ∧ (Lit.int .i64 x.Twice).wf = true ∧ (Lit.int .i64 x.Over).wf = true ∧ (Lit.int .i64 x.Lost).wf = true
noncomputable section
def Xbi (p0 : Int) (p1 : Int) (p2 : Int) : Option Bool :=
 bnd (
 sel (decide (p0 ≥ p1)) (
 some (decide (p0 ≤ p2))) (
 some false)) fun v1 =>
 some v1
def Xcq (p0 : Packet) (p1 : Int) : Option Int :=
 sel (decide ((Xaj .i64 (p1 - (p0.Bytes.size : Int))) < 0)) (
 some (-1)) (
 some (Xaj .i64 (p1 - (p0.Bytes.size : Int))))
def Xbm (p0 : (List Packet)) (v3 : (Int × Int)) : Option (Lp (Int × Int) (Ou Int Int)) :=
 sel (decide (v3.2 < (p0.length : Int))) (
 req (0 ≤ v3.2 ∧ v3.2 < p0.length) <|
 bnd (Xcq (⟨(p0.getD v3.2.toNat Xac).Seq, (p0.getD v3.2.toNat Xac).First, (p0.getD v3.2.toNat Xac).Last, (p0.getD v3.2.toNat Xac).Bytes⟩ : Packet) v3.1) fun q7 =>
 sel (decide (q7 < 0)) (
 some (.done (.ret (-1)))) (
 some (.go (q7, Xaj .i64 (v3.2 + 1))))) (
 some (.done (.out v3.1)))
def Xb9 (p0 : (List Packet)) (p1 : Int) : Option Int :=
 sel (decide ((Xaj .i64 (p1 - (p0.length : Int))) < 0)) (
 some (-1)) (
 bnd (loop (Xbm p0) (Xaj .i64 (p1 - (p0.length : Int)), 0)) fun o8 => match o8 with
| .out v6 => (
 some v6)
| .ret r => some r)
def Xc8 (p0 : Queue) (p1 : Int) : Option Int :=
 bnd (Xb9 p0.Held p1) fun q1 =>
 sel (decide (q1 < 0)) (
 some (-1)) (
 some q1)
def Xds (p0 : Packet) : Option Packet :=
 some p0
def Xbn (p0 : (List Packet)) (v4 : (Int × (List Packet))) : Option (Lp (Int × (List Packet)) (List Packet)) :=
 sel (decide (v4.1 < (p0.length : Int))) (
 req (0 ≤ v4.1 ∧ v4.1 < p0.length) <|
 bnd (Xds (⟨(p0.getD v4.1.toNat Xac).Seq, (p0.getD v4.1.toNat Xac).First, (p0.getD v4.1.toNat Xac).Last, (p0.getD v4.1.toNat Xac).Bytes⟩ : Packet)) fun q9 =>
 req (0 ≤ v4.1 ∧ v4.1 < v4.2.length) <|
 req (v4.1.toNat < v4.2.length) <|
 bnd (some (v4.2.set v4.1.toNat q9)) fun s10 =>
 some (.go (Xaj .i64 (v4.1 + 1), s10))) (
 some (.done v4.2))
def Xca (p0 : (List Packet)) : Option (List Packet) :=
 req (0 ≤ (p0.length : Int) ∧ (p0.length : Int) ≤ (p0.length : Int) ∧ (p0.length : Int) * 32 ≤ 281474976710656) <|
 bnd (loop (Xbn p0) (0, (List.replicate (p0.length : Int).toNat Xac))) fun v8 =>
 some v8
def Xbr (p0 : Queue) : Option Queue :=
 bnd (Xca p0.Held) fun q1 =>
 some (⟨p0.Begun, p0.Next, p0.Age, q1, p0.Late, p0.Far, p0.Twice, p0.Over, p0.Lost⟩ : Queue)
def Xdc (p0 : Queue) : Option Queue :=
 req ((([] : List Packet).length + p0.Held.length) * 32 ≤ 140737488355328 ∧ ([] : List Packet).length + p0.Held.length ≤ maxLen) <|
 some (⟨p0.Begun, p0.Next, p0.Age, (([] : List Packet) ++ p0.Held), p0.Late, p0.Far, p0.Twice, p0.Over, p0.Lost⟩ : Queue)
def Xaz (p0 : Int) (p1 : Int) (p2 : Int) : Option Bool :=
 bnd (
 sel (decide (p0 ≥ p1)) (
 some (decide (p0 ≤ p2))) (
 some false)) fun v1 =>
 some v1
def Xc2 (p0 : Int) (p1 : Int) : Option Int :=
 bnd (
 bnd (Xaz p0 0 65535) fun q2 =>
 sel q2 (
 bnd (Xaz p1 0 65535) fun q3 =>
 some (!q3)) (
 some true)) fun v1 =>
 sel v1 (
 some 0) (
 bnd (
 sel (decide ((Xaj .i64 (p1 - p0)) > 32767)) (
 some (Xaj .i64 ((Xaj .i64 (p1 - p0)) - 65536))) (
 some (Xaj .i64 (p1 - p0)))) fun v4 =>
 bnd (
 sel (decide (v4 < (-32768))) (
 some (Xaj .i64 (v4 + 65536))) (
 some v4)) fun v5 =>
 some v5)
def Xcu (p0 : Packet) : Option Bool :=
 bnd (
 bnd (Xaz p0.Seq 0 65535) fun q2 =>
 sel q2 (
 bnd (Xaz (p0.Bytes.size : Int) 1 400) fun q3 =>
 some q3) (
 some false)) fun v1 =>
 some v1
def Xa3 (p0 : Int) : Option Bool :=
 bnd (Xaz p0 0 1000000000) fun q1 =>
 some q1
def Xbp (p0 : Queue) (v9 : (Int × Int)) : Option (Lp (Int × Int) (Ou Unit Bool)) :=
 sel (decide (v9.2 < (p0.Held.length : Int))) (
 req (0 ≤ v9.2 ∧ v9.2 < p0.Held.length) <|
 bnd (Xc2 p0.Next ((p0.Held.getD v9.2.toNat Xac).Seq)) fun q15 =>
 bnd (
 req (0 ≤ v9.2 ∧ v9.2 < p0.Held.length) <|
 bnd (Xcu (⟨(p0.Held.getD v9.2.toNat Xac).Seq, (p0.Held.getD v9.2.toNat Xac).First, (p0.Held.getD v9.2.toNat Xac).Last, (p0.Held.getD v9.2.toNat Xac).Bytes⟩ : Packet)) fun q17 =>
 sel q17 (
 sel (decide (q15 ≤ v9.1)) (
 some true) (
 some (decide (q15 ≥ 40)))) (
 some true)) fun v16 =>
 sel v16 (
 some (.done (.ret false))) (
 some (.go (q15, Xaj .i64 (v9.2 + 1))))) (
 some (.done (.out ())))
def Xdb (p0 : Queue) : Option Bool :=
 sel (!p0.Begun) (
 bnd (
 sel (p0.Next == 0) (
 sel (p0.Age == 0) (
 sel ((p0.Held.length : Int) == 0) (
 sel (p0.Late == 0) (
 sel (p0.Far == 0) (
 sel (p0.Twice == 0) (
 sel (p0.Over == 0) (
 some (p0.Lost == 0)) (
 some false)) (
 some false)) (
 some false)) (
 some false)) (
 some false)) (
 some false)) (
 some false)) fun v1 =>
 some v1) (
 bnd (
 bnd (Xaz p0.Next 0 65535) fun q3 =>
 sel q3 (
 bnd (Xaz p0.Age 0 20) fun q4 =>
 sel q4 (
 some (decide ((p0.Held.length : Int) > 24))) (
 some true)) (
 some true)) fun v2 =>
 sel v2 (
 some false) (
 bnd (loop (Xbp p0) ((-1), 0)) fun o18 => match o18 with
| .out v14 => (
 bnd (
 bnd (Xa3 p0.Late) fun q20 =>
 sel q20 (
 bnd (Xa3 p0.Far) fun q21 =>
 sel q21 (
 bnd (Xa3 p0.Twice) fun q22 =>
 sel q22 (
 bnd (Xa3 p0.Over) fun q23 =>
 sel q23 (
 bnd (Xa3 p0.Lost) fun q24 =>
 some q24) (
 some false)) (
 some false)) (
 some false)) (
 some false)) fun v19 =>
 some v19)
| .ret r => some r))
def Xa1 (p0 : Queue) (v3 : Int) : Option (Lp Int (Ou Unit Int)) :=
 sel (decide (v3 < (p0.Held.length : Int))) (
 req (0 ≤ v3 ∧ v3 < p0.Held.length) <|
 bnd (Xc2 p0.Next ((p0.Held.getD v3.toNat Xac).Seq)) fun q7 =>
 sel (q7 != v3) (
 some (.done (.ret 0))) (
 req (0 ≤ v3 ∧ v3 < p0.Held.length) <|
 sel ((p0.Held.getD v3.toNat Xac).Last) (
 some (.done (.ret (Xaj .i64 (v3 + 1))))) (
 some (.go (Xaj .i64 (v3 + 1)))))) (
 some (.done (.out ())))
def Xcv (p0 : Queue) : Option Int :=
 bnd (loop (Xa1 p0) 0) fun o8 => match o8 with
| .out v6 => (
 some 0)
| .ret r => some r
def Xck (p0 : Int) (p1 : Int) : Option Int :=
 bnd (
 bnd (Xaz p0 0 65535) fun q2 =>
 sel q2 (
 bnd (Xaz p1 0 65535) fun q3 =>
 some (!q3)) (
 some true)) fun v1 =>
 sel v1 (
 some 0) (
 req ((65536 : Int) ≠ 0) <|
 some ((Xaj .i64 (p0 + p1)).tmod 65536))
def Xda (p0 : Int) (p1 : Int) (p2 : Int) : Option Int :=
 bnd (
 sel (decide (p2 < p1)) (
 some true) (
 some (decide (p0 < p1)))) fun v1 =>
 sel v1 (
 some p1) (
 sel (decide (p0 > p2)) (
 some p2) (
 some p0))
def Xdd (p0 : Int) : Option Int :=
 bnd (Xda (Xaj .i64 (p0 + 1)) 0 1000000000) fun q1 =>
 some q1
def Xar (q1 : Queue) (v9 : Int) : Option (Lp Int Int) :=
 bnd (
 sel (decide (v9 < (q1.Held.length : Int))) (
 req (0 ≤ v9 ∧ v9 < q1.Held.length) <|
 req (v9.toNat < q1.Held.length) <|
 sel ((q1.Held.getD v9.toNat Xac).First) (
 req (0 ≤ v9 ∧ v9 < q1.Held.length) <|
 req (v9.toNat < q1.Held.length) <|
 some (!(((q1.Held.getD v9.toNat Xac).Seq) != q1.Next))) (
 some true)) (
 some false)) fun v13 =>
 sel v13 (
 some (.go (Xaj .i64 (v9 + 1)))) (
 some (.done v9))
def Xcb (p0 : Queue) (p1 : Int) : Option (Queue × (List Packet) × Int) :=
 bnd (Xdc p0) fun q1 =>
 bnd (
 bnd (Xdb q1) fun q3 =>
 sel q3 (
 bnd (Xaz p1 0 20) fun q4 =>
 some (!q4)) (
 some true)) fun v2 =>
 sel v2 (
 some (q1, ([] : List Packet), 0)) (
 bnd (Xcv q1) fun q5 =>
 sel (decide (q5 > 0)) (
 req (0 ≤ (0 : Int) ∧ (0 : Int) ≤ q5 ∧ q5 ≤ (q1.Held.length : Int)) <|
 req (((0 : Int).toNat + (q5.toNat - (0 : Int).toNat) ≤ q1.Held.length) ∧ (([] : List Packet).length + ((q1.Held.drop ((0 : Int).toNat)).take (q5.toNat - (0 : Int).toNat)).length) * 32 ≤ 140737488355328 ∧ ([] : List Packet).length + ((q1.Held.drop ((0 : Int).toNat)).take (q5.toNat - (0 : Int).toNat)).length ≤ maxLen) <|
 bnd (Xck q1.Next q5) fun q6 =>
 req (0 ≤ q5 ∧ q5 ≤ (q1.Held.length : Int) ∧ (q1.Held.length : Int) ≤ (q1.Held.length : Int)) <|
 req ((q5.toNat + ((q1.Held.length : Int).toNat - q5.toNat) ≤ q1.Held.length) ∧ (([] : List Packet).length + ((q1.Held.drop q5.toNat).take ((q1.Held.length : Int).toNat - q5.toNat)).length) * 32 ≤ 140737488355328 ∧ ([] : List Packet).length + ((q1.Held.drop q5.toNat).take ((q1.Held.length : Int).toNat - q5.toNat)).length ≤ maxLen) <|
 some ((⟨q1.Begun, q6, 0, (([] : List Packet) ++ ((q1.Held.drop q5.toNat).take ((q1.Held.length : Int).toNat - q5.toNat))), q1.Late, q1.Far, q1.Twice, q1.Over, q1.Lost⟩ : Queue), (([] : List Packet) ++ ((q1.Held.drop ((0 : Int).toNat)).take (q5.toNat - (0 : Int).toNat))), 1)) (
 sel ((q1.Held.length : Int) == 0) (
 some ((⟨q1.Begun, q1.Next, 0, q1.Held, q1.Late, q1.Far, q1.Twice, q1.Over, q1.Lost⟩ : Queue), ([] : List Packet), 0)) (
 sel (decide (q1.Age < p1)) (
 some ((⟨q1.Begun, q1.Next, Xaj .i64 (q1.Age + 1), q1.Held, q1.Late, q1.Far, q1.Twice, q1.Over, q1.Lost⟩ : Queue), ([] : List Packet), 0)) (
 bnd (loop (Xar q1) 0) fun v12 =>
 bnd (
 sel (decide (v12 < (q1.Held.length : Int))) (
 req (0 ≤ v12 ∧ v12 < q1.Held.length) <|
 req (v12.toNat < q1.Held.length) <|
 some ((q1.Held.getD v12.toNat Xac).Seq)) (
 req (0 ≤ (Xaj .i64 (v12 - 1)) ∧ (Xaj .i64 (v12 - 1)) < q1.Held.length) <|
 req ((Xaj .i64 (v12 - 1)).toNat < q1.Held.length) <|
 bnd (Xck ((q1.Held.getD ((Xaj .i64 (v12 - 1)).toNat) Xac).Seq) 1) fun q16 =>
 some q16)) fun v15 =>
 req (0 ≤ v12 ∧ v12 ≤ (q1.Held.length : Int) ∧ (q1.Held.length : Int) ≤ (q1.Held.length : Int)) <|
 req ((v12.toNat + ((q1.Held.length : Int).toNat - v12.toNat) ≤ q1.Held.length) ∧ (([] : List Packet).length + ((q1.Held.drop v12.toNat).take ((q1.Held.length : Int).toNat - v12.toNat)).length) * 32 ≤ 140737488355328 ∧ ([] : List Packet).length + ((q1.Held.drop v12.toNat).take ((q1.Held.length : Int).toNat - v12.toNat)).length ≤ maxLen) <|
 bnd (Xdd q1.Lost) fun q17 =>
 some ((⟨q1.Begun, v15, 0, (([] : List Packet) ++ ((q1.Held.drop v12.toNat).take ((q1.Held.length : Int).toNat - v12.toNat))), q1.Late, q1.Far, q1.Twice, q1.Over, q17⟩ : Queue), ([] : List Packet), 2)))))
def Xb8 (p0 : Queue) : Option Queue :=
 req ((([] : List Packet).length + p0.Held.length) * 32 ≤ 140737488355328 ∧ ([] : List Packet).length + p0.Held.length ≤ maxLen) <|
 some (⟨p0.Begun, p0.Next, p0.Age, (([] : List Packet) ++ p0.Held), p0.Late, p0.Far, p0.Twice, p0.Over, p0.Lost⟩ : Queue)
def Xas (p0 : Int) : Option Bool :=
 bnd (Xbi p0 0 65535) fun q1 =>
 some q1
def Xdx (p0 : Int) (p1 : Int) : Option Int :=
 bnd (
 bnd (Xas p0) fun q2 =>
 sel q2 (
 bnd (Xas p1) fun q3 =>
 some (!q3)) (
 some true)) fun v1 =>
 sel v1 (
 some 0) (
 req ((65536 : Int) ≠ 0) <|
 bnd (
 sel (decide (((Xaj .i64 ((Xaj .i64 (p1 - p0)) + 65536)).tmod 65536) ≥ 32768)) (
 some (Xaj .i64 (((Xaj .i64 ((Xaj .i64 (p1 - p0)) + 65536)).tmod 65536) - 65536))) (
 some ((Xaj .i64 ((Xaj .i64 (p1 - p0)) + 65536)).tmod 65536))) fun v4 =>
 some v4)
def Xcm (p0 : Packet) : Option Bool :=
 bnd (
 bnd (Xas p0.Seq) fun q2 =>
 sel q2 (
 bnd (Xbi (p0.Bytes.size : Int) 1 400) fun q3 =>
 some q3) (
 some false)) fun v1 =>
 some v1
def Xbk (p0 : Queue) (v10 : (Int × Int)) : Option (Lp (Int × Int) (Ou Unit Bool)) :=
 sel (decide (v10.2 < (p0.Held.length : Int))) (
 req (0 ≤ v10.2 ∧ v10.2 < p0.Held.length) <|
 bnd (Xdx p0.Next ((p0.Held.getD v10.2.toNat Xac).Seq)) fun q17 =>
 bnd (
 bnd (Xcm (⟨(p0.Held.getD v10.2.toNat Xac).Seq, (p0.Held.getD v10.2.toNat Xac).First, (p0.Held.getD v10.2.toNat Xac).Last, (p0.Held.getD v10.2.toNat Xac).Bytes⟩ : Packet)) fun q19 =>
 sel q19 (
 bnd (Xbi q17 (Xaj .i64 (v10.1 + 1)) 39) fun q20 =>
 some (!q20)) (
 some true)) fun v18 =>
 sel v18 (
 some (.done (.ret false))) (
 some (.go (q17, Xaj .i64 (v10.2 + 1))))) (
 some (.done (.out ())))
def Xav (p0 : Queue) (v24 : Int) : Option (Lp Int (Ou Unit Bool)) :=
 sel (decide (v24 < (([p0.Late, p0.Far, p0.Twice, p0.Over, p0.Lost]).length : Int))) (
 req (0 ≤ v24 ∧ v24 < ([p0.Late, p0.Far, p0.Twice, p0.Over, p0.Lost]).length) <|
 req (v24.toNat < ([p0.Late, p0.Far, p0.Twice, p0.Over, p0.Lost]).length) <|
 bnd (Xbi (([p0.Late, p0.Far, p0.Twice, p0.Over, p0.Lost]).getD v24.toNat 0) 0 1000000000) fun q28 =>
 sel (!q28) (
 some (.done (.ret false))) (
 some (.go (Xaj .i64 (v24 + 1))))) (
 some (.done (.out ())))
def Xc6 (p0 : Queue) : Option Bool :=
 sel (!p0.Begun) (
 bnd (
 sel (p0.Next == 0) (
 sel (p0.Age == 0) (
 sel ((p0.Held.length : Int) == 0) (
 sel (p0.Late == 0) (
 sel (p0.Far == 0) (
 sel (p0.Twice == 0) (
 sel (p0.Over == 0) (
 some (p0.Lost == 0)) (
 some false)) (
 some false)) (
 some false)) (
 some false)) (
 some false)) (
 some false)) (
 some false)) fun v1 =>
 some v1) (
 bnd (
 bnd (Xas p0.Next) fun q3 =>
 sel q3 (
 bnd (Xbi p0.Age 0 20) fun q4 =>
 sel q4 (
 some (decide ((p0.Held.length : Int) > 24))) (
 some true)) (
 some true)) fun v2 =>
 sel v2 (
 some false) (
 bnd (loop (Xbk p0) ((-1), 0)) fun o21 => match o21 with
| .out v16 => (
 bnd (loop (Xav p0) 0) fun o29 => match o29 with
| .out v27 => (
 some true)
| .ret r => some r)
| .ret r => some r))
def Xb1 (p0 : Int) (p1 : Int) : Option Int :=
 bnd (
 bnd (Xas p0) fun q2 =>
 sel q2 (
 bnd (Xas p1) fun q3 =>
 some (!q3)) (
 some true)) fun v1 =>
 sel v1 (
 some 0) (
 req ((65536 : Int) ≠ 0) <|
 some ((Xaj .i64 (p0 + p1)).tmod 65536))
def Xc7 (p0 : Int) : Option Int :=
 some (if (1000000000 : Int) < (Xaj .i64 (p0 + 1)) then (1000000000 : Int) else (Xaj .i64 (p0 + 1)))
def Xao (p0 : Queue) (q1 : Queue) (v8 : Int) : Option (Lp Int (Ou Unit (Queue × (List Packet) × Int))) :=
 sel (decide (v8 < (q1.Held.length : Int))) (
 req (0 ≤ v8 ∧ v8 < q1.Held.length) <|
 req (v8.toNat < q1.Held.length) <|
 bnd (Xb1 p0.Next v8) fun q13 =>
 sel (((q1.Held.getD v8.toNat Xac).Seq) != q13) (
 some (.done (.out ()))) (
 sel ((q1.Held.getD v8.toNat Xac).Last) (
 req (0 ≤ (0 : Int) ∧ (0 : Int) ≤ (Xaj .i64 (v8 + 1)) ∧ (Xaj .i64 (v8 + 1)) ≤ (q1.Held.length : Int)) <|
 req (((0 : Int).toNat + ((Xaj .i64 (v8 + 1)).toNat - (0 : Int).toNat) ≤ q1.Held.length) ∧ (([] : List Packet).length + ((q1.Held.drop ((0 : Int).toNat)).take ((Xaj .i64 (v8 + 1)).toNat - (0 : Int).toNat)).length) * 32 ≤ 140737488355328 ∧ ([] : List Packet).length + ((q1.Held.drop ((0 : Int).toNat)).take ((Xaj .i64 (v8 + 1)).toNat - (0 : Int).toNat)).length ≤ maxLen) <|
 req (0 ≤ (Xaj .i64 (v8 + 1)) ∧ (Xaj .i64 (v8 + 1)) ≤ (q1.Held.length : Int) ∧ (q1.Held.length : Int) ≤ (q1.Held.length : Int)) <|
 req (((Xaj .i64 (v8 + 1)).toNat + ((q1.Held.length : Int).toNat - (Xaj .i64 (v8 + 1)).toNat) ≤ q1.Held.length) ∧ (([] : List Packet).length + ((q1.Held.drop ((Xaj .i64 (v8 + 1)).toNat)).take ((q1.Held.length : Int).toNat - (Xaj .i64 (v8 + 1)).toNat)).length) * 32 ≤ 140737488355328 ∧ ([] : List Packet).length + ((q1.Held.drop ((Xaj .i64 (v8 + 1)).toNat)).take ((q1.Held.length : Int).toNat - (Xaj .i64 (v8 + 1)).toNat)).length ≤ maxLen) <|
 bnd (Xb1 ((q1.Held.getD v8.toNat Xac).Seq) 1) fun q14 =>
 some (.done (.ret ((⟨q1.Begun, q14, 0, (([] : List Packet) ++ ((q1.Held.drop ((Xaj .i64 (v8 + 1)).toNat)).take ((q1.Held.length : Int).toNat - (Xaj .i64 (v8 + 1)).toNat))), q1.Late, q1.Far, q1.Twice, q1.Over, q1.Lost⟩ : Queue), (([] : List Packet) ++ ((q1.Held.drop ((0 : Int).toNat)).take ((Xaj .i64 (v8 + 1)).toNat - (0 : Int).toNat))), 1)))) (
 some (.go (Xaj .i64 (v8 + 1)))))) (
 some (.done (.out ())))
def Xap (p0 : Queue) (q17 : Int) (v20 : Int) : Option (Lp Int (Int × (List Packet))) :=
 sel (decide (v20 < (p0.Held.length : Int))) (
 req (0 ≤ v20 ∧ v20 < p0.Held.length) <|
 bnd (
 sel ((p0.Held.getD v20.toNat Xac).First) (
 some (((p0.Held.getD v20.toNat Xac).Seq) != p0.Next)) (
 some false)) fun v24 =>
 sel v24 (
 req (0 ≤ v20 ∧ v20 ≤ (p0.Held.length : Int) ∧ (p0.Held.length : Int) ≤ (p0.Held.length : Int)) <|
 req ((([] : List Packet).length + ((p0.Held.drop v20.toNat).take ((p0.Held.length : Int).toNat - v20.toNat)).length) * 32 ≤ 140737488355328 ∧ ([] : List Packet).length + ((p0.Held.drop v20.toNat).take ((p0.Held.length : Int).toNat - v20.toNat)).length ≤ maxLen) <|
 some (.done ((p0.Held.getD v20.toNat Xac).Seq, (([] : List Packet) ++ ((p0.Held.drop v20.toNat).take ((p0.Held.length : Int).toNat - v20.toNat)))))) (
 some (.go (Xaj .i64 (v20 + 1))))) (
 some (.done (q17, ([] : List Packet))))
def Xbx (p0 : Queue) (p1 : Int) : Option (Queue × (List Packet) × Int) :=
 bnd (Xb8 p0) fun q1 =>
 bnd (
 bnd (Xc6 p0) fun q3 =>
 sel q3 (
 bnd (Xbi p1 0 20) fun q4 =>
 some (!q4)) (
 some true)) fun v2 =>
 sel v2 (
 some (q1, ([] : List Packet), 0)) (
 bnd (loop (Xao p0 q1) 0) fun o15 => match o15 with
| .out v12 => (
 sel ((p0.Held.length : Int) == 0) (
 some ((⟨q1.Begun, q1.Next, 0, q1.Held, q1.Late, q1.Far, q1.Twice, q1.Over, q1.Lost⟩ : Queue), ([] : List Packet), 0)) (
 sel (decide (p0.Age < p1)) (
 some ((⟨q1.Begun, q1.Next, Xaj .i64 (q1.Age + 1), q1.Held, q1.Late, q1.Far, q1.Twice, q1.Over, q1.Lost⟩ : Queue), ([] : List Packet), 0)) (
 bnd (Xc7 p0.Lost) fun q16 =>
 req (0 ≤ (Xaj .i64 ((p0.Held.length : Int) - 1)) ∧ (Xaj .i64 ((p0.Held.length : Int) - 1)) < p0.Held.length) <|
 bnd (Xb1 ((p0.Held.getD (Xaj .i64 ((p0.Held.length : Int) - 1)).toNat Xac).Seq) 1) fun q17 =>
 bnd (loop (Xap p0 q17) 0) fun v23 =>
 some ((⟨q1.Begun, v23.1, 0, v23.2, q1.Late, q1.Far, q1.Twice, q1.Over, q16⟩ : Queue), ([] : List Packet), 2))))
| .ret r => some r)
def Xco (p0 : Packet) (p1 : Packet) : Option Bool :=
 sel (p0.Seq != p1.Seq) (
 some false) (
 sel (!(p0.First == p1.First)) (
 some false) (
 sel (!(p0.Last == p1.Last)) (
 some false) (
 sel (!(p0.Bytes.toList == p1.Bytes.toList)) (
 some false) (
 some true))))
def Xbl (p0 : (List Packet)) (p1 : (List Packet)) (v3 : Int) : Option (Lp Int (Ou Unit Bool)) :=
 sel (decide (v3 < (p0.length : Int))) (
 req (0 ≤ v3 ∧ v3 < p0.length) <|
 req (0 ≤ v3 ∧ v3 < p1.length) <|
 bnd (Xco (⟨(p0.getD v3.toNat Xac).Seq, (p0.getD v3.toNat Xac).First, (p0.getD v3.toNat Xac).Last, (p0.getD v3.toNat Xac).Bytes⟩ : Packet) (⟨(p1.getD v3.toNat Xac).Seq, (p1.getD v3.toNat Xac).First, (p1.getD v3.toNat Xac).Last, (p1.getD v3.toNat Xac).Bytes⟩ : Packet)) fun q7 =>
 sel (!q7) (
 some (.done (.ret false))) (
 some (.go (Xaj .i64 (v3 + 1))))) (
 some (.done (.out ())))
def Xa4 (p0 : (List Packet)) (p1 : (List Packet)) : Option Bool :=
 sel ((p0.length : Int) != (p1.length : Int)) (
 some false) (
 bnd (loop (Xbl p0 p1) 0) fun o8 => match o8 with
| .out v6 => (
 some true)
| .ret r => some r)
def Xbq (p0 : Queue) (p1 : Queue) : Option Bool :=
 sel (!(p0.Begun == p1.Begun)) (
 some false) (
 sel (p0.Next != p1.Next) (
 some false) (
 sel (p0.Age != p1.Age) (
 some false) (
 bnd (Xa4 p0.Held p1.Held) fun q1 =>
 sel (!q1) (
 some false) (
 sel (p0.Late != p1.Late) (
 some false) (
 sel (p0.Far != p1.Far) (
 some false) (
 sel (p0.Twice != p1.Twice) (
 some false) (
 sel (p0.Over != p1.Over) (
 some false) (
 sel (p0.Lost != p1.Lost) (
 some false) (
 some true)))))))))
def Xcd (v2 : (Int × ByteArray)) : Option (Lp (Int × ByteArray) ByteArray) :=
 sel (decide (v2.1 > 0)) (
 req ((10 : Int) ≠ 0) <|
 req ((strOfNums ([Xaj .u8 (Xaj .i64 (48 + (v2.1.tmod 10)))])).size + v2.2.size ≤ 9223372036854775807) <|
 req ((10 : Int) ≠ 0) <|
 some (.go (Xaj .i64 (v2.1.tdiv 10), ((strOfNums ([Xaj .u8 (Xaj .i64 (48 + (v2.1.tmod 10)))])) ++ v2.2)))) (
 some (.done v2.2))
def Xbf (p0 : Int) : Option ByteArray :=
 sel (decide (p0 ≤ 0)) (
 some ⟨#[109, 48]⟩) (
 bnd (loop (Xcd) (p0, ⟨#[]⟩)) fun v4 =>
 req ((⟨#[109]⟩ : ByteArray).size + v4.size ≤ 9223372036854775807) <|
 some ((⟨#[109]⟩ : ByteArray) ++ v4))
def Xa6 (v7 : (Int × Int × (List Packet))) : Option (Lp (Int × Int × (List Packet)) (Int × (List Packet))) :=
 sel (decide (v7.2.1 < (v7.2.2.length : Int))) (
 req (0 ≤ v7.2.1 ∧ v7.2.1 < v7.2.2.length) <|
 req (v7.2.1.toNat < v7.2.2.length) <|
 bnd (some (v7.2.2.set v7.2.1.toNat (⟨v7.1, (v7.2.2.getD v7.2.1.toNat Xac).First, (v7.2.2.getD v7.2.1.toNat Xac).Last, (v7.2.2.getD v7.2.1.toNat Xac).Bytes⟩ : Packet))) fun s15 =>
 req ((3 : Int) ≠ 0) <|
 req (0 ≤ v7.2.1 ∧ v7.2.1 < s15.length) <|
 req (v7.2.1.toNat < s15.length) <|
 bnd (some (s15.set v7.2.1.toNat (⟨(s15.getD v7.2.1.toNat Xac).Seq, (((Xaj .i64 (v7.1 + 1)).tmod 3) == 0), (s15.getD v7.2.1.toNat Xac).Last, (s15.getD v7.2.1.toNat Xac).Bytes⟩ : Packet))) fun s16 =>
 req ((3 : Int) ≠ 0) <|
 req (0 ≤ v7.2.1 ∧ v7.2.1 < s16.length) <|
 req (v7.2.1.toNat < s16.length) <|
 bnd (some (s16.set v7.2.1.toNat (⟨(s16.getD v7.2.1.toNat Xac).Seq, (s16.getD v7.2.1.toNat Xac).First, (((Xaj .i64 ((Xaj .i64 (v7.1 + 1)) + 1)).tmod 3) == 0), (s16.getD v7.2.1.toNat Xac).Bytes⟩ : Packet))) fun s17 =>
 bnd (Xbf (Xaj .i64 ((Xaj .i64 ((Xaj .i64 (v7.1 + 1)) + 1)) + 1))) fun q18 =>
 req (0 ≤ v7.2.1 ∧ v7.2.1 < s17.length) <|
 req (v7.2.1.toNat < s17.length) <|
 bnd (some (s17.set v7.2.1.toNat (⟨(s17.getD v7.2.1.toNat Xac).Seq, (s17.getD v7.2.1.toNat Xac).First, (s17.getD v7.2.1.toNat Xac).Last, q18⟩ : Packet))) fun s19 =>
 some (.go (Xaj .i64 ((Xaj .i64 ((Xaj .i64 ((Xaj .i64 (v7.1 + 1)) + 1)) + 1)) + 1), Xaj .i64 (v7.2.1 + 1), s19))) (
 some (.done (v7.1, v7.2.2)))
def Xbd (p0 : (List Packet)) (p1 : Int) : Option (Int × (List Packet)) :=
 bnd (loop (Xa6) (p1, 0, p0)) fun v14 =>
 some (v14.1, v14.2)
def Xb0 (p0 : Queue) (p1 : Int) : Option (Int × Queue) :=
 bnd (Xbd p0.Held p1) fun q1 =>
 some (q1.1, (⟨p0.Begun, p0.Next, p0.Age, q1.2, p0.Late, p0.Far, p0.Twice, p0.Over, p0.Lost⟩ : Queue))
def Xa5 (p0 : (List Packet)) (v3 : (Int × Int)) : Option (Lp (Int × Int) (Ou Int Int)) :=
 sel (decide (v3.2 < (p0.length : Int))) (
 req (0 ≤ v3.2 ∧ v3.2 < p0.length) <|
 sel (((p0.getD v3.2.toNat Xac).Seq) != v3.1) (
 some (.done (.ret (-1)))) (
 req (0 ≤ v3.2 ∧ v3.2 < p0.length) <|
 req ((3 : Int) ≠ 0) <|
 sel (!(((p0.getD v3.2.toNat Xac).First) == (((Xaj .i64 (v3.1 + 1)).tmod 3) == 0))) (
 some (.done (.ret (-1)))) (
 req (0 ≤ v3.2 ∧ v3.2 < p0.length) <|
 req ((3 : Int) ≠ 0) <|
 sel (!(((p0.getD v3.2.toNat Xac).Last) == (((Xaj .i64 ((Xaj .i64 (v3.1 + 1)) + 1)).tmod 3) == 0))) (
 some (.done (.ret (-1)))) (
 req (0 ≤ v3.2 ∧ v3.2 < p0.length) <|
 bnd (Xbf (Xaj .i64 ((Xaj .i64 ((Xaj .i64 (v3.1 + 1)) + 1)) + 1))) fun q7 =>
 sel (!(((p0.getD v3.2.toNat Xac).Bytes).toList == q7.toList)) (
 some (.done (.ret (-1)))) (
 some (.go (Xaj .i64 ((Xaj .i64 ((Xaj .i64 ((Xaj .i64 (v3.1 + 1)) + 1)) + 1)) + 1), Xaj .i64 (v3.2 + 1)))))))) (
 some (.done (.out v3.1)))
def Xa0 (p0 : (List Packet)) (p1 : Int) : Option Int :=
 bnd (loop (Xa5 p0) (p1, 0)) fun o8 => match o8 with
| .out v6 => (
 some v6)
| .ret r => some r
def Xbz (p0 : Queue) (p1 : Int) : Option Int :=
 bnd (Xa0 p0.Held p1) fun q1 =>
 sel (decide (q1 < 0)) (
 some (-1)) (
 some q1)
def Xbe (p0 : Queue) (p1 : Int) : Option Bool :=
 bnd (Xc8 p0 1048576) fun q1 =>
 sel (decide (q1 < 0)) (
 some true) (
 bnd (Xbr p0) fun q2 =>
 bnd (Xcb q2 p1) fun q3 =>
 bnd (Xbr p0) fun q4 =>
 bnd (Xbx q4 p1) fun q5 =>
 bnd (
 bnd (Xbq q5.1 q3.1) fun q7 =>
 sel q7 (
 bnd (Xa4 q5.2.1 q3.2.1) fun q8 =>
 sel q8 (
 some (q5.2.2 != q3.2.2)) (
 some true)) (
 some true)) fun v6 =>
 sel v6 (
 some false) (
 bnd (Xbr p0) fun q9 =>
 bnd (Xbq q4 q9) fun q10 =>
 sel (!q10) (
 some false) (
 bnd (Xb0 q4 1) fun q11 =>
 bnd (
 sel (decide (q11.1 < 0)) (
 some true) (
 bnd (Xbq q5.1 q3.1) fun q13 =>
 sel q13 (
 bnd (Xa4 q5.2.1 q3.2.1) fun q14 =>
 sel q14 (
 some (q5.2.2 != q3.2.2)) (
 some true)) (
 some true))) fun v12 =>
 sel v12 (
 some false) (
 bnd (Xb0 q5.1 1) fun q15 =>
 bnd (Xbd q5.2.1 q15.1) fun q16 =>
 bnd (Xbz (⟨q5.1.Begun, q5.1.Next, q5.1.Age, q15.2.Held, q5.1.Late, q5.1.Far, q5.1.Twice, q5.1.Over, q5.1.Lost⟩ : Queue) 1) fun q17 =>
 sel (decide (q17 < 0)) (
 some false) (
 bnd (Xa0 q16.2 q17) fun q18 =>
 sel (decide (q18 < 0)) (
 some false) (
 sel (q18 != q16.1) (
 some false) (
 bnd (Xbr p0) fun q19 =>
 bnd (Xbx q19 p1) fun q20 =>
 bnd (
 bnd (Xbq q20.1 q3.1) fun q22 =>
 sel q22 (
 bnd (Xa4 q20.2.1 q3.2.1) fun q23 =>
 sel q23 (
 some (q20.2.2 != q3.2.2)) (
 some true)) (
 some true)) fun v21 =>
 sel v21 (
 some false) (
 bnd (Xbz (⟨q5.1.Begun, q5.1.Next, q5.1.Age, q15.2.Held, q5.1.Late, q5.1.Far, q5.1.Twice, q5.1.Over, q5.1.Lost⟩ : Queue) 1) fun q24 =>
 sel (decide (q24 < 0)) (
 some false) (
 bnd (Xa0 q16.2 q24) fun q25 =>
 sel (decide (q25 < 0)) (
 some false) (
 sel (q25 != q16.1) (
 some false) (
 some true)))))))))))
end
end Go.Proofs.Ytlebkepfhdjnmaa.A
