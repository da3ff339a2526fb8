/- What the functions that the law FnExactQueueIn reaches compute, over numbers, texts and lists. Written by a program of this session. Conditions: none. -/
import Derived.Test.YtlebkepfhdjnmaaAL2
namespace Go.Proofs.Ytlebkepfhdjnmaa.A
open Go Go.Proofs Go.Proofs.YtlebkepfhdjnmaaAL Go.RowKit
set_option linter.unusedVariables false
set_option linter.unusedSimpArgs false
structure Packet where
 Seq : Int
 First : Bool
 Last : Bool
 Bytes : ByteArray
structure Queue where
 Begun : Bool
 Next : Int
 Age : Int
 Held : (List Packet)
 Late : Int
 Far : Int
 Twice : Int
 Over : Int
 Lost : Int
def Xad : Packet := ⟨0, false, false, ⟨#[]⟩⟩
def Xl6 (x : Packet) : Prop := (Lit.int .i64 x.Seq).wf = true ∧ True ∧ True ∧ x.Bytes.size ≤ maxLen
def Xl7 (x : Queue) : Prop := True ∧ (Lit.int .i64 x.Next).wf = true ∧ (Lit.int .i64 x.Age).wf = true ∧ (x.Held.length ≤ maxLen ∧ ∀ y ∈ x.Held, Xl6 y) ∧ (Lit.int .i64 x.Late).wf = true ∧ (Lit.int .i64 x.Far).wf = true ∧ (Lit.int .i64 x.Twice).wf = true ∧ (Lit.int .i64 x.Over).wf = true ∧ (Lit.int .i64 x.Lost).wf = true
noncomputable section
def Xbf (p0 : Int) (p1 : Int) (p2 : Int) : Option Bool :=
 bnd (
 sel (decide (p0 ≥ p1)) (
 some (decide (p0 ≤ p2))) (
 some false)) fun v1 =>
 some v1
def Xb8 (p0 : Packet) (p1 : Int) : Option Int :=
 sel (decide ((Xak .i64 (p1 - (p0.Bytes.size : Int))) < 0)) (
 some (-1)) (
 some (Xak .i64 (p1 - (p0.Bytes.size : Int))))
def Xbi (p0 : (List Packet)) (v3 : (Int × Int)) : Option (Lp (Int × Int) (Ou Int Int)) :=
 sel (decide (v3.2 < (p0.length : Int))) (
 req (0 ≤ v3.2 ∧ v3.2 < p0.length) <|
 bnd (Xb8 (⟨(p0.getD v3.2.toNat Xad).Seq, (p0.getD v3.2.toNat Xad).First, (p0.getD v3.2.toNat Xad).Last, (p0.getD v3.2.toNat Xad).Bytes⟩ : Packet) v3.1) fun q7 =>
 sel (decide (q7 < 0)) (
 some (.done (.ret (-1)))) (
 some (.go (q7, Xak .i64 (v3.2 + 1))))) (
 some (.done (.out v3.1)))
def Xci (p0 : (List Packet)) (p1 : Int) : Option Int :=
 sel (decide ((Xak .i64 (p1 - (p0.length : Int))) < 0)) (
 some (-1)) (
 bnd (loop (Xbi p0) (Xak .i64 (p1 - (p0.length : Int)), 0)) fun o8 => match o8 with
| .out v6 => (
 some v6)
| .ret r => some r)
def Xdj (p0 : Queue) (p1 : Int) : Option Int :=
 bnd (Xci p0.Held p1) fun q1 =>
 sel (decide (q1 < 0)) (
 some (-1)) (
 some q1)
def Xbd (p0 : Packet) : Option Packet :=
 some p0
def Xbj (p0 : (List Packet)) (v4 : (Int × (List Packet))) : Option (Lp (Int × (List Packet)) (List Packet)) :=
 sel (decide (v4.1 < (p0.length : Int))) (
 req (0 ≤ v4.1 ∧ v4.1 < p0.length) <|
 bnd (Xbd (⟨(p0.getD v4.1.toNat Xad).Seq, (p0.getD v4.1.toNat Xad).First, (p0.getD v4.1.toNat Xad).Last, (p0.getD v4.1.toNat Xad).Bytes⟩ : Packet)) fun q9 =>
 req (0 ≤ v4.1 ∧ v4.1 < v4.2.length) <|
 req (v4.1.toNat < v4.2.length) <|
 bnd (some (v4.2.set v4.1.toNat q9)) fun s10 =>
 some (.go (Xak .i64 (v4.1 + 1), s10))) (
 some (.done v4.2))
def Xcj (p0 : (List Packet)) : Option (List Packet) :=
 req (0 ≤ (p0.length : Int) ∧ (p0.length : Int) ≤ (p0.length : Int) ∧ (p0.length : Int) * 32 ≤ 281474976710656) <|
 bnd (loop (Xbj p0) (0, (List.replicate (p0.length : Int).toNat Xad))) fun v8 =>
 some v8
def Xbn (p0 : Queue) : Option Queue :=
 bnd (Xcj p0.Held) fun q1 =>
 some (⟨p0.Begun, p0.Next, p0.Age, q1, p0.Late, p0.Far, p0.Twice, p0.Over, p0.Lost⟩ : Queue)
def Xdo (p0 : Queue) : Option Queue :=
 req ((([] : List Packet).length + p0.Held.length) * 32 ≤ 140737488355328 ∧ ([] : List Packet).length + p0.Held.length ≤ maxLen) <|
 some (⟨p0.Begun, p0.Next, p0.Age, (([] : List Packet) ++ p0.Held), p0.Late, p0.Far, p0.Twice, p0.Over, p0.Lost⟩ : Queue)
def Xa0 (p0 : Int) (p1 : Int) (p2 : Int) : Option Bool :=
 bnd (
 sel (decide (p0 ≥ p1)) (
 some (decide (p0 ≤ p2))) (
 some false)) fun v1 =>
 some v1
def Xbs (p0 : Int) (p1 : Int) : Option Int :=
 bnd (
 bnd (Xa0 p0 0 65535) fun q2 =>
 sel q2 (
 bnd (Xa0 p1 0 65535) fun q3 =>
 some (!q3)) (
 some true)) fun v1 =>
 sel v1 (
 some 0) (
 bnd (
 sel (decide ((Xak .i64 (p1 - p0)) > 32767)) (
 some (Xak .i64 ((Xak .i64 (p1 - p0)) - 65536))) (
 some (Xak .i64 (p1 - p0)))) fun v4 =>
 bnd (
 sel (decide (v4 < (-32768))) (
 some (Xak .i64 (v4 + 65536))) (
 some v4)) fun v5 =>
 some v5)
def Xb9 (p0 : Packet) : Option Bool :=
 bnd (
 bnd (Xa0 p0.Seq 0 65535) fun q2 =>
 sel q2 (
 bnd (Xa0 (p0.Bytes.size : Int) 1 400) fun q3 =>
 some q3) (
 some false)) fun v1 =>
 some v1
def Xa2 (p0 : Int) : Option Bool :=
 bnd (Xa0 p0 0 1000000000) fun q1 =>
 some q1
def Xbl (p0 : Queue) (v9 : (Int × Int)) : Option (Lp (Int × Int) (Ou Unit Bool)) :=
 sel (decide (v9.2 < (p0.Held.length : Int))) (
 req (0 ≤ v9.2 ∧ v9.2 < p0.Held.length) <|
 bnd (Xbs p0.Next ((p0.Held.getD v9.2.toNat Xad).Seq)) fun q15 =>
 bnd (
 req (0 ≤ v9.2 ∧ v9.2 < p0.Held.length) <|
 bnd (Xb9 (⟨(p0.Held.getD v9.2.toNat Xad).Seq, (p0.Held.getD v9.2.toNat Xad).First, (p0.Held.getD v9.2.toNat Xad).Last, (p0.Held.getD v9.2.toNat Xad).Bytes⟩ : Packet)) fun q17 =>
 sel q17 (
 sel (decide (q15 ≤ v9.1)) (
 some true) (
 some (decide (q15 ≥ 40)))) (
 some true)) fun v16 =>
 sel v16 (
 some (.done (.ret false))) (
 some (.go (q15, Xak .i64 (v9.2 + 1))))) (
 some (.done (.out ())))
def Xcu (p0 : Queue) : Option Bool :=
 sel (!p0.Begun) (
 bnd (
 sel (p0.Next == 0) (
 sel (p0.Age == 0) (
 sel ((p0.Held.length : Int) == 0) (
 sel (p0.Late == 0) (
 sel (p0.Far == 0) (
 sel (p0.Twice == 0) (
 sel (p0.Over == 0) (
 some (p0.Lost == 0)) (
 some false)) (
 some false)) (
 some false)) (
 some false)) (
 some false)) (
 some false)) (
 some false)) fun v1 =>
 some v1) (
 bnd (
 bnd (Xa0 p0.Next 0 65535) fun q3 =>
 sel q3 (
 bnd (Xa0 p0.Age 0 20) fun q4 =>
 sel q4 (
 some (decide ((p0.Held.length : Int) > 24))) (
 some true)) (
 some true)) fun v2 =>
 sel v2 (
 some false) (
 bnd (loop (Xbl p0) ((-1), 0)) fun o18 => match o18 with
| .out v14 => (
 bnd (
 bnd (Xa2 p0.Late) fun q20 =>
 sel q20 (
 bnd (Xa2 p0.Far) fun q21 =>
 sel q21 (
 bnd (Xa2 p0.Twice) fun q22 =>
 sel q22 (
 bnd (Xa2 p0.Over) fun q23 =>
 sel q23 (
 bnd (Xa2 p0.Lost) fun q24 =>
 some q24) (
 some false)) (
 some false)) (
 some false)) (
 some false)) fun v19 =>
 some v19)
| .ret r => some r))
def Xdn (p0 : Int) (p1 : Int) : Option Int :=
 bnd (
 bnd (Xa0 p0 0 65535) fun q2 =>
 sel q2 (
 bnd (Xa0 p1 0 65535) fun q3 =>
 some (!q3)) (
 some true)) fun v1 =>
 sel v1 (
 some 0) (
 req ((65536 : Int) ≠ 0) <|
 some ((Xak .i64 (p0 + p1)).tmod 65536))
def Xdl (p0 : Int) (p1 : Int) (p2 : Int) : Option Int :=
 bnd (
 sel (decide (p2 < p1)) (
 some true) (
 some (decide (p0 < p1)))) fun v1 =>
 sel v1 (
 some p1) (
 sel (decide (p0 > p2)) (
 some p2) (
 some p0))
def Xbo (p0 : Int) : Option Int :=
 bnd (Xdl (Xak .i64 (p0 + 1)) 0 1000000000) fun q1 =>
 some q1
def Xcg (p0 : Queue) : Option Queue :=
 req ((([] : List Packet).length + p0.Held.length) * 32 ≤ 140737488355328 ∧ ([] : List Packet).length + p0.Held.length ≤ maxLen) <|
 some (⟨p0.Begun, p0.Next, p0.Age, (([] : List Packet) ++ p0.Held), p0.Late, p0.Far, p0.Twice, p0.Over, p0.Lost⟩ : Queue)
def Xau (p0 : Int) : Option Bool :=
 bnd (Xbf p0 0 65535) fun q1 =>
 some q1
def Xbp (p0 : Int) (p1 : Int) : Option Int :=
 bnd (
 bnd (Xau p0) fun q2 =>
 sel q2 (
 bnd (Xau p1) fun q3 =>
 some (!q3)) (
 some true)) fun v1 =>
 sel v1 (
 some 0) (
 req ((65536 : Int) ≠ 0) <|
 bnd (
 sel (decide (((Xak .i64 ((Xak .i64 (p1 - p0)) + 65536)).tmod 65536) ≥ 32768)) (
 some (Xak .i64 (((Xak .i64 ((Xak .i64 (p1 - p0)) + 65536)).tmod 65536) - 65536))) (
 some ((Xak .i64 ((Xak .i64 (p1 - p0)) + 65536)).tmod 65536))) fun v4 =>
 some v4)
def Xb7 (p0 : Packet) : Option Bool :=
 bnd (
 bnd (Xau p0.Seq) fun q2 =>
 sel q2 (
 bnd (Xbf (p0.Bytes.size : Int) 1 400) fun q3 =>
 some q3) (
 some false)) fun v1 =>
 some v1
def Xbg (p0 : Queue) (v10 : (Int × Int)) : Option (Lp (Int × Int) (Ou Unit Bool)) :=
 sel (decide (v10.2 < (p0.Held.length : Int))) (
 req (0 ≤ v10.2 ∧ v10.2 < p0.Held.length) <|
 bnd (Xbp p0.Next ((p0.Held.getD v10.2.toNat Xad).Seq)) fun q17 =>
 bnd (
 bnd (Xb7 (⟨(p0.Held.getD v10.2.toNat Xad).Seq, (p0.Held.getD v10.2.toNat Xad).First, (p0.Held.getD v10.2.toNat Xad).Last, (p0.Held.getD v10.2.toNat Xad).Bytes⟩ : Packet)) fun q19 =>
 sel q19 (
 bnd (Xbf q17 (Xak .i64 (v10.1 + 1)) 39) fun q20 =>
 some (!q20)) (
 some true)) fun v18 =>
 sel v18 (
 some (.done (.ret false))) (
 some (.go (q17, Xak .i64 (v10.2 + 1))))) (
 some (.done (.out ())))
def Xax (p0 : Queue) (v24 : Int) : Option (Lp Int (Ou Unit Bool)) :=
 sel (decide (v24 < (([p0.Late, p0.Far, p0.Twice, p0.Over, p0.Lost]).length : Int))) (
 req (0 ≤ v24 ∧ v24 < ([p0.Late, p0.Far, p0.Twice, p0.Over, p0.Lost]).length) <|
 req (v24.toNat < ([p0.Late, p0.Far, p0.Twice, p0.Over, p0.Lost]).length) <|
 bnd (Xbf (([p0.Late, p0.Far, p0.Twice, p0.Over, p0.Lost]).getD v24.toNat 0) 0 1000000000) fun q28 =>
 sel (!q28) (
 some (.done (.ret false))) (
 some (.go (Xak .i64 (v24 + 1))))) (
 some (.done (.out ())))
def Xcs (p0 : Queue) : Option Bool :=
 sel (!p0.Begun) (
 bnd (
 sel (p0.Next == 0) (
 sel (p0.Age == 0) (
 sel ((p0.Held.length : Int) == 0) (
 sel (p0.Late == 0) (
 sel (p0.Far == 0) (
 sel (p0.Twice == 0) (
 sel (p0.Over == 0) (
 some (p0.Lost == 0)) (
 some false)) (
 some false)) (
 some false)) (
 some false)) (
 some false)) (
 some false)) (
 some false)) fun v1 =>
 some v1) (
 bnd (
 bnd (Xau p0.Next) fun q3 =>
 sel q3 (
 bnd (Xbf p0.Age 0 20) fun q4 =>
 sel q4 (
 some (decide ((p0.Held.length : Int) > 24))) (
 some true)) (
 some true)) fun v2 =>
 sel v2 (
 some false) (
 bnd (loop (Xbg p0) ((-1), 0)) fun o21 => match o21 with
| .out v16 => (
 bnd (loop (Xax p0) 0) fun o29 => match o29 with
| .out v27 => (
 some true)
| .ret r => some r)
| .ret r => some r))
def Xdi (p0 : Int) (p1 : Int) : Option Int :=
 bnd (
 bnd (Xau p0) fun q2 =>
 sel q2 (
 bnd (Xau p1) fun q3 =>
 some (!q3)) (
 some true)) fun v1 =>
 sel v1 (
 some 0) (
 req ((65536 : Int) ≠ 0) <|
 some ((Xak .i64 (p0 + p1)).tmod 65536))
def Xbm (p0 : Int) : Option Int :=
 some (if (1000000000 : Int) < (Xak .i64 (p0 + 1)) then (1000000000 : Int) else (Xak .i64 (p0 + 1)))
def Xc0 (p0 : Packet) (p1 : Packet) : Option Bool :=
 sel (p0.Seq != p1.Seq) (
 some false) (
 sel (!(p0.First == p1.First)) (
 some false) (
 sel (!(p0.Last == p1.Last)) (
 some false) (
 sel (!(p0.Bytes.toList == p1.Bytes.toList)) (
 some false) (
 some true))))
def Xbh (p0 : (List Packet)) (p1 : (List Packet)) (v3 : Int) : Option (Lp Int (Ou Unit Bool)) :=
 sel (decide (v3 < (p0.length : Int))) (
 req (0 ≤ v3 ∧ v3 < p0.length) <|
 req (0 ≤ v3 ∧ v3 < p1.length) <|
 bnd (Xc0 (⟨(p0.getD v3.toNat Xad).Seq, (p0.getD v3.toNat Xad).First, (p0.getD v3.toNat Xad).Last, (p0.getD v3.toNat Xad).Bytes⟩ : Packet) (⟨(p1.getD v3.toNat Xad).Seq, (p1.getD v3.toNat Xad).First, (p1.getD v3.toNat Xad).Last, (p1.getD v3.toNat Xad).Bytes⟩ : Packet)) fun q7 =>
 sel (!q7) (
 some (.done (.ret false))) (
 some (.go (Xak .i64 (v3 + 1))))) (
 some (.done (.out ())))
def Xch (p0 : (List Packet)) (p1 : (List Packet)) : Option Bool :=
 sel ((p0.length : Int) != (p1.length : Int)) (
 some false) (
 bnd (loop (Xbh p0 p1) 0) fun o8 => match o8 with
| .out v6 => (
 some true)
| .ret r => some r)
def Xbb (p0 : Queue) (p1 : Queue) : Option Bool :=
 sel (!(p0.Begun == p1.Begun)) (
 some false) (
 sel (p0.Next != p1.Next) (
 some false) (
 sel (p0.Age != p1.Age) (
 some false) (
 bnd (Xch p0.Held p1.Held) fun q1 =>
 sel (!q1) (
 some false) (
 sel (p0.Late != p1.Late) (
 some false) (
 sel (p0.Far != p1.Far) (
 some false) (
 sel (p0.Twice != p1.Twice) (
 some false) (
 sel (p0.Over != p1.Over) (
 some false) (
 sel (p0.Lost != p1.Lost) (
 some false) (
 some true)))))))))
def Xcn (v2 : (Int × ByteArray)) : Option (Lp (Int × ByteArray) ByteArray) :=
 sel (decide (v2.1 > 0)) (
 req ((10 : Int) ≠ 0) <|
 req ((strOfNums ([Xak .u8 (Xak .i64 (48 + (v2.1.tmod 10)))])).size + v2.2.size ≤ 9223372036854775807) <|
 req ((10 : Int) ≠ 0) <|
 some (.go (Xak .i64 (v2.1.tdiv 10), ((strOfNums ([Xak .u8 (Xak .i64 (48 + (v2.1.tmod 10)))])) ++ v2.2)))) (
 some (.done v2.2))
def Xbc (p0 : Int) : Option ByteArray :=
 sel (decide (p0 ≤ 0)) (
 some ⟨#[109, 48]⟩) (
 bnd (loop (Xcn) (p0, ⟨#[]⟩)) fun v4 =>
 req ((⟨#[109]⟩ : ByteArray).size + v4.size ≤ 9223372036854775807) <|
 some ((⟨#[109]⟩ : ByteArray) ++ v4))
def Xa7 (v7 : (Int × Int × (List Packet))) : Option (Lp (Int × Int × (List Packet)) (Int × (List Packet))) :=
 sel (decide (v7.2.1 < (v7.2.2.length : Int))) (
 req (0 ≤ v7.2.1 ∧ v7.2.1 < v7.2.2.length) <|
 req (v7.2.1.toNat < v7.2.2.length) <|
 bnd (some (v7.2.2.set v7.2.1.toNat (⟨v7.1, (v7.2.2.getD v7.2.1.toNat Xad).First, (v7.2.2.getD v7.2.1.toNat Xad).Last, (v7.2.2.getD v7.2.1.toNat Xad).Bytes⟩ : Packet))) fun s15 =>
 req ((3 : Int) ≠ 0) <|
 req (0 ≤ v7.2.1 ∧ v7.2.1 < s15.length) <|
 req (v7.2.1.toNat < s15.length) <|
 bnd (some (s15.set v7.2.1.toNat (⟨(s15.getD v7.2.1.toNat Xad).Seq, (((Xak .i64 (v7.1 + 1)).tmod 3) == 0), (s15.getD v7.2.1.toNat Xad).Last, (s15.getD v7.2.1.toNat Xad).Bytes⟩ : Packet))) fun s16 =>
 req ((3 : Int) ≠ 0) <|
 req (0 ≤ v7.2.1 ∧ v7.2.1 < s16.length) <|
 req (v7.2.1.toNat < s16.length) <|
 bnd (some (s16.set v7.2.1.toNat (⟨(s16.getD v7.2.1.toNat Xad).Seq, (s16.getD v7.2.1.toNat Xad).First, (((Xak .i64 ((Xak .i64 (v7.1 + 1)) + 1)).tmod 3) == 0), (s16.getD v7.2.1.toNat Xad).Bytes⟩ : Packet))) fun s17 =>
 bnd (Xbc (Xak .i64 ((Xak .i64 ((Xak .i64 (v7.1 + 1)) + 1)) + 1))) fun q18 =>
 req (0 ≤ v7.2.1 ∧ v7.2.1 < s17.length) <|
 req (v7.2.1.toNat < s17.length) <|
 bnd (some (s17.set v7.2.1.toNat (⟨(s17.getD v7.2.1.toNat Xad).Seq, (s17.getD v7.2.1.toNat Xad).First, (s17.getD v7.2.1.toNat Xad).Last, q18⟩ : Packet))) fun s19 =>
 some (.go (Xak .i64 ((Xak .i64 ((Xak .i64 ((Xak .i64 (v7.1 + 1)) + 1)) + 1)) + 1), Xak .i64 (v7.2.1 + 1), s19))) (
 some (.done (v7.1, v7.2.2)))
def Xbv (p0 : (List Packet)) (p1 : Int) : Option (Int × (List Packet)) :=
 bnd (loop (Xa7) (p1, 0, p0)) fun v14 =>
 some (v14.1, v14.2)
def Xb3 (p0 : Queue) (p1 : Int) : Option (Int × Queue) :=
 bnd (Xbv p0.Held p1) fun q1 =>
 some (q1.1, (⟨p0.Begun, p0.Next, p0.Age, q1.2, p0.Late, p0.Far, p0.Twice, p0.Over, p0.Lost⟩ : Queue))
def Xa6 (p0 : (List Packet)) (v3 : (Int × Int)) : Option (Lp (Int × Int) (Ou Int Int)) :=
 sel (decide (v3.2 < (p0.length : Int))) (
 req (0 ≤ v3.2 ∧ v3.2 < p0.length) <|
 sel (((p0.getD v3.2.toNat Xad).Seq) != v3.1) (
 some (.done (.ret (-1)))) (
 req (0 ≤ v3.2 ∧ v3.2 < p0.length) <|
 req ((3 : Int) ≠ 0) <|
 sel (!(((p0.getD v3.2.toNat Xad).First) == (((Xak .i64 (v3.1 + 1)).tmod 3) == 0))) (
 some (.done (.ret (-1)))) (
 req (0 ≤ v3.2 ∧ v3.2 < p0.length) <|
 req ((3 : Int) ≠ 0) <|
 sel (!(((p0.getD v3.2.toNat Xad).Last) == (((Xak .i64 ((Xak .i64 (v3.1 + 1)) + 1)).tmod 3) == 0))) (
 some (.done (.ret (-1)))) (
 req (0 ≤ v3.2 ∧ v3.2 < p0.length) <|
 bnd (Xbc (Xak .i64 ((Xak .i64 ((Xak .i64 (v3.1 + 1)) + 1)) + 1))) fun q7 =>
 sel (!(((p0.getD v3.2.toNat Xad).Bytes).toList == q7.toList)) (
 some (.done (.ret (-1)))) (
 some (.go (Xak .i64 ((Xak .i64 ((Xak .i64 ((Xak .i64 (v3.1 + 1)) + 1)) + 1)) + 1), Xak .i64 (v3.2 + 1)))))))) (
 some (.done (.out v3.1)))
def Xbu (p0 : (List Packet)) (p1 : Int) : Option Int :=
 bnd (loop (Xa6 p0) (p1, 0)) fun o8 => match o8 with
| .out v6 => (
 some v6)
| .ret r => some r
def Xb2 (p0 : Queue) (p1 : Int) : Option Int :=
 bnd (Xbu p0.Held p1) fun q1 =>
 sel (decide (q1 < 0)) (
 some (-1)) (
 some q1)
def Xby (p0 : Queue) (p1 : Int) (v3 : Int) : Option (Lp Int (Ou Unit Bool)) :=
 sel (decide (v3 < (p0.Held.length : Int))) (
 req (0 ≤ v3 ∧ v3 < p0.Held.length) <|
 sel (((p0.Held.getD v3.toNat Xad).Seq) == p1) (
 some (.done (.ret true))) (
 some (.go (Xak .i64 (v3 + 1))))) (
 some (.done (.out ())))
def Xc5 (p0 : Queue) (p1 : Int) : Option Bool :=
 bnd (Xcu p0) fun q1 =>
 sel (!q1) (
 some false) (
 bnd (loop (Xby p0 p1) 0) fun o6 => match o6 with
| .out v5 => (
 some false)
| .ret r => some r)
def Xa3 (p0 : Queue) (p1 : Packet) (q1 : Int) (v5 : (Bool × Int × (List Packet))) : Option (Lp (Bool × Int × (List Packet)) (Bool × (List Packet))) :=
 sel (decide (v5.2.1 < (p0.Held.length : Int))) (
 bnd (
 bnd (
 sel v5.1 (
 some false) (
 req (0 ≤ v5.2.1 ∧ v5.2.1 < p0.Held.length) <|
 bnd (Xbs p0.Next ((p0.Held.getD v5.2.1.toNat Xad).Seq)) fun q13 =>
 some (decide (q13 > q1)))) fun v12 =>
 sel v12 (
 req ((v5.2.2.length + ([p1]).length) * 32 ≤ 140737488355328 ∧ v5.2.2.length + ([p1]).length ≤ maxLen) <|
 some (true, (v5.2.2 ++ ([p1])))) (
 some (v5.1, v5.2.2))) fun v11 =>
 req (0 ≤ v5.2.1 ∧ v5.2.1 < p0.Held.length) <|
 req ((v11.2.length + ([(⟨(p0.Held.getD v5.2.1.toNat Xad).Seq, (p0.Held.getD v5.2.1.toNat Xad).First, (p0.Held.getD v5.2.1.toNat Xad).Last, (p0.Held.getD v5.2.1.toNat Xad).Bytes⟩ : Packet)]).length) * 32 ≤ 140737488355328 ∧ v11.2.length + ([(⟨(p0.Held.getD v5.2.1.toNat Xad).Seq, (p0.Held.getD v5.2.1.toNat Xad).First, (p0.Held.getD v5.2.1.toNat Xad).Last, (p0.Held.getD v5.2.1.toNat Xad).Bytes⟩ : Packet)]).length ≤ maxLen) <|
 some (.go (v11.1, Xak .i64 (v5.2.1 + 1), (v11.2 ++ ([(⟨(p0.Held.getD v5.2.1.toNat Xad).Seq, (p0.Held.getD v5.2.1.toNat Xad).First, (p0.Held.getD v5.2.1.toNat Xad).Last, (p0.Held.getD v5.2.1.toNat Xad).Bytes⟩ : Packet)]))))) (
 some (.done (v5.1, v5.2.2)))
def Xde (p0 : Queue) (p1 : Packet) : Option Queue :=
 bnd (Xbs p0.Next p1.Seq) fun q1 =>
 bnd (loop (Xa3 p0 p1 q1) (false, 0, ([] : List Packet))) fun v10 =>
 bnd (
 sel (!v10.1) (
 req ((v10.2.length + ([p1]).length) * 32 ≤ 140737488355328 ∧ v10.2.length + ([p1]).length ≤ maxLen) <|
 some (v10.2 ++ ([p1]))) (
 some v10.2)) fun v15 =>
 some (⟨p0.Begun, p0.Next, p0.Age, v15, p0.Late, p0.Far, p0.Twice, p0.Over, p0.Lost⟩ : Queue)
def Xb6 (q1 : Queue) (v13 : Int) : Option (Lp Int Int) :=
 bnd (
 sel (decide (v13 < (Xak .i64 ((q1.Held.length : Int) - 1)))) (
 req (0 ≤ v13 ∧ v13 < q1.Held.length) <|
 req (v13.toNat < q1.Held.length) <|
 some (!((q1.Held.getD v13.toNat Xad).Last))) (
 some false)) fun v17 =>
 sel v17 (
 some (.go (Xak .i64 (v13 + 1)))) (
 some (.done v13))
def Xdm (p0 : Queue) (p1 : Packet) : Option (Queue × Int) :=
 bnd (Xdo p0) fun q1 =>
 bnd (Xcu q1) fun q2 =>
 sel (!q2) (
 some (q1, 1)) (
 bnd (Xb9 p1) fun q3 =>
 sel (!q3) (
 some (q1, 2)) (
 sel (!q1.Begun) (
 some ((⟨true, p1.Seq, 0, [p1], 0, 0, 0, 0, 0⟩ : Queue), 0)) (
 bnd (Xbs q1.Next p1.Seq) fun q4 =>
 bnd (
 sel (decide (q4 ≥ 40)) (
 some true) (
 some (decide (q4 < (-40))))) fun v5 =>
 sel v5 (
 bnd (Xbo q1.Far) fun q6 =>
 some ((⟨q1.Begun, p1.Seq, 0, [p1], q1.Late, q6, q1.Twice, q1.Over, q1.Lost⟩ : Queue), 4)) (
 sel (decide (q4 < 0)) (
 bnd (Xbo q1.Late) fun q7 =>
 some ((⟨q1.Begun, q1.Next, q1.Age, q1.Held, q7, q1.Far, q1.Twice, q1.Over, q1.Lost⟩ : Queue), 3)) (
 bnd (Xc5 q1 p1.Seq) fun q8 =>
 sel q8 (
 bnd (Xbo q1.Twice) fun q9 =>
 some ((⟨q1.Begun, q1.Next, q1.Age, q1.Held, q1.Late, q1.Far, q9, q1.Over, q1.Lost⟩ : Queue), 5)) (
 sel (decide ((q1.Held.length : Int) < 24)) (
 bnd (Xde q1 p1) fun q10 =>
 some (q10, 0)) (
 bnd (loop (Xb6 q1) 0) fun v16 =>
 bnd (Xbo q1.Over) fun q19 =>
 req (0 ≤ v16 ∧ v16 < q1.Held.length) <|
 req (v16.toNat < q1.Held.length) <|
 bnd (Xdn ((q1.Held.getD v16.toNat Xad).Seq) 1) fun q20 =>
 req (0 ≤ (Xak .i64 (v16 + 1)) ∧ (Xak .i64 (v16 + 1)) ≤ (q1.Held.length : Int) ∧ (q1.Held.length : Int) ≤ (q1.Held.length : Int)) <|
 req (((Xak .i64 (v16 + 1)).toNat + ((q1.Held.length : Int).toNat - (Xak .i64 (v16 + 1)).toNat) ≤ q1.Held.length) ∧ (([] : List Packet).length + ((q1.Held.drop ((Xak .i64 (v16 + 1)).toNat)).take ((q1.Held.length : Int).toNat - (Xak .i64 (v16 + 1)).toNat)).length) * 32 ≤ 140737488355328 ∧ ([] : List Packet).length + ((q1.Held.drop ((Xak .i64 (v16 + 1)).toNat)).take ((q1.Held.length : Int).toNat - (Xak .i64 (v16 + 1)).toNat)).length ≤ maxLen) <|
 bnd (
 bnd (Xbs q20 p1.Seq) fun q22 =>
 bnd (Xa0 q22 0 39) fun q23 =>
 sel q23 (
 bnd (Xde (⟨q1.Begun, q20, 0, (([] : List Packet) ++ ((q1.Held.drop ((Xak .i64 (v16 + 1)).toNat)).take ((q1.Held.length : Int).toNat - (Xak .i64 (v16 + 1)).toNat))), q1.Late, q1.Far, q1.Twice, q19, q1.Lost⟩ : Queue) p1) fun q24 =>
 some (q24.Begun, q24.Next, q24.Age, q24.Late, q24.Far, q24.Twice, q24.Over, q24.Lost, q24.Held)) (
 some (q1.Begun, q20, 0, q1.Late, q1.Far, q1.Twice, q19, q1.Lost, (([] : List Packet) ++ ((q1.Held.drop ((Xak .i64 (v16 + 1)).toNat)).take ((q1.Held.length : Int).toNat - (Xak .i64 (v16 + 1)).toNat)))))) fun v21 =>
 some ((⟨v21.1, v21.2.1, v21.2.2.1, v21.2.2.2.2.2.2.2.2, v21.2.2.2.1, v21.2.2.2.2.1, v21.2.2.2.2.2.1, v21.2.2.2.2.2.2.1, v21.2.2.2.2.2.2.2.1⟩ : Queue), 6))))))))
def Xbt (p0 : Queue) (p1 : Int) (v3 : Int) : Option (Lp Int (Ou Unit Bool)) :=
 sel (decide (v3 < (p0.Held.length : Int))) (
 req (0 ≤ v3 ∧ v3 < p0.Held.length) <|
 sel (((p0.Held.getD v3.toNat Xad).Seq) == p1) (
 some (.done (.ret true))) (
 some (.go (Xak .i64 (v3 + 1))))) (
 some (.done (.out ())))
def Xcw (p0 : Queue) (p1 : Int) : Option Bool :=
 bnd (Xcs p0) fun q1 =>
 sel (!q1) (
 some false) (
 bnd (loop (Xbt p0 p1) 0) fun o6 => match o6 with
| .out v5 => (
 some false)
| .ret r => some r)
def Xaq (p0 : Queue) (p1 : Packet) (v5 : Int) : Option (Lp Int Int) :=
 bnd (
 sel (decide (v5 < (p0.Held.length : Int))) (
 req (0 ≤ v5 ∧ v5 < p0.Held.length) <|
 req (v5.toNat < p0.Held.length) <|
 bnd (Xbp p0.Next ((p0.Held.getD v5.toNat Xad).Seq)) fun q12 =>
 bnd (Xbp p0.Next p1.Seq) fun q13 =>
 some (decide (q12 < q13))) (
 some false)) fun v11 =>
 sel v11 (
 some (.go (Xak .i64 (v5 + 1)))) (
 some (.done v5))
def Xas (p0 : Queue) (p1 : Packet) : Option Queue :=
 bnd (loop (Xaq p0 p1) 0) fun v10 =>
 req (0 ≤ (0 : Int) ∧ (0 : Int) ≤ v10 ∧ v10 ≤ (p0.Held.length : Int)) <|
 req (((0 : Int).toNat + (v10.toNat - (0 : Int).toNat) ≤ p0.Held.length) ∧ (([] : List Packet).length + ((p0.Held.drop ((0 : Int).toNat)).take (v10.toNat - (0 : Int).toNat)).length) * 32 ≤ 140737488355328 ∧ ([] : List Packet).length + ((p0.Held.drop ((0 : Int).toNat)).take (v10.toNat - (0 : Int).toNat)).length ≤ maxLen) <|
 req (((([] : List Packet) ++ ((p0.Held.drop ((0 : Int).toNat)).take (v10.toNat - (0 : Int).toNat))).length + ([p1]).length) * 32 ≤ 140737488355328 ∧ (([] : List Packet) ++ ((p0.Held.drop ((0 : Int).toNat)).take (v10.toNat - (0 : Int).toNat))).length + ([p1]).length ≤ maxLen) <|
 req (0 ≤ v10 ∧ v10 ≤ (p0.Held.length : Int) ∧ (p0.Held.length : Int) ≤ (p0.Held.length : Int)) <|
 req ((v10.toNat + ((p0.Held.length : Int).toNat - v10.toNat) ≤ p0.Held.length) ∧ (((([] : List Packet) ++ ((p0.Held.drop ((0 : Int).toNat)).take (v10.toNat - (0 : Int).toNat))) ++ ([p1])).length + ((p0.Held.drop v10.toNat).take ((p0.Held.length : Int).toNat - v10.toNat)).length) * 32 ≤ 140737488355328 ∧ ((([] : List Packet) ++ ((p0.Held.drop ((0 : Int).toNat)).take (v10.toNat - (0 : Int).toNat))) ++ ([p1])).length + ((p0.Held.drop v10.toNat).take ((p0.Held.length : Int).toNat - v10.toNat)).length ≤ maxLen) <|
 some (⟨p0.Begun, p0.Next, p0.Age, (((([] : List Packet) ++ ((p0.Held.drop ((0 : Int).toNat)).take (v10.toNat - (0 : Int).toNat))) ++ ([p1])) ++ ((p0.Held.drop v10.toNat).take ((p0.Held.length : Int).toNat - v10.toNat))), p0.Late, p0.Far, p0.Twice, p0.Over, p0.Lost⟩ : Queue)
def Xap (p0 : Queue) (v13 : Int) : Option (Lp Int Int) :=
 bnd (
 sel (decide (v13 < (Xak .i64 ((p0.Held.length : Int) - 1)))) (
 req (0 ≤ v13 ∧ v13 < p0.Held.length) <|
 some (!((p0.Held.getD v13.toNat Xad).Last))) (
 some false)) fun v17 =>
 sel v17 (
 some (.go (Xak .i64 (v13 + 1)))) (
 some (.done v13))
def Xcr (p0 : Queue) (p1 : Packet) : Option (Queue × Int) :=
 bnd (Xcg p0) fun q1 =>
 bnd (Xcs p0) fun q2 =>
 sel (!q2) (
 some (q1, 1)) (
 bnd (Xb7 p1) fun q3 =>
 sel (!q3) (
 some (q1, 2)) (
 sel (!p0.Begun) (
 some ((⟨true, p1.Seq, q1.Age, [p1], q1.Late, q1.Far, q1.Twice, q1.Over, q1.Lost⟩ : Queue), 0)) (
 bnd (Xbp p0.Next p1.Seq) fun q4 =>
 bnd (
 sel (decide (q4 ≥ 40)) (
 some true) (
 some (decide (q4 < (-40))))) fun v5 =>
 sel v5 (
 bnd (Xbm p0.Far) fun q6 =>
 some ((⟨q1.Begun, p1.Seq, 0, [p1], q1.Late, q6, q1.Twice, q1.Over, q1.Lost⟩ : Queue), 4)) (
 sel (decide (q4 < 0)) (
 bnd (Xbm p0.Late) fun q7 =>
 some ((⟨q1.Begun, q1.Next, q1.Age, q1.Held, q7, q1.Far, q1.Twice, q1.Over, q1.Lost⟩ : Queue), 3)) (
 bnd (Xcw p0 p1.Seq) fun q8 =>
 sel q8 (
 bnd (Xbm p0.Twice) fun q9 =>
 some ((⟨q1.Begun, q1.Next, q1.Age, q1.Held, q1.Late, q1.Far, q9, q1.Over, q1.Lost⟩ : Queue), 5)) (
 sel ((p0.Held.length : Int) == 24) (
 bnd (Xbm p0.Over) fun q10 =>
 bnd (loop (Xap p0) 0) fun v16 =>
 req (0 ≤ v16 ∧ v16 < p0.Held.length) <|
 bnd (Xdi ((p0.Held.getD v16.toNat Xad).Seq) 1) fun q19 =>
 req (0 ≤ (Xak .i64 (v16 + 1)) ∧ (Xak .i64 (v16 + 1)) ≤ (q1.Held.length : Int) ∧ (q1.Held.length : Int) ≤ (q1.Held.length : Int)) <|
 bnd (
 bnd (Xbp q19 p1.Seq) fun q21 =>
 bnd (Xbf q21 0 39) fun q22 =>
 sel q22 (
 bnd (Xas (⟨q1.Begun, q19, 0, ((q1.Held.drop ((Xak .i64 (v16 + 1)).toNat)).take ((q1.Held.length : Int).toNat - (Xak .i64 (v16 + 1)).toNat)), q1.Late, q1.Far, q1.Twice, q10, q1.Lost⟩ : Queue) p1) fun q23 =>
 some (q23.Begun, q23.Next, q23.Age, q23.Late, q23.Far, q23.Twice, q23.Over, q23.Lost, q23.Held)) (
 some (q1.Begun, q19, 0, q1.Late, q1.Far, q1.Twice, q10, q1.Lost, ((q1.Held.drop ((Xak .i64 (v16 + 1)).toNat)).take ((q1.Held.length : Int).toNat - (Xak .i64 (v16 + 1)).toNat))))) fun v20 =>
 some ((⟨v20.1, v20.2.1, v20.2.2.1, v20.2.2.2.2.2.2.2.2, v20.2.2.2.1, v20.2.2.2.2.1, v20.2.2.2.2.2.1, v20.2.2.2.2.2.2.1, v20.2.2.2.2.2.2.2.1⟩ : Queue), 6)) (
 bnd (Xas q1 p1) fun q24 =>
 some (q24, 0))))))))
def Xbq (p0 : Queue) (p1 : Packet) : Option Bool :=
 bnd (Xdj p0 1048576) fun q1 =>
 sel (decide (q1 < 0)) (
 some true) (
 bnd (Xb8 p1 q1) fun q2 =>
 sel (decide (q2 < 0)) (
 some true) (
 bnd (Xbn p0) fun q3 =>
 bnd (Xbd p1) fun q4 =>
 bnd (Xdm q3 q4) fun q5 =>
 bnd (Xbn p0) fun q6 =>
 bnd (Xbd p1) fun q7 =>
 bnd (Xcr q6 q7) fun q8 =>
 bnd (
 bnd (Xbb q8.1 q5.1) fun q10 =>
 sel q10 (
 some (q8.2 != q5.2)) (
 some true)) fun v9 =>
 sel v9 (
 some false) (
 bnd (Xbn p0) fun q11 =>
 bnd (Xbb q6 q11) fun q12 =>
 sel (!q12) (
 some false) (
 bnd (Xb3 q6 1) fun q13 =>
 bnd (
 sel (decide (q13.1 < 0)) (
 some true) (
 bnd (Xbb q8.1 q5.1) fun q15 =>
 sel q15 (
 some (q8.2 != q5.2)) (
 some true))) fun v14 =>
 sel v14 (
 some false) (
 bnd (Xb3 q8.1 1) fun q16 =>
 bnd (Xb2 (⟨q8.1.Begun, q8.1.Next, q8.1.Age, q16.2.Held, q8.1.Late, q8.1.Far, q8.1.Twice, q8.1.Over, q8.1.Lost⟩ : Queue) 1) fun q17 =>
 sel (decide (q17 < 0)) (
 some false) (
 sel (q17 != q16.1) (
 some false) (
 bnd (Xbn p0) fun q18 =>
 bnd (Xbd p1) fun q19 =>
 bnd (Xcr q18 q19) fun q20 =>
 bnd (
 bnd (Xbb q20.1 q5.1) fun q22 =>
 sel q22 (
 some (q20.2 != q5.2)) (
 some true)) fun v21 =>
 sel v21 (
 some false) (
 bnd (Xb2 (⟨q8.1.Begun, q8.1.Next, q8.1.Age, q16.2.Held, q8.1.Late, q8.1.Far, q8.1.Twice, q8.1.Over, q8.1.Lost⟩ : Queue) 1) fun q23 =>
 sel (decide (q23 < 0)) (
 some false) (
 sel (q23 != q16.1) (
 some false) (
 some true))))))))))
end
end Go.Proofs.Ytlebkepfhdjnmaa.A
