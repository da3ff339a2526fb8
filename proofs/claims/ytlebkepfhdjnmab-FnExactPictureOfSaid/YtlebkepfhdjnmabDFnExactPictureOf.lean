/- What the functions that the law FnExactPictureOf reaches compute, over numbers, texts and lists. Written by a program of this session. Conditions: none. -/
import Derived.Test.YtlebkepfhdjnmabAL2
namespace Go.Proofs.Ytlebkepfhdjnmab.A
open Go Go.Proofs Go.Proofs.YtlebkepfhdjnmabAL Go.RowKit
set_option linter.unusedVariables false
set_option linter.unusedSimpArgs false
structure Packet where
 Seq : Int
 First : Bool
 Last : Bool
 Bytes : ByteArray
def Xcw : ByteArray := ⟨#[]⟩
def Xai : Packet := ⟨0, false, false, ⟨#[]⟩⟩
def Xmc (x : Packet) : Prop := (Lit.int .i64 x.Seq).wf = true ∧ True ∧ True ∧ x.Bytes.size ≤ maxLen
noncomputable section
def Xb7 (p0 : Int) (p1 : Int) (p2 : Int) : Option Bool :=
 bnd (
 sel (decide (p0 ≥ p1)) (
 some (decide (p0 ≤ p2))) (
 some false)) fun v1 =>
 some v1
def Xch (p0 : Int) (p1 : Int) (p2 : Int) : Option Bool :=
 bnd (
 sel (decide (p0 ≥ p1)) (
 some (decide (p0 ≤ p2))) (
 some false)) fun v1 =>
 some v1
def Xcs (p0 : Packet) (p1 : Int) : Option Int :=
 sel (decide ((Xah .i64 (p1 - (p0.Bytes.size : Int))) < 0)) (
 some (-1)) (
 some (Xah .i64 (p1 - (p0.Bytes.size : Int))))
def Xbo (p0 : (List Packet)) (v3 : (Int × Int)) : Option (Lp (Int × Int) (Ou Int Int)) :=
 sel (decide (v3.2 < (p0.length : Int))) (
 req (0 ≤ v3.2 ∧ v3.2 < p0.length) <|
 bnd (Xcs (⟨(p0.getD v3.2.toNat Xai).Seq, (p0.getD v3.2.toNat Xai).First, (p0.getD v3.2.toNat Xai).Last, (p0.getD v3.2.toNat Xai).Bytes⟩ : Packet) v3.1) fun q7 =>
 sel (decide (q7 < 0)) (
 some (.done (.ret (-1)))) (
 some (.go (q7, Xah .i64 (v3.2 + 1))))) (
 some (.done (.out v3.1)))
def Xce (p0 : (List Packet)) (p1 : Int) : Option Int :=
 sel (decide ((Xah .i64 (p1 - (p0.length : Int))) < 0)) (
 some (-1)) (
 bnd (loop (Xbo p0) (Xah .i64 (p1 - (p0.length : Int)), 0)) fun o8 => match o8 with
| .out v6 => (
 some v6)
| .ret r => some r)
def Xdr (p0 : Packet) : Option Packet :=
 some p0
def Xbp (p0 : (List Packet)) (v4 : (Int × (List Packet))) : Option (Lp (Int × (List Packet)) (List Packet)) :=
 sel (decide (v4.1 < (p0.length : Int))) (
 req (0 ≤ v4.1 ∧ v4.1 < p0.length) <|
 bnd (Xdr (⟨(p0.getD v4.1.toNat Xai).Seq, (p0.getD v4.1.toNat Xai).First, (p0.getD v4.1.toNat Xai).Last, (p0.getD v4.1.toNat Xai).Bytes⟩ : Packet)) fun q9 =>
 req (0 ≤ v4.1 ∧ v4.1 < v4.2.length) <|
 req (v4.1.toNat < v4.2.length) <|
 bnd (some (v4.2.set v4.1.toNat q9)) fun s10 =>
 some (.go (Xah .i64 (v4.1 + 1), s10))) (
 some (.done v4.2))
def Xa1 (p0 : (List Packet)) : Option (List Packet) :=
 req (0 ≤ (p0.length : Int) ∧ (p0.length : Int) ≤ (p0.length : Int) ∧ (p0.length : Int) * 32 ≤ 281474976710656) <|
 bnd (loop (Xbp p0) (0, (List.replicate (p0.length : Int).toNat Xai))) fun v8 =>
 some v8
def Xcu (p0 : Packet) : Option Bool :=
 bnd (
 bnd (Xb7 p0.Seq 0 65535) fun q2 =>
 sel q2 (
 bnd (Xb7 (p0.Bytes.size : Int) 1 400) fun q3 =>
 some q3) (
 some false)) fun v1 =>
 some v1
def Xc9 (p0 : Int) (p1 : Int) : Option Int :=
 bnd (
 bnd (Xb7 p0 0 65535) fun q2 =>
 sel q2 (
 bnd (Xb7 p1 0 65535) fun q3 =>
 some (!q3)) (
 some true)) fun v1 =>
 sel v1 (
 some 0) (
 req ((65536 : Int) ≠ 0) <|
 some ((Xah .i64 (p0 + p1)).tmod 65536))
def Xbg (p0 : ByteArray) (v4 : (Int × (List Int))) : Option (Lp (Int × (List Int)) (List Int)) :=
 sel (decide (v4.1 < (p0.size : Int))) (
 bnd (
 bnd (
 sel (decide ((v4.2.length : Int) ≥ 2)) (
 req (0 ≤ (Xah .i64 ((v4.2.length : Int) - 1)) ∧ (Xah .i64 ((v4.2.length : Int) - 1)) < v4.2.length) <|
 req ((Xah .i64 ((v4.2.length : Int) - 1)).toNat < v4.2.length) <|
 sel ((v4.2.getD ((Xah .i64 ((v4.2.length : Int) - 1)).toNat) 0) == 0) (
 req (0 ≤ (Xah .i64 ((v4.2.length : Int) - 2)) ∧ (Xah .i64 ((v4.2.length : Int) - 2)) < v4.2.length) <|
 req ((Xah .i64 ((v4.2.length : Int) - 2)).toNat < v4.2.length) <|
 sel ((v4.2.getD ((Xah .i64 ((v4.2.length : Int) - 2)).toNat) 0) == 0) (
 req (0 ≤ v4.1 ∧ v4.1 < p0.size) <|
 some (decide ((Xbu p0 v4.1) < 4))) (
 some false)) (
 some false)) (
 some false)) fun v10 =>
 sel v10 (
 req ((v4.2.length + ([3]).length) * 1 ≤ 140737488355328 ∧ v4.2.length + ([3]).length ≤ maxLen) <|
 some (v4.2 ++ ([3]))) (
 some v4.2)) fun v9 =>
 req (0 ≤ v4.1 ∧ v4.1 < p0.size) <|
 req ((v9.length + ([(Xbu p0 v4.1)]).length) * 1 ≤ 140737488355328 ∧ v9.length + ([(Xbu p0 v4.1)]).length ≤ maxLen) <|
 some (.go (Xah .i64 (v4.1 + 1), (v9 ++ ([(Xbu p0 v4.1)]))))) (
 some (.done v4.2))
def Xb4 (p0 : ByteArray) : Option ByteArray :=
 bnd (loop (Xbg p0) (0, ([] : List Int))) fun v8 =>
 some (strOfNums v8)
def Xcn (p0 : ByteArray) : Option (ByteArray × Bool) :=
 bnd (
 sel ((p0.size : Int) == 0) (
 some true) (
 sel (decide ((p0.size : Int) > 60000)) (
 some true) (
 req (0 ≤ (Xah .i64 ((p0.size : Int) - 1)) ∧ (Xah .i64 ((p0.size : Int) - 1)) < p0.size) <|
 some ((Xbu p0 (Xah .i64 ((p0.size : Int) - 1))) == 0)))) fun v1 =>
 sel v1 (
 some (⟨#[]⟩, false)) (
 bnd (Xb4 p0) fun q2 =>
 some (q2, true))
def Xa3 (p0 : ByteArray) (v4 : (Int × (List Int))) : Option (Lp (Int × (List Int)) (List Int)) :=
 sel (decide (v4.1 < (p0.size : Int))) (
 bnd (
 bnd (
 sel (decide (v4.1 ≥ 2)) (
 req (0 ≤ v4.1 ∧ v4.1 < p0.size) <|
 sel ((Xbu p0 v4.1) == 3) (
 req (0 ≤ (Xah .i64 (v4.1 - 1)) ∧ (Xah .i64 (v4.1 - 1)) < p0.size) <|
 sel ((Xbu p0 (Xah .i64 (v4.1 - 1))) == 0) (
 req (0 ≤ (Xah .i64 (v4.1 - 2)) ∧ (Xah .i64 (v4.1 - 2)) < p0.size) <|
 some ((Xbu p0 (Xah .i64 (v4.1 - 2))) == 0)) (
 some false)) (
 some false)) (
 some false)) fun v10 =>
 sel v10 (
 some v4.2) (
 req (0 ≤ v4.1 ∧ v4.1 < p0.size) <|
 req ((v4.2.length + ([(Xbu p0 v4.1)]).length) * 1 ≤ 140737488355328 ∧ v4.2.length + ([(Xbu p0 v4.1)]).length ≤ maxLen) <|
 some (v4.2 ++ ([(Xbu p0 v4.1)])))) fun v9 =>
 some (.go (Xah .i64 (v4.1 + 1), v9))) (
 some (.done v4.2))
def Xb1 (p0 : ByteArray) : Option (ByteArray × Bool) :=
 sel (decide ((p0.size : Int) > 120000)) (
 some (⟨#[]⟩, false)) (
 bnd (loop (Xa3 p0) (0, ([] : List Int))) fun v8 =>
 bnd (Xcn (strOfNums v8)) fun q12 =>
 bnd (
 sel q12.2 (
 some (!(q12.1.toList == p0.toList))) (
 some true)) fun v13 =>
 sel v13 (
 some (⟨#[]⟩, false)) (
 some ((strOfNums v8), true)))
def Xaq (p0 : ByteArray) (v17 : (Int × Int × (List ByteArray))) (v42 : Int) : Option (Lp Int Int) :=
 bnd (
 sel (decide (v42 > v17.1)) (
 req (0 ≤ (Xah .i64 (v42 - 1)) ∧ (Xah .i64 (v42 - 1)) < p0.size) <|
 some ((Xbu p0 (Xah .i64 (v42 - 1))) == 0)) (
 some false)) fun v46 =>
 sel v46 (
 some (.go (Xah .i64 (v42 - 1)))) (
 some (.done v42))
def Xan (p0 : ByteArray) (v17 : (Int × Int × (List ByteArray))) : Option (Lp (Int × Int × (List ByteArray)) (List ByteArray)) :=
 sel (decide (v17.2.1 ≤ (p0.size : Int))) (
 bnd (
 bnd (
 sel (decide ((Xah .i64 (v17.2.1 + 2)) < (p0.size : Int))) (
 req (0 ≤ v17.2.1 ∧ v17.2.1 < p0.size) <|
 sel ((Xbu p0 v17.2.1) == 0) (
 req (0 ≤ (Xah .i64 (v17.2.1 + 1)) ∧ (Xah .i64 (v17.2.1 + 1)) < p0.size) <|
 sel ((Xbu p0 (Xah .i64 (v17.2.1 + 1))) == 0) (
 req (0 ≤ (Xah .i64 (v17.2.1 + 2)) ∧ (Xah .i64 (v17.2.1 + 2)) < p0.size) <|
 some ((Xbu p0 (Xah .i64 (v17.2.1 + 2))) == 1)) (
 some false)) (
 some false)) (
 some false)) fun v36 =>
 bnd (
 sel v36 (
 some false) (
 some (decide (v17.2.1 < (p0.size : Int))))) fun v37 =>
 sel v37 (
 some (v17.1, v17.2.2)) (
 bnd (
 bnd (
 sel (decide (v17.1 ≥ 0)) (
 some (decide (v17.1 ≤ v17.2.1))) (
 some false)) fun v39 =>
 sel v39 (
 bnd (loop (Xaq p0 v17) v17.2.1) fun v45 =>
 req (0 ≤ v17.1 ∧ v17.1 ≤ v45 ∧ v45 ≤ (p0.size : Int)) <|
 bnd (Xb1 (p0.extract v17.1.toNat v45.toNat)) fun q48 =>
 bnd (
 sel q48.2 (
 some (decide ((v17.2.2.length : Int) < 400))) (
 some false)) fun v49 =>
 sel v49 (
 req ((v17.2.2.length + ([q48.1]).length) * 16 ≤ 140737488355328 ∧ v17.2.2.length + ([q48.1]).length ≤ maxLen) <|
 some (v17.2.2 ++ ([q48.1]))) (
 some v17.2.2)) (
 some v17.2.2)) fun v38 =>
 some (Xah .i64 (v17.2.1 + 3), v38))) fun v35 =>
 some (.go (v35.1, Xah .i64 (v17.2.1 + 1), v35.2))) (
 some (.done v17.2.2))
def Xec (p0 : ByteArray) : Option (List ByteArray) :=
 sel (decide ((p0.size : Int) > 60000)) (
 some ([] : List ByteArray)) (
 bnd (loop (Xan p0) ((-1), 0, ([] : List ByteArray))) fun v34 =>
 some v34)
def Xb0 (p0 : (List ByteArray)) (v3 : (Int × (List Int))) : Option (Lp (Int × (List Int)) (Ou (List Int) (ByteArray × Bool))) :=
 sel (decide (v3.1 < (p0.length : Int))) (
 req (0 ≤ v3.1 ∧ v3.1 < p0.length) <|
 bnd (Xcn (p0.getD v3.1.toNat Xcw)) fun q7 =>
 sel (!q7.2) (
 some (.done (.ret (⟨#[]⟩, false)))) (
 req ((v3.2.length + ([0, 0, 1]).length) * 1 ≤ 140737488355328 ∧ v3.2.length + ([0, 0, 1]).length ≤ maxLen) <|
 req (((v3.2 ++ ([0, 0, 1])).length + (Xac q7.1).length) * 1 ≤ 140737488355328 ∧ (v3.2 ++ ([0, 0, 1])).length + (Xac q7.1).length ≤ maxLen) <|
 sel (decide ((((v3.2 ++ ([0, 0, 1])) ++ (Xac q7.1)).length : Int) > 60000)) (
 some (.done (.ret (⟨#[]⟩, false)))) (
 some (.go (Xah .i64 (v3.1 + 1), ((v3.2 ++ ([0, 0, 1])) ++ (Xac q7.1))))))) (
 some (.done (.out v3.2)))
def Xd0 (p0 : (List ByteArray)) : Option (ByteArray × Bool) :=
 sel (decide ((p0.length : Int) > 400)) (
 some (⟨#[]⟩, false)) (
 bnd (loop (Xb0 p0) (0, ([] : List Int))) fun o8 => match o8 with
| .out v6 => (
 some ((strOfNums v6), true))
| .ret r => some r)
def Xb6 (p0 : ByteArray) : Option ((List ByteArray) × Bool) :=
 bnd (Xec p0) fun q1 =>
 bnd (Xd0 q1) fun q2 =>
 bnd (
 sel q2.2 (
 some (!(q2.1.toList == p0.toList))) (
 some true)) fun v3 =>
 sel v3 (
 some (([] : List ByteArray), false)) (
 some (q1, true))
def Xau (p0 : (List Packet)) (v7 : (ByteArray × Int)) : Option (Lp (ByteArray × Int) (Ou ByteArray ((List ByteArray) × Bool))) :=
 sel (decide (v7.2 < (p0.length : Int))) (
 bnd (
 req (0 ≤ v7.2 ∧ v7.2 < p0.length) <|
 bnd (Xcu (⟨(p0.getD v7.2.toNat Xai).Seq, (p0.getD v7.2.toNat Xai).First, (p0.getD v7.2.toNat Xai).Last, (p0.getD v7.2.toNat Xai).Bytes⟩ : Packet)) fun q15 =>
 sel q15 (
 req (0 ≤ v7.2 ∧ v7.2 < p0.length) <|
 sel (((p0.getD v7.2.toNat Xai).First) == (v7.2 == 0)) (
 req (0 ≤ v7.2 ∧ v7.2 < p0.length) <|
 some (!(((p0.getD v7.2.toNat Xai).Last) == (v7.2 == (Xah .i64 ((p0.length : Int) - 1)))))) (
 some true)) (
 some true)) fun v14 =>
 sel v14 (
 some (.done (.ret (([] : List ByteArray), false)))) (
 bnd (
 sel (decide (v7.2 > 0)) (
 req (0 ≤ v7.2 ∧ v7.2 < p0.length) <|
 req (0 ≤ (Xah .i64 (v7.2 - 1)) ∧ (Xah .i64 (v7.2 - 1)) < p0.length) <|
 bnd (Xc9 ((p0.getD (Xah .i64 (v7.2 - 1)).toNat Xai).Seq) 1) fun q17 =>
 some (((p0.getD v7.2.toNat Xai).Seq) != q17)) (
 some false)) fun v16 =>
 sel v16 (
 some (.done (.ret (([] : List ByteArray), false)))) (
 req (0 ≤ v7.2 ∧ v7.2 < p0.length) <|
 req (v7.1.size + ((p0.getD v7.2.toNat Xai).Bytes).size ≤ 9223372036854775807) <|
 some (.go ((v7.1 ++ ((p0.getD v7.2.toNat Xai).Bytes)), Xah .i64 (v7.2 + 1)))))) (
 some (.done (.out v7.1)))
def Xcf (p0 : (List Packet)) : Option ((List ByteArray) × Bool) :=
 bnd (Xb7 (p0.length : Int) 1 60) fun q1 =>
 sel (!q1) (
 some (([] : List ByteArray), false)) (
 bnd (loop (Xau p0) (⟨#[]⟩, 0)) fun o18 => match o18 with
| .out v13 => (
 bnd (Xb6 v13) fun q19 =>
 some (q19.1, q19.2))
| .ret r => some r)
def Xbs (p0 : Int) : Option Bool :=
 bnd (Xch p0 0 65535) fun q1 =>
 some q1
def Xco (p0 : Packet) : Option Bool :=
 bnd (
 bnd (Xbs p0.Seq) fun q2 =>
 sel q2 (
 bnd (Xch (p0.Bytes.size : Int) 1 400) fun q3 =>
 some q3) (
 some false)) fun v1 =>
 some v1
def Xc7 (p0 : Int) (p1 : Int) : Option Int :=
 bnd (
 bnd (Xbs p0) fun q2 =>
 sel q2 (
 bnd (Xbs p1) fun q3 =>
 some (!q3)) (
 some true)) fun v1 =>
 sel v1 (
 some 0) (
 req ((65536 : Int) ≠ 0) <|
 some ((Xah .i64 (p0 + p1)).tmod 65536))
def Xbh (p0 : ByteArray) (v3 : (Int × (List Int))) : Option (Lp (Int × (List Int)) (List Int)) :=
 sel (decide ((Xah .i64 (v3.1 + 3)) ≤ (p0.size : Int))) (
 bnd (
 req (0 ≤ v3.1 ∧ v3.1 ≤ (Xah .i64 (v3.1 + 3)) ∧ (Xah .i64 (v3.1 + 3)) ≤ (p0.size : Int)) <|
 sel ((p0.extract v3.1.toNat (Xah .i64 (v3.1 + 3)).toNat).toList == (⟨#[0, 0, 1]⟩ : ByteArray).toList) (
 req ((v3.2.length + ([v3.1]).length) * 8 ≤ 140737488355328 ∧ v3.2.length + ([v3.1]).length ≤ maxLen) <|
 some (v3.2 ++ ([v3.1]))) (
 some v3.2)) fun v7 =>
 some (.go (Xah .i64 (v3.1 + 1), v7))) (
 some (.done v3.2))
def Xdv (p0 : ByteArray) : Option (List Int) :=
 bnd (loop (Xbh p0) (0, ([] : List Int))) fun v6 =>
 some v6
def Xbl (p0 : ByteArray) (v6 : (Int × Int × (List Int))) : Option (Lp (Int × Int × (List Int)) (List Int)) :=
 sel (decide (v6.2.1 < (p0.size : Int))) (
 bnd (
 bnd (
 bnd (
 req (0 ≤ v6.2.1 ∧ v6.2.1 < p0.size) <|
 sel (decide ((Xbu p0 v6.2.1) < 4)) (
 some (decide (v6.1 ≥ 2))) (
 some false)) fun v14 =>
 sel v14 (
 req ((v6.2.2.length + ([3]).length) * 1 ≤ 140737488355328 ∧ v6.2.2.length + ([3]).length ≤ maxLen) <|
 some (0, (v6.2.2 ++ ([3])))) (
 some (v6.1, v6.2.2))) fun v13 =>
 req (0 ≤ v6.2.1 ∧ v6.2.1 < p0.size) <|
 req ((v13.2.length + ([(Xbu p0 v6.2.1)]).length) * 1 ≤ 140737488355328 ∧ v13.2.length + ([(Xbu p0 v6.2.1)]).length ≤ maxLen) <|
 req (0 ≤ v6.2.1 ∧ v6.2.1 < p0.size) <|
 sel ((Xbu p0 v6.2.1) == 0) (
 some (Xah .i64 (v13.1 + 1), (v13.2 ++ ([(Xbu p0 v6.2.1)])))) (
 some (0, (v13.2 ++ ([(Xbu p0 v6.2.1)]))))) fun v12 =>
 some (.go (v12.1, Xah .i64 (v6.2.1 + 1), v12.2))) (
 some (.done v6.2.2))
def Xcl (p0 : ByteArray) : Option (ByteArray × Bool) :=
 bnd (
 sel (p0.toList == (⟨#[]⟩ : ByteArray).toList) (
 some true) (
 sel (decide ((p0.size : Int) > 60000)) (
 some true) (
 req (0 ≤ (Xah .i64 ((p0.size : Int) - 1)) ∧ (Xah .i64 ((p0.size : Int) - 1)) < p0.size) <|
 some ((Xbu p0 (Xah .i64 ((p0.size : Int) - 1))) == 0)))) fun v1 =>
 sel v1 (
 some (⟨#[]⟩, false)) (
 req ((2 : Int) ≠ 0) <|
 req (0 ≤ (0 : Int) ∧ (0 : Int) ≤ (Xah .i64 ((p0.size : Int) + (Xah .i64 ((p0.size : Int).tdiv 2)))) ∧ (Xah .i64 ((p0.size : Int) + (Xah .i64 ((p0.size : Int).tdiv 2)))) * 1 ≤ 281474976710656) <|
 bnd (loop (Xbl p0) (0, 0, (List.replicate (0 : Int).toNat (0 : Int)))) fun v11 =>
 some ((strOfNums v11), true))
def Xa2 (p0 : ByteArray) (v5 : (Int × Int × (List Int))) : Option (Lp (Int × Int × (List Int)) (List Int)) :=
 sel (decide (v5.2.1 < (p0.size : Int))) (
 bnd (
 Xsi (fun (v12 : Int) =>
 req (0 ≤ v5.2.1 ∧ v5.2.1 < p0.size) <|
 req ((v5.2.2.length + ([(Xbu p0 v5.2.1)]).length) * 1 ≤ 140737488355328 ∧ v5.2.2.length + ([(Xbu p0 v5.2.1)]).length ≤ maxLen) <|
 some (v12, (v5.2.2 ++ ([(Xbu p0 v5.2.1)])))) fun j12 =>
 bnd (
 sel (decide (v5.1 ≥ 2)) (
 req (0 ≤ v5.2.1 ∧ v5.2.1 < p0.size) <|
 some ((Xbu p0 v5.2.1) == 3)) (
 some false)) fun v13 =>
 sel v13 (
 some (0, v5.2.2)) (
 req (0 ≤ v5.2.1 ∧ v5.2.1 < p0.size) <|
 sel ((Xbu p0 v5.2.1) == 0) (
 j12 (Xah .i64 (v5.1 + 1))) (
 j12 0))) fun v11 =>
 some (.go (v11.1, Xah .i64 (v5.2.1 + 1), v11.2))) (
 some (.done v5.2.2))
def Xcc (p0 : ByteArray) : Option (ByteArray × Bool) :=
 req (0 ≤ (0 : Int) ∧ (0 : Int) ≤ (p0.size : Int) ∧ (p0.size : Int) * 1 ≤ 281474976710656) <|
 bnd (loop (Xa2 p0) (0, 0, (List.replicate (0 : Int).toNat (0 : Int)))) fun v10 =>
 bnd (Xcl (strOfNums v10)) fun q15 =>
 bnd (
 sel q15.2 (
 some (!(q15.1.toList == p0.toList))) (
 some true)) fun v16 =>
 sel v16 (
 some (⟨#[]⟩, false)) (
 some ((strOfNums v10), true))
def Xby (p0 : (List ByteArray)) (v4 : (Int × (List Int))) : Option (Lp (Int × (List Int)) (Ou (List Int) (ByteArray × Bool))) :=
 sel (decide (v4.1 < (p0.length : Int))) (
 req (0 ≤ v4.1 ∧ v4.1 < p0.length) <|
 bnd (Xcl (p0.getD v4.1.toNat Xcw)) fun q9 =>
 bnd (
 sel q9.2 (
 some (decide ((Xah .i64 ((Xah .i64 ((v4.2.length : Int) + 3)) + (q9.1.size : Int))) > 60000))) (
 some true)) fun v10 =>
 sel v10 (
 some (.done (.ret (⟨#[]⟩, false)))) (
 req ((v4.2.length + ([0, 0, 1]).length) * 1 ≤ 140737488355328 ∧ v4.2.length + ([0, 0, 1]).length ≤ maxLen) <|
 req (((v4.2 ++ ([0, 0, 1])).length + (Xac q9.1).length) * 1 ≤ 140737488355328 ∧ (v4.2 ++ ([0, 0, 1])).length + (Xac q9.1).length ≤ maxLen) <|
 some (.go (Xah .i64 (v4.1 + 1), ((v4.2 ++ ([0, 0, 1])) ++ (Xac q9.1)))))) (
 some (.done (.out v4.2)))
def Xcx (p0 : (List ByteArray)) : Option (ByteArray × Bool) :=
 sel (decide ((p0.length : Int) > 400)) (
 some (⟨#[]⟩, false)) (
 bnd (loop (Xby p0) (0, ([] : List Int))) fun o11 => match o11 with
| .out v8 => (
 some ((strOfNums v8), true))
| .ret r => some r)
def Xap (p0 : ByteArray) (q1 : (List Int)) (v4 : (Int × (List ByteArray))) : Option (Lp (Int × (List ByteArray)) (Ou (List ByteArray) ((List ByteArray) × Bool))) :=
 sel (decide ((Xah .i64 (v4.1 + 1)) < ((q1 ++ ([(p0.size : Int)])).length : Int))) (
 req (0 ≤ v4.1 ∧ v4.1 < (q1 ++ ([(p0.size : Int)])).length) <|
 req (v4.1.toNat < (q1 ++ ([(p0.size : Int)])).length) <|
 req (0 ≤ (Xah .i64 (v4.1 + 1)) ∧ (Xah .i64 (v4.1 + 1)) < (q1 ++ ([(p0.size : Int)])).length) <|
 req ((Xah .i64 (v4.1 + 1)).toNat < (q1 ++ ([(p0.size : Int)])).length) <|
 req (0 ≤ (Xah .i64 (((q1 ++ ([(p0.size : Int)])).getD v4.1.toNat 0) + 3)) ∧ (Xah .i64 (((q1 ++ ([(p0.size : Int)])).getD v4.1.toNat 0) + 3)) ≤ ((q1 ++ ([(p0.size : Int)])).getD ((Xah .i64 (v4.1 + 1)).toNat) 0) ∧ ((q1 ++ ([(p0.size : Int)])).getD ((Xah .i64 (v4.1 + 1)).toNat) 0) ≤ (p0.size : Int)) <|
 bnd (Xcc (p0.extract (Xah .i64 (((q1 ++ ([(p0.size : Int)])).getD v4.1.toNat 0) + 3)).toNat ((q1 ++ ([(p0.size : Int)])).getD ((Xah .i64 (v4.1 + 1)).toNat) 0).toNat)) fun q8 =>
 sel (!q8.2) (
 some (.done (.ret (([] : List ByteArray), false)))) (
 req ((v4.2.length + ([q8.1]).length) * 16 ≤ 140737488355328 ∧ v4.2.length + ([q8.1]).length ≤ maxLen) <|
 some (.go (Xah .i64 (v4.1 + 1), (v4.2 ++ ([q8.1])))))) (
 some (.done (.out v4.2)))
def Xcp (p0 : ByteArray) : Option ((List ByteArray) × Bool) :=
 sel (decide ((p0.size : Int) > 60000)) (
 some (([] : List ByteArray), false)) (
 bnd (Xdv p0) fun q1 =>
 req ((q1.length + ([(p0.size : Int)]).length) * 8 ≤ 140737488355328 ∧ q1.length + ([(p0.size : Int)]).length ≤ maxLen) <|
 bnd (loop (Xap p0 q1) (0, ([] : List ByteArray))) fun o9 => match o9 with
| .out v7 => (
 bnd (Xcx v7) fun q10 =>
 bnd (
 sel q10.2 (
 some (!(q10.1.toList == p0.toList))) (
 some true)) fun v11 =>
 sel v11 (
 some (([] : List ByteArray), false)) (
 some (v7, true)))
| .ret r => some r)
def Xas (p0 : (List Packet)) (v6 : (ByteArray × Int)) : Option (Lp (ByteArray × Int) (Ou ByteArray ((List ByteArray) × Bool))) :=
 sel (decide (v6.2 < (p0.length : Int))) (
 req (0 ≤ v6.2 ∧ v6.2 < p0.length) <|
 bnd (
 bnd (Xco (⟨(p0.getD v6.2.toNat Xai).Seq, (p0.getD v6.2.toNat Xai).First, (p0.getD v6.2.toNat Xai).Last, (p0.getD v6.2.toNat Xai).Bytes⟩ : Packet)) fun q13 =>
 sel q13 (
 sel (((p0.getD v6.2.toNat Xai).First) == (v6.2 == 0)) (
 sel (((p0.getD v6.2.toNat Xai).Last) == (v6.2 == (Xah .i64 ((p0.length : Int) - 1)))) (
 sel (decide (v6.2 > 0)) (
 req (0 ≤ (Xah .i64 (v6.2 - 1)) ∧ (Xah .i64 (v6.2 - 1)) < p0.length) <|
 bnd (Xc7 ((p0.getD (Xah .i64 (v6.2 - 1)).toNat Xai).Seq) 1) fun q14 =>
 some (((p0.getD v6.2.toNat Xai).Seq) != q14)) (
 some false)) (
 some true)) (
 some true)) (
 some true)) fun v12 =>
 sel v12 (
 some (.done (.ret (([] : List ByteArray), false)))) (
 req (v6.1.size + ((p0.getD v6.2.toNat Xai).Bytes).size ≤ 9223372036854775807) <|
 some (.go ((v6.1 ++ ((p0.getD v6.2.toNat Xai).Bytes)), Xah .i64 (v6.2 + 1))))) (
 some (.done (.out v6.1)))
def Xbz (p0 : (List Packet)) : Option ((List ByteArray) × Bool) :=
 bnd (Xch (p0.length : Int) 1 60) fun q1 =>
 sel (!q1) (
 some (([] : List ByteArray), false)) (
 bnd (loop (Xas p0) (⟨#[]⟩, 0)) fun o15 => match o15 with
| .out v11 => (
 bnd (Xcp v11) fun q16 =>
 bnd (
 sel q16.2 (
 some ((q16.1.length : Int) == 0)) (
 some true)) fun v17 =>
 sel v17 (
 some (([] : List ByteArray), false)) (
 some (q16.1, true)))
| .ret r => some r)
def Xbn (p0 : (List ByteArray)) (p1 : (List ByteArray)) (v2 : Int) : Option (Lp Int (Ou Unit Bool)) :=
 sel (decide (v2 < (p0.length : Int))) (
 req (0 ≤ v2 ∧ v2 < p0.length) <|
 req (0 ≤ v2 ∧ v2 < p1.length) <|
 sel (!((p0.getD v2.toNat Xcw).toList == (p1.getD v2.toNat Xcw).toList)) (
 some (.done (.ret false))) (
 some (.go (Xah .i64 (v2 + 1))))) (
 some (.done (.out ())))
def Xbi (p0 : (List ByteArray)) (p1 : (List ByteArray)) : Option Bool :=
 sel ((p0.length : Int) != (p1.length : Int)) (
 some false) (
 bnd (loop (Xbn p0 p1) 0) fun o5 => match o5 with
| .out v4 => (
 some true)
| .ret r => some r)
def Xcr (p0 : Packet) (p1 : Packet) : Option Bool :=
 sel (p0.Seq != p1.Seq) (
 some false) (
 sel (!(p0.First == p1.First)) (
 some false) (
 sel (!(p0.Last == p1.Last)) (
 some false) (
 sel (!(p0.Bytes.toList == p1.Bytes.toList)) (
 some false) (
 some true))))
def Xbm (p0 : (List Packet)) (p1 : (List Packet)) (v3 : Int) : Option (Lp Int (Ou Unit Bool)) :=
 sel (decide (v3 < (p0.length : Int))) (
 req (0 ≤ v3 ∧ v3 < p0.length) <|
 req (0 ≤ v3 ∧ v3 < p1.length) <|
 bnd (Xcr (⟨(p0.getD v3.toNat Xai).Seq, (p0.getD v3.toNat Xai).First, (p0.getD v3.toNat Xai).Last, (p0.getD v3.toNat Xai).Bytes⟩ : Packet) (⟨(p1.getD v3.toNat Xai).Seq, (p1.getD v3.toNat Xai).First, (p1.getD v3.toNat Xai).Last, (p1.getD v3.toNat Xai).Bytes⟩ : Packet)) fun q7 =>
 sel (!q7) (
 some (.done (.ret false))) (
 some (.go (Xah .i64 (v3 + 1))))) (
 some (.done (.out ())))
def Xcd (p0 : (List Packet)) (p1 : (List Packet)) : Option Bool :=
 sel ((p0.length : Int) != (p1.length : Int)) (
 some false) (
 bnd (loop (Xbm p0 p1) 0) fun o8 => match o8 with
| .out v6 => (
 some true)
| .ret r => some r)
def Xcg (v2 : (Int × ByteArray)) : Option (Lp (Int × ByteArray) ByteArray) :=
 sel (decide (v2.1 > 0)) (
 req ((10 : Int) ≠ 0) <|
 req ((strOfNums ([Xah .u8 (Xah .i64 (48 + (v2.1.tmod 10)))])).size + v2.2.size ≤ 9223372036854775807) <|
 req ((10 : Int) ≠ 0) <|
 some (.go (Xah .i64 (v2.1.tdiv 10), ((strOfNums ([Xah .u8 (Xah .i64 (48 + (v2.1.tmod 10)))])) ++ v2.2)))) (
 some (.done v2.2))
def Xaz (p0 : Int) : Option ByteArray :=
 sel (decide (p0 ≤ 0)) (
 some ⟨#[109, 48]⟩) (
 bnd (loop (Xcg) (p0, ⟨#[]⟩)) fun v4 =>
 req ((⟨#[109]⟩ : ByteArray).size + v4.size ≤ 9223372036854775807) <|
 some ((⟨#[109]⟩ : ByteArray) ++ v4))
def Xa7 (v7 : (Int × Int × (List Packet))) : Option (Lp (Int × Int × (List Packet)) (Int × (List Packet))) :=
 sel (decide (v7.2.1 < (v7.2.2.length : Int))) (
 req (0 ≤ v7.2.1 ∧ v7.2.1 < v7.2.2.length) <|
 req (v7.2.1.toNat < v7.2.2.length) <|
 bnd (some (v7.2.2.set v7.2.1.toNat (⟨v7.1, (v7.2.2.getD v7.2.1.toNat Xai).First, (v7.2.2.getD v7.2.1.toNat Xai).Last, (v7.2.2.getD v7.2.1.toNat Xai).Bytes⟩ : Packet))) fun s15 =>
 req ((3 : Int) ≠ 0) <|
 req (0 ≤ v7.2.1 ∧ v7.2.1 < s15.length) <|
 req (v7.2.1.toNat < s15.length) <|
 bnd (some (s15.set v7.2.1.toNat (⟨(s15.getD v7.2.1.toNat Xai).Seq, (((Xah .i64 (v7.1 + 1)).tmod 3) == 0), (s15.getD v7.2.1.toNat Xai).Last, (s15.getD v7.2.1.toNat Xai).Bytes⟩ : Packet))) fun s16 =>
 req ((3 : Int) ≠ 0) <|
 req (0 ≤ v7.2.1 ∧ v7.2.1 < s16.length) <|
 req (v7.2.1.toNat < s16.length) <|
 bnd (some (s16.set v7.2.1.toNat (⟨(s16.getD v7.2.1.toNat Xai).Seq, (s16.getD v7.2.1.toNat Xai).First, (((Xah .i64 ((Xah .i64 (v7.1 + 1)) + 1)).tmod 3) == 0), (s16.getD v7.2.1.toNat Xai).Bytes⟩ : Packet))) fun s17 =>
 bnd (Xaz (Xah .i64 ((Xah .i64 ((Xah .i64 (v7.1 + 1)) + 1)) + 1))) fun q18 =>
 req (0 ≤ v7.2.1 ∧ v7.2.1 < s17.length) <|
 req (v7.2.1.toNat < s17.length) <|
 bnd (some (s17.set v7.2.1.toNat (⟨(s17.getD v7.2.1.toNat Xai).Seq, (s17.getD v7.2.1.toNat Xai).First, (s17.getD v7.2.1.toNat Xai).Last, q18⟩ : Packet))) fun s19 =>
 some (.go (Xah .i64 ((Xah .i64 ((Xah .i64 ((Xah .i64 (v7.1 + 1)) + 1)) + 1)) + 1), Xah .i64 (v7.2.1 + 1), s19))) (
 some (.done (v7.1, v7.2.2)))
def Xbw (p0 : (List Packet)) (p1 : Int) : Option (Int × (List Packet)) :=
 bnd (loop (Xa7) (p1, 0, p0)) fun v14 =>
 some (v14.1, v14.2)
def Xa8 (v3 : (Int × Int × (List ByteArray))) : Option (Lp (Int × Int × (List ByteArray)) (Int × (List ByteArray))) :=
 sel (decide (v3.2.1 < (v3.2.2.length : Int))) (
 bnd (Xaz v3.1) fun q7 =>
 req (0 ≤ v3.2.1 ∧ v3.2.1 < v3.2.2.length) <|
 req (v3.2.1.toNat < v3.2.2.length) <|
 some (.go (Xah .i64 (v3.1 + 1), Xah .i64 (v3.2.1 + 1), (v3.2.2.set v3.2.1.toNat q7)))) (
 some (.done (v3.1, v3.2.2)))
def Xbx (p0 : (List ByteArray)) (p1 : Int) : Option (Int × (List ByteArray)) :=
 bnd (loop (Xa8) (p1, 0, p0)) fun v6 =>
 some (v6.1, v6.2)
def Xa6 (p0 : (List ByteArray)) (v3 : (Int × Int)) : Option (Lp (Int × Int) (Ou Int Int)) :=
 sel (decide (v3.2 < (p0.length : Int))) (
 req (0 ≤ v3.2 ∧ v3.2 < p0.length) <|
 bnd (Xaz v3.1) fun q7 =>
 sel (!((p0.getD v3.2.toNat Xcw).toList == q7.toList)) (
 some (.done (.ret (-1)))) (
 some (.go (Xah .i64 (v3.1 + 1), Xah .i64 (v3.2 + 1))))) (
 some (.done (.out v3.1)))
def Xbd (p0 : (List ByteArray)) (p1 : Int) : Option Int :=
 bnd (loop (Xa6 p0) (p1, 0)) fun o8 => match o8 with
| .out v6 => (
 some v6)
| .ret r => some r
def Xbe (p0 : (List Packet)) : Option Bool :=
 bnd (Xce p0 1048576) fun q1 =>
 sel (decide (q1 < 0)) (
 some true) (
 bnd (Xa1 p0) fun q2 =>
 bnd (Xcf q2) fun q3 =>
 bnd (Xa1 p0) fun q4 =>
 bnd (Xbz q4) fun q5 =>
 bnd (
 bnd (Xbi q5.1 q3.1) fun q7 =>
 sel q7 (
 some (!(q5.2 == q3.2))) (
 some true)) fun v6 =>
 sel v6 (
 some false) (
 bnd (Xa1 p0) fun q8 =>
 bnd (Xcd q4 q8) fun q9 =>
 sel (!q9) (
 some false) (
 bnd (Xbw q4 1) fun q10 =>
 bnd (
 sel (decide (q10.1 < 0)) (
 some true) (
 bnd (Xbi q5.1 q3.1) fun q12 =>
 sel q12 (
 some (!(q5.2 == q3.2))) (
 some true))) fun v11 =>
 sel v11 (
 some false) (
 bnd (Xbx q5.1 1) fun q13 =>
 bnd (Xbd q13.2 1) fun q14 =>
 sel (decide (q14 < 0)) (
 some false) (
 sel (q14 != q13.1) (
 some false) (
 bnd (Xa1 p0) fun q15 =>
 bnd (Xbz q15) fun q16 =>
 bnd (
 bnd (Xbi q16.1 q3.1) fun q18 =>
 sel q18 (
 some (!(q16.2 == q3.2))) (
 some true)) fun v17 =>
 sel v17 (
 some false) (
 bnd (Xbd q13.2 1) fun q19 =>
 sel (decide (q19 < 0)) (
 some false) (
 sel (q19 != q13.1) (
 some false) (
 some true)))))))))
end
end Go.Proofs.Ytlebkepfhdjnmab.A
