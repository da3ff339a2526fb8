/- What the functions that the law FnBestMove reaches compute, over numbers, texts and lists. Written by a program of this session. Conditions: none. -/
import Derived.Test.YtlebkepfhdjnmabAL2
namespace Go.Proofs.Ytlebkepfhdjnmab.A
open Go Go.Proofs Go.Proofs.YtlebkepfhdjnmabAL Go.RowKit
set_option linter.unusedVariables false
set_option linter.unusedSimpArgs false
structure Pic where
 Wide : Int
 High : Int
 Dots : ByteArray
structure Xta where
 Left : Int
 Top : Int
 Wide : Int
 High : Int
structure Xap where
 b_ : (List Int)
 i_ : Int
 h_ : Int
noncomputable section
def Xhu (p0 : (List Int)) : Option Bool :=
 some (decide ((p0.length : Int) > 1048576))
def Xci (p0 : (List Int)) (v3 : (Int × Int)) : Option (Lp (Int × Int) Int) :=
 bnd (
 sel (decide (v3.2 < (p0.length : Int))) (
 some (decide (v3.2 < 4000))) (
 some false)) fun v7 =>
 sel v7 (
 req (0 ≤ v3.2 ∧ v3.2 < p0.length) <|
 some (.go ((IntKind.wrap .i64 (BitVec.ofInt (IntKind.bits .i64) (Xaa .i64 ((Xaa .i64 ((Xaa .i64 (v3.1 * 131)) + (Xaa .i64 ((p0.getD v3.2.toNat 0))))) + 7)) &&& BitVec.ofInt (IntKind.bits .i64) 1073741823).toNat), Xaa .i64 (v3.2 + 1)))) (
 some (.done v3.1))
def Xcc (p0 : (List Int)) : Option Xap :=
 bnd (loop (Xci p0) (Xaa .i64 (94701 + (p0.length : Int)), 0)) fun v6 =>
 some (⟨p0, 0, v6⟩ : Xap)
def Xar (p0 : Xap) : Option (Int × Xap) :=
 req (0 ≤ (33 : Int)) <|
 req (0 ≤ (45 : Int)) <|
 bnd (
 sel (decide (p0.i_ < (p0.b_.length : Int))) (
 req (0 ≤ p0.i_ ∧ p0.i_ < p0.b_.length) <|
 some ((IntKind.wrap .i64 (BitVec.ofInt (IntKind.bits .i64) (Xaa .i64 ((IntKind.wrap .i64 (BitVec.ofInt (IntKind.bits .i64) (IntKind.wrap .i64 (BitVec.ofInt (IntKind.bits .i64) ((Xaa .i64 ((Xaa .i64 (p0.h_ * 6364136223846793005)) + 1442695040888963407)) / 2 ^ min (33 : Int).toNat (IntKind.bits .i64)) ^^^ BitVec.ofInt (IntKind.bits .i64) ((Xaa .i64 ((Xaa .i64 (p0.h_ * 6364136223846793005)) + 1442695040888963407)) / 2 ^ min (45 : Int).toNat (IntKind.bits .i64))).toNat) &&& BitVec.ofInt (IntKind.bits .i64) 255).toNat) + (Xaa .i64 ((p0.b_.getD p0.i_.toNat 0))))) &&& BitVec.ofInt (IntKind.bits .i64) 255).toNat), Xaa .i64 (p0.i_ + 1))) (
 some ((IntKind.wrap .i64 (BitVec.ofInt (IntKind.bits .i64) (IntKind.wrap .i64 (BitVec.ofInt (IntKind.bits .i64) ((Xaa .i64 ((Xaa .i64 (p0.h_ * 6364136223846793005)) + 1442695040888963407)) / 2 ^ min (33 : Int).toNat (IntKind.bits .i64)) ^^^ BitVec.ofInt (IntKind.bits .i64) ((Xaa .i64 ((Xaa .i64 (p0.h_ * 6364136223846793005)) + 1442695040888963407)) / 2 ^ min (45 : Int).toNat (IntKind.bits .i64))).toNat) &&& BitVec.ofInt (IntKind.bits .i64) 255).toNat), p0.i_))) fun v1 =>
 some (v1.1, (⟨p0.b_, v1.2, Xaa .i64 ((Xaa .i64 (p0.h_ * 6364136223846793005)) + 1442695040888963407)⟩ : Xap))
def Xai (p0 : Xap) (p1 : Int) : Option (Int × Xap) :=
 sel (decide (p1 ≤ 0)) (
 some (0, p0)) (
 sel (decide (p1 ≤ 256)) (
 bnd (Xar p0) fun q1 =>
 req (p1 ≠ 0) <|
 some ((q1.1.tmod p1), q1.2)) (
 bnd (Xar p0) fun q2 =>
 bnd (Xar q2.2) fun q3 =>
 bnd (Xar q3.2) fun q4 =>
 bnd (Xar q4.2) fun q5 =>
 req (p1 ≠ 0) <|
 some (((Xaa .i64 ((Xaa .i64 ((Xaa .i64 ((Xaa .i64 (q2.1 * 16777216)) + (Xaa .i64 (q3.1 * 65536)))) + (Xaa .i64 (q4.1 * 256)))) + q5.1)).tmod p1), q5.2)))
def Xb4 (p1 : Int) (v7 : (Int × Int × (List Int) × Int × Int × (List Int))) : Option (Lp (Int × Int × (List Int) × Int × Int × (List Int)) ((List Int) × (List Int) × Int × Int)) :=
 sel (decide (v7.2.1 < p1)) (
 bnd (
 bnd (Xai (⟨v7.2.2.1, v7.2.2.2.1, v7.2.2.2.2.1⟩ : Xap) 6) fun q15 =>
 sel (q15.1 == 0) (
 bnd (Xar q15.2) fun q16 =>
 some (q16.1, q16.2.b_, q16.2.i_, q16.2.h_)) (
 sel (q15.1 == 1) (
 bnd (Xai q15.2 9) fun q17 =>
 some ((IntKind.wrap .i64 (BitVec.ofInt (IntKind.bits .i64) (Xaa .i64 ((Xaa .i64 (v7.1 + q17.1)) + 252)) &&& BitVec.ofInt (IntKind.bits .i64) 255).toNat), q17.2.b_, q17.2.i_, q17.2.h_)) (
 some (v7.1, q15.2.b_, q15.2.i_, q15.2.h_)))) fun v14 =>
 req ((v7.2.2.2.2.2.length + ([Xaa .u8 (v14.1)]).length) * 1 ≤ 140737488355328 ∧ v7.2.2.2.2.2.length + ([Xaa .u8 (v14.1)]).length ≤ maxLen) <|
 some (.go (v14.1, Xaa .i64 (v7.2.1 + 1), v14.2.1, v14.2.2.1, v14.2.2.2, (v7.2.2.2.2.2 ++ ([Xaa .u8 (v14.1)]))))) (
 some (.done (v7.2.2.2.2.2, v7.2.2.1, v7.2.2.2.1, v7.2.2.2.2.1)))
def Xcp (p0 : Xap) (p1 : Int) : Option (ByteArray × Xap) :=
 bnd (Xar p0) fun q1 =>
 bnd (loop (Xb4 p1) (q1.1, 0, q1.2.b_, q1.2.i_, q1.2.h_, ([] : List Int))) fun v13 =>
 some ((strOfNums v13.1), (⟨v13.2.1, v13.2.2.1, v13.2.2.2⟩ : Xap))
def Xb5 (p0 : Xap) (p1 : Int) (p2 : Int) : Option (Pic × Xap) :=
 bnd (Xcp p0 (Xaa .i64 (p1 * p2))) fun q1 =>
 some ((⟨p1, p2, q1.1⟩ : Pic), q1.2)
def Xbe (p0 : Xap) : Option (Pic × Xap) :=
 bnd (Xai p0 2) fun q1 =>
 bnd (Xai q1.2 2) fun q2 =>
 bnd (Xb5 q2.2 (Xaa .i64 (8 + (Xaa .i64 (8 * q1.1)))) (Xaa .i64 (8 + (Xaa .i64 (8 * q2.1))))) fun q3 =>
 some (q3.1, q3.2)
def Xco (p0 : Xap) (p1 : Int) : Option (Bool × Xap) :=
 bnd (Xai p0 p1) fun q1 =>
 some ((q1.1 == 0), q1.2)
def Xbt (p0 : Int) (p1 : Int) (p2 : Int) : Option Bool :=
 bnd (
 sel (decide (p0 ≥ p1)) (
 some (decide (p0 ≤ p2))) (
 some false)) fun v1 =>
 some v1
def Xc9 (p0 : Pic) : Option Bool :=
 bnd (
 bnd (Xbt p0.Wide 1 256) fun q2 =>
 sel q2 (
 bnd (Xbt p0.High 1 256) fun q3 =>
 sel q3 (
 some ((p0.Dots.size : Int) == (Xaa .i64 (p0.Wide * p0.High)))) (
 some false)) (
 some false)) fun v1 =>
 some v1
def Xbs (p0 : Int) (p1 : Int) (p2 : Int) : Option Int :=
 bnd (
 sel (decide (p2 < p1)) (
 some true) (
 some (decide (p0 < p1)))) fun v1 =>
 sel v1 (
 some p1) (
 sel (decide (p0 > p2)) (
 some p2) (
 some p0))
def Xc8 (p0 : Pic) (p1 : Int) (p2 : Int) : Option Int :=
 bnd (Xc9 p0) fun q1 =>
 sel (!q1) (
 some (-1)) (
 bnd (Xbs p2 0 (Xaa .i64 (p0.High - 1))) fun q2 =>
 bnd (Xbs p1 0 (Xaa .i64 (p0.Wide - 1))) fun q3 =>
 req (0 ≤ (Xaa .i64 ((Xaa .i64 (q2 * p0.Wide)) + q3)) ∧ (Xaa .i64 ((Xaa .i64 (q2 * p0.Wide)) + q3)) < p0.Dots.size) <|
 some (Xaa .i64 ((Xqj p0.Dots (Xaa .i64 ((Xaa .i64 (q2 * p0.Wide)) + q3))))))
def Xb6 (p1 : Pic) (v3 : (Int × Int × (List Int) × Int × Int)) (v7 : (Int × (List Int))) : Option (Lp (Int × (List Int)) (List Int)) :=
 sel (decide (v7.1 < (p1.Dots.size : Int))) (
 req (p1.Wide ≠ 0) <|
 req (p1.Wide ≠ 0) <|
 bnd (Xc8 p1 (Xaa .i64 ((v7.1.tmod p1.Wide) + v3.1)) (Xaa .i64 ((Xaa .i64 (v7.1.tdiv p1.Wide)) + v3.2.1))) fun q11 =>
 req ((v7.2.length + ([Xaa .u8 (q11)]).length) * 1 ≤ 140737488355328 ∧ v7.2.length + ([Xaa .u8 (q11)]).length ≤ maxLen) <|
 some (.go (Xaa .i64 (v7.1 + 1), (v7.2 ++ ([Xaa .u8 (q11)]))))) (
 some (.done v7.2))
def Xb7 (v17 : (Int × (List Int) × Int × Int × (List Int))) : Option (Lp (Int × (List Int) × Int × Int × (List Int)) ((List Int) × (List Int) × Int × Int)) :=
 bnd (Xai (⟨v17.2.1, v17.2.2.1, v17.2.2.2.1⟩ : Xap) 6) fun q23 =>
 sel (decide (v17.1 < q23.1)) (
 bnd (Xai q23.2 (v17.2.2.2.2.length : Int)) fun q24 =>
 bnd (Xar q24.2) fun q25 =>
 req (0 ≤ q24.1 ∧ q24.1 < v17.2.2.2.2.length) <|
 req (q24.1.toNat < v17.2.2.2.2.length) <|
 some (.go (Xaa .i64 (v17.1 + 1), q25.2.b_, q25.2.i_, q25.2.h_, (v17.2.2.2.2.set q24.1.toNat (Xaa .u8 (q25.1)))))) (
 some (.done (v17.2.2.2.2, q23.2.b_, q23.2.i_, q23.2.h_)))
def Xcq (p0 : Xap) (p1 : Pic) : Option (Pic × Xap) :=
 bnd (Xai p0 7) fun q1 =>
 bnd (Xai q1.2 5) fun q2 =>
 bnd (
 bnd (Xco q2.2 3) fun q4 =>
 sel q4.1 (
 some (0, 0, q4.2.b_, q4.2.i_, q4.2.h_)) (
 some (Xaa .i64 (q1.1 - 3), Xaa .i64 (q2.1 - 2), q4.2.b_, q4.2.i_, q4.2.h_))) fun v3 =>
 bnd (loop (Xb6 p1 v3) (0, ([] : List Int))) fun v10 =>
 bnd (loop (Xb7) (0, v3.2.2.1, v3.2.2.2.1, v3.2.2.2.2, v10)) fun v22 =>
 some ((⟨p1.Wide, p1.High, (strOfNums v22.1)⟩ : Pic), (⟨v22.2.1, v22.2.2.1, v22.2.2.2⟩ : Xap))
def Xb3 (p0 : (List Int)) : Option (Pic × Pic) :=
 bnd (Xcc p0) fun q1 =>
 bnd (Xbe q1) fun q2 =>
 bnd (Xcq q2.2 q2.1) fun q3 =>
 some (q2.1, q3.1)
def Xa9 (v5 : (Int × (List Int) × Int × Int × (List Int))) : Option (Lp (Int × (List Int) × Int × Int × (List Int)) (List Int)) :=
 sel (decide (v5.1 < 12)) (
 bnd (Xai (⟨v5.2.1, v5.2.2.1, v5.2.2.2.1⟩ : Xap) 10000) fun q9 =>
 req ((v5.2.2.2.2.length + ([q9.1]).length) * 8 ≤ 140737488355328 ∧ v5.2.2.2.2.length + ([q9.1]).length ≤ maxLen) <|
 some (.go (Xaa .i64 (v5.1 + 1), q9.2.b_, q9.2.i_, q9.2.h_, (v5.2.2.2.2 ++ ([q9.1]))))) (
 some (.done v5.2.2.2.2))
def Xbd (p0 : (List Int)) : Option (List Int) :=
 bnd (Xcc p0) fun q1 =>
 bnd (Xar q1) fun q2 =>
 bnd (loop (Xa9) (0, q2.2.b_, q2.2.i_, q2.2.h_, ([] : List Int))) fun v8 =>
 some v8
def Xbc (p0 : Pic) (p1 : Int) (p2 : Int) (v7 : (Int × (List Int))) : Option (Lp (Int × (List Int)) (List Int)) :=
 sel (decide (v7.1 < 64)) (
 req ((8 : Int) ≠ 0) <|
 req ((8 : Int) ≠ 0) <|
 bnd (Xc8 p0 (Xaa .i64 (p1 + (v7.1.tmod 8))) (Xaa .i64 (p2 + (Xaa .i64 (v7.1.tdiv 8))))) fun q11 =>
 req ((v7.2.length + ([q11]).length) * 8 ≤ 140737488355328 ∧ v7.2.length + ([q11]).length ≤ maxLen) <|
 some (.go (Xaa .i64 (v7.1 + 1), (v7.2 ++ ([q11]))))) (
 some (.done v7.2))
def Xcn (p0 : Pic) (p1 : Int) (p2 : Int) : Option (List Int) :=
 bnd (
 bnd (Xc9 p0) fun q2 =>
 sel q2 (
 bnd (Xbt p1 (-1000) 1000) fun q3 =>
 sel q3 (
 bnd (Xbt p2 (-1000) 1000) fun q4 =>
 some (!q4)) (
 some true)) (
 some true)) fun v1 =>
 sel v1 (
 some ([] : List Int)) (
 bnd (loop (Xbc p0 p1 p2) (0, ([] : List Int))) fun v10 =>
 some v10)
def Xal (p0 : Int) (p1 : Int) (p2 : Int) : Option Bool :=
 bnd (
 sel (decide (p0 ≥ p1)) (
 some (decide (p0 ≤ p2))) (
 some false)) fun v1 =>
 some v1
def Xc6 (p0 : Pic) : Option Bool :=
 bnd (
 bnd (Xal p0.Wide 1 256) fun q2 =>
 sel q2 (
 bnd (Xal p0.High 1 256) fun q3 =>
 sel q3 (
 some ((p0.Dots.size : Int) == (Xaa .i64 (p0.Wide * p0.High)))) (
 some false)) (
 some false)) fun v1 =>
 some v1
def Xbx (p0 : (List Int)) (p2 : Int) (p3 : Int) (v3 : Int) : Option (Lp Int (Ou Unit Bool)) :=
 sel (decide (v3 < (p0.length : Int))) (
 req (0 ≤ v3 ∧ v3 < p0.length) <|
 bnd (Xal (p0.getD v3.toNat 0) p2 p3) fun q7 =>
 sel (!q7) (
 some (.done (.ret false))) (
 some (.go (Xaa .i64 (v3 + 1))))) (
 some (.done (.out ())))
def Xbq (p0 : (List Int)) (p1 : Int) (p2 : Int) (p3 : Int) : Option Bool :=
 bnd (loop (Xbx p0 p2 p3) 0) fun o8 => match o8 with
| .out v6 => (
 some ((p0.length : Int) == p1))
| .ret r => some r
def Xa5 (p0 : Pic) (p1 : Int) (p2 : Int) : Option Bool :=
 bnd (
 req ((8 : Int) ≠ 0) <|
 sel ((p1.tmod 8) == 0) (
 req ((8 : Int) ≠ 0) <|
 sel ((p2.tmod 8) == 0) (
 bnd (Xal p1 0 (Xaa .i64 (p0.Wide - 8))) fun q2 =>
 sel q2 (
 bnd (Xal p2 0 (Xaa .i64 (p0.High - 8))) fun q3 =>
 some q3) (
 some false)) (
 some false)) (
 some false)) fun v1 =>
 some v1
def Xbi (p0 : Pic) (p1 : Xta) : Option Bool :=
 bnd (
 bnd (Xal p1.Wide 1 p0.Wide) fun q2 =>
 sel q2 (
 bnd (Xal p1.High 1 p0.High) fun q3 =>
 sel q3 (
 bnd (Xal p1.Left 0 (Xaa .i64 (p0.Wide - p1.Wide))) fun q4 =>
 sel q4 (
 bnd (Xal p1.Top 0 (Xaa .i64 (p0.High - p1.High))) fun q5 =>
 some q5) (
 some false)) (
 some false)) (
 some false)) fun v1 =>
 some v1
def Xbp (p0 : Int) (p1 : Int) (p2 : Int) : Option Int :=
 some (if (if p2 < p0 then p2 else p0) > p1 then (if p2 < p0 then p2 else p0) else p1)
def Xck (p0 : Pic) (p1 : Int) (p2 : Int) : Option Int :=
 bnd (Xbp p2 0 (Xaa .i64 (p0.High - 1))) fun q1 =>
 bnd (Xbp p1 0 (Xaa .i64 (p0.Wide - 1))) fun q2 =>
 req (0 ≤ (Xaa .i64 ((Xaa .i64 (q1 * p0.Wide)) + q2)) ∧ (Xaa .i64 ((Xaa .i64 (q1 * p0.Wide)) + q2)) < p0.Dots.size) <|
 some (Xaa .i64 ((Xqj p0.Dots (Xaa .i64 ((Xaa .i64 (q1 * p0.Wide)) + q2)))))
def Xa4 (p0 : Pic) (p1 : Int) (p2 : Int) (v10 : (Int × (List Int))) (v23 : (Int × (List Int))) : Option (Lp (Int × (List Int)) (List Int)) :=
 sel (decide (v23.1 < 8)) (
 bnd (Xck p0 (Xaa .i64 (p1 + v23.1)) (Xaa .i64 (p2 + v10.1))) fun q27 =>
 req ((v23.2.length + ([q27]).length) * 8 ≤ 140737488355328 ∧ v23.2.length + ([q27]).length ≤ maxLen) <|
 some (.go (Xaa .i64 (v23.1 + 1), (v23.2 ++ ([q27]))))) (
 some (.done v23.2))
def Xa3 (p0 : Pic) (p1 : Int) (p2 : Int) (v10 : (Int × (List Int))) : Option (Lp (Int × (List Int)) (List Int)) :=
 sel (decide (v10.1 < 8)) (
 bnd (loop (Xa4 p0 p1 p2 v10) (0, v10.2)) fun v26 =>
 some (.go (Xaa .i64 (v10.1 + 1), v26))) (
 some (.done v10.2))
def Xa8 (p0 : Pic) (p1 : Int) (p2 : Int) : Option (List Int) :=
 req (0 ≤ (0 : Int) ∧ (0 : Int) ≤ (64 : Int) ∧ (64 : Int) * 8 ≤ 281474976710656) <|
 bnd (loop (Xa3 p0 p1 p2) (0, (List.replicate (0 : Int).toNat (0 : Int)))) fun v20 =>
 some v20
def Xfu (p0 : Int) : Option Int :=
 some (if (Xaa .i64 (0 - p0)) > p0 then (Xaa .i64 (0 - p0)) else p0)
def Xdc (p0 : (List Int)) (p1 : (List Int)) (v3 : (Int × Int)) : Option (Lp (Int × Int) Int) :=
 sel (decide (v3.2 < (p0.length : Int))) (
 req (0 ≤ v3.2 ∧ v3.2 < p0.length) <|
 req (0 ≤ v3.2 ∧ v3.2 < p1.length) <|
 bnd (Xfu (Xaa .i64 ((p0.getD v3.2.toNat 0) - (p1.getD v3.2.toNat 0)))) fun q7 =>
 some (.go (Xaa .i64 (v3.1 + q7), Xaa .i64 (v3.2 + 1)))) (
 some (.done v3.1))
def Xem (p0 : (List Int)) (p1 : (List Int)) : Option Int :=
 bnd (loop (Xdc p0 p1) (0, 0)) fun v6 =>
 some v6
def Xdb (p0 : Int) : Option (Int × Bool) :=
 bnd (Xal p0 (-500000) 500000) fun q1 =>
 sel (!q1) (
 some (0, false)) (
 sel (decide (p0 > 0)) (
 some (Xaa .i64 ((Xaa .i64 (2 * p0)) - 1), true)) (
 some (Xaa .i64 ((-2) * p0), true)))
def Xat (v2 : (Int × Int)) : Option (Lp (Int × Int) Int) :=
 sel (decide (v2.1 > 0)) (
 req (0 ≤ (1 : Int)) <|
 some (.go ((v2.1 / 2 ^ min (1 : Int).toNat (IntKind.bits .i64)), Xaa .i64 (v2.2 + 1)))) (
 some (.done v2.2))
def Xcg (p0 : Int) : Option Int :=
 bnd (loop (Xat) (p0, 0)) fun v4 =>
 some v4
def Xby (v2 : (Int × Int × (List Int))) : Option (Lp (Int × Int × (List Int)) (List Int)) :=
 sel (decide (v2.2.1 ≥ 0)) (
 req (0 ≤ v2.2.1 ∧ v2.2.1 < v2.2.2.length) <|
 req (v2.2.1.toNat < v2.2.2.length) <|
 req (0 ≤ (1 : Int)) <|
 some (.go ((v2.1 / 2 ^ min (1 : Int).toNat (IntKind.bits .i64)), Xaa .i64 (v2.2.1 - 1), (v2.2.2.set v2.2.1.toNat (Xaa .u8 (Xaa .i64 (48 + (IntKind.wrap .i64 (BitVec.ofInt (IntKind.bits .i64) v2.1 &&& BitVec.ofInt (IntKind.bits .i64) 1).toNat)))))))) (
 some (.done v2.2.2))
def Xdq (p0 : Int) (p1 : Int) : Option ByteArray :=
 req (0 ≤ p1 ∧ p1 ≤ p1 ∧ p1 * 1 ≤ 281474976710656) <|
 bnd (loop (Xby) (p0, Xaa .i64 (p1 - 1), (List.replicate p1.toNat (0 : Int)))) fun v4 =>
 some (strOfNums v4)
def Xii (p0 : Int) : Option ByteArray :=
 bnd (Xcg (Xaa .i64 (p0 + 1))) fun q1 =>
 bnd (Xdq (Xaa .i64 (p0 + 1)) (Xaa .i64 ((Xaa .i64 (2 * q1)) - 1))) fun q2 =>
 some q2
def Xel (p0 : Int) : Option (ByteArray × Bool) :=
 bnd (Xal p0 0 1000000) fun q1 =>
 sel (!q1) (
 some (⟨#[]⟩, false)) (
 bnd (Xii p0) fun q2 =>
 some (q2, true))
def Xdp (p0 : Int) : Option (ByteArray × Bool) :=
 bnd (Xdb p0) fun q1 =>
 sel (!q1.2) (
 some (⟨#[]⟩, false)) (
 bnd (Xel q1.1) fun q2 =>
 some (q2.1, q2.2))
def Xba (p0 : Int) : Option Int :=
 bnd (Xdp p0) fun q1 =>
 some (q1.1.size : Int)
def Xa0 (p0 : Pic) (p1 : (List Int)) (p2 : Int) (p3 : Int) (p4 : Int) (v33 : (Int × Int × Int × Int)) (v70 : (Int × Int × Int × Int)) : Option (Lp (Int × Int × Int × Int) (Int × Int × Int)) :=
 sel (decide (v70.2.2.2 ≤ p4)) (
 bnd (
 bnd (Xbi p0 (⟨Xaa .i64 (p2 + v70.2.2.2), Xaa .i64 (p3 + v33.2.2.2), 8, 8⟩ : Xta)) fun q81 =>
 sel (!q81) (
 some (v70.1, v70.2.1, v70.2.2.1)) (
 bnd (Xa8 p0 (Xaa .i64 (p2 + v70.2.2.2)) (Xaa .i64 (p3 + v33.2.2.2))) fun q82 =>
 bnd (Xem p1 q82) fun q83 =>
 bnd (Xba v70.2.2.2) fun q84 =>
 bnd (Xba v33.2.2.2) fun q85 =>
 bnd (
 sel (decide (v70.2.2.1 < 0)) (
 some true) (
 some (decide ((Xaa .i64 ((Xaa .i64 (q83 + q84)) + q85)) < v70.2.2.1)))) fun v86 =>
 sel v86 (
 some (v70.2.2.2, v33.2.2.2, Xaa .i64 ((Xaa .i64 (q83 + q84)) + q85))) (
 some (v70.1, v70.2.1, v70.2.2.1)))) fun v80 =>
 some (.go (v80.1, v80.2.1, v80.2.2, Xaa .i64 (v70.2.2.2 + 1)))) (
 some (.done (v70.1, v70.2.1, v70.2.2.1)))
def Xbf (p0 : Pic) (p1 : (List Int)) (p2 : Int) (p3 : Int) (p4 : Int) (v33 : (Int × Int × Int × Int)) : Option (Lp (Int × Int × Int × Int) (Int × Int × Int)) :=
 sel (decide (v33.2.2.2 ≤ p4)) (
 bnd (loop (Xa0 p0 p1 p2 p3 p4 v33) (v33.1, v33.2.1, v33.2.2.1, Xaa .i64 (0 - p4))) fun v79 =>
 some (.go (v79.1, v79.2.1, v79.2.2, Xaa .i64 (v33.2.2.2 + 1)))) (
 some (.done (v33.1, v33.2.1, v33.2.2.1)))
def Xbw (p0 : Pic) (p1 : (List Int)) (p2 : Int) (p3 : Int) (p4 : Int) : Option (Int × Int × Int) :=
 bnd (
 bnd (Xc6 p0) fun q2 =>
 sel q2 (
 bnd (Xbq p1 64 0 255) fun q3 =>
 sel q3 (
 bnd (Xal p4 0 4) fun q4 =>
 sel q4 (
 bnd (Xa5 p0 p2 p3) fun q5 =>
 some (!q5)) (
 some true)) (
 some true)) (
 some true)) fun v1 =>
 sel v1 (
 some (0, 0, (-1))) (
 bnd (loop (Xbf p0 p1 p2 p3 p4) (0, 0, (-1), Xaa .i64 (0 - p4))) fun v61 =>
 some (v61.1, v61.2.1, v61.2.2))
def Xbo (p0 : Pic) (p1 : Int) (p2 : Int) : Option (List Int) :=
 bnd (
 bnd (Xc6 p0) fun q2 =>
 sel q2 (
 bnd (Xal p1 (-1000) 1000) fun q3 =>
 sel q3 (
 bnd (Xal p2 (-1000) 1000) fun q4 =>
 some (!q4)) (
 some true)) (
 some true)) fun v1 =>
 sel v1 (
 some ([] : List Int)) (
 bnd (Xa8 p0 p1 p2) fun q5 =>
 some q5)
def Xc5 (p0 : (List Int)) (p1 : (List Int)) : Option Int :=
 bnd (
 bnd (Xbq p0 64 (-1000) 1000) fun q2 =>
 sel q2 (
 bnd (Xbq p1 64 (-1000) 1000) fun q3 =>
 some (!q3)) (
 some true)) fun v1 =>
 sel v1 (
 some (-1)) (
 bnd (Xem p0 p1) fun q4 =>
 some q4)
def Xb0 (p0 : (List Int)) : Option Bool :=
 bnd (Xhu p0) fun q1 =>
 sel q1 (
 some true) (
 bnd (Xb3 p0) fun q2 =>
 bnd (Xbd p0) fun q3 =>
 req (0 ≤ (0 : Int) ∧ (0 : Int) < q3.length) <|
 req ((0 : Int).toNat < q3.length) <|
 req ((8 : Int) ≠ 0) <|
 req ((Xaa .i64 (q2.1.Wide.tdiv 8)) ≠ 0) <|
 req (0 ≤ (1 : Int) ∧ (1 : Int) < q3.length) <|
 req ((1 : Int).toNat < q3.length) <|
 req ((8 : Int) ≠ 0) <|
 req ((Xaa .i64 (q2.1.High.tdiv 8)) ≠ 0) <|
 bnd (Xcn q2.2 (Xaa .i64 (8 * ((q3.getD ((0 : Int).toNat) 0).tmod (Xaa .i64 (q2.1.Wide.tdiv 8))))) (Xaa .i64 (8 * ((q3.getD ((1 : Int).toNat) 0).tmod (Xaa .i64 (q2.1.High.tdiv 8)))))) fun q4 =>
 req ((([] : List Int).length + q4.length) * 8 ≤ 140737488355328 ∧ ([] : List Int).length + q4.length ≤ maxLen) <|
 req (0 ≤ (2 : Int) ∧ (2 : Int) < q3.length) <|
 req ((2 : Int).toNat < q3.length) <|
 req ((4 : Int) ≠ 0) <|
 bnd (Xbw q2.1 (([] : List Int) ++ q4) (Xaa .i64 (8 * ((q3.getD ((0 : Int).toNat) 0).tmod (Xaa .i64 (q2.1.Wide.tdiv 8))))) (Xaa .i64 (8 * ((q3.getD ((1 : Int).toNat) 0).tmod (Xaa .i64 (q2.1.High.tdiv 8))))) ((q3.getD ((2 : Int).toNat) 0).tmod 4)) fun q5 =>
 req ((([] : List Int).length + q4.length) * 8 ≤ 140737488355328 ∧ ([] : List Int).length + q4.length ≤ maxLen) <|
 bnd (Xbo q2.1 (Xaa .i64 ((Xaa .i64 (8 * ((q3.getD ((0 : Int).toNat) 0).tmod (Xaa .i64 (q2.1.Wide.tdiv 8))))) + q5.1)) (Xaa .i64 ((Xaa .i64 (8 * ((q3.getD ((1 : Int).toNat) 0).tmod (Xaa .i64 (q2.1.High.tdiv 8))))) + q5.2.1))) fun q6 =>
 bnd (Xc5 (([] : List Int) ++ q4) q6) fun q7 =>
 bnd (Xba q5.1) fun q8 =>
 bnd (Xba q5.2.1) fun q9 =>
 req ((([] : List Int).length + q4.length) * 8 ≤ 140737488355328 ∧ ([] : List Int).length + q4.length ≤ maxLen) <|
 bnd (Xbo q2.1 (Xaa .i64 (8 * ((q3.getD ((0 : Int).toNat) 0).tmod (Xaa .i64 (q2.1.Wide.tdiv 8))))) (Xaa .i64 (8 * ((q3.getD ((1 : Int).toNat) 0).tmod (Xaa .i64 (q2.1.High.tdiv 8)))))) fun q10 =>
 bnd (Xc5 (([] : List Int) ++ q4) q10) fun q11 =>
 bnd (
 sel ((Xaa .i64 ((Xaa .i64 (q7 + q8)) + q9)) == q5.2.2) (
 sel (decide (q5.2.2 ≥ 2)) (
 sel (decide (q5.2.2 ≤ (Xaa .i64 (q11 + 2)))) (
 req (0 ≤ (2 : Int) ∧ (2 : Int) < q3.length) <|
 req ((2 : Int).toNat < q3.length) <|
 req ((4 : Int) ≠ 0) <|
 sel (decide (q5.1 ≥ (Xaa .i64 (0 - ((q3.getD ((2 : Int).toNat) 0).tmod 4))))) (
 req (0 ≤ (2 : Int) ∧ (2 : Int) < q3.length) <|
 req ((2 : Int).toNat < q3.length) <|
 req ((4 : Int) ≠ 0) <|
 sel (decide (q5.1 ≤ ((q3.getD ((2 : Int).toNat) 0).tmod 4))) (
 req (0 ≤ (2 : Int) ∧ (2 : Int) < q3.length) <|
 req ((2 : Int).toNat < q3.length) <|
 req ((4 : Int) ≠ 0) <|
 sel (decide (q5.2.1 ≥ (Xaa .i64 (0 - ((q3.getD ((2 : Int).toNat) 0).tmod 4))))) (
 req (0 ≤ (2 : Int) ∧ (2 : Int) < q3.length) <|
 req ((2 : Int).toNat < q3.length) <|
 req ((4 : Int) ≠ 0) <|
 sel (decide (q5.2.1 ≤ ((q3.getD ((2 : Int).toNat) 0).tmod 4))) (
 sel (decide ((Xaa .i64 ((Xaa .i64 (8 * ((q3.getD ((0 : Int).toNat) 0).tmod (Xaa .i64 (q2.1.Wide.tdiv 8))))) + q5.1)) ≥ 0)) (
 sel (decide ((Xaa .i64 ((Xaa .i64 (8 * ((q3.getD ((1 : Int).toNat) 0).tmod (Xaa .i64 (q2.1.High.tdiv 8))))) + q5.2.1)) ≥ 0)) (
 sel (decide ((Xaa .i64 ((Xaa .i64 ((Xaa .i64 (8 * ((q3.getD ((0 : Int).toNat) 0).tmod (Xaa .i64 (q2.1.Wide.tdiv 8))))) + q5.1)) + 8)) ≤ q2.1.Wide)) (
 some (decide ((Xaa .i64 ((Xaa .i64 ((Xaa .i64 (8 * ((q3.getD ((1 : Int).toNat) 0).tmod (Xaa .i64 (q2.1.High.tdiv 8))))) + q5.2.1)) + 8)) ≤ q2.1.High))) (
 some false)) (
 some false)) (
 some false)) (
 some false)) (
 some false)) (
 some false)) (
 some false)) (
 some false)) (
 some false)) (
 some false)) fun v12 =>
 some v12)
end
end Go.Proofs.Ytlebkepfhdjnmab.A
