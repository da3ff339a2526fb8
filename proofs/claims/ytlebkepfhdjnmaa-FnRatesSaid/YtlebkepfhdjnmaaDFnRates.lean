/- What the functions that the law FnRates reaches compute, over numbers, texts and lists. Written by a program of this session. Conditions: none. -/
import Derived.Test.YtlebkepfhdjnmaaAL2
namespace Go.Proofs.Ytlebkepfhdjnmaa.A
open Go Go.Proofs Go.Proofs.YtlebkepfhdjnmaaAL Go.RowKit
set_option linter.unusedVariables false
set_option linter.unusedSimpArgs false
structure Xcr where
 Qp : Int
 Target : Int
 Debt : Int
structure Xaz where
 b_ : (List Int)
 i_ : Int
 h_ : Int
noncomputable section
def Xfa (p0 : (List Int)) : Option Bool :=
 some (decide ((p0.length : Int) > 1048576))
def Xbv (p0 : (List Int)) (v3 : (Int × Int)) : Option (Lp (Int × Int) Int) :=
 bnd (
 sel (decide (v3.2 < (p0.length : Int))) (
 some (decide (v3.2 < 4000))) (
 some false)) fun v7 =>
 sel v7 (
 req (0 ≤ v3.2 ∧ v3.2 < p0.length) <|
 some (.go ((IntKind.wrap .i64 (BitVec.ofInt (IntKind.bits .i64) (Xab .i64 ((Xab .i64 ((Xab .i64 (v3.1 * 131)) + (Xab .i64 ((p0.getD v3.2.toNat 0))))) + 7)) &&& BitVec.ofInt (IntKind.bits .i64) 1073741823).toNat), Xab .i64 (v3.2 + 1)))) (
 some (.done v3.1))
def Xbq (p0 : (List Int)) : Option Xaz :=
 bnd (loop (Xbv p0) (Xab .i64 (94701 + (p0.length : Int)), 0)) fun v6 =>
 some (⟨p0, 0, v6⟩ : Xaz)
def Xam (p0 : Xaz) : Option (Int × Xaz) :=
 req (0 ≤ (33 : Int)) <|
 req (0 ≤ (45 : Int)) <|
 bnd (
 sel (decide (p0.i_ < (p0.b_.length : Int))) (
 req (0 ≤ p0.i_ ∧ p0.i_ < p0.b_.length) <|
 some ((IntKind.wrap .i64 (BitVec.ofInt (IntKind.bits .i64) (Xab .i64 ((IntKind.wrap .i64 (BitVec.ofInt (IntKind.bits .i64) (IntKind.wrap .i64 (BitVec.ofInt (IntKind.bits .i64) ((Xab .i64 ((Xab .i64 (p0.h_ * 6364136223846793005)) + 1442695040888963407)) / 2 ^ min (33 : Int).toNat (IntKind.bits .i64)) ^^^ BitVec.ofInt (IntKind.bits .i64) ((Xab .i64 ((Xab .i64 (p0.h_ * 6364136223846793005)) + 1442695040888963407)) / 2 ^ min (45 : Int).toNat (IntKind.bits .i64))).toNat) &&& BitVec.ofInt (IntKind.bits .i64) 255).toNat) + (Xab .i64 ((p0.b_.getD p0.i_.toNat 0))))) &&& BitVec.ofInt (IntKind.bits .i64) 255).toNat), Xab .i64 (p0.i_ + 1))) (
 some ((IntKind.wrap .i64 (BitVec.ofInt (IntKind.bits .i64) (IntKind.wrap .i64 (BitVec.ofInt (IntKind.bits .i64) ((Xab .i64 ((Xab .i64 (p0.h_ * 6364136223846793005)) + 1442695040888963407)) / 2 ^ min (33 : Int).toNat (IntKind.bits .i64)) ^^^ BitVec.ofInt (IntKind.bits .i64) ((Xab .i64 ((Xab .i64 (p0.h_ * 6364136223846793005)) + 1442695040888963407)) / 2 ^ min (45 : Int).toNat (IntKind.bits .i64))).toNat) &&& BitVec.ofInt (IntKind.bits .i64) 255).toNat), p0.i_))) fun v1 =>
 some (v1.1, (⟨p0.b_, v1.2, Xab .i64 ((Xab .i64 (p0.h_ * 6364136223846793005)) + 1442695040888963407)⟩ : Xaz))
def Xag (p0 : Xaz) (p1 : Int) : Option (Int × Xaz) :=
 sel (decide (p1 ≤ 0)) (
 some (0, p0)) (
 sel (decide (p1 ≤ 256)) (
 bnd (Xam p0) fun q1 =>
 req (p1 ≠ 0) <|
 some ((q1.1.tmod p1), q1.2)) (
 bnd (Xam p0) fun q2 =>
 bnd (Xam q2.2) fun q3 =>
 bnd (Xam q3.2) fun q4 =>
 bnd (Xam q4.2) fun q5 =>
 req (p1 ≠ 0) <|
 some (((Xab .i64 ((Xab .i64 ((Xab .i64 ((Xab .i64 (q2.1 * 16777216)) + (Xab .i64 (q3.1 * 65536)))) + (Xab .i64 (q4.1 * 256)))) + q5.1)).tmod p1), q5.2)))
def Xbi (p0 : Xaz) : Option (Xcr × Xaz) :=
 bnd (Xag p0 2000) fun q1 =>
 bnd (Xag q1.2 41) fun q2 =>
 bnd (Xag q2.2 (Xab .i64 ((Xab .i64 (16 * (Xab .i64 (1 + q1.1)))) + 1))) fun q3 =>
 some ((⟨q2.1, Xab .i64 (1 + q1.1), Xab .i64 (q3.1 - (Xab .i64 (8 * (Xab .i64 (1 + q1.1)))))⟩ : Xcr), q3.2)
def Xa9 (v6 : (Int × (List Int) × Int × Int × (List Int))) : Option (Lp (Int × (List Int) × Int × Int × (List Int)) (List Int)) :=
 bnd (Xag (⟨v6.2.1, v6.2.2.1, v6.2.2.2.1⟩ : Xaz) 12) fun q11 =>
 sel (decide (v6.1 < (Xab .i64 (2 + q11.1)))) (
 bnd (Xag q11.2 5000) fun q12 =>
 req ((v6.2.2.2.2.length + ([q12.1]).length) * 8 ≤ 140737488355328 ∧ v6.2.2.2.2.length + ([q12.1]).length ≤ maxLen) <|
 some (.go (Xab .i64 (v6.1 + 1), q12.2.b_, q12.2.i_, q12.2.h_, (v6.2.2.2.2 ++ ([q12.1]))))) (
 some (.done v6.2.2.2.2))
def Xbh (p0 : (List Int)) : Option (Xcr × (List Int)) :=
 bnd (Xbq p0) fun q1 =>
 bnd (Xbi q1) fun q2 =>
 bnd (loop (Xa9) (0, q2.2.b_, q2.2.i_, q2.2.h_, ([] : List Int))) fun v10 =>
 some (q2.1, v10)
def Xax (v5 : (Int × (List Int) × Int × Int × (List Int))) : Option (Lp (Int × (List Int) × Int × Int × (List Int)) (List Int)) :=
 sel (decide (v5.1 < 12)) (
 bnd (Xag (⟨v5.2.1, v5.2.2.1, v5.2.2.2.1⟩ : Xaz) 10000) fun q9 =>
 req ((v5.2.2.2.2.length + ([q9.1]).length) * 8 ≤ 140737488355328 ∧ v5.2.2.2.2.length + ([q9.1]).length ≤ maxLen) <|
 some (.go (Xab .i64 (v5.1 + 1), q9.2.b_, q9.2.i_, q9.2.h_, (v5.2.2.2.2 ++ ([q9.1]))))) (
 some (.done v5.2.2.2.2))
def Xa5 (p0 : (List Int)) : Option (List Int) :=
 bnd (Xbq p0) fun q1 =>
 bnd (Xam q1) fun q2 =>
 bnd (loop (Xax) (0, q2.2.b_, q2.2.i_, q2.2.h_, ([] : List Int))) fun v8 =>
 some v8
def Xba (p0 : Int) (p1 : Int) (p2 : Int) : Option Bool :=
 bnd (
 sel (decide (p0 ≥ p1)) (
 some (decide (p0 ≤ p2))) (
 some false)) fun v1 =>
 some v1
def Xa1 (p0 : Xcr) : Option Bool :=
 bnd (
 bnd (Xba p0.Qp 0 40) fun q2 =>
 sel q2 (
 bnd (Xba p0.Target 1 100000) fun q3 =>
 sel q3 (
 bnd (Xba p0.Debt (Xab .i64 ((-8) * p0.Target)) (Xab .i64 (8 * p0.Target))) fun q4 =>
 some q4) (
 some false)) (
 some false)) fun v1 =>
 some v1
def Xa0 (p0 : Int) (p1 : Int) (p2 : Int) : Option Int :=
 some (if (if p2 < p0 then p2 else p0) > p1 then (if p2 < p0 then p2 else p0) else p1)
def Xau (p0 : Xcr) (p1 : Int) : Option Xcr :=
 bnd (Xa1 p0) fun q1 =>
 sel (!q1) (
 some p0) (
 bnd (Xa0 p1 0 400000) fun q2 =>
 bnd (Xa0 (Xab .i64 ((Xab .i64 (p0.Debt + q2)) - p0.Target)) (Xab .i64 ((-8) * p0.Target)) (Xab .i64 (8 * p0.Target))) fun q3 =>
 bnd (
 sel (decide (q3 > p0.Target)) (
 some (Xab .i64 (p0.Qp + 1))) (
 sel (decide (q3 < (Xab .i64 (0 - p0.Target)))) (
 some (Xab .i64 (p0.Qp - 1))) (
 some p0.Qp))) fun v4 =>
 bnd (Xa0 v4 0 40) fun q5 =>
 some (⟨q5, p0.Target, q3⟩ : Xcr))
def Xa3 (p1 : (List Int)) (v3 : (Int × Int × Int × Int)) : Option (Lp (Int × Int × Int × Int) (Int × Int × Int)) :=
 sel (decide (v3.1 < (p1.length : Int))) (
 req (0 ≤ v3.1 ∧ v3.1 < p1.length) <|
 bnd (Xau (⟨v3.2.1, v3.2.2.1, v3.2.2.2⟩ : Xcr) (p1.getD v3.1.toNat 0)) fun q7 =>
 some (.go (Xab .i64 (v3.1 + 1), q7.Qp, q7.Target, q7.Debt))) (
 some (.done (v3.2.1, v3.2.2.1, v3.2.2.2)))
def Xa2 (p0 : Xcr) (p1 : (List Int)) : Option Xcr :=
 sel (decide ((p1.length : Int) > 1000)) (
 some p0) (
 bnd (loop (Xa3 p1) (0, p0.Qp, p0.Target, p0.Debt)) fun v6 =>
 some (⟨v6.1, v6.2.1, v6.2.2⟩ : Xcr))
def Xbk (p0 : Xcr) (p1 : Bool) : Option Int :=
 bnd (Xa1 p0) fun q1 =>
 sel (!q1) (
 some 0) (
 sel p1 (
 some (if (Xab .i64 (p0.Qp - 2)) > (0 : Int) then (Xab .i64 (p0.Qp - 2)) else (0 : Int))) (
 some p0.Qp))
def Xcg (p0 : (List Int)) : Option Bool :=
 bnd (Xfa p0) fun q1 =>
 sel q1 (
 some true) (
 bnd (Xbh p0) fun q2 =>
 bnd (Xa5 p0) fun q3 =>
 req (0 ≤ (0 : Int) ∧ (0 : Int) < q3.length) <|
 req ((0 : Int).toNat < q3.length) <|
 req ((Xab .i64 ((q2.2.length : Int) + 1)) ≠ 0) <|
 req ((([] : List Int).length + q2.2.length) * 8 ≤ 140737488355328 ∧ ([] : List Int).length + q2.2.length ≤ maxLen) <|
 bnd (Xa2 q2.1 (([] : List Int) ++ q2.2)) fun q4 =>
 req (0 ≤ (0 : Int) ∧ (0 : Int) ≤ ((q3.getD ((0 : Int).toNat) 0).tmod (Xab .i64 ((q2.2.length : Int) + 1))) ∧ ((q3.getD ((0 : Int).toNat) 0).tmod (Xab .i64 ((q2.2.length : Int) + 1))) ≤ (q2.2.length : Int)) <|
 req (((0 : Int).toNat + (((q3.getD ((0 : Int).toNat) 0).tmod (Xab .i64 ((q2.2.length : Int) + 1))).toNat - (0 : Int).toNat) ≤ q2.2.length) ∧ (([] : List Int).length + ((q2.2.drop ((0 : Int).toNat)).take (((q3.getD ((0 : Int).toNat) 0).tmod (Xab .i64 ((q2.2.length : Int) + 1))).toNat - (0 : Int).toNat)).length) * 8 ≤ 140737488355328 ∧ ([] : List Int).length + ((q2.2.drop ((0 : Int).toNat)).take (((q3.getD ((0 : Int).toNat) 0).tmod (Xab .i64 ((q2.2.length : Int) + 1))).toNat - (0 : Int).toNat)).length ≤ maxLen) <|
 bnd (Xa2 q2.1 (([] : List Int) ++ ((q2.2.drop ((0 : Int).toNat)).take (((q3.getD ((0 : Int).toNat) 0).tmod (Xab .i64 ((q2.2.length : Int) + 1))).toNat - (0 : Int).toNat)))) fun q5 =>
 req (0 ≤ ((q3.getD ((0 : Int).toNat) 0).tmod (Xab .i64 ((q2.2.length : Int) + 1))) ∧ ((q3.getD ((0 : Int).toNat) 0).tmod (Xab .i64 ((q2.2.length : Int) + 1))) ≤ (q2.2.length : Int) ∧ (q2.2.length : Int) ≤ (q2.2.length : Int)) <|
 req ((((q3.getD ((0 : Int).toNat) 0).tmod (Xab .i64 ((q2.2.length : Int) + 1))).toNat + ((q2.2.length : Int).toNat - ((q3.getD ((0 : Int).toNat) 0).tmod (Xab .i64 ((q2.2.length : Int) + 1))).toNat) ≤ q2.2.length) ∧ (([] : List Int).length + ((q2.2.drop (((q3.getD ((0 : Int).toNat) 0).tmod (Xab .i64 ((q2.2.length : Int) + 1))).toNat)).take ((q2.2.length : Int).toNat - ((q3.getD ((0 : Int).toNat) 0).tmod (Xab .i64 ((q2.2.length : Int) + 1))).toNat)).length) * 8 ≤ 140737488355328 ∧ ([] : List Int).length + ((q2.2.drop (((q3.getD ((0 : Int).toNat) 0).tmod (Xab .i64 ((q2.2.length : Int) + 1))).toNat)).take ((q2.2.length : Int).toNat - ((q3.getD ((0 : Int).toNat) 0).tmod (Xab .i64 ((q2.2.length : Int) + 1))).toNat)).length ≤ maxLen) <|
 bnd (Xa2 q5 (([] : List Int) ++ ((q2.2.drop (((q3.getD ((0 : Int).toNat) 0).tmod (Xab .i64 ((q2.2.length : Int) + 1))).toNat)).take ((q2.2.length : Int).toNat - ((q3.getD ((0 : Int).toNat) 0).tmod (Xab .i64 ((q2.2.length : Int) + 1))).toNat)))) fun q6 =>
 req (0 ≤ (1 : Int) ∧ (1 : Int) < q3.length) <|
 req ((1 : Int).toNat < q3.length) <|
 bnd (Xau q2.1 (q3.getD ((1 : Int).toNat) 0)) fun q7 =>
 req (0 ≤ (1 : Int) ∧ (1 : Int) < q3.length) <|
 req ((1 : Int).toNat < q3.length) <|
 req (0 ≤ (2 : Int) ∧ (2 : Int) < q3.length) <|
 req ((2 : Int).toNat < q3.length) <|
 bnd (Xau q2.1 (Xab .i64 ((q3.getD ((1 : Int).toNat) 0) + (q3.getD ((2 : Int).toNat) 0)))) fun q8 =>
 bnd (
 bnd (Xa1 q2.1) fun q10 =>
 sel q10 (
 bnd (Xa1 q4) fun q11 =>
 sel q11 (
 sel (((q4.Qp == q6.Qp) && ((q4.Target == q6.Target) && (q4.Debt == q6.Debt))) == true) (
 sel (q4.Target == q2.1.Target) (
 sel (decide ((Xab .i64 (q7.Qp - q2.1.Qp)) ≥ (-1))) (
 sel (decide ((Xab .i64 (q7.Qp - q2.1.Qp)) ≤ 1)) (
 sel (decide (q8.Debt ≥ q7.Debt)) (
 sel (decide (q8.Qp ≥ q7.Qp)) (
 bnd (Xbk q2.1 false) fun q12 =>
 sel (q12 == q2.1.Qp) (
 bnd (Xbk q2.1 true) fun q13 =>
 sel (decide (q13 ≤ q2.1.Qp)) (
 bnd (Xbk q2.1 true) fun q14 =>
 some (decide (q14 ≥ (Xab .i64 (q2.1.Qp - 2))))) (
 some false)) (
 some false)) (
 some false)) (
 some false)) (
 some false)) (
 some false)) (
 some false)) (
 some false)) (
 some false)) (
 some false)) fun v9 =>
 some v9)
end
end Go.Proofs.Ytlebkepfhdjnmaa.A
