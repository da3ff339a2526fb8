/- What the functions that the law FnSends reaches compute, over numbers, texts and lists. Written by a program of this session. Conditions: none. -/
import Derived.Test.YtlebkepfhdjnmacAL2
namespace Go.Proofs.Ytlebkepfhdjnmac.A
open Go Go.Proofs Go.Proofs.YtlebkepfhdjnmacAL Go.RowKit
set_option linter.unusedVariables false
set_option linter.unusedSimpArgs false
structure Pic where
 Wide : Int
 High : Int
 Dots : ByteArray
structure Xdm where
 Key : Bool
 Qp : Int
 Large : Bool
 Exact : Bool
structure Xam where
 Kind : Int
 Mode : Int
 Dx : Int
 Dy : Int
 Levels : (List Int)
structure Ydn where
 Left : Int
 Top : Int
 Wide : Int
 High : Int
structure Par where
 Qp : Int
 Large : Bool
 Exact : Bool
 Confined : Bool
structure Xg4 where
 Above : (List Int)
 Left : (List Int)
 Corner : Int
structure Xms where
 row_ : ByteArray
 at_ : Int
 bad_ : Bool
structure Xa7 where
 b_ : (List Int)
 i_ : Int
 h_ : Int
def Xyi : (List Int) := []
def Xji : Xam := ⟨0, 0, 0, 0, []⟩
noncomputable section
def Xyl (p0 : (List Int)) : Option Bool :=
 some (decide ((p0.length : Int) > 1048576))
def Xkp (p0 : (List Int)) (v3 : (Int × Int)) : Option (Lp (Int × Int) Int) :=
 bnd (
 sel (decide (v3.2 < (p0.length : Int))) (
 some (decide (v3.2 < 4000))) (
 some false)) fun v7 =>
 sel v7 (
 req (0 ≤ v3.2 ∧ v3.2 < p0.length) <|
 some (.go ((IntKind.wrap .i64 (BitVec.ofInt (IntKind.bits .i64) (Xaa .i64 ((Xaa .i64 ((Xaa .i64 (v3.1 * 131)) + (Xaa .i64 ((p0.getD v3.2.toNat 0))))) + 7)) &&& BitVec.ofInt (IntKind.bits .i64) 1073741823).toNat), Xaa .i64 (v3.2 + 1)))) (
 some (.done v3.1))
def Xhw (p0 : (List Int)) : Option Xa7 :=
 bnd (loop (Xkp p0) (Xaa .i64 (94701 + (p0.length : Int)), 0)) fun v6 =>
 some (⟨p0, 0, v6⟩ : Xa7)
def Xbv (p0 : Xa7) : Option (Int × Xa7) :=
 req (0 ≤ (33 : Int)) <|
 req (0 ≤ (45 : Int)) <|
 bnd (
 sel (decide (p0.i_ < (p0.b_.length : Int))) (
 req (0 ≤ p0.i_ ∧ p0.i_ < p0.b_.length) <|
 some ((IntKind.wrap .i64 (BitVec.ofInt (IntKind.bits .i64) (Xaa .i64 ((IntKind.wrap .i64 (BitVec.ofInt (IntKind.bits .i64) (IntKind.wrap .i64 (BitVec.ofInt (IntKind.bits .i64) ((Xaa .i64 ((Xaa .i64 (p0.h_ * 6364136223846793005)) + 1442695040888963407)) / 2 ^ min (33 : Int).toNat (IntKind.bits .i64)) ^^^ BitVec.ofInt (IntKind.bits .i64) ((Xaa .i64 ((Xaa .i64 (p0.h_ * 6364136223846793005)) + 1442695040888963407)) / 2 ^ min (45 : Int).toNat (IntKind.bits .i64))).toNat) &&& BitVec.ofInt (IntKind.bits .i64) 255).toNat) + (Xaa .i64 ((p0.b_.getD p0.i_.toNat 0))))) &&& BitVec.ofInt (IntKind.bits .i64) 255).toNat), Xaa .i64 (p0.i_ + 1))) (
 some ((IntKind.wrap .i64 (BitVec.ofInt (IntKind.bits .i64) (IntKind.wrap .i64 (BitVec.ofInt (IntKind.bits .i64) ((Xaa .i64 ((Xaa .i64 (p0.h_ * 6364136223846793005)) + 1442695040888963407)) / 2 ^ min (33 : Int).toNat (IntKind.bits .i64)) ^^^ BitVec.ofInt (IntKind.bits .i64) ((Xaa .i64 ((Xaa .i64 (p0.h_ * 6364136223846793005)) + 1442695040888963407)) / 2 ^ min (45 : Int).toNat (IntKind.bits .i64))).toNat) &&& BitVec.ofInt (IntKind.bits .i64) 255).toNat), p0.i_))) fun v1 =>
 some (v1.1, (⟨p0.b_, v1.2, Xaa .i64 ((Xaa .i64 (p0.h_ * 6364136223846793005)) + 1442695040888963407)⟩ : Xa7))
def Xa4 (p0 : Xa7) (p1 : Int) : Option (Int × Xa7) :=
 sel (decide (p1 ≤ 0)) (
 some (0, p0)) (
 sel (decide (p1 ≤ 256)) (
 bnd (Xbv p0) fun q1 =>
 req (p1 ≠ 0) <|
 some ((q1.1.tmod p1), q1.2)) (
 bnd (Xbv p0) fun q2 =>
 bnd (Xbv q2.2) fun q3 =>
 bnd (Xbv q3.2) fun q4 =>
 bnd (Xbv q4.2) fun q5 =>
 req (p1 ≠ 0) <|
 some (((Xaa .i64 ((Xaa .i64 ((Xaa .i64 ((Xaa .i64 (q2.1 * 16777216)) + (Xaa .i64 (q3.1 * 65536)))) + (Xaa .i64 (q4.1 * 256)))) + q5.1)).tmod p1), q5.2)))
def Xi6 (p1 : Int) (v7 : (Int × Int × (List Int) × Int × Int × (List Int))) : Option (Lp (Int × Int × (List Int) × Int × Int × (List Int)) ((List Int) × (List Int) × Int × Int)) :=
 sel (decide (v7.2.1 < p1)) (
 bnd (
 bnd (Xa4 (⟨v7.2.2.1, v7.2.2.2.1, v7.2.2.2.2.1⟩ : Xa7) 6) fun q15 =>
 sel (q15.1 == 0) (
 bnd (Xbv q15.2) fun q16 =>
 some (q16.1, q16.2.b_, q16.2.i_, q16.2.h_)) (
 sel (q15.1 == 1) (
 bnd (Xa4 q15.2 9) fun q17 =>
 some ((IntKind.wrap .i64 (BitVec.ofInt (IntKind.bits .i64) (Xaa .i64 ((Xaa .i64 (v7.1 + q17.1)) + 252)) &&& BitVec.ofInt (IntKind.bits .i64) 255).toNat), q17.2.b_, q17.2.i_, q17.2.h_)) (
 some (v7.1, q15.2.b_, q15.2.i_, q15.2.h_)))) fun v14 =>
 req ((v7.2.2.2.2.2.length + ([Xaa .u8 (v14.1)]).length) * 1 ≤ 140737488355328 ∧ v7.2.2.2.2.2.length + ([Xaa .u8 (v14.1)]).length ≤ maxLen) <|
 some (.go (v14.1, Xaa .i64 (v7.2.1 + 1), v14.2.1, v14.2.2.1, v14.2.2.2, (v7.2.2.2.2.2 ++ ([Xaa .u8 (v14.1)]))))) (
 some (.done (v7.2.2.2.2.2, v7.2.2.1, v7.2.2.2.1, v7.2.2.2.2.1)))
def Xk2 (p0 : Xa7) (p1 : Int) : Option (ByteArray × Xa7) :=
 bnd (Xbv p0) fun q1 =>
 bnd (loop (Xi6 p1) (q1.1, 0, q1.2.b_, q1.2.i_, q1.2.h_, ([] : List Int))) fun v13 =>
 some ((strOfNums v13.1), (⟨v13.2.1, v13.2.2.1, v13.2.2.2⟩ : Xa7))
def Xi7 (p0 : Xa7) (p1 : Int) (p2 : Int) : Option (Pic × Xa7) :=
 bnd (Xk2 p0 (Xaa .i64 (p1 * p2))) fun q1 =>
 some ((⟨p1, p2, q1.1⟩ : Pic), q1.2)
def Xgk (p0 : Xa7) : Option (Pic × Xa7) :=
 bnd (Xa4 p0 2) fun q1 =>
 bnd (Xa4 q1.2 2) fun q2 =>
 bnd (Xi7 q2.2 (Xaa .i64 (8 + (Xaa .i64 (8 * q1.1)))) (Xaa .i64 (8 + (Xaa .i64 (8 * q2.1))))) fun q3 =>
 some (q3.1, q3.2)
def Xgi (p0 : Xa7) (p1 : Int) : Option (Bool × Xa7) :=
 bnd (Xa4 p0 p1) fun q1 =>
 some ((q1.1 == 0), q1.2)
def Xao (p0 : Int) (p1 : Int) (p2 : Int) : Option Bool :=
 bnd (
 sel (decide (p0 ≥ p1)) (
 some (decide (p0 ≤ p2))) (
 some false)) fun v1 =>
 some v1
def Xfp (p0 : Pic) : Option Bool :=
 bnd (
 bnd (Xao p0.Wide 1 256) fun q2 =>
 sel q2 (
 bnd (Xao p0.High 1 256) fun q3 =>
 sel q3 (
 some ((p0.Dots.size : Int) == (Xaa .i64 (p0.Wide * p0.High)))) (
 some false)) (
 some false)) fun v1 =>
 some v1
def Xeb (p0 : Int) (p1 : Int) (p2 : Int) : Option Int :=
 bnd (
 sel (decide (p2 < p1)) (
 some true) (
 some (decide (p0 < p1)))) fun v1 =>
 sel v1 (
 some p1) (
 sel (decide (p0 > p2)) (
 some p2) (
 some p0))
def Xd0 (p0 : Pic) (p1 : Int) (p2 : Int) : Option Int :=
 bnd (Xfp p0) fun q1 =>
 sel (!q1) (
 some (-1)) (
 bnd (Xeb p2 0 (Xaa .i64 (p0.High - 1))) fun q2 =>
 bnd (Xeb p1 0 (Xaa .i64 (p0.Wide - 1))) fun q3 =>
 req (0 ≤ (Xaa .i64 ((Xaa .i64 (q2 * p0.Wide)) + q3)) ∧ (Xaa .i64 ((Xaa .i64 (q2 * p0.Wide)) + q3)) < p0.Dots.size) <|
 some (Xaa .i64 ((Xp5 p0.Dots (Xaa .i64 ((Xaa .i64 (q2 * p0.Wide)) + q3))))))
def Xja (p1 : Pic) (v3 : (Int × Int × (List Int) × Int × Int)) (v7 : (Int × (List Int))) : Option (Lp (Int × (List Int)) (List Int)) :=
 sel (decide (v7.1 < (p1.Dots.size : Int))) (
 req (p1.Wide ≠ 0) <|
 req (p1.Wide ≠ 0) <|
 bnd (Xd0 p1 (Xaa .i64 ((v7.1.tmod p1.Wide) + v3.1)) (Xaa .i64 ((Xaa .i64 (v7.1.tdiv p1.Wide)) + v3.2.1))) fun q11 =>
 req ((v7.2.length + ([Xaa .u8 (q11)]).length) * 1 ≤ 140737488355328 ∧ v7.2.length + ([Xaa .u8 (q11)]).length ≤ maxLen) <|
 some (.go (Xaa .i64 (v7.1 + 1), (v7.2 ++ ([Xaa .u8 (q11)]))))) (
 some (.done v7.2))
def Xjb (v17 : (Int × (List Int) × Int × Int × (List Int))) : Option (Lp (Int × (List Int) × Int × Int × (List Int)) ((List Int) × (List Int) × Int × Int)) :=
 bnd (Xa4 (⟨v17.2.1, v17.2.2.1, v17.2.2.2.1⟩ : Xa7) 6) fun q23 =>
 sel (decide (v17.1 < q23.1)) (
 bnd (Xa4 q23.2 (v17.2.2.2.2.length : Int)) fun q24 =>
 bnd (Xbv q24.2) fun q25 =>
 req (0 ≤ q24.1 ∧ q24.1 < v17.2.2.2.2.length) <|
 req (q24.1.toNat < v17.2.2.2.2.length) <|
 some (.go (Xaa .i64 (v17.1 + 1), q25.2.b_, q25.2.i_, q25.2.h_, (v17.2.2.2.2.set q24.1.toNat (Xaa .u8 (q25.1)))))) (
 some (.done (v17.2.2.2.2, q23.2.b_, q23.2.i_, q23.2.h_)))
def Xk5 (p0 : Xa7) (p1 : Pic) : Option (Pic × Xa7) :=
 bnd (Xa4 p0 7) fun q1 =>
 bnd (Xa4 q1.2 5) fun q2 =>
 bnd (
 bnd (Xgi q2.2 3) fun q4 =>
 sel q4.1 (
 some (0, 0, q4.2.b_, q4.2.i_, q4.2.h_)) (
 some (Xaa .i64 (q1.1 - 3), Xaa .i64 (q2.1 - 2), q4.2.b_, q4.2.i_, q4.2.h_))) fun v3 =>
 bnd (loop (Xja p1 v3) (0, ([] : List Int))) fun v10 =>
 bnd (loop (Xjb) (0, v3.2.2.1, v3.2.2.2.1, v3.2.2.2.2, v10)) fun v22 =>
 some ((⟨p1.Wide, p1.High, (strOfNums v22.1)⟩ : Pic), (⟨v22.2.1, v22.2.2.1, v22.2.2.2⟩ : Xa7))
def Xiz (p0 : (List Int)) : Option (Pic × Pic) :=
 bnd (Xhw p0) fun q1 =>
 bnd (Xgk q1) fun q2 =>
 bnd (Xk5 q2.2 q2.1) fun q3 =>
 some (q2.1, q3.1)
def Xfl (p0 : Xa7) : Option (Par × Xa7) :=
 bnd (Xa4 p0 41) fun q1 =>
 bnd (Xgi q1.2 4) fun q2 =>
 bnd (
 bnd (Xa4 q2.2 3) fun q4 =>
 sel (q4.1 == 0) (
 some (true, false, q4.2.b_, q4.2.i_, q4.2.h_)) (
 sel (q4.1 == 1) (
 some (false, true, q4.2.b_, q4.2.i_, q4.2.h_)) (
 some (false, false, q4.2.b_, q4.2.i_, q4.2.h_)))) fun v3 =>
 some ((⟨q1.1, v3.1, v3.2.1, (!q2.1)⟩ : Par), (⟨v3.2.2.1, v3.2.2.2.1, v3.2.2.2.2⟩ : Xa7))
def Xk3 (p0 : Xa7) : Option (Xdm × Xa7) :=
 bnd (Xfl p0) fun q1 =>
 bnd (Xgi q1.2 2) fun q2 =>
 some ((⟨q2.1, q1.1.Qp, q1.1.Large, q1.1.Exact⟩ : Xdm), q2.2)
def Xiy (p0 : (List Int)) : Option Xdm :=
 bnd (Xhw p0) fun q1 =>
 bnd (Xk3 q1) fun q2 =>
 some q2.1
def Xft (v5 : (Int × (List Int) × Int × Int × (List Int))) : Option (Lp (Int × (List Int) × Int × Int × (List Int)) (List Int)) :=
 sel (decide (v5.1 < 12)) (
 bnd (Xa4 (⟨v5.2.1, v5.2.2.1, v5.2.2.2.1⟩ : Xa7) 10000) fun q9 =>
 req ((v5.2.2.2.2.length + ([q9.1]).length) * 8 ≤ 140737488355328 ∧ v5.2.2.2.2.length + ([q9.1]).length ≤ maxLen) <|
 some (.go (Xaa .i64 (v5.1 + 1), q9.2.b_, q9.2.i_, q9.2.h_, (v5.2.2.2.2 ++ ([q9.1]))))) (
 some (.done v5.2.2.2.2))
def Xge (p0 : (List Int)) : Option (List Int) :=
 bnd (Xhw p0) fun q1 =>
 bnd (Xbv q1) fun q2 =>
 bnd (loop (Xft) (0, q2.2.b_, q2.2.i_, q2.2.h_, ([] : List Int))) fun v8 =>
 some v8
def Xal (p0 : Int) (p1 : Int) (p2 : Int) : Option Bool :=
 bnd (
 sel (decide (p0 ≥ p1)) (
 some (decide (p0 ≤ p2))) (
 some false)) fun v1 =>
 some v1
def Xb3 (p0 : Pic) : Option Bool :=
 bnd (
 bnd (Xal p0.Wide 1 256) fun q2 =>
 sel q2 (
 bnd (Xal p0.High 1 256) fun q3 =>
 sel q3 (
 some ((p0.Dots.size : Int) == (Xaa .i64 (p0.Wide * p0.High)))) (
 some false)) (
 some false)) fun v1 =>
 some v1
def Xbr (p0 : Pic) (p1 : Int) (p2 : Int) : Option Bool :=
 bnd (
 req ((8 : Int) ≠ 0) <|
 sel ((p1.tmod 8) == 0) (
 req ((8 : Int) ≠ 0) <|
 sel ((p2.tmod 8) == 0) (
 bnd (Xal p1 0 (Xaa .i64 (p0.Wide - 8))) fun q2 =>
 sel q2 (
 bnd (Xal p2 0 (Xaa .i64 (p0.High - 8))) fun q3 =>
 some q3) (
 some false)) (
 some false)) (
 some false)) fun v1 =>
 some v1
def Xio (p0 : (List Int)) (p2 : Int) (p3 : Int) (v3 : Int) : Option (Lp Int (Ou Unit Bool)) :=
 sel (decide (v3 < (p0.length : Int))) (
 req (0 ≤ v3 ∧ v3 < p0.length) <|
 bnd (Xal (p0.getD v3.toNat 0) p2 p3) fun q7 =>
 sel (!q7) (
 some (.done (.ret false))) (
 some (.go (Xaa .i64 (v3 + 1))))) (
 some (.done (.out ())))
def Xbf (p0 : (List Int)) (p1 : Int) (p2 : Int) (p3 : Int) : Option Bool :=
 bnd (loop (Xio p0 p2 p3) 0) fun o8 => match o8 with
| .out v6 => (
 some ((p0.length : Int) == p1))
| .ret r => some r
def Xc3 (p0 : Xdm) : Option Bool :=
 bnd (
 bnd (Xal p0.Qp 0 40) fun q2 =>
 sel q2 (
 sel p0.Large (
 some (!p0.Exact)) (
 some true)) (
 some false)) fun v1 =>
 some v1
def Xd4 (p0 : Int) (p1 : Int) (p2 : Int) : Option Int :=
 some (if (if p2 < p0 then p2 else p0) > p1 then (if p2 < p0 then p2 else p0) else p1)
def Xd8 (p0 : Pic) (p1 : Int) (p2 : Int) : Option Int :=
 bnd (Xd4 p2 0 (Xaa .i64 (p0.High - 1))) fun q1 =>
 bnd (Xd4 p1 0 (Xaa .i64 (p0.Wide - 1))) fun q2 =>
 req (0 ≤ (Xaa .i64 ((Xaa .i64 (q1 * p0.Wide)) + q2)) ∧ (Xaa .i64 ((Xaa .i64 (q1 * p0.Wide)) + q2)) < p0.Dots.size) <|
 some (Xaa .i64 ((Xp5 p0.Dots (Xaa .i64 ((Xaa .i64 (q1 * p0.Wide)) + q2)))))
def Xig (p0 : Pic) (p1 : Int) (p2 : Int) (v9 : (Int × (List Int) × (List Int))) : Option (Lp (Int × (List Int) × (List Int)) ((List Int) × (List Int))) :=
 sel (decide (v9.1 < 8)) (
 bnd (
 bnd (
 sel (decide (p2 > 0)) (
 bnd (Xd8 p0 (Xaa .i64 (p1 + v9.1)) (Xaa .i64 (p2 - 1))) fun q18 =>
 req ((v9.2.1.length + ([q18]).length) * 8 ≤ 140737488355328 ∧ v9.2.1.length + ([q18]).length ≤ maxLen) <|
 some (v9.2.1 ++ ([q18]))) (
 some v9.2.1)) fun v17 =>
 sel (decide (p1 > 0)) (
 bnd (Xd8 p0 (Xaa .i64 (p1 - 1)) (Xaa .i64 (p2 + v9.1))) fun q19 =>
 req ((v9.2.2.length + ([q19]).length) * 8 ≤ 140737488355328 ∧ v9.2.2.length + ([q19]).length ≤ maxLen) <|
 some (v17, (v9.2.2 ++ ([q19])))) (
 some (v17, v9.2.2))) fun v16 =>
 some (.go (Xaa .i64 (v9.1 + 1), v16.1, v16.2))) (
 some (.done (v9.2.1, v9.2.2)))
def Xhz (p0 : Pic) (p1 : Int) (p2 : Int) : Option (Xg4 × Bool) :=
 bnd (
 bnd (Xb3 p0) fun q2 =>
 sel q2 (
 bnd (Xbr p0 p1 p2) fun q3 =>
 some (!q3)) (
 some true)) fun v1 =>
 sel v1 (
 some ((⟨[], [], 0⟩ : Xg4), false)) (
 bnd (loop (Xig p0 p1 p2) (0, [], [])) fun v15 =>
 bnd (
 bnd (
 sel (decide (p1 > 0)) (
 some (decide (p2 > 0))) (
 some false)) fun v22 =>
 sel v22 (
 bnd (Xd8 p0 (Xaa .i64 (p1 - 1)) (Xaa .i64 (p2 - 1))) fun q23 =>
 some q23) (
 some (-1))) fun v21 =>
 some ((⟨v15.1, v15.2, v21⟩ : Xg4), true))
def Xeo (p0 : Xg4) (v4 : Int) : Option (Lp Int (Ou Unit Bool)) :=
 sel (decide (v4 < (([p0.Above, p0.Left]).length : Int))) (
 req (0 ≤ v4 ∧ v4 < ([p0.Above, p0.Left]).length) <|
 req (v4.toNat < ([p0.Above, p0.Left]).length) <|
 bnd (
 sel (decide (((([p0.Above, p0.Left]).getD v4.toNat Xyi).length : Int) > 0)) (
 bnd (Xbf (([p0.Above, p0.Left]).getD v4.toNat Xyi) 8 0 255) fun q10 =>
 some (!q10)) (
 some false)) fun v9 =>
 sel v9 (
 some (.done (.ret false))) (
 some (.go (Xaa .i64 (v4 + 1))))) (
 some (.done (.out ())))
def Xh0 (p0 : Xg4) : Option Bool :=
 bnd (loop (Xeo p0) 0) fun o11 => match o11 with
| .out v8 => (
 bnd (Xal p0.Corner (-1) 255) fun q12 =>
 some q12)
| .ret r => some r
def Xo2 (p0 : (List Int)) (v2 : (Int × Int)) : Option (Lp (Int × Int) Int) :=
 sel (decide (v2.2 < (p0.length : Int))) (
 req (0 ≤ v2.2 ∧ v2.2 < p0.length) <|
 some (.go (Xaa .i64 (v2.1 + (p0.getD v2.2.toNat 0)), Xaa .i64 (v2.2 + 1)))) (
 some (.done v2.1))
def Xh6 (p0 : (List Int)) : Option Int :=
 bnd (loop (Xo2 p0) (0, 0)) fun v4 =>
 some v4
def Xju (p0 : (List Int)) : Option (List Int) :=
 sel ((p0.length : Int) == 0) (
 some ([128, 128, 128, 128, 128, 128, 128, 128])) (
 some p0)
def Xfh (p0 : Int) (v4 : Int) (q7 : (List Int)) (q8 : (List Int)) (v9 : Int) (v22 : (Int × (List Int))) (v39 : (Int × (List Int))) : Option (Lp (Int × (List Int)) (List Int)) :=
 sel (decide (v39.1 < 8)) (
 bnd (
 sel (p0 == 0) (
 req ((v39.2.length + ([v4]).length) * 8 ≤ 140737488355328 ∧ v39.2.length + ([v4]).length ≤ maxLen) <|
 some (v39.2 ++ ([v4]))) (
 sel (p0 == 1) (
 req (0 ≤ v39.1 ∧ v39.1 < q7.length) <|
 req ((v39.2.length + ([(q7.getD v39.1.toNat 0)]).length) * 8 ≤ 140737488355328 ∧ v39.2.length + ([(q7.getD v39.1.toNat 0)]).length ≤ maxLen) <|
 some (v39.2 ++ ([(q7.getD v39.1.toNat 0)]))) (
 sel (p0 == 2) (
 req (0 ≤ v22.1 ∧ v22.1 < q8.length) <|
 req ((v39.2.length + ([(q8.getD v22.1.toNat 0)]).length) * 8 ≤ 140737488355328 ∧ v39.2.length + ([(q8.getD v22.1.toNat 0)]).length ≤ maxLen) <|
 some (v39.2 ++ ([(q8.getD v22.1.toNat 0)]))) (
 req (0 ≤ v22.1 ∧ v22.1 < q8.length) <|
 req (0 ≤ v39.1 ∧ v39.1 < q7.length) <|
 bnd (Xd4 (Xaa .i64 ((Xaa .i64 ((q8.getD v22.1.toNat 0) + (q7.getD v39.1.toNat 0))) - v9)) 0 255) fun q45 =>
 req ((v39.2.length + ([q45]).length) * 8 ≤ 140737488355328 ∧ v39.2.length + ([q45]).length ≤ maxLen) <|
 some (v39.2 ++ ([q45])))))) fun v44 =>
 some (.go (Xaa .i64 (v39.1 + 1), v44))) (
 some (.done v39.2))
def Xla (p0 : Int) (v4 : Int) (q7 : (List Int)) (q8 : (List Int)) (v9 : Int) (v22 : (Int × (List Int))) : Option (Lp (Int × (List Int)) (List Int)) :=
 sel (decide (v22.1 < 8)) (
 bnd (loop (Xfh p0 v4 q7 q8 v9 v22) (0, v22.2)) fun v43 =>
 some (.go (Xaa .i64 (v22.1 + 1), v43))) (
 some (.done v22.2))
def Xe2 (p0 : Int) (p1 : Xg4) : Option (List Int) :=
 bnd (
 bnd (Xh0 p1) fun q2 =>
 sel q2 (
 bnd (Xal p0 0 3) fun q3 =>
 some (!q3)) (
 some true)) fun v1 =>
 sel v1 (
 some ([] : List Int)) (
 bnd (
 sel (decide ((Xaa .i64 ((p1.Above.length : Int) + (p1.Left.length : Int))) > 0)) (
 bnd (Xh6 p1.Above) fun q5 =>
 bnd (Xh6 p1.Left) fun q6 =>
 req ((2 : Int) ≠ 0) <|
 req ((Xaa .i64 ((p1.Above.length : Int) + (p1.Left.length : Int))) ≠ 0) <|
 some (Xaa .i64 ((Xaa .i64 ((Xaa .i64 (q5 + q6)) + (Xaa .i64 ((Xaa .i64 ((p1.Above.length : Int) + (p1.Left.length : Int))).tdiv 2)))).tdiv (Xaa .i64 ((p1.Above.length : Int) + (p1.Left.length : Int)))))) (
 some 128)) fun v4 =>
 bnd (Xju p1.Above) fun q7 =>
 bnd (Xju p1.Left) fun q8 =>
 bnd (
 sel (decide (p1.Corner < 0)) (
 some 128) (
 some p1.Corner)) fun v9 =>
 bnd (loop (Xla p0 v4 q7 q8 v9) (0, ([] : List Int))) fun v35 =>
 some v35)
def Xkw (p0 : Int) : Option Int :=
 some (if (Xaa .i64 (0 - p0)) > p0 then (Xaa .i64 (0 - p0)) else p0)
def Xl7 (p0 : (List Int)) (p1 : (List Int)) (v3 : (Int × Int)) : Option (Lp (Int × Int) Int) :=
 sel (decide (v3.2 < (p0.length : Int))) (
 req (0 ≤ v3.2 ∧ v3.2 < p0.length) <|
 req (0 ≤ v3.2 ∧ v3.2 < p1.length) <|
 bnd (Xkw (Xaa .i64 ((p0.getD v3.2.toNat 0) - (p1.getD v3.2.toNat 0)))) fun q7 =>
 some (.go (Xaa .i64 (v3.1 + q7), Xaa .i64 (v3.2 + 1)))) (
 some (.done v3.1))
def Xm2 (p0 : (List Int)) (p1 : (List Int)) : Option Int :=
 bnd (loop (Xl7 p0 p1) (0, 0)) fun v6 =>
 some v6
def Xcj (v2 : (Int × Int)) : Option (Lp (Int × Int) Int) :=
 sel (decide (v2.1 > 0)) (
 req (0 ≤ (1 : Int)) <|
 some (.go ((v2.1 / 2 ^ min (1 : Int).toNat (IntKind.bits .i64)), Xaa .i64 (v2.2 + 1)))) (
 some (.done v2.2))
def Xkd (p0 : Int) : Option Int :=
 bnd (loop (Xcj) (p0, 0)) fun v4 =>
 some v4
def Xir (v2 : (Int × Int × (List Int))) : Option (Lp (Int × Int × (List Int)) (List Int)) :=
 sel (decide (v2.2.1 ≥ 0)) (
 req (0 ≤ v2.2.1 ∧ v2.2.1 < v2.2.2.length) <|
 req (v2.2.1.toNat < v2.2.2.length) <|
 req (0 ≤ (1 : Int)) <|
 some (.go ((v2.1 / 2 ^ min (1 : Int).toNat (IntKind.bits .i64)), Xaa .i64 (v2.2.1 - 1), (v2.2.2.set v2.2.1.toNat (Xaa .u8 (Xaa .i64 (48 + (IntKind.wrap .i64 (BitVec.ofInt (IntKind.bits .i64) v2.1 &&& BitVec.ofInt (IntKind.bits .i64) 1).toNat)))))))) (
 some (.done v2.2.2))
def Xn6 (p0 : Int) (p1 : Int) : Option ByteArray :=
 req (0 ≤ p1 ∧ p1 ≤ p1 ∧ p1 * 1 ≤ 281474976710656) <|
 bnd (loop (Xir) (p0, Xaa .i64 (p1 - 1), (List.replicate p1.toNat (0 : Int)))) fun v4 =>
 some (strOfNums v4)
def Xlh (p0 : Int) : Option ByteArray :=
 bnd (Xkd (Xaa .i64 (p0 + 1))) fun q1 =>
 bnd (Xn6 (Xaa .i64 (p0 + 1)) (Xaa .i64 ((Xaa .i64 (2 * q1)) - 1))) fun q2 =>
 some q2
def Xlw (p0 : Int) : Option (ByteArray × Bool) :=
 bnd (Xal p0 0 1000000) fun q1 =>
 sel (!q1) (
 some (⟨#[]⟩, false)) (
 bnd (Xlh p0) fun q2 =>
 some (q2, true))
def Xjr (p0 : Int) : Option Int :=
 bnd (Xlw p0) fun q1 =>
 some (q1.1.size : Int)
def Xgm (p0 : (List Int)) (p1 : Xg4) (v16 : (Int × Int × Int)) : Option (Lp (Int × Int × Int) (Int × Int)) :=
 sel (decide (v16.2.2 ≤ 3)) (
 bnd (
 bnd (Xe2 v16.2.2 p1) fun q25 =>
 bnd (Xm2 p0 q25) fun q26 =>
 bnd (Xjr v16.2.2) fun q27 =>
 bnd (
 sel (decide (v16.2.1 < 0)) (
 some true) (
 some (decide ((Xaa .i64 (q26 + q27)) < v16.2.1)))) fun v28 =>
 sel v28 (
 some (v16.2.2, Xaa .i64 (q26 + q27))) (
 some (v16.1, v16.2.1))) fun v24 =>
 some (.go (v24.1, v24.2, Xaa .i64 (v16.2.2 + 1)))) (
 some (.done (v16.1, v16.2.1)))
def Xg6 (p0 : (List Int)) (p1 : Xg4) : Option (Int × Int) :=
 bnd (
 bnd (Xh0 p1) fun q2 =>
 sel q2 (
 bnd (Xbf p0 64 0 255) fun q3 =>
 some (!q3)) (
 some true)) fun v1 =>
 sel v1 (
 some (0, (-1))) (
 bnd (loop (Xgm p0 p1) (0, (-1), 0)) fun v23 =>
 some (v23.1, v23.2))
def Xhk (p0 : (List Int)) (p1 : (List Int)) (v2 : (Int × (List Int))) : Option (Lp (Int × (List Int)) (List Int)) :=
 sel (decide (v2.1 < (p0.length : Int))) (
 req (0 ≤ v2.1 ∧ v2.1 < p0.length) <|
 req (0 ≤ v2.1 ∧ v2.1 < p1.length) <|
 req ((v2.2.length + ([Xaa .i64 ((p0.getD v2.1.toNat 0) - (p1.getD v2.1.toNat 0))]).length) * 8 ≤ 140737488355328 ∧ v2.2.length + ([Xaa .i64 ((p0.getD v2.1.toNat 0) - (p1.getD v2.1.toNat 0))]).length ≤ maxLen) <|
 some (.go (Xaa .i64 (v2.1 + 1), (v2.2 ++ ([Xaa .i64 ((p0.getD v2.1.toNat 0) - (p1.getD v2.1.toNat 0))]))))) (
 some (.done v2.2))
def Xfb (p0 : (List Int)) (p1 : (List Int)) : Option (List Int) :=
 bnd (loop (Xhk p0 p1) (0, ([] : List Int))) fun v4 =>
 some v4
def Xip (p0 : Int) (v16 : (Int × (List Int))) (v37 : (Int × (List Int))) : Option (Lp (Int × (List Int)) (List Int)) :=
 sel (decide (v37.1 ≤ v16.1)) (
 bnd (
 bnd (
 req ((2 : Int) ≠ 0) <|
 sel ((v16.1.tmod 2) == 0) (
 some (Xaa .i64 (v16.1 - v37.1))) (
 some v37.1)) fun v44 =>
 bnd (
 sel (decide (v44 < p0)) (
 some (decide ((Xaa .i64 (v16.1 - v44)) < p0))) (
 some false)) fun v45 =>
 sel v45 (
 req ((v37.2.length + ([Xaa .i64 ((Xaa .i64 (v44 * p0)) + (Xaa .i64 (v16.1 - v44)))]).length) * 8 ≤ 140737488355328 ∧ v37.2.length + ([Xaa .i64 ((Xaa .i64 (v44 * p0)) + (Xaa .i64 (v16.1 - v44)))]).length ≤ maxLen) <|
 some (v37.2 ++ ([Xaa .i64 ((Xaa .i64 (v44 * p0)) + (Xaa .i64 (v16.1 - v44)))]))) (
 some v37.2)) fun v43 =>
 some (.go (Xaa .i64 (v37.1 + 1), v43))) (
 some (.done v37.2))
def Xfs (p0 : Int) (v16 : (Int × (List Int))) : Option (Lp (Int × (List Int)) (List Int)) :=
 sel (decide (v16.1 ≤ (Xaa .i64 ((Xaa .i64 (2 * p0)) - 2)))) (
 bnd (loop (Xip p0 v16) (0, v16.2)) fun v42 =>
 some (.go (Xaa .i64 (v16.1 + 1), v42))) (
 some (.done v16.2))
def Xfn (p0 : Int) : Option (List Int) :=
 bnd (loop (Xfs p0) (0, ([] : List Int))) fun v32 =>
 some v32
def Xil (p1 : (List Int)) (q2 : (List Int)) (v4 : (Int × (List Int))) : Option (Lp (Int × (List Int)) (List Int)) :=
 sel (decide (v4.1 < (q2.length : Int))) (
 req (0 ≤ v4.1 ∧ v4.1 < q2.length) <|
 req (v4.1.toNat < q2.length) <|
 req (0 ≤ (q2.getD v4.1.toNat 0) ∧ (q2.getD v4.1.toNat 0) < p1.length) <|
 req ((v4.2.length + ([(p1.getD (q2.getD v4.1.toNat 0).toNat 0)]).length) * 8 ≤ 140737488355328 ∧ v4.2.length + ([(p1.getD (q2.getD v4.1.toNat 0).toNat 0)]).length ≤ maxLen) <|
 some (.go (Xaa .i64 (v4.1 + 1), (v4.2 ++ ([(p1.getD (q2.getD v4.1.toNat 0).toNat 0)]))))) (
 some (.done v4.2))
def Xfz (p0 : Int) (p1 : (List Int)) : Option ((List Int) × Bool) :=
 bnd (
 sel (p0 != 4) (
 sel (p0 != 8) (
 some true) (
 some ((p1.length : Int) != (Xaa .i64 (p0 * p0))))) (
 some ((p1.length : Int) != (Xaa .i64 (p0 * p0))))) fun v1 =>
 sel v1 (
 some (([] : List Int), false)) (
 bnd (Xfn p0) fun q2 =>
 bnd (loop (Xil p1 q2) (0, ([] : List Int))) fun v6 =>
 some (v6, true))
def Xjq (p0 : Int) (p1 : Int) : Option Int :=
 bnd (
 bnd (Xal p0 0 7) fun q2 =>
 sel q2 (
 bnd (Xal p1 0 7) fun q3 =>
 some (!q3)) (
 some true)) fun v1 =>
 sel v1 (
 some 0) (
 req (0 ≤ (1 : Int)) <|
 req (0 ≤ (2 : Int)) <|
 req ((2 : Int) ≠ 0) <|
 sel (((Xaa .i64 ((Xaa .i64 ((IntKind.wrap .i64 (BitVec.ofInt (IntKind.bits .i64) (IntKind.wrap .i64 (BitVec.ofInt (IntKind.bits .i64) p0 &&& BitVec.ofInt (IntKind.bits .i64) p1).toNat) &&& BitVec.ofInt (IntKind.bits .i64) 1).toNat) + (IntKind.wrap .i64 (BitVec.ofInt (IntKind.bits .i64) ((IntKind.wrap .i64 (BitVec.ofInt (IntKind.bits .i64) p0 &&& BitVec.ofInt (IntKind.bits .i64) p1).toNat) / 2 ^ min (1 : Int).toNat (IntKind.bits .i64)) &&& BitVec.ofInt (IntKind.bits .i64) 1).toNat))) + (IntKind.wrap .i64 (BitVec.ofInt (IntKind.bits .i64) ((IntKind.wrap .i64 (BitVec.ofInt (IntKind.bits .i64) p0 &&& BitVec.ofInt (IntKind.bits .i64) p1).toNat) / 2 ^ min (2 : Int).toNat (IntKind.bits .i64)) &&& BitVec.ofInt (IntKind.bits .i64) 1).toNat))).tmod 2) == 0) (
 some 1) (
 some (-1)))
def Xis (p0 : (List Int)) (v31 : (Int × (List Int))) (v72 : (Int × (List Int))) (v85 : (Int × (List Int))) : Option (Lp (Int × (List Int)) (List Int)) :=
 sel (decide (v85.1 < 8)) (
 req (0 ≤ (Xaa .i64 ((Xaa .i64 (8 * v31.1)) + v72.1)) ∧ (Xaa .i64 ((Xaa .i64 (8 * v31.1)) + v72.1)) < v85.2.length) <|
 req ((Xaa .i64 ((Xaa .i64 (8 * v31.1)) + v72.1)).toNat < v85.2.length) <|
 bnd (Xjq v72.1 v85.1) fun q89 =>
 req (0 ≤ (Xaa .i64 ((Xaa .i64 (8 * v31.1)) + v85.1)) ∧ (Xaa .i64 ((Xaa .i64 (8 * v31.1)) + v85.1)) < p0.length) <|
 req (0 ≤ (Xaa .i64 ((Xaa .i64 (8 * v31.1)) + v72.1)) ∧ (Xaa .i64 ((Xaa .i64 (8 * v31.1)) + v72.1)) < v85.2.length) <|
 req ((Xaa .i64 ((Xaa .i64 (8 * v31.1)) + v72.1)).toNat < v85.2.length) <|
 some (.go (Xaa .i64 (v85.1 + 1), (v85.2.set ((Xaa .i64 ((Xaa .i64 (8 * v31.1)) + v72.1)).toNat) (Xaa .i64 ((v85.2.getD ((Xaa .i64 ((Xaa .i64 (8 * v31.1)) + v72.1)).toNat) 0) + (Xaa .i64 (q89 * (p0.getD (Xaa .i64 ((Xaa .i64 (8 * v31.1)) + v85.1)).toNat 0))))))))) (
 some (.done v85.2))
def Xo4 (p0 : (List Int)) (v31 : (Int × (List Int))) (v72 : (Int × (List Int))) : Option (Lp (Int × (List Int)) (List Int)) :=
 sel (decide (v72.1 < 8)) (
 bnd (loop (Xis p0 v31 v72) (0, v72.2)) fun v88 =>
 some (.go (Xaa .i64 (v72.1 + 1), v88))) (
 some (.done v72.2))
def Xo3 (p0 : (List Int)) (v31 : (Int × (List Int))) : Option (Lp (Int × (List Int)) (List Int)) :=
 sel (decide (v31.1 < 8)) (
 bnd (loop (Xo4 p0 v31) (0, v31.2)) fun v82 =>
 some (.go (Xaa .i64 (v31.1 + 1), v82))) (
 some (.done v31.2))
def Xhb (v62 : (List Int)) (v123 : (Int × (List Int))) (v164 : (Int × (List Int))) (v177 : (Int × (List Int))) : Option (Lp (Int × (List Int)) (List Int)) :=
 sel (decide (v177.1 < 8)) (
 req (0 ≤ (Xaa .i64 ((Xaa .i64 (8 * v123.1)) + v164.1)) ∧ (Xaa .i64 ((Xaa .i64 (8 * v123.1)) + v164.1)) < v177.2.length) <|
 req ((Xaa .i64 ((Xaa .i64 (8 * v123.1)) + v164.1)).toNat < v177.2.length) <|
 bnd (Xjq v123.1 v177.1) fun q181 =>
 req (0 ≤ (Xaa .i64 ((Xaa .i64 (8 * v177.1)) + v164.1)) ∧ (Xaa .i64 ((Xaa .i64 (8 * v177.1)) + v164.1)) < v62.length) <|
 req ((Xaa .i64 ((Xaa .i64 (8 * v177.1)) + v164.1)).toNat < v62.length) <|
 req (0 ≤ (Xaa .i64 ((Xaa .i64 (8 * v123.1)) + v164.1)) ∧ (Xaa .i64 ((Xaa .i64 (8 * v123.1)) + v164.1)) < v177.2.length) <|
 req ((Xaa .i64 ((Xaa .i64 (8 * v123.1)) + v164.1)).toNat < v177.2.length) <|
 some (.go (Xaa .i64 (v177.1 + 1), (v177.2.set ((Xaa .i64 ((Xaa .i64 (8 * v123.1)) + v164.1)).toNat) (Xaa .i64 ((v177.2.getD ((Xaa .i64 ((Xaa .i64 (8 * v123.1)) + v164.1)).toNat) 0) + (Xaa .i64 (q181 * (v62.getD ((Xaa .i64 ((Xaa .i64 (8 * v177.1)) + v164.1)).toNat) 0))))))))) (
 some (.done v177.2))
def Xng (v62 : (List Int)) (v123 : (Int × (List Int))) (v164 : (Int × (List Int))) : Option (Lp (Int × (List Int)) (List Int)) :=
 sel (decide (v164.1 < 8)) (
 bnd (loop (Xhb v62 v123 v164) (0, v164.2)) fun v180 =>
 some (.go (Xaa .i64 (v164.1 + 1), v180))) (
 some (.done v164.2))
def Xnf (v62 : (List Int)) (v123 : (Int × (List Int))) : Option (Lp (Int × (List Int)) (List Int)) :=
 sel (decide (v123.1 < 8)) (
 bnd (loop (Xng v62 v123) (0, v123.2)) fun v174 =>
 some (.go (Xaa .i64 (v123.1 + 1), v174))) (
 some (.done v123.2))
def Xn7 (p0 : (List Int)) : Option (List Int) :=
 req (0 ≤ (64 : Int) ∧ (64 : Int) ≤ (64 : Int) ∧ (64 : Int) * 8 ≤ 281474976710656) <|
 bnd (loop (Xo3 p0) (0, (List.replicate (64 : Int).toNat (0 : Int)))) fun v62 =>
 req (0 ≤ (64 : Int) ∧ (64 : Int) ≤ (64 : Int) ∧ (64 : Int) * 8 ≤ 281474976710656) <|
 bnd (loop (Xnf v62) (0, (List.replicate (64 : Int).toNat (0 : Int)))) fun v154 =>
 some v154
def Xns (p0 : (List Int)) : Option (List Int) :=
 bnd (Xbf p0 64 (-1000) 1000) fun q1 =>
 sel (!q1) (
 some ([] : List Int)) (
 bnd (Xn7 p0) fun q2 =>
 some q2)
def Xf1 (p0 : Int) : Option Int :=
 bnd (Xal p0 0 40) fun q1 =>
 sel (!q1) (
 some 0) (
 req ((6 : Int) ≠ 0) <|
 req (0 ≤ (p0.tmod 6) ∧ (p0.tmod 6) < ([10, 11, 13, 14, 16, 18]).length) <|
 req ((p0.tmod 6).toNat < ([10, 11, 13, 14, 16, 18]).length) <|
 req ((6 : Int) ≠ 0) <|
 req (0 ≤ (Xaa .i64 (p0.tdiv 6))) <|
 some (Xaa .i64 ((([10, 11, 13, 14, 16, 18]).getD ((p0.tmod 6).toNat) 0) * 2 ^ min (Xaa .i64 (p0.tdiv 6)).toNat (IntKind.bits .i64))))
def Xmc (p0 : Int) (p1 : Int) : Option Int :=
 sel (decide (p1 < 0)) (
 some (Xaa .i64 (0 - p0))) (
 some p0)
def Xfx (p0 : Int) (p1 : Int) : Option Int :=
 bnd (
 bnd (Xal p0 (-20000) 20000) fun q2 =>
 sel q2 (
 bnd (Xal p1 0 40) fun q3 =>
 some (!q3)) (
 some true)) fun v1 =>
 sel v1 (
 some 0) (
 bnd (Xf1 p1) fun q4 =>
 bnd (Xkw p0) fun q5 =>
 req ((2 : Int) ≠ 0) <|
 req (q4 ≠ 0) <|
 bnd (Xmc (Xaa .i64 ((Xaa .i64 (q5 + (Xaa .i64 (q4.tdiv 2)))).tdiv q4)) p0) fun q6 =>
 some q6)
def Xlg (p0 : Int) (v7 : (Int × (List Int))) (v16 : (Int × (List Int))) : Option (Lp (Int × (List Int)) (List Int)) :=
 sel (decide (v16.1 < 4)) (
 req ((2 : Int) ≠ 0) <|
 req ((2 : Int) ≠ 0) <|
 req ((v16.2.length + ([Xaa .i64 ((Xaa .i64 ((Xaa .i64 ((Xaa .i64 (v7.1 + (Xaa .i64 ((Xaa .i64 (p0.tdiv 2)) * 4)))) * 8)) + v16.1)) + (Xaa .i64 ((p0.tmod 2) * 4)))]).length) * 8 ≤ 140737488355328 ∧ v16.2.length + ([Xaa .i64 ((Xaa .i64 ((Xaa .i64 ((Xaa .i64 (v7.1 + (Xaa .i64 ((Xaa .i64 (p0.tdiv 2)) * 4)))) * 8)) + v16.1)) + (Xaa .i64 ((p0.tmod 2) * 4)))]).length ≤ maxLen) <|
 some (.go (Xaa .i64 (v16.1 + 1), (v16.2 ++ ([Xaa .i64 ((Xaa .i64 ((Xaa .i64 ((Xaa .i64 (v7.1 + (Xaa .i64 ((Xaa .i64 (p0.tdiv 2)) * 4)))) * 8)) + v16.1)) + (Xaa .i64 ((p0.tmod 2) * 4)))]))))) (
 some (.done v16.2))
def Xhl (p0 : Int) (v7 : (Int × (List Int))) : Option (Lp (Int × (List Int)) (List Int)) :=
 sel (decide (v7.1 < 4)) (
 bnd (loop (Xlg p0 v7) (0, v7.2)) fun v18 =>
 some (.go (Xaa .i64 (v7.1 + 1), v18))) (
 some (.done v7.2))
def Xh2 (p0 : Int) : Option (List Int) :=
 bnd (loop (Xhl p0) (0, ([] : List Int))) fun v14 =>
 some v14
def Xgp (p0 : (List Int)) : Option (List Int) :=
 req ((([] : List Int).length + p0.length) * 8 ≤ 140737488355328 ∧ ([] : List Int).length + p0.length ≤ maxLen) <|
 some (([] : List Int) ++ p0)
def Xjk (p0 : Int) (p1 : Int) (p2 : Int) (p3 : Int) : Option (Int × Int × Int × Int) :=
 some (Xaa .i64 ((Xaa .i64 ((Xaa .i64 (p0 + p1)) + p2)) + p3), Xaa .i64 ((Xaa .i64 ((Xaa .i64 ((Xaa .i64 (2 * p0)) + p1)) - p2)) - (Xaa .i64 (2 * p3))), Xaa .i64 ((Xaa .i64 ((Xaa .i64 (p0 - p1)) - p2)) + p3), Xaa .i64 ((Xaa .i64 ((Xaa .i64 (p0 - (Xaa .i64 (2 * p1)))) + (Xaa .i64 (2 * p2)))) - p3))
def Xgw (v4 : (Int × (List Int))) : Option (Lp (Int × (List Int)) (List Int)) :=
 sel (decide (v4.1 < 16)) (
 req (0 ≤ v4.1 ∧ v4.1 < v4.2.length) <|
 req (v4.1.toNat < v4.2.length) <|
 req (0 ≤ (Xaa .i64 (v4.1 + 1)) ∧ (Xaa .i64 (v4.1 + 1)) < v4.2.length) <|
 req ((Xaa .i64 (v4.1 + 1)).toNat < v4.2.length) <|
 req (0 ≤ (Xaa .i64 (v4.1 + 2)) ∧ (Xaa .i64 (v4.1 + 2)) < v4.2.length) <|
 req ((Xaa .i64 (v4.1 + 2)).toNat < v4.2.length) <|
 req (0 ≤ (Xaa .i64 (v4.1 + 3)) ∧ (Xaa .i64 (v4.1 + 3)) < v4.2.length) <|
 req ((Xaa .i64 (v4.1 + 3)).toNat < v4.2.length) <|
 bnd (Xjk (v4.2.getD v4.1.toNat 0) (v4.2.getD ((Xaa .i64 (v4.1 + 1)).toNat) 0) (v4.2.getD ((Xaa .i64 (v4.1 + 2)).toNat) 0) (v4.2.getD ((Xaa .i64 (v4.1 + 3)).toNat) 0)) fun q8 =>
 req (0 ≤ v4.1 ∧ v4.1 ≤ (Xaa .i64 (v4.1 + 4)) ∧ (Xaa .i64 (v4.1 + 4)) ≤ (v4.2.length : Int)) <|
 req ((v4.1.toNat + ((Xaa .i64 (v4.1 + 4)).toNat - v4.1.toNat) ≤ v4.2.length ∧ ([q8.1, q8.2.1, q8.2.2.1, q8.2.2.2]).length ≤ ((Xaa .i64 (v4.1 + 4)).toNat - v4.1.toNat))) <|
 some (.go (Xaa .i64 (v4.1 + 4), (over v4.2 v4.1.toNat ([q8.1, q8.2.1, q8.2.2.1, q8.2.2.2]))))) (
 some (.done v4.2))
def Xf7 (v17 : (Int × (List Int))) (q26 : (Int × Int × Int × Int)) (v28 : (Int × (List Int))) : Option (Lp (Int × (List Int)) (List Int)) :=
 sel (decide (v28.1 < 4)) (
 req (0 ≤ v28.1 ∧ v28.1 < ([q26.1, q26.2.1, q26.2.2.1, q26.2.2.2] : List Int).length) <|
 req (0 ≤ (Xaa .i64 (v17.1 + (Xaa .i64 (4 * v28.1)))) ∧ (Xaa .i64 (v17.1 + (Xaa .i64 (4 * v28.1)))) < v28.2.length) <|
 req ((Xaa .i64 (v17.1 + (Xaa .i64 (4 * v28.1)))).toNat < v28.2.length) <|
 some (.go (Xaa .i64 (v28.1 + 1), (v28.2.set ((Xaa .i64 (v17.1 + (Xaa .i64 (4 * v28.1)))).toNat) (([q26.1, q26.2.1, q26.2.2.1, q26.2.2.2] : List Int).getD v28.1.toNat 0))))) (
 some (.done v28.2))
def Xf6 (v17 : (Int × (List Int))) : Option (Lp (Int × (List Int)) (List Int)) :=
 sel (decide (v17.1 < 4)) (
 req (0 ≤ v17.1 ∧ v17.1 < v17.2.length) <|
 req (v17.1.toNat < v17.2.length) <|
 req (0 ≤ (Xaa .i64 (v17.1 + 4)) ∧ (Xaa .i64 (v17.1 + 4)) < v17.2.length) <|
 req ((Xaa .i64 (v17.1 + 4)).toNat < v17.2.length) <|
 req (0 ≤ (Xaa .i64 (v17.1 + 8)) ∧ (Xaa .i64 (v17.1 + 8)) < v17.2.length) <|
 req ((Xaa .i64 (v17.1 + 8)).toNat < v17.2.length) <|
 req (0 ≤ (Xaa .i64 (v17.1 + 12)) ∧ (Xaa .i64 (v17.1 + 12)) < v17.2.length) <|
 req ((Xaa .i64 (v17.1 + 12)).toNat < v17.2.length) <|
 bnd (Xjk (v17.2.getD v17.1.toNat 0) (v17.2.getD ((Xaa .i64 (v17.1 + 4)).toNat) 0) (v17.2.getD ((Xaa .i64 (v17.1 + 8)).toNat) 0) (v17.2.getD ((Xaa .i64 (v17.1 + 12)).toNat) 0)) fun q26 =>
 bnd (loop (Xf7 v17 q26) (0, v17.2)) fun v30 =>
 some (.go (Xaa .i64 (v17.1 + 1), v30))) (
 some (.done v17.2))
def Xdc (p0 : (List Int)) : Option (List Int) :=
 bnd (Xgp p0) fun q1 =>
 bnd (loop (Xgw) (0, q1)) fun v7 =>
 bnd (loop (Xf6) (0, v7)) fun v25 =>
 some v25
def Xqd (p0 : (List Int)) : Option (List Int) :=
 bnd (Xbf p0 16 (-1000) 1000) fun q1 =>
 sel (!q1) (
 some ([] : List Int)) (
 bnd (Xdc p0) fun q2 =>
 some q2)
def Xov (p0 : Int) : Option Int :=
 bnd (Xal p0 0 15) fun q1 =>
 sel (!q1) (
 some (-1)) (
 req ((4 : Int) ≠ 0) <|
 req ((2 : Int) ≠ 0) <|
 req ((4 : Int) ≠ 0) <|
 req ((2 : Int) ≠ 0) <|
 bnd (
 sel (((Xaa .i64 (p0.tdiv 4)).tmod 2) == 0) (
 some (((p0.tmod 4).tmod 2) == 0)) (
 some false)) fun v2 =>
 sel v2 (
 some 0) (
 bnd (
 sel (((Xaa .i64 (p0.tdiv 4)).tmod 2) == 1) (
 some (((p0.tmod 4).tmod 2) == 1)) (
 some false)) fun v3 =>
 sel v3 (
 some 1) (
 some 2)))
def Xku (p0 : Int) (p1 : Int) : Option Int :=
 bnd (
 bnd (Xal p0 0 40) fun q2 =>
 sel q2 (
 bnd (Xal p1 0 15) fun q3 =>
 some (!q3)) (
 some true)) fun v1 =>
 sel v1 (
 some 0) (
 req ((6 : Int) ≠ 0) <|
 bnd (Xov p1) fun q4 =>
 req (0 ≤ (p0.tmod 6) ∧ (p0.tmod 6) < 6) <|
 req (0 ≤ q4 ∧ q4 < 3) <|
 req (((0 + (p0.tmod 6).toNat * 3) + q4.toNat * 1) < ([13107, 5243, 8066, 11916, 4660, 7490, 10082, 4194, 6554, 9362, 3647, 5825, 8192, 3355, 5243, 7282, 2893, 4559] : List Int).length) <|
 some (([13107, 5243, 8066, 11916, 4660, 7490, 10082, 4194, 6554, 9362, 3647, 5825, 8192, 3355, 5243, 7282, 2893, 4559] : List Int).getD ((0 + (p0.tmod 6).toNat * 3) + q4.toNat * 1) 0))
def Xf0 (p0 : Int) (p1 : Int) (p2 : Int) : Option Int :=
 bnd (
 bnd (Xal p0 (-20000) 20000) fun q2 =>
 sel q2 (
 bnd (Xal p1 0 40) fun q3 =>
 sel q3 (
 bnd (Xal p2 0 15) fun q4 =>
 some (!q4)) (
 some true)) (
 some true)) fun v1 =>
 sel v1 (
 some 0) (
 req ((6 : Int) ≠ 0) <|
 req (0 ≤ (Xaa .i64 (15 + (Xaa .i64 (p1.tdiv 6))))) <|
 bnd (Xkw p0) fun q5 =>
 bnd (Xku p1 p2) fun q6 =>
 req ((3 : Int) ≠ 0) <|
 req ((Xaa .i64 (1 * 2 ^ min (Xaa .i64 (15 + (Xaa .i64 (p1.tdiv 6)))).toNat (IntKind.bits .i64))) ≠ 0) <|
 bnd (Xmc (Xaa .i64 ((Xaa .i64 ((Xaa .i64 (q5 * q6)) + (Xaa .i64 ((Xaa .i64 (1 * 2 ^ min (Xaa .i64 (15 + (Xaa .i64 (p1.tdiv 6)))).toNat (IntKind.bits .i64))).tdiv 3)))).tdiv (Xaa .i64 (1 * 2 ^ min (Xaa .i64 (15 + (Xaa .i64 (p1.tdiv 6)))).toNat (IntKind.bits .i64))))) p0) fun q7 =>
 some q7)
def Xhj (p1 : Xdm) (q5 : (List Int)) (v8 : (Int × (List Int))) : Option (Lp (Int × (List Int)) (List Int)) :=
 sel (decide (v8.1 < (q5.length : Int))) (
 req (0 ≤ v8.1 ∧ v8.1 < v8.2.length) <|
 req (v8.1.toNat < v8.2.length) <|
 bnd (Xfx (v8.2.getD v8.1.toNat 0) p1.Qp) fun q12 =>
 req (0 ≤ v8.1 ∧ v8.1 < v8.2.length) <|
 req (v8.1.toNat < v8.2.length) <|
 some (.go (Xaa .i64 (v8.1 + 1), (v8.2.set v8.1.toNat q12)))) (
 some (.done v8.2))
def Xep (p0 : (List Int)) (q51 : (List Int)) (v53 : (Int × (List Int))) : Option (Lp (Int × (List Int)) (List Int)) :=
 sel (decide (v53.1 < (q51.length : Int))) (
 req (0 ≤ v53.1 ∧ v53.1 < q51.length) <|
 req (v53.1.toNat < q51.length) <|
 req (0 ≤ (q51.getD v53.1.toNat 0) ∧ (q51.getD v53.1.toNat 0) < p0.length) <|
 req ((v53.2.length + ([(p0.getD (q51.getD v53.1.toNat 0).toNat 0)]).length) * 8 ≤ 140737488355328 ∧ v53.2.length + ([(p0.getD (q51.getD v53.1.toNat 0).toNat 0)]).length ≤ maxLen) <|
 some (.go (Xaa .i64 (v53.1 + 1), (v53.2 ++ ([(p0.getD (q51.getD v53.1.toNat 0).toNat 0)]))))) (
 some (.done v53.2))
def Xgn (p1 : Xdm) (q57 : (List Int)) (v60 : (Int × (List Int))) : Option (Lp (Int × (List Int)) (List Int)) :=
 sel (decide (v60.1 < (q57.length : Int))) (
 req (0 ≤ v60.1 ∧ v60.1 < v60.2.length) <|
 req (v60.1.toNat < v60.2.length) <|
 bnd (Xf0 (v60.2.getD v60.1.toNat 0) p1.Qp v60.1) fun q64 =>
 req (0 ≤ v60.1 ∧ v60.1 < v60.2.length) <|
 req (v60.1.toNat < v60.2.length) <|
 some (.go (Xaa .i64 (v60.1 + 1), (v60.2.set v60.1.toNat q64)))) (
 some (.done v60.2))
def Xjm (p0 : (List Int)) (p1 : Xdm) (v32 : (Int × (List Int))) : Option (Lp (Int × (List Int)) (List Int)) :=
 sel (decide (v32.1 < 4)) (
 bnd (Xh2 v32.1) fun q51 =>
 bnd (loop (Xep p0 q51) (0, ([] : List Int))) fun v55 =>
 bnd (Xqd v55) fun q57 =>
 bnd (loop (Xgn p1 q57) (0, q57)) fun v63 =>
 bnd (Xfz 4 v63) fun q66 =>
 req ((v32.2.length + q66.1.length) * 8 ≤ 140737488355328 ∧ v32.2.length + q66.1.length ≤ maxLen) <|
 some (.go (Xaa .i64 (v32.1 + 1), (v32.2 ++ q66.1)))) (
 some (.done v32.2))
def Xe8 (p0 : (List Int)) (p1 : Xdm) : Option ((List Int) × Bool) :=
 bnd (
 bnd (Xbf p0 64 (-255) 255) fun q2 =>
 sel q2 (
 bnd (Xc3 p1) fun q3 =>
 some (!q3)) (
 some true)) fun v1 =>
 sel v1 (
 some (([] : List Int), false)) (
 sel p1.Exact (
 bnd (Xfz 8 p0) fun q4 =>
 some (q4.1, q4.2)) (
 sel p1.Large (
 bnd (Xns p0) fun q5 =>
 bnd (loop (Xhj p1 q5) (0, q5)) fun v11 =>
 bnd (Xfz 8 v11) fun q14 =>
 some (q14.1, q14.2)) (
 bnd (loop (Xjm p0 p1) (0, ([] : List Int))) fun v50 =>
 some (v50, true))))
def Xd7 (p0 : Pic) (p1 : Int) (p2 : Int) (v10 : (Int × (List Int))) (v23 : (Int × (List Int))) : Option (Lp (Int × (List Int)) (List Int)) :=
 sel (decide (v23.1 < 8)) (
 bnd (Xd8 p0 (Xaa .i64 (p1 + v23.1)) (Xaa .i64 (p2 + v10.1))) fun q27 =>
 req ((v23.2.length + ([q27]).length) * 8 ≤ 140737488355328 ∧ v23.2.length + ([q27]).length ≤ maxLen) <|
 some (.go (Xaa .i64 (v23.1 + 1), (v23.2 ++ ([q27]))))) (
 some (.done v23.2))
def Xd6 (p0 : Pic) (p1 : Int) (p2 : Int) (v10 : (Int × (List Int))) : Option (Lp (Int × (List Int)) (List Int)) :=
 sel (decide (v10.1 < 8)) (
 bnd (loop (Xd7 p0 p1 p2 v10) (0, v10.2)) fun v26 =>
 some (.go (Xaa .i64 (v10.1 + 1), v26))) (
 some (.done v10.2))
def Xbq (p0 : Pic) (p1 : Int) (p2 : Int) : Option (List Int) :=
 req (0 ≤ (0 : Int) ∧ (0 : Int) ≤ (64 : Int) ∧ (64 : Int) * 8 ≤ 281474976710656) <|
 bnd (loop (Xd6 p0 p1 p2) (0, (List.replicate (0 : Int).toNat (0 : Int)))) fun v20 =>
 some v20
def Xb7 (p0 : Pic) (p1 : Ydn) : Option Bool :=
 bnd (
 bnd (Xal p1.Wide 1 p0.Wide) fun q2 =>
 sel q2 (
 bnd (Xal p1.High 1 p0.High) fun q3 =>
 sel q3 (
 bnd (Xal p1.Left 0 (Xaa .i64 (p0.Wide - p1.Wide))) fun q4 =>
 sel q4 (
 bnd (Xal p1.Top 0 (Xaa .i64 (p0.High - p1.High))) fun q5 =>
 some q5) (
 some false)) (
 some false)) (
 some false)) fun v1 =>
 some v1
def Xjj (p0 : Int) : Option (Int × Bool) :=
 bnd (Xal p0 (-500000) 500000) fun q1 =>
 sel (!q1) (
 some (0, false)) (
 sel (decide (p0 > 0)) (
 some (Xaa .i64 ((Xaa .i64 (2 * p0)) - 1), true)) (
 some (Xaa .i64 ((-2) * p0), true)))
def Xjo (p0 : Int) : Option (ByteArray × Bool) :=
 bnd (Xjj p0) fun q1 =>
 sel (!q1.2) (
 some (⟨#[]⟩, false)) (
 bnd (Xlw q1.1) fun q2 =>
 some (q2.1, q2.2))
def Xjp (p0 : Int) : Option Int :=
 bnd (Xjo p0) fun q1 =>
 some (q1.1.size : Int)
def Xci (p0 : Pic) (p1 : (List Int)) (p2 : Int) (p3 : Int) (p4 : Int) (v33 : (Int × Int × Int × Int)) (v70 : (Int × Int × Int × Int)) : Option (Lp (Int × Int × Int × Int) (Int × Int × Int)) :=
 sel (decide (v70.2.2.2 ≤ p4)) (
 bnd (
 bnd (Xb7 p0 (⟨Xaa .i64 (p2 + v70.2.2.2), Xaa .i64 (p3 + v33.2.2.2), 8, 8⟩ : Ydn)) fun q81 =>
 sel (!q81) (
 some (v70.1, v70.2.1, v70.2.2.1)) (
 bnd (Xbq p0 (Xaa .i64 (p2 + v70.2.2.2)) (Xaa .i64 (p3 + v33.2.2.2))) fun q82 =>
 bnd (Xm2 p1 q82) fun q83 =>
 bnd (Xjp v70.2.2.2) fun q84 =>
 bnd (Xjp v33.2.2.2) fun q85 =>
 bnd (
 sel (decide (v70.2.2.1 < 0)) (
 some true) (
 some (decide ((Xaa .i64 ((Xaa .i64 (q83 + q84)) + q85)) < v70.2.2.1)))) fun v86 =>
 sel v86 (
 some (v70.2.2.2, v33.2.2.2, Xaa .i64 ((Xaa .i64 (q83 + q84)) + q85))) (
 some (v70.1, v70.2.1, v70.2.2.1)))) fun v80 =>
 some (.go (v80.1, v80.2.1, v80.2.2, Xaa .i64 (v70.2.2.2 + 1)))) (
 some (.done (v70.1, v70.2.1, v70.2.2.1)))
def Xen (p0 : Pic) (p1 : (List Int)) (p2 : Int) (p3 : Int) (p4 : Int) (v33 : (Int × Int × Int × Int)) : Option (Lp (Int × Int × Int × Int) (Int × Int × Int)) :=
 sel (decide (v33.2.2.2 ≤ p4)) (
 bnd (loop (Xci p0 p1 p2 p3 p4 v33) (v33.1, v33.2.1, v33.2.2.1, Xaa .i64 (0 - p4))) fun v79 =>
 some (.go (v79.1, v79.2.1, v79.2.2, Xaa .i64 (v33.2.2.2 + 1)))) (
 some (.done (v33.1, v33.2.1, v33.2.2.1)))
def Xdb (p0 : Pic) (p1 : (List Int)) (p2 : Int) (p3 : Int) (p4 : Int) : Option (Int × Int × Int) :=
 bnd (
 bnd (Xb3 p0) fun q2 =>
 sel q2 (
 bnd (Xbf p1 64 0 255) fun q3 =>
 sel q3 (
 bnd (Xal p4 0 4) fun q4 =>
 sel q4 (
 bnd (Xbr p0 p2 p3) fun q5 =>
 some (!q5)) (
 some true)) (
 some true)) (
 some true)) fun v1 =>
 sel v1 (
 some (0, 0, (-1))) (
 bnd (loop (Xen p0 p1 p2 p3 p4) (0, 0, (-1), Xaa .i64 (0 - p4))) fun v61 =>
 some (v61.1, v61.2.1, v61.2.2))
def Xef (p0 : (List Int)) : Option Bool :=
 bnd (Xbf p0 64 (-5000) 5000) fun q1 =>
 some q1
def Xe9 (p0 : Xam) : Option Bool :=
 sel (p0.Kind == 0) (
 bnd (
 sel (p0.Mode == 0) (
 sel (p0.Dx == 0) (
 sel (p0.Dy == 0) (
 some ((p0.Levels.length : Int) == 0)) (
 some false)) (
 some false)) (
 some false)) fun v1 =>
 some v1) (
 sel (p0.Kind == 1) (
 bnd (
 sel (p0.Mode == 0) (
 bnd (Xal p0.Dx (-16) 16) fun q3 =>
 sel q3 (
 bnd (Xal p0.Dy (-16) 16) fun q4 =>
 sel q4 (
 bnd (Xef p0.Levels) fun q5 =>
 some q5) (
 some false)) (
 some false)) (
 some false)) fun v2 =>
 some v2) (
 sel (p0.Kind == 2) (
 bnd (
 bnd (Xal p0.Mode 0 3) fun q7 =>
 sel q7 (
 sel (p0.Dx == 0) (
 sel (p0.Dy == 0) (
 bnd (Xef p0.Levels) fun q8 =>
 some q8) (
 some false)) (
 some false)) (
 some false)) fun v6 =>
 some v6) (
 some false)))
def Xdq (p0 : Xam) (p1 : Xdm) : Option Bool :=
 bnd (
 sel p1.Key (
 some (p0.Kind == 2)) (
 some true)) fun v1 =>
 some v1
def Xgo (p1 : (List Int)) (q2 : (List Int)) (v4 : (Int × (List Int))) : Option (Lp (Int × (List Int)) (List Int)) :=
 sel (decide (v4.1 < (q2.length : Int))) (
 req (0 ≤ v4.1 ∧ v4.1 < q2.length) <|
 req (v4.1.toNat < q2.length) <|
 req (0 ≤ v4.1 ∧ v4.1 < p1.length) <|
 req (0 ≤ (q2.getD v4.1.toNat 0) ∧ (q2.getD v4.1.toNat 0) < v4.2.length) <|
 req ((q2.getD v4.1.toNat 0).toNat < v4.2.length) <|
 some (.go (Xaa .i64 (v4.1 + 1), (v4.2.set ((q2.getD v4.1.toNat 0).toNat) (p1.getD v4.1.toNat 0))))) (
 some (.done v4.2))
def Xee (p0 : Int) (p1 : (List Int)) : Option ((List Int) × Bool) :=
 bnd (
 sel (p0 != 4) (
 sel (p0 != 8) (
 some true) (
 some ((p1.length : Int) != (Xaa .i64 (p0 * p0))))) (
 some ((p1.length : Int) != (Xaa .i64 (p0 * p0))))) fun v1 =>
 sel v1 (
 some (([] : List Int), false)) (
 req (0 ≤ (p1.length : Int) ∧ (p1.length : Int) ≤ (p1.length : Int) ∧ (p1.length : Int) * 8 ≤ 281474976710656) <|
 bnd (Xfn p0) fun q2 =>
 bnd (loop (Xgo p1 q2) (0, (List.replicate (p1.length : Int).toNat (0 : Int)))) fun v6 =>
 some (v6, true))
def Xg8 (p0 : Int) (p1 : Int) : Option Int :=
 bnd (Xal p0 (-5000) 5000) fun q1 =>
 sel (!q1) (
 some 0) (
 bnd (Xf1 p1) fun q2 =>
 some (Xaa .i64 (p0 * q2)))
def Xlx (p0 : Int) (p1 : Int) : Option Int :=
 req (p1 ≠ 0) <|
 bnd (
 req (p1 ≠ 0) <|
 sel (decide ((p0.tmod p1) < 0)) (
 some (Xaa .i64 ((Xaa .i64 (p0.tdiv p1)) - 1))) (
 some (Xaa .i64 (p0.tdiv p1)))) fun v1 =>
 some v1
def Xmb (p0 : (List Int)) (v3 : (Int × (List Int))) : Option (Lp (Int × (List Int)) (List Int)) :=
 sel (decide (v3.1 < (p0.length : Int))) (
 req (0 ≤ v3.1 ∧ v3.1 < v3.2.length) <|
 req (v3.1.toNat < v3.2.length) <|
 bnd (Xlx (Xaa .i64 ((v3.2.getD v3.1.toNat 0) + 32)) 64) fun q7 =>
 req (0 ≤ v3.1 ∧ v3.1 < v3.2.length) <|
 req (v3.1.toNat < v3.2.length) <|
 some (.go (Xaa .i64 (v3.1 + 1), (v3.2.set v3.1.toNat q7)))) (
 some (.done v3.2))
def Xh5 (p0 : (List Int)) : Option ((List Int) × (List Int)) :=
 bnd (loop (Xmb p0) (0, p0)) fun v6 =>
 some (v6, v6)
def Xg7 (p0 : (List Int)) : Option (List Int) :=
 bnd (Xbf p0 64 (-10000000) 10000000) fun q1 =>
 sel (!q1) (
 some ([] : List Int)) (
 bnd (Xn7 p0) fun q2 =>
 bnd (Xh5 q2) fun q3 =>
 some q3.2)
def Xkt (p0 : Int) (p1 : Int) : Option Int :=
 bnd (
 bnd (Xal p0 0 40) fun q2 =>
 sel q2 (
 bnd (Xal p1 0 15) fun q3 =>
 some (!q3)) (
 some true)) fun v1 =>
 sel v1 (
 some 0) (
 req ((6 : Int) ≠ 0) <|
 bnd (Xov p1) fun q4 =>
 req (0 ≤ (p0.tmod 6) ∧ (p0.tmod 6) < 6) <|
 req (0 ≤ q4 ∧ q4 < 3) <|
 req (((0 + (p0.tmod 6).toNat * 3) + q4.toNat * 1) < ([10, 16, 13, 11, 18, 14, 13, 20, 16, 14, 23, 18, 16, 25, 20, 18, 29, 23] : List Int).length) <|
 req ((6 : Int) ≠ 0) <|
 req (0 ≤ (Xaa .i64 (p0.tdiv 6))) <|
 some (Xaa .i64 ((([10, 16, 13, 11, 18, 14, 13, 20, 16, 14, 23, 18, 16, 25, 20, 18, 29, 23] : List Int).getD ((0 + (p0.tmod 6).toNat * 3) + q4.toNat * 1) 0) * 2 ^ min (Xaa .i64 (p0.tdiv 6)).toNat (IntKind.bits .i64))))
def Xg9 (p0 : Int) (p1 : Int) (p2 : Int) : Option Int :=
 bnd (Xal p0 (-5000) 5000) fun q1 =>
 sel (!q1) (
 some 0) (
 bnd (Xkt p1 p2) fun q2 =>
 some (Xaa .i64 (p0 * q2)))
def Xdo (p0 : Int) (p1 : Int) (p2 : Int) (p3 : Int) : Option (Int × Int × Int × Int) :=
 bnd (Xlx p1 2) fun q1 =>
 bnd (Xlx p3 2) fun q2 =>
 some (Xaa .i64 ((Xaa .i64 (p0 + p2)) + (Xaa .i64 (p1 + q2))), Xaa .i64 ((Xaa .i64 (p0 - p2)) + (Xaa .i64 (q1 - p3))), Xaa .i64 ((Xaa .i64 (p0 - p2)) - (Xaa .i64 (q1 - p3))), Xaa .i64 ((Xaa .i64 (p0 + p2)) - (Xaa .i64 (p1 + q2))))
def Xe3 (v4 : (Int × (List Int))) : Option (Lp (Int × (List Int)) (List Int)) :=
 sel (decide (v4.1 < 16)) (
 req (0 ≤ v4.1 ∧ v4.1 < v4.2.length) <|
 req (v4.1.toNat < v4.2.length) <|
 req (0 ≤ (Xaa .i64 (v4.1 + 1)) ∧ (Xaa .i64 (v4.1 + 1)) < v4.2.length) <|
 req ((Xaa .i64 (v4.1 + 1)).toNat < v4.2.length) <|
 req (0 ≤ (Xaa .i64 (v4.1 + 2)) ∧ (Xaa .i64 (v4.1 + 2)) < v4.2.length) <|
 req ((Xaa .i64 (v4.1 + 2)).toNat < v4.2.length) <|
 req (0 ≤ (Xaa .i64 (v4.1 + 3)) ∧ (Xaa .i64 (v4.1 + 3)) < v4.2.length) <|
 req ((Xaa .i64 (v4.1 + 3)).toNat < v4.2.length) <|
 bnd (Xdo (v4.2.getD v4.1.toNat 0) (v4.2.getD ((Xaa .i64 (v4.1 + 1)).toNat) 0) (v4.2.getD ((Xaa .i64 (v4.1 + 2)).toNat) 0) (v4.2.getD ((Xaa .i64 (v4.1 + 3)).toNat) 0)) fun q8 =>
 req (0 ≤ v4.1 ∧ v4.1 ≤ (Xaa .i64 (v4.1 + 4)) ∧ (Xaa .i64 (v4.1 + 4)) ≤ (v4.2.length : Int)) <|
 req ((v4.1.toNat + ((Xaa .i64 (v4.1 + 4)).toNat - v4.1.toNat) ≤ v4.2.length ∧ ([q8.1, q8.2.1, q8.2.2.1, q8.2.2.2]).length ≤ ((Xaa .i64 (v4.1 + 4)).toNat - v4.1.toNat))) <|
 some (.go (Xaa .i64 (v4.1 + 4), (over v4.2 v4.1.toNat ([q8.1, q8.2.1, q8.2.2.1, q8.2.2.2]))))) (
 some (.done v4.2))
def Xet (v17 : (Int × (List Int))) (q26 : (Int × Int × Int × Int)) (v28 : (Int × (List Int))) : Option (Lp (Int × (List Int)) (List Int)) :=
 sel (decide (v28.1 < 4)) (
 req (0 ≤ v28.1 ∧ v28.1 < ([q26.1, q26.2.1, q26.2.2.1, q26.2.2.2] : List Int).length) <|
 req (0 ≤ (Xaa .i64 (v17.1 + (Xaa .i64 (4 * v28.1)))) ∧ (Xaa .i64 (v17.1 + (Xaa .i64 (4 * v28.1)))) < v28.2.length) <|
 req ((Xaa .i64 (v17.1 + (Xaa .i64 (4 * v28.1)))).toNat < v28.2.length) <|
 some (.go (Xaa .i64 (v28.1 + 1), (v28.2.set ((Xaa .i64 (v17.1 + (Xaa .i64 (4 * v28.1)))).toNat) (([q26.1, q26.2.1, q26.2.2.1, q26.2.2.2] : List Int).getD v28.1.toNat 0))))) (
 some (.done v28.2))
def Xes (v17 : (Int × (List Int))) : Option (Lp (Int × (List Int)) (List Int)) :=
 sel (decide (v17.1 < 4)) (
 req (0 ≤ v17.1 ∧ v17.1 < v17.2.length) <|
 req (v17.1.toNat < v17.2.length) <|
 req (0 ≤ (Xaa .i64 (v17.1 + 4)) ∧ (Xaa .i64 (v17.1 + 4)) < v17.2.length) <|
 req ((Xaa .i64 (v17.1 + 4)).toNat < v17.2.length) <|
 req (0 ≤ (Xaa .i64 (v17.1 + 8)) ∧ (Xaa .i64 (v17.1 + 8)) < v17.2.length) <|
 req ((Xaa .i64 (v17.1 + 8)).toNat < v17.2.length) <|
 req (0 ≤ (Xaa .i64 (v17.1 + 12)) ∧ (Xaa .i64 (v17.1 + 12)) < v17.2.length) <|
 req ((Xaa .i64 (v17.1 + 12)).toNat < v17.2.length) <|
 bnd (Xdo (v17.2.getD v17.1.toNat 0) (v17.2.getD ((Xaa .i64 (v17.1 + 4)).toNat) 0) (v17.2.getD ((Xaa .i64 (v17.1 + 8)).toNat) 0) (v17.2.getD ((Xaa .i64 (v17.1 + 12)).toNat) 0)) fun q26 =>
 bnd (loop (Xet v17 q26) (0, v17.2)) fun v30 =>
 some (.go (Xaa .i64 (v17.1 + 1), v30))) (
 some (.done v17.2))
def Xcb (p0 : (List Int)) : Option (List Int) :=
 bnd (Xgp p0) fun q1 =>
 bnd (loop (Xe3) (0, q1)) fun v7 =>
 bnd (loop (Xes) (0, v7)) fun v25 =>
 some v25
def Xih (p0 : (List Int)) : Option (List Int) :=
 bnd (Xbf p0 16 (-10000000) 10000000) fun q1 =>
 sel (!q1) (
 some ([] : List Int)) (
 bnd (Xcb p0) fun q2 =>
 bnd (Xh5 q2) fun q3 =>
 some q3.2)
def Xd5 (p1 : Xdm) (q5 : ((List Int) × Bool)) (v8 : (Int × (List Int))) : Option (Lp (Int × (List Int)) (List Int)) :=
 sel (decide (v8.1 < (q5.1.length : Int))) (
 req (0 ≤ v8.1 ∧ v8.1 < v8.2.length) <|
 req (v8.1.toNat < v8.2.length) <|
 bnd (Xg8 (v8.2.getD v8.1.toNat 0) p1.Qp) fun q12 =>
 req (0 ≤ v8.1 ∧ v8.1 < v8.2.length) <|
 req (v8.1.toNat < v8.2.length) <|
 some (.go (Xaa .i64 (v8.1 + 1), (v8.2.set v8.1.toNat q12)))) (
 some (.done v8.2))
def Xdp (p1 : Xdm) (q51 : ((List Int) × Bool)) (v54 : (Int × (List Int))) : Option (Lp (Int × (List Int)) (List Int)) :=
 sel (decide (v54.1 < (q51.1.length : Int))) (
 req (0 ≤ v54.1 ∧ v54.1 < v54.2.length) <|
 req (v54.1.toNat < v54.2.length) <|
 bnd (Xg9 (v54.2.getD v54.1.toNat 0) p1.Qp v54.1) fun q58 =>
 req (0 ≤ v54.1 ∧ v54.1 < v54.2.length) <|
 req (v54.1.toNat < v54.2.length) <|
 some (.go (Xaa .i64 (v54.1 + 1), (v54.2.set v54.1.toNat q58)))) (
 some (.done v54.2))
def Xe7 (q60 : (List Int)) (q61 : (List Int)) (v63 : (Int × (List Int))) : Option (Lp (Int × (List Int)) (List Int)) :=
 sel (decide (v63.1 < (q61.length : Int))) (
 req (0 ≤ v63.1 ∧ v63.1 < q61.length) <|
 req (v63.1.toNat < q61.length) <|
 req (0 ≤ v63.1 ∧ v63.1 < q60.length) <|
 req (v63.1.toNat < q60.length) <|
 req (0 ≤ (q61.getD v63.1.toNat 0) ∧ (q61.getD v63.1.toNat 0) < v63.2.length) <|
 req ((q61.getD v63.1.toNat 0).toNat < v63.2.length) <|
 some (.go (Xaa .i64 (v63.1 + 1), (v63.2.set ((q61.getD v63.1.toNat 0).toNat) (q60.getD v63.1.toNat 0))))) (
 some (.done v63.2))
def Xhv (p0 : (List Int)) (p1 : Xdm) (v32 : (Int × (List Int))) : Option (Lp (Int × (List Int)) (List Int)) :=
 sel (decide (v32.1 < 4)) (
 req (0 ≤ (Xaa .i64 (16 * v32.1)) ∧ (Xaa .i64 (16 * v32.1)) ≤ (Xaa .i64 ((Xaa .i64 (16 * v32.1)) + 16)) ∧ (Xaa .i64 ((Xaa .i64 (16 * v32.1)) + 16)) ≤ (p0.length : Int)) <|
 bnd (Xee 4 ((p0.drop (Xaa .i64 (16 * v32.1)).toNat).take ((Xaa .i64 ((Xaa .i64 (16 * v32.1)) + 16)).toNat - (Xaa .i64 (16 * v32.1)).toNat))) fun q51 =>
 bnd (loop (Xdp p1 q51) (0, q51.1)) fun v57 =>
 bnd (Xih v57) fun q60 =>
 bnd (Xh2 v32.1) fun q61 =>
 bnd (loop (Xe7 q60 q61) (0, v32.2)) fun v65 =>
 some (.go (Xaa .i64 (v32.1 + 1), v65))) (
 some (.done v32.2))
def Xfy (p0 : (List Int)) (p1 : Xdm) : Option ((List Int) × Bool) :=
 bnd (
 bnd (Xef p0) fun q2 =>
 sel q2 (
 bnd (Xc3 p1) fun q3 =>
 some (!q3)) (
 some true)) fun v1 =>
 sel v1 (
 some (([] : List Int), false)) (
 sel p1.Exact (
 bnd (Xee 8 p0) fun q4 =>
 some (q4.1, q4.2)) (
 sel p1.Large (
 bnd (Xee 8 p0) fun q5 =>
 bnd (loop (Xd5 p1 q5) (0, q5.1)) fun v11 =>
 bnd (Xg7 v11) fun q14 =>
 some (q14, true)) (
 req (0 ≤ (64 : Int) ∧ (64 : Int) ≤ (64 : Int) ∧ (64 : Int) * 8 ≤ 281474976710656) <|
 bnd (loop (Xhv p0 p1) (0, (List.replicate (64 : Int).toNat (0 : Int)))) fun v50 =>
 some (v50, true))))
def Xkb (p0 : (List Int)) (p1 : (List Int)) (v6 : (Int × (List Int))) : Option (Lp (Int × (List Int)) (List Int)) :=
 sel (decide (v6.1 < (p0.length : Int))) (
 req (0 ≤ v6.1 ∧ v6.1 < p0.length) <|
 req (0 ≤ v6.1 ∧ v6.1 < p1.length) <|
 bnd (Xd4 (Xaa .i64 ((p0.getD v6.1.toNat 0) + (p1.getD v6.1.toNat 0))) 0 255) fun q10 =>
 req ((v6.2.length + ([q10]).length) * 8 ≤ 140737488355328 ∧ v6.2.length + ([q10]).length ≤ maxLen) <|
 some (.go (Xaa .i64 (v6.1 + 1), (v6.2 ++ ([q10]))))) (
 some (.done v6.2))
def Xjl (p0 : (List Int)) (p1 : (List Int)) : Option (List Int) :=
 bnd (
 bnd (Xbf p0 64 0 255) fun q2 =>
 sel q2 (
 bnd (Xbf p1 64 (-10000000) 10000000) fun q3 =>
 some (!q3)) (
 some true)) fun v1 =>
 sel v1 (
 some ([] : List Int)) (
 bnd (loop (Xkb p0 p1) (0, ([] : List Int))) fun v9 =>
 some v9)
def Xca (p0 : Pic) (p1 : Pic) (p2 : Int) (p3 : Int) (p4 : Xdm) (p5 : Int) (p6 : Int) (p7 : Xam) : Option ((List Int) × Bool) :=
 bnd (
 bnd (Xb3 p0) fun q2 =>
 sel q2 (
 bnd (Xbr p0 p5 p6) fun q3 =>
 sel q3 (
 bnd (Xal p2 0 256) fun q4 =>
 sel q4 (
 bnd (Xal p3 0 256) fun q5 =>
 sel q5 (
 bnd (Xe9 p7) fun q6 =>
 sel q6 (
 bnd (Xc3 p4) fun q7 =>
 sel q7 (
 bnd (Xdq p7 p4) fun q8 =>
 sel q8 (
 sel (p7.Kind != 2) (
 bnd (Xb3 p1) fun q9 =>
 some (!q9)) (
 some false)) (
 some true)) (
 some true)) (
 some true)) (
 some true)) (
 some true)) (
 some true)) (
 some true)) fun v1 =>
 sel v1 (
 some (([] : List Int), false)) (
 sel (p7.Kind == 0) (
 bnd (Xbq p1 (Xaa .i64 (p2 + p5)) (Xaa .i64 (p3 + p6))) fun q10 =>
 some (q10, true)) (
 bnd (Xfy p7.Levels p4) fun q11 =>
 sel (p7.Kind == 1) (
 bnd (Xbq p1 (Xaa .i64 ((Xaa .i64 (p2 + p5)) + p7.Dx)) (Xaa .i64 ((Xaa .i64 (p3 + p6)) + p7.Dy))) fun q12 =>
 bnd (Xjl q12 q11.1) fun q13 =>
 some (q13, true)) (
 bnd (Xhz p0 p5 p6) fun q14 =>
 bnd (Xe2 p7.Mode q14.1) fun q15 =>
 bnd (Xjl q15 q11.1) fun q16 =>
 some (q16, true))))
def Xed (p0 : Pic) (p1 : Pic) (p2 : (List Int)) (p3 : Int) (p4 : Int) (p5 : Xdm) (p6 : Int) : Option (Xam × (List Int) × Bool) :=
 bnd (
 bnd (Xb3 p0) fun q2 =>
 sel q2 (
 bnd (Xbr p0 p3 p4) fun q3 =>
 sel q3 (
 bnd (Xbf p2 64 0 255) fun q4 =>
 sel q4 (
 bnd (Xc3 p5) fun q5 =>
 sel q5 (
 bnd (Xal p6 0 4) fun q6 =>
 some (!q6)) (
 some true)) (
 some true)) (
 some true)) (
 some true)) fun v1 =>
 sel v1 (
 some ((⟨0, 0, 0, 0, []⟩ : Xam), ([] : List Int), false)) (
 bnd (
 sel p5.Key (
 some false) (
 bnd (Xb3 p1) fun q8 =>
 sel q8 (
 sel (p1.Wide != p0.Wide) (
 some true) (
 some (p1.High != p0.High))) (
 some true))) fun v7 =>
 sel v7 (
 some ((⟨0, 0, 0, 0, []⟩ : Xam), ([] : List Int), false)) (
 bnd (Xhz p0 p3 p4) fun q9 =>
 bnd (Xg6 p2 q9.1) fun q10 =>
 bnd (Xe2 q10.1 q9.1) fun q11 =>
 bnd (Xfb p2 q11) fun q12 =>
 bnd (Xe8 q12 p5) fun q13 =>
 bnd (
 sel (!p5.Key) (
 bnd (Xbq p1 p3 p4) fun q15 =>
 bnd (Xm2 p2 q15) fun q16 =>
 sel (q16 == 0) (
 some (0, 0, 0, 0, [])) (
 bnd (Xdb p1 p2 p3 p4 p6) fun q17 =>
 sel (decide (q17.2.2 ≤ q10.2)) (
 bnd (Xbq p1 (Xaa .i64 (p3 + q17.1)) (Xaa .i64 (p4 + q17.2.1))) fun q18 =>
 bnd (Xfb p2 q18) fun q19 =>
 bnd (Xe8 q19 p5) fun q20 =>
 bnd (
 sel (q17.1 == 0) (
 sel (q17.2.1 == 0) (
 bnd (Xbf q20.1 64 0 0) fun q22 =>
 some q22) (
 some false)) (
 some false)) fun v21 =>
 sel v21 (
 some (0, 0, 0, 0, [])) (
 some (1, 0, q17.1, q17.2.1, q20.1))) (
 some (2, q10.1, 0, 0, q13.1)))) (
 some (2, q10.1, 0, 0, q13.1))) fun v14 =>
 bnd (Xca p0 p1 0 0 p5 p3 p4 (⟨v14.1, v14.2.1, v14.2.2.1, v14.2.2.2.1, v14.2.2.2.2⟩ : Xam)) fun q23 =>
 sel (!q23.2) (
 some ((⟨0, 0, 0, 0, []⟩ : Xam), ([] : List Int), false)) (
 some ((⟨v14.1, v14.2.1, v14.2.2.1, v14.2.2.2.1, v14.2.2.2.2⟩ : Xam), q23.1, true))))
def Xf3 (p0 : Int) : Option Bool :=
 bnd (
 req ((8 : Int) ≠ 0) <|
 sel ((p0.tmod 8) == 0) (
 bnd (Xal p0 8 64) fun q2 =>
 some q2) (
 some false)) fun v1 =>
 some v1
def Xks (p0 : Int) (p1 : Int) (v5 : (Int × (List Int))) : Option (Lp (Int × (List Int)) (List Int)) :=
 sel (decide (v5.1 < ((List.replicate (Xaa .i64 (p0 * p1)).toNat (0 : Int)).length : Int))) (
 req (0 ≤ v5.1 ∧ v5.1 < v5.2.length) <|
 req (v5.1.toNat < v5.2.length) <|
 some (.go (Xaa .i64 (v5.1 + 1), (v5.2.set v5.1.toNat 128)))) (
 some (.done v5.2))
def Xnt (p0 : Int) (p1 : Int) : Option Pic :=
 bnd (
 bnd (Xal p0 1 256) fun q2 =>
 sel q2 (
 bnd (Xal p1 1 256) fun q3 =>
 some (!q3)) (
 some true)) fun v1 =>
 sel v1 (
 some (⟨0, 0, ⟨#[]⟩⟩ : Pic)) (
 req (0 ≤ (Xaa .i64 (p0 * p1)) ∧ (Xaa .i64 (p0 * p1)) ≤ (Xaa .i64 (p0 * p1)) ∧ (Xaa .i64 (p0 * p1)) * 1 ≤ 281474976710656) <|
 bnd (loop (Xks p0 p1) (0, (List.replicate (Xaa .i64 (p0 * p1)).toNat (0 : Int)))) fun v7 =>
 some (⟨p0, p1, (strOfNums v7)⟩ : Pic))
def Xub (p0 : Pic) : Option (List Int) :=
 req (p0.Dots.size ≤ maxLen) <|
 some (Xaz p0.Dots)
def Xo1 (p0 : Pic) (p1 : Int) (p2 : Int) (p3 : (List Int)) (v3 : (Int × (List Int))) : Option (Lp (Int × (List Int)) (List Int)) :=
 sel (decide (v3.1 < (p3.length : Int))) (
 req (0 ≤ v3.1 ∧ v3.1 < p3.length) <|
 req ((8 : Int) ≠ 0) <|
 req ((8 : Int) ≠ 0) <|
 req (0 ≤ (Xaa .i64 ((Xaa .i64 ((Xaa .i64 ((Xaa .i64 (p2 + (Xaa .i64 (v3.1.tdiv 8)))) * p0.Wide)) + p1)) + (v3.1.tmod 8))) ∧ (Xaa .i64 ((Xaa .i64 ((Xaa .i64 ((Xaa .i64 (p2 + (Xaa .i64 (v3.1.tdiv 8)))) * p0.Wide)) + p1)) + (v3.1.tmod 8))) < v3.2.length) <|
 req ((Xaa .i64 ((Xaa .i64 ((Xaa .i64 ((Xaa .i64 (p2 + (Xaa .i64 (v3.1.tdiv 8)))) * p0.Wide)) + p1)) + (v3.1.tmod 8))).toNat < v3.2.length) <|
 some (.go (Xaa .i64 (v3.1 + 1), (v3.2.set ((Xaa .i64 ((Xaa .i64 ((Xaa .i64 ((Xaa .i64 (p2 + (Xaa .i64 (v3.1.tdiv 8)))) * p0.Wide)) + p1)) + (v3.1.tmod 8))).toNat) (Xaa .u8 ((p3.getD v3.1.toNat 0))))))) (
 some (.done v3.2))
def Xq2 (p0 : Pic) (p1 : Int) (p2 : Int) (p3 : (List Int)) : Option Pic :=
 bnd (Xub p0) fun q1 =>
 bnd (loop (Xo1 p0 p1 p2 p3) (0, q1)) fun v5 =>
 some (⟨p0.Wide, p0.High, (strOfNums v5)⟩ : Pic)
def Xdz (p0 : Pic) (p1 : Pic) (p2 : Xdm) (p3 : Int) (v25 : (Int × (List Xam) × Int × Int × ByteArray)) (v46 : (Int × (List Xam) × Int × Int × ByteArray)) : Option (Lp (Int × (List Xam) × Int × Int × ByteArray) (Ou ((List Xam) × Int × Int × ByteArray) ((List Xam) × Pic × Bool))) :=
 sel (decide (v46.1 < p0.Wide)) (
 bnd (Xbq p0 v46.1 v25.1) fun q52 =>
 bnd (Xed (⟨v46.2.2.1, v46.2.2.2.1, v46.2.2.2.2⟩ : Pic) p1 q52 v46.1 v25.1 p2 p3) fun q53 =>
 sel (!q53.2.2) (
 some (.done (.ret (([] : List Xam), (⟨0, 0, ⟨#[]⟩⟩ : Pic), false)))) (
 req ((v46.2.1.length + ([q53.1]).length) * 56 ≤ 140737488355328 ∧ v46.2.1.length + ([q53.1]).length ≤ maxLen) <|
 bnd (Xq2 (⟨v46.2.2.1, v46.2.2.2.1, v46.2.2.2.2⟩ : Pic) v46.1 v25.1 q53.2.1) fun q54 =>
 some (.go (Xaa .i64 (v46.1 + 8), (v46.2.1 ++ ([q53.1])), q54.Wide, q54.High, q54.Dots)))) (
 some (.done (.out (v46.2.1, v46.2.2.1, v46.2.2.2.1, v46.2.2.2.2))))
def Xdy (p0 : Pic) (p1 : Pic) (p2 : Xdm) (p3 : Int) (v25 : (Int × (List Xam) × Int × Int × ByteArray)) : Option (Lp (Int × (List Xam) × Int × Int × ByteArray) (Ou ((List Xam) × Int × Int × ByteArray) ((List Xam) × Pic × Bool))) :=
 sel (decide (v25.1 < p0.High)) (
 bnd (loop (Xdz p0 p1 p2 p3 v25) (0, v25.2.1, v25.2.2.1, v25.2.2.2.1, v25.2.2.2.2)) fun o55 => match o55 with
| .out v51 => (
 some (.go (Xaa .i64 (v25.1 + 8), v51.1, v51.2.1, v51.2.2.1, v51.2.2.2)))
| .ret r => some (.done (.ret r))) (
 some (.done (.out (v25.2.1, v25.2.2.1, v25.2.2.2.1, v25.2.2.2.2))))
def Xkv (p0 : Pic) (p1 : Pic) (p2 : Xdm) (p3 : Int) : Option ((List Xam) × Pic × Bool) :=
 bnd (
 bnd (Xb3 p0) fun q2 =>
 sel q2 (
 bnd (Xf3 p0.Wide) fun q3 =>
 sel q3 (
 bnd (Xf3 p0.High) fun q4 =>
 sel q4 (
 bnd (Xc3 p2) fun q5 =>
 sel q5 (
 bnd (Xal p3 0 4) fun q6 =>
 some (!q6)) (
 some true)) (
 some true)) (
 some true)) (
 some true)) fun v1 =>
 sel v1 (
 some (([] : List Xam), (⟨0, 0, ⟨#[]⟩⟩ : Pic), false)) (
 bnd (
 sel p2.Key (
 some false) (
 bnd (Xb3 p1) fun q8 =>
 sel q8 (
 sel (p1.Wide != p0.Wide) (
 some true) (
 some (p1.High != p0.High))) (
 some true))) fun v7 =>
 sel v7 (
 some (([] : List Xam), (⟨0, 0, ⟨#[]⟩⟩ : Pic), false)) (
 bnd (Xnt p0.Wide p0.High) fun q9 =>
 bnd (loop (Xdy p0 p1 p2 p3) (0, ([] : List Xam), q9.Wide, q9.High, q9.Dots)) fun o56 => match o56 with
| .out v41 => (
 some (v41.1, (⟨v41.2.1, v41.2.2.1, v41.2.2.2⟩ : Pic), true))
| .ret r => some r))
def Xh3 (p0 : (List Int)) (v3 : (Int × Int)) : Option (Lp (Int × Int) Int) :=
 sel (decide (v3.2 < (p0.length : Int))) (
 bnd (
 req (0 ≤ v3.2 ∧ v3.2 < p0.length) <|
 sel ((p0.getD v3.2.toNat 0) != 0) (
 some (Xaa .i64 (v3.1 + 1))) (
 some v3.1)) fun v7 =>
 some (.go (v7, Xaa .i64 (v3.2 + 1)))) (
 some (.done v3.1))
def Xh4 (p0 : (List Int)) (v15 : (Int × Int × (List Int))) : Option (Lp (Int × Int × (List Int)) (List Int)) :=
 sel (decide (v15.2.1 < (p0.length : Int))) (
 bnd (
 req (0 ≤ v15.2.1 ∧ v15.2.1 < p0.length) <|
 sel ((p0.getD v15.2.1.toNat 0) == 0) (
 some (Xaa .i64 (v15.1 + 1), v15.2.2)) (
 bnd (Xjj (p0.getD v15.2.1.toNat 0)) fun q23 =>
 bnd (Xlh v15.1) fun q24 =>
 req ((v15.2.2.length + (Xaz q24).length) * 1 ≤ 140737488355328 ∧ v15.2.2.length + (Xaz q24).length ≤ maxLen) <|
 bnd (Xlh q23.1) fun q25 =>
 req (((v15.2.2 ++ (Xaz q24)).length + (Xaz q25).length) * 1 ≤ 140737488355328 ∧ (v15.2.2 ++ (Xaz q24)).length + (Xaz q25).length ≤ maxLen) <|
 some (0, ((v15.2.2 ++ (Xaz q24)) ++ (Xaz q25))))) fun v22 =>
 some (.go (v22.1, Xaa .i64 (v15.2.1 + 1), v22.2))) (
 some (.done v15.2.2))
def Xn2 (p0 : (List Int)) : Option (List Int) :=
 bnd (loop (Xh3 p0) (0, 0)) fun v6 =>
 bnd (Xlh v6) fun q9 =>
 req ((([] : List Int).length + (Xaz q9).length) * 1 ≤ 140737488355328 ∧ ([] : List Int).length + (Xaz q9).length ≤ maxLen) <|
 bnd (loop (Xh4 p0) (0, 0, (([] : List Int) ++ (Xaz q9)))) fun v21 =>
 some v21
def Xck (p0 : (List Int)) (v5 : (Int × (List Int))) : Option (Lp (Int × (List Int)) (List Int)) :=
 sel (decide (v5.1 < 4)) (
 req (0 ≤ (Xaa .i64 (16 * v5.1)) ∧ (Xaa .i64 (16 * v5.1)) ≤ (Xaa .i64 ((Xaa .i64 (16 * v5.1)) + 16)) ∧ (Xaa .i64 ((Xaa .i64 (16 * v5.1)) + 16)) ≤ (p0.length : Int)) <|
 bnd (Xn2 ((p0.drop (Xaa .i64 (16 * v5.1)).toNat).take ((Xaa .i64 ((Xaa .i64 (16 * v5.1)) + 16)).toNat - (Xaa .i64 (16 * v5.1)).toNat))) fun q9 =>
 req ((v5.2.length + q9.length) * 1 ≤ 140737488355328 ∧ v5.2.length + q9.length ≤ maxLen) <|
 some (.go (Xaa .i64 (v5.1 + 1), (v5.2 ++ q9)))) (
 some (.done v5.2))
def Xfm (p0 : (List Int)) (p1 : Xdm) : Option (List Int) :=
 bnd (
 sel p1.Large (
 some true) (
 some p1.Exact)) fun v1 =>
 sel v1 (
 bnd (Xn2 p0) fun q2 =>
 some q2) (
 bnd (loop (Xck p0) (0, ([] : List Int))) fun v8 =>
 some v8)
def Xha (p0 : Xam) (p1 : Xdm) : Option (ByteArray × Bool) :=
 bnd (
 bnd (Xe9 p0) fun q2 =>
 sel q2 (
 bnd (Xc3 p1) fun q3 =>
 sel q3 (
 bnd (Xdq p0 p1) fun q4 =>
 some (!q4)) (
 some true)) (
 some true)) fun v1 =>
 sel v1 (
 some (⟨#[]⟩, false)) (
 bnd (
 sel (!p1.Key) (
 bnd (Xlh p0.Kind) fun q6 =>
 req ((([] : List Int).length + (Xaz q6).length) * 1 ≤ 140737488355328 ∧ ([] : List Int).length + (Xaz q6).length ≤ maxLen) <|
 some (([] : List Int) ++ (Xaz q6))) (
 some ([] : List Int))) fun v5 =>
 bnd (
 sel (p0.Kind == 1) (
 bnd (Xjo p0.Dx) fun q8 =>
 bnd (Xjo p0.Dy) fun q9 =>
 req ((v5.length + (Xaz q8.1).length) * 1 ≤ 140737488355328 ∧ v5.length + (Xaz q8.1).length ≤ maxLen) <|
 req (((v5 ++ (Xaz q8.1)).length + (Xaz q9.1).length) * 1 ≤ 140737488355328 ∧ (v5 ++ (Xaz q8.1)).length + (Xaz q9.1).length ≤ maxLen) <|
 bnd (Xfm p0.Levels p1) fun q10 =>
 req ((((v5 ++ (Xaz q8.1)) ++ (Xaz q9.1)).length + q10.length) * 1 ≤ 140737488355328 ∧ ((v5 ++ (Xaz q8.1)) ++ (Xaz q9.1)).length + q10.length ≤ maxLen) <|
 some (((v5 ++ (Xaz q8.1)) ++ (Xaz q9.1)) ++ q10)) (
 sel (p0.Kind == 2) (
 bnd (Xlh p0.Mode) fun q11 =>
 req ((v5.length + (Xaz q11).length) * 1 ≤ 140737488355328 ∧ v5.length + (Xaz q11).length ≤ maxLen) <|
 bnd (Xfm p0.Levels p1) fun q12 =>
 req (((v5 ++ (Xaz q11)).length + q12.length) * 1 ≤ 140737488355328 ∧ (v5 ++ (Xaz q11)).length + q12.length ≤ maxLen) <|
 some ((v5 ++ (Xaz q11)) ++ q12)) (
 some v5))) fun v7 =>
 some ((strOfNums v7), true))
def Xeq (p0 : (List Xam)) (p1 : Xdm) (v4 : (Int × (List Int))) : Option (Lp (Int × (List Int)) (Ou (List Int) (ByteArray × Bool))) :=
 sel (decide (v4.1 < (p0.length : Int))) (
 req (0 ≤ v4.1 ∧ v4.1 < p0.length) <|
 bnd (Xha (⟨(p0.getD v4.1.toNat Xji).Kind, (p0.getD v4.1.toNat Xji).Mode, (p0.getD v4.1.toNat Xji).Dx, (p0.getD v4.1.toNat Xji).Dy, (p0.getD v4.1.toNat Xji).Levels⟩ : Xam) p1) fun q8 =>
 sel (!q8.2) (
 some (.done (.ret (⟨#[]⟩, false)))) (
 req ((v4.2.length + (Xaz q8.1).length) * 1 ≤ 140737488355328 ∧ v4.2.length + (Xaz q8.1).length ≤ maxLen) <|
 some (.go (Xaa .i64 (v4.1 + 1), (v4.2 ++ (Xaz q8.1)))))) (
 some (.done (.out v4.2)))
def Xh1 (p0 : (List Xam)) (p1 : Xdm) : Option (ByteArray × Bool) :=
 bnd (Xal (p0.length : Int) 1 64) fun q1 =>
 sel (!q1) (
 some (⟨#[]⟩, false)) (
 bnd (loop (Xeq p0 p1) (0, ([] : List Int))) fun o9 => match o9 with
| .out v7 => (
 some ((strOfNums v7), true))
| .ret r => some r)
def Xik (p0 : ByteArray) (v3 : Int) : Option (Lp Int (Ou Unit Bool)) :=
 sel (decide (v3 < (p0.size : Int))) (
 bnd (
 req (0 ≤ v3 ∧ v3 < p0.size) <|
 sel ((Xp5 p0 v3) != 48) (
 req (0 ≤ v3 ∧ v3 < p0.size) <|
 some ((Xp5 p0 v3) != 49)) (
 some false)) fun v7 =>
 sel v7 (
 some (.done (.ret false))) (
 some (.go (Xaa .i64 (v3 + 1))))) (
 some (.done (.out ())))
def Xnw (p0 : ByteArray) : Option Bool :=
 sel (decide ((p0.size : Int) > 400000)) (
 some false) (
 bnd (loop (Xik p0) 0) fun o8 => match o8 with
| .out v6 => (
 some true)
| .ret r => some r)
def Xo0 (p0 : ByteArray) (p1 : Int) : Option Xms :=
 bnd (
 bnd (Xnw p0) fun q2 =>
 sel q2 (
 bnd (Xal p1 0 (p0.size : Int)) fun q3 =>
 some (!q3)) (
 some true)) fun v1 =>
 some (⟨p0, p1, v1⟩ : Xms)
def Xfj (p0 : Xms) (p1 : Int) (v3 : (Int × Int)) : Option (Lp (Int × Int) Int) :=
 sel (decide (v3.2 < p1)) (
 req (0 ≤ (1 : Int)) <|
 req (0 ≤ (Xaa .i64 (p0.at_ + v3.2)) ∧ (Xaa .i64 (p0.at_ + v3.2)) < p0.row_.size) <|
 some (.go ((IntKind.wrap .i64 (BitVec.ofInt (IntKind.bits .i64) (Xaa .i64 (v3.1 * 2 ^ min (1 : Int).toNat (IntKind.bits .i64))) ||| BitVec.ofInt (IntKind.bits .i64) (Xaa .i64 (Xaa .u8 ((Xp5 p0.row_ (Xaa .i64 (p0.at_ + v3.2))) - 48)))).toNat), Xaa .i64 (v3.2 + 1)))) (
 some (.done v3.1))
def Xiq (p0 : Xms) (p1 : Int) : Option (Int × Xms) :=
 bnd (
 sel p0.bad_ (
 some true) (
 some (decide ((Xaa .i64 ((p0.row_.size : Int) - p0.at_)) < p1)))) fun v1 =>
 sel v1 (
 some (0, (⟨p0.row_, p0.at_, true⟩ : Xms))) (
 bnd (loop (Xfj p0 p1) (0, 0)) fun v5 =>
 some (v5, (⟨p0.row_, Xaa .i64 (p0.at_ + p1), p0.bad_⟩ : Xms)))
def Xf5 (p0 : Xms) (v3 : Int) : Option (Lp Int Int) :=
 bnd (
 sel p0.bad_ (
 some false) (
 sel (decide ((Xaa .i64 (p0.at_ + v3)) < (p0.row_.size : Int))) (
 req (0 ≤ (Xaa .i64 (p0.at_ + v3)) ∧ (Xaa .i64 (p0.at_ + v3)) < p0.row_.size) <|
 some ((Xp5 p0.row_ (Xaa .i64 (p0.at_ + v3))) == 48)) (
 some false))) fun v7 =>
 sel v7 (
 some (.go (Xaa .i64 (v3 + 1)))) (
 some (.done v3))
def Xcz (p0 : Xms) : Option (Int × Xms) :=
 bnd (loop (Xf5 p0) 0) fun v6 =>
 bnd (
 sel (decide (v6 > 20)) (
 some true) (
 some p0.bad_)) fun v9 =>
 bnd (Xiq (⟨p0.row_, p0.at_, v9⟩ : Xms) (Xaa .i64 ((Xaa .i64 (2 * v6)) + 1))) fun q10 =>
 bnd (
 sel q10.2.bad_ (
 some true) (
 some (decide ((Xaa .i64 (q10.1 - 1)) > 1000000)))) fun v11 =>
 sel v11 (
 some (0, (⟨q10.2.row_, q10.2.at_, true⟩ : Xms))) (
 some (Xaa .i64 (q10.1 - 1), q10.2))
def Xl5 (p0 : Int) : Option (Int × Bool) :=
 bnd (Xal p0 0 1000000) fun q1 =>
 sel (!q1) (
 some (0, false)) (
 req ((2 : Int) ≠ 0) <|
 sel ((p0.tmod 2) == 1) (
 req ((2 : Int) ≠ 0) <|
 some (Xaa .i64 ((Xaa .i64 (p0 + 1)).tdiv 2), true)) (
 req ((2 : Int) ≠ 0) <|
 some (Xaa .i64 ((Xaa .i64 (0 - p0)).tdiv 2), true)))
def Xd9 (p0 : Xms) : Option (Int × Xms) :=
 bnd (Xcz p0) fun q1 =>
 bnd (Xl5 q1.1) fun q2 =>
 bnd (
 sel q1.2.bad_ (
 some true) (
 some (!q2.2))) fun v3 =>
 some (q2.1, (⟨q1.2.row_, q1.2.at_, v3⟩ : Xms))
def Xer (p1 : Int) (v8 : (Int × Int × ByteArray × Int × Bool × (List Int))) : Option (Lp (Int × Int × ByteArray × Int × Bool × (List Int)) ((List Int) × ByteArray × Int × Bool)) :=
 bnd (
 sel (decide (v8.2.1 > 0)) (
 some (!v8.2.2.2.2.1)) (
 some false)) fun v16 =>
 sel v16 (
 bnd (Xcz (⟨v8.2.2.1, v8.2.2.2.1, v8.2.2.2.2.1⟩ : Xms)) fun q17 =>
 bnd (Xd9 q17.2) fun q18 =>
 bnd (
 sel (decide ((Xaa .i64 (v8.1 + q17.1)) ≥ p1)) (
 some true) (
 sel (q18.1 == 0) (
 some true) (
 bnd (Xal q18.1 (-5000) 5000) fun q20 =>
 some (!q20)))) fun v19 =>
 sel v19 (
 some (.done (v8.2.2.2.2.2, q18.2.row_, q18.2.at_, true))) (
 req (0 ≤ (Xaa .i64 (v8.1 + q17.1)) ∧ (Xaa .i64 (v8.1 + q17.1)) < v8.2.2.2.2.2.length) <|
 req ((Xaa .i64 (v8.1 + q17.1)).toNat < v8.2.2.2.2.2.length) <|
 some (.go (Xaa .i64 ((Xaa .i64 (v8.1 + q17.1)) + 1), Xaa .i64 (v8.2.1 - 1), q18.2.row_, q18.2.at_, q18.2.bad_, (v8.2.2.2.2.2.set ((Xaa .i64 (v8.1 + q17.1)).toNat) q18.1))))) (
 some (.done (v8.2.2.2.2.2, v8.2.2.1, v8.2.2.2.1, v8.2.2.2.2.1)))
def Xfo (p0 : Xms) (p1 : Int) : Option ((List Int) × Xms) :=
 req (0 ≤ p1 ∧ p1 ≤ p1 ∧ p1 * 8 ≤ 281474976710656) <|
 bnd (Xcz p0) fun q1 =>
 bnd (loop (Xer p1) (0, q1.1, q1.2.row_, q1.2.at_, q1.2.bad_, (List.replicate p1.toNat (0 : Int)))) fun v15 =>
 some (v15.1, (⟨v15.2.1, v15.2.2.1, v15.2.2.2⟩ : Xms))
def Xb1 (v5 : (Int × ByteArray × Int × Bool × (List Int))) : Option (Lp (Int × ByteArray × Int × Bool × (List Int)) ((List Int) × ByteArray × Int × Bool)) :=
 sel (decide (v5.1 < 4)) (
 bnd (Xfo (⟨v5.2.1, v5.2.2.1, v5.2.2.2.1⟩ : Xms) 16) fun q9 =>
 req ((v5.2.2.2.2.length + q9.1.length) * 8 ≤ 140737488355328 ∧ v5.2.2.2.2.length + q9.1.length ≤ maxLen) <|
 some (.go (Xaa .i64 (v5.1 + 1), q9.2.row_, q9.2.at_, q9.2.bad_, (v5.2.2.2.2 ++ q9.1)))) (
 some (.done (v5.2.2.2.2, v5.2.1, v5.2.2.1, v5.2.2.2.1)))
def Xce (p0 : Xms) (p1 : Xdm) : Option ((List Int) × Xms) :=
 bnd (
 sel p1.Large (
 some true) (
 some p1.Exact)) fun v1 =>
 sel v1 (
 bnd (Xfo p0 64) fun q2 =>
 some (q2.1, q2.2)) (
 bnd (loop (Xb1) (0, p0.row_, p0.at_, p0.bad_, ([] : List Int))) fun v8 =>
 some (v8.1, (⟨v8.2.1, v8.2.2.1, v8.2.2.2⟩ : Xms)))
def Xfk (p0 : Xms) (p1 : Xdm) : Option (Xam × Xms) :=
 bnd (
 sel (!p1.Key) (
 bnd (Xcz p0) fun q2 =>
 some (q2.2.row_, q2.2.at_, q2.2.bad_, q2.1)) (
 some (p0.row_, p0.at_, p0.bad_, 2))) fun v1 =>
 bnd (
 sel v1.2.2.1 (
 some (v1.1, v1.2.1, v1.2.2.1, 0, 0, 0, [])) (
 sel (v1.2.2.2 == 1) (
 bnd (Xd9 (⟨v1.1, v1.2.1, v1.2.2.1⟩ : Xms)) fun q4 =>
 bnd (Xd9 q4.2) fun q5 =>
 bnd (Xce q5.2 p1) fun q6 =>
 some (q6.2.row_, q6.2.at_, q6.2.bad_, 0, q4.1, q5.1, q6.1)) (
 sel (v1.2.2.2 == 2) (
 bnd (Xcz (⟨v1.1, v1.2.1, v1.2.2.1⟩ : Xms)) fun q7 =>
 bnd (Xce q7.2 p1) fun q8 =>
 some (q8.2.row_, q8.2.at_, q8.2.bad_, q7.1, 0, 0, q8.1)) (
 some (v1.1, v1.2.1, v1.2.2.1, 0, 0, 0, []))))) fun v3 =>
 bnd (
 sel v3.2.2.1 (
 some true) (
 bnd (Xe9 (⟨v1.2.2.2, v3.2.2.2.1, v3.2.2.2.2.1, v3.2.2.2.2.2.1, v3.2.2.2.2.2.2⟩ : Xam)) fun q10 =>
 some (!q10))) fun v9 =>
 some ((⟨v1.2.2.2, v3.2.2.2.1, v3.2.2.2.2.1, v3.2.2.2.2.2.1, v3.2.2.2.2.2.2⟩ : Xam), (⟨v3.1, v3.2.1, v9⟩ : Xms))
def Xfi (p2 : Int) (p3 : Xdm) (v7 : (Int × ByteArray × Int × Bool × (List Xam))) : Option (Lp (Int × ByteArray × Int × Bool × (List Xam)) (Ou (ByteArray × Int × Bool × (List Xam)) ((List Xam) × Bool))) :=
 sel (decide (v7.1 < p2)) (
 bnd (Xfk (⟨v7.2.1, v7.2.2.1, v7.2.2.2.1⟩ : Xms) p3) fun q11 =>
 req ((v7.2.2.2.2.length + ([q11.1]).length) * 56 ≤ 140737488355328 ∧ v7.2.2.2.2.length + ([q11.1]).length ≤ maxLen) <|
 sel q11.2.bad_ (
 some (.done (.ret (([] : List Xam), false)))) (
 some (.go (Xaa .i64 (v7.1 + 1), q11.2.row_, q11.2.at_, q11.2.bad_, (v7.2.2.2.2 ++ ([q11.1])))))) (
 some (.done (.out (v7.2.1, v7.2.2.1, v7.2.2.2.1, v7.2.2.2.2))))
def Xij (p0 : ByteArray) (p1 : Int) (p2 : Int) (p3 : Xdm) : Option ((List Xam) × Bool) :=
 bnd (Xo0 p0 p1) fun q1 =>
 bnd (
 bnd (Xal p2 1 64) fun q3 =>
 sel q3 (
 bnd (Xc3 p3) fun q4 =>
 some (!q4)) (
 some true)) fun v2 =>
 sel v2 (
 some (([] : List Xam), false)) (
 bnd (loop (Xfi p2 p3) (0, q1.row_, q1.at_, q1.bad_, ([] : List Xam))) fun o12 => match o12 with
| .out v10 => (
 sel (v10.2.1 != (p0.size : Int)) (
 some (([] : List Xam), false)) (
 some (v10.2.2.2, true)))
| .ret r => some r)
def Xou (p0 : Pic) (p1 : Ydn) (v5 : (Int × (List Int))) : Option (Lp (Int × (List Int)) (List Int)) :=
 sel (decide (v5.1 < (Xaa .i64 (p1.Top + p1.High)))) (
 req (0 ≤ (Xaa .i64 ((Xaa .i64 (v5.1 * p0.Wide)) + p1.Left)) ∧ (Xaa .i64 ((Xaa .i64 (v5.1 * p0.Wide)) + p1.Left)) ≤ (Xaa .i64 ((Xaa .i64 ((Xaa .i64 (v5.1 * p0.Wide)) + p1.Left)) + p1.Wide)) ∧ (Xaa .i64 ((Xaa .i64 ((Xaa .i64 (v5.1 * p0.Wide)) + p1.Left)) + p1.Wide)) ≤ (p0.Dots.size : Int)) <|
 req ((v5.2.length + (Xaz (p0.Dots.extract (Xaa .i64 ((Xaa .i64 (v5.1 * p0.Wide)) + p1.Left)).toNat (Xaa .i64 ((Xaa .i64 ((Xaa .i64 (v5.1 * p0.Wide)) + p1.Left)) + p1.Wide)).toNat)).length) * 1 ≤ 140737488355328 ∧ v5.2.length + (Xaz (p0.Dots.extract (Xaa .i64 ((Xaa .i64 (v5.1 * p0.Wide)) + p1.Left)).toNat (Xaa .i64 ((Xaa .i64 ((Xaa .i64 (v5.1 * p0.Wide)) + p1.Left)) + p1.Wide)).toNat)).length ≤ maxLen) <|
 some (.go (Xaa .i64 (v5.1 + 1), (v5.2 ++ (Xaz (p0.Dots.extract (Xaa .i64 ((Xaa .i64 (v5.1 * p0.Wide)) + p1.Left)).toNat (Xaa .i64 ((Xaa .i64 ((Xaa .i64 (v5.1 * p0.Wide)) + p1.Left)) + p1.Wide)).toNat)))))) (
 some (.done v5.2))
def Xlv (p0 : Pic) (p1 : Ydn) : Option (Pic × Bool) :=
 bnd (
 bnd (Xb3 p0) fun q2 =>
 sel q2 (
 bnd (Xb7 p0 p1) fun q3 =>
 some (!q3)) (
 some true)) fun v1 =>
 sel v1 (
 some ((⟨0, 0, ⟨#[]⟩⟩ : Pic), false)) (
 req (0 ≤ (0 : Int) ∧ (0 : Int) ≤ (Xaa .i64 (p1.Wide * p1.High)) ∧ (Xaa .i64 (p1.Wide * p1.High)) * 1 ≤ 281474976710656) <|
 bnd (loop (Xou p0 p1) (p1.Top, (List.replicate (0 : Int).toNat (0 : Int)))) fun v7 =>
 some ((⟨p1.Wide, p1.High, (strOfNums v7)⟩ : Pic), true))
def Xc4 (p1 : Ydn) (p2 : Xdm) (p4 : (List Xam)) (v10 : (Int × Int × Int × Int × ByteArray)) (v16 : (Int × Int × Int × ByteArray)) : Option (Lp (Int × Int × Int × ByteArray) (Ou (Int × Int × ByteArray) (Pic × Bool))) :=
 sel (decide (v16.1 < (p4.length : Int))) (
 req (0 ≤ v16.1 ∧ v16.1 < p4.length) <|
 req ((8 : Int) ≠ 0) <|
 req ((Xaa .i64 (p1.Wide.tdiv 8)) ≠ 0) <|
 req ((8 : Int) ≠ 0) <|
 req ((Xaa .i64 (p1.Wide.tdiv 8)) ≠ 0) <|
 bnd (Xca (⟨v16.2.1, v16.2.2.1, v16.2.2.2⟩ : Pic) (⟨v10.2.2.1, v10.2.2.2.1, v10.2.2.2.2⟩ : Pic) v10.1 v10.2.1 p2 (Xaa .i64 ((v16.1.tmod (Xaa .i64 (p1.Wide.tdiv 8))) * 8)) (Xaa .i64 ((Xaa .i64 (v16.1.tdiv (Xaa .i64 (p1.Wide.tdiv 8)))) * 8)) (⟨(p4.getD v16.1.toNat Xji).Kind, (p4.getD v16.1.toNat Xji).Mode, (p4.getD v16.1.toNat Xji).Dx, (p4.getD v16.1.toNat Xji).Dy, (p4.getD v16.1.toNat Xji).Levels⟩ : Xam)) fun q21 =>
 sel (!q21.2) (
 some (.done (.ret ((⟨0, 0, ⟨#[]⟩⟩ : Pic), false)))) (
 bnd (Xq2 (⟨v16.2.1, v16.2.2.1, v16.2.2.2⟩ : Pic) (Xaa .i64 ((v16.1.tmod (Xaa .i64 (p1.Wide.tdiv 8))) * 8)) (Xaa .i64 ((Xaa .i64 (v16.1.tdiv (Xaa .i64 (p1.Wide.tdiv 8)))) * 8)) q21.1) fun q22 =>
 some (.go (Xaa .i64 (v16.1 + 1), q22.Wide, q22.High, q22.Dots)))) (
 some (.done (.out (v16.2.1, v16.2.2.1, v16.2.2.2))))
def Xim (p0 : Pic) (p1 : Ydn) (p2 : Xdm) (p3 : Bool) (p4 : (List Xam)) : Option (Pic × Bool) :=
 bnd (
 bnd (Xf3 p1.Wide) fun q2 =>
 sel q2 (
 bnd (Xf3 p1.High) fun q3 =>
 sel q3 (
 bnd (Xal p1.Left 0 256) fun q4 =>
 sel q4 (
 bnd (Xal p1.Top 0 256) fun q5 =>
 sel q5 (
 bnd (Xc3 p2) fun q6 =>
 sel q6 (
 req ((8 : Int) ≠ 0) <|
 req ((8 : Int) ≠ 0) <|
 some ((p4.length : Int) != (Xaa .i64 ((Xaa .i64 (p1.Wide.tdiv 8)) * (Xaa .i64 (p1.High.tdiv 8)))))) (
 some true)) (
 some true)) (
 some true)) (
 some true)) (
 some true)) fun v1 =>
 sel v1 (
 some ((⟨0, 0, ⟨#[]⟩⟩ : Pic), false)) (
 bnd (
 sel p2.Key (
 some false) (
 bnd (Xb3 p0) fun q8 =>
 sel q8 (
 bnd (Xb7 p0 p1) fun q9 =>
 some (!q9)) (
 some true))) fun v7 =>
 sel v7 (
 some ((⟨0, 0, ⟨#[]⟩⟩ : Pic), false)) (
 bnd (
 sel p3 (
 sel (!p2.Key) (
 bnd (Xlv p0 p1) fun q11 =>
 some (0, 0, q11.1.Wide, q11.1.High, q11.1.Dots)) (
 some (0, 0, p0.Wide, p0.High, p0.Dots))) (
 some (p1.Left, p1.Top, p0.Wide, p0.High, p0.Dots))) fun v10 =>
 bnd (Xnt p1.Wide p1.High) fun q12 =>
 bnd (loop (Xc4 p1 p2 p4 v10) (0, q12.Wide, q12.High, q12.Dots)) fun o23 => match o23 with
| .out v20 => (
 some ((⟨v20.1, v20.2.1, v20.2.2⟩ : Pic), true))
| .ret r => some r))
def Xeu (q2 : (Pic × Pic)) (q3 : Xdm) (q5 : ((List Xam) × Pic × Bool)) (v14 : Int) : Option (Lp Int (Ou Unit Bool)) :=
 bnd (
 sel (decide (v14 < (q2.1.Dots.size : Int))) (
 some q3.Large) (
 some false)) fun v20 =>
 sel v20 (
 req (0 ≤ v14 ∧ v14 < q5.2.1.Dots.size) <|
 req (0 ≤ v14 ∧ v14 < q2.1.Dots.size) <|
 bnd (
 sel (decide ((Xaa .i64 ((Xaa .i64 ((Xp5 q5.2.1.Dots v14))) - (Xaa .i64 ((Xp5 q2.1.Dots v14))))) < 0)) (
 some (Xaa .i64 (0 - (Xaa .i64 ((Xaa .i64 ((Xp5 q5.2.1.Dots v14))) - (Xaa .i64 ((Xp5 q2.1.Dots v14)))))))) (
 some (Xaa .i64 ((Xaa .i64 ((Xp5 q5.2.1.Dots v14))) - (Xaa .i64 ((Xp5 q2.1.Dots v14))))))) fun v21 =>
 bnd (Xf1 q3.Qp) fun q22 =>
 sel (decide ((Xaa .i64 (2 * v21)) > q22)) (
 some (.done (.ret false))) (
 some (.go (Xaa .i64 (v14 + 1))))) (
 some (.done (.out ())))
def Xm3 (p0 : (List Int)) : Option Bool :=
 bnd (Xyl p0) fun q1 =>
 sel q1 (
 some true) (
 bnd (Xiz p0) fun q2 =>
 bnd (Xiy p0) fun q3 =>
 bnd (Xge p0) fun q4 =>
 req (0 ≤ (0 : Int) ∧ (0 : Int) < q4.length) <|
 req ((0 : Int).toNat < q4.length) <|
 req ((3 : Int) ≠ 0) <|
 bnd (Xkv q2.1 q2.2 q3 ((q4.getD ((0 : Int).toNat) 0).tmod 3)) fun q5 =>
 bnd (Xh1 q5.1 q3) fun q6 =>
 req ((8 : Int) ≠ 0) <|
 req ((8 : Int) ≠ 0) <|
 bnd (Xij q6.1 0 (Xaa .i64 ((Xaa .i64 (q2.1.Wide.tdiv 8)) * (Xaa .i64 (q2.1.High.tdiv 8)))) q3) fun q7 =>
 bnd (Xim q2.2 (⟨0, 0, q2.1.Wide, q2.1.High⟩ : Ydn) q3 true q7.1) fun q8 =>
 bnd (
 sel q5.2.2 (
 sel q6.2 (
 sel q7.2 (
 sel q8.2 (
 sel (((q8.1.Wide == q5.2.1.Wide) && ((q8.1.High == q5.2.1.High) && (q8.1.Dots.toList == q5.2.1.Dots.toList))) == false) (
 some true) (
 sel (q5.2.1.Wide != q2.1.Wide) (
 some true) (
 sel (q5.2.1.High != q2.1.High) (
 some true) (
 some ((q5.2.1.Dots.size : Int) != (q2.1.Dots.size : Int)))))) (
 some true)) (
 some true)) (
 some true)) (
 some true)) fun v9 =>
 sel v9 (
 some false) (
 sel q3.Exact (
 some (((q5.2.1.Wide == q2.1.Wide) && ((q5.2.1.High == q2.1.High) && (q5.2.1.Dots.toList == q2.1.Dots.toList))) == true)) (
 bnd (loop (Xeu q2 q3 q5) 0) fun o23 => match o23 with
| .out v19 => (
 some true)
| .ret r => some r)))
end
end Go.Proofs.Ytlebkepfhdjnmac.A
