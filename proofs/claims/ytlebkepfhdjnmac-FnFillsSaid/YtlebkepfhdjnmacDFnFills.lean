/- What the functions that the law FnFills reaches compute, over numbers, texts and lists. Written by a program of this session. Conditions: none. -/
import Derived.Test.YtlebkepfhdjnmacAL2
namespace Go.Proofs.Ytlebkepfhdjnmac.A
open Go Go.Proofs Go.Proofs.YtlebkepfhdjnmacAL Go.RowKit
set_option linter.unusedVariables false
set_option linter.unusedSimpArgs false
structure Pic where
 Wide : Int
 High : Int
 Dots : ByteArray
structure Xd1 where
 Key : Bool
 Qp : Int
 Large : Bool
 Exact : Bool
structure Xap where
 Kind : Int
 Mode : Int
 Dx : Int
 Dy : Int
 Levels : (List Int)
structure Xov where
 Left : Int
 Top : Int
 Wide : Int
 High : Int
structure Seq where
 Level : Int
 Bits : Int
 Cols : (List Int)
 Rows : (List Int)
structure Par where
 Qp : Int
 Large : Bool
 Exact : Bool
 Confined : Bool
structure Yk8 where
 Tile : Int
 Frame : Int
 Qp : Int
structure Ydz where
 Key : Bool
 Qp : Int
 Row : ByteArray
structure Xhn where
 Above : (List Int)
 Left : (List Int)
 Corner : Int
structure Xkb where
 row_ : ByteArray
 at_ : Int
 bad_ : Bool
structure Xaq where
 b_ : (List Int)
 i_ : Int
 h_ : Int
def Xu6 : (List Int) := []
def Xdd : Xap := ⟨0, 0, 0, 0, []⟩
noncomputable section
def Xu9 (p0 : (List Int)) : Option Bool :=
 some (decide ((p0.length : Int) > 1048576))
def Xih (p0 : (List Int)) (v3 : (Int × Int)) : Option (Lp (Int × Int) Int) :=
 bnd (
 sel (decide (v3.2 < (p0.length : Int))) (
 some (decide (v3.2 < 4000))) (
 some false)) fun v7 =>
 sel v7 (
 req (0 ≤ v3.2 ∧ v3.2 < p0.length) <|
 some (.go ((IntKind.wrap .i64 (BitVec.ofInt (IntKind.bits .i64) (Xaa .i64 ((Xaa .i64 ((Xaa .i64 (v3.1 * 131)) + (Xaa .i64 ((p0.getD v3.2.toNat 0))))) + 7)) &&& BitVec.ofInt (IntKind.bits .i64) 1073741823).toNat), Xaa .i64 (v3.2 + 1)))) (
 some (.done v3.1))
def Xh4 (p0 : (List Int)) : Option Xaq :=
 bnd (loop (Xih p0) (Xaa .i64 (94701 + (p0.length : Int)), 0)) fun v6 =>
 some (⟨p0, 0, v6⟩ : Xaq)
def Xbx (p0 : Xaq) : Option (Int × Xaq) :=
 req (0 ≤ (33 : Int)) <|
 req (0 ≤ (45 : Int)) <|
 bnd (
 sel (decide (p0.i_ < (p0.b_.length : Int))) (
 req (0 ≤ p0.i_ ∧ p0.i_ < p0.b_.length) <|
 some ((IntKind.wrap .i64 (BitVec.ofInt (IntKind.bits .i64) (Xaa .i64 ((IntKind.wrap .i64 (BitVec.ofInt (IntKind.bits .i64) (IntKind.wrap .i64 (BitVec.ofInt (IntKind.bits .i64) ((Xaa .i64 ((Xaa .i64 (p0.h_ * 6364136223846793005)) + 1442695040888963407)) / 2 ^ min (33 : Int).toNat (IntKind.bits .i64)) ^^^ BitVec.ofInt (IntKind.bits .i64) ((Xaa .i64 ((Xaa .i64 (p0.h_ * 6364136223846793005)) + 1442695040888963407)) / 2 ^ min (45 : Int).toNat (IntKind.bits .i64))).toNat) &&& BitVec.ofInt (IntKind.bits .i64) 255).toNat) + (Xaa .i64 ((p0.b_.getD p0.i_.toNat 0))))) &&& BitVec.ofInt (IntKind.bits .i64) 255).toNat), Xaa .i64 (p0.i_ + 1))) (
 some ((IntKind.wrap .i64 (BitVec.ofInt (IntKind.bits .i64) (IntKind.wrap .i64 (BitVec.ofInt (IntKind.bits .i64) ((Xaa .i64 ((Xaa .i64 (p0.h_ * 6364136223846793005)) + 1442695040888963407)) / 2 ^ min (33 : Int).toNat (IntKind.bits .i64)) ^^^ BitVec.ofInt (IntKind.bits .i64) ((Xaa .i64 ((Xaa .i64 (p0.h_ * 6364136223846793005)) + 1442695040888963407)) / 2 ^ min (45 : Int).toNat (IntKind.bits .i64))).toNat) &&& BitVec.ofInt (IntKind.bits .i64) 255).toNat), p0.i_))) fun v1 =>
 some (v1.1, (⟨p0.b_, v1.2, Xaa .i64 ((Xaa .i64 (p0.h_ * 6364136223846793005)) + 1442695040888963407)⟩ : Xaq))
def Xal (p0 : Xaq) (p1 : Int) : Option (Int × Xaq) :=
 sel (decide (p1 ≤ 0)) (
 some (0, p0)) (
 sel (decide (p1 ≤ 256)) (
 bnd (Xbx p0) fun q1 =>
 req (p1 ≠ 0) <|
 some ((q1.1.tmod p1), q1.2)) (
 bnd (Xbx p0) fun q2 =>
 bnd (Xbx q2.2) fun q3 =>
 bnd (Xbx q3.2) fun q4 =>
 bnd (Xbx q4.2) fun q5 =>
 req (p1 ≠ 0) <|
 some (((Xaa .i64 ((Xaa .i64 ((Xaa .i64 ((Xaa .i64 (q2.1 * 16777216)) + (Xaa .i64 (q3.1 * 65536)))) + (Xaa .i64 (q4.1 * 256)))) + q5.1)).tmod p1), q5.2)))
def Xhg (p1 : Int) (v7 : (Int × Int × (List Int) × Int × Int × (List Int))) : Option (Lp (Int × Int × (List Int) × Int × Int × (List Int)) ((List Int) × (List Int) × Int × Int)) :=
 sel (decide (v7.2.1 < p1)) (
 bnd (
 bnd (Xal (⟨v7.2.2.1, v7.2.2.2.1, v7.2.2.2.2.1⟩ : Xaq) 6) fun q15 =>
 sel (q15.1 == 0) (
 bnd (Xbx q15.2) fun q16 =>
 some (q16.1, q16.2.b_, q16.2.i_, q16.2.h_)) (
 sel (q15.1 == 1) (
 bnd (Xal q15.2 9) fun q17 =>
 some ((IntKind.wrap .i64 (BitVec.ofInt (IntKind.bits .i64) (Xaa .i64 ((Xaa .i64 (v7.1 + q17.1)) + 252)) &&& BitVec.ofInt (IntKind.bits .i64) 255).toNat), q17.2.b_, q17.2.i_, q17.2.h_)) (
 some (v7.1, q15.2.b_, q15.2.i_, q15.2.h_)))) fun v14 =>
 req ((v7.2.2.2.2.2.length + ([Xaa .u8 (v14.1)]).length) * 1 ≤ 140737488355328 ∧ v7.2.2.2.2.2.length + ([Xaa .u8 (v14.1)]).length ≤ maxLen) <|
 some (.go (v14.1, Xaa .i64 (v7.2.1 + 1), v14.2.1, v14.2.2.1, v14.2.2.2, (v7.2.2.2.2.2 ++ ([Xaa .u8 (v14.1)]))))) (
 some (.done (v7.2.2.2.2.2, v7.2.2.1, v7.2.2.2.1, v7.2.2.2.2.1)))
def Xix (p0 : Xaq) (p1 : Int) : Option (ByteArray × Xaq) :=
 bnd (Xbx p0) fun q1 =>
 bnd (loop (Xhg p1) (q1.1, 0, q1.2.b_, q1.2.i_, q1.2.h_, ([] : List Int))) fun v13 =>
 some ((strOfNums v13.1), (⟨v13.2.1, v13.2.2.1, v13.2.2.2⟩ : Xaq))
def Xhh (p0 : Xaq) (p1 : Int) (p2 : Int) : Option (Pic × Xaq) :=
 bnd (Xix p0 (Xaa .i64 (p1 * p2))) fun q1 =>
 some ((⟨p1, p2, q1.1⟩ : Pic), q1.2)
def Xbb (p0 : Xaq) (p1 : Int) : Option (Bool × Xaq) :=
 bnd (Xal p0 p1) fun q1 =>
 some ((q1.1 == 0), q1.2)
def Xas (p0 : Int) (p1 : Int) (p2 : Int) : Option Bool :=
 bnd (
 sel (decide (p0 ≥ p1)) (
 some (decide (p0 ≤ p2))) (
 some false)) fun v1 =>
 some v1
def Xc4 (p0 : Xaq) : Option (Par × Xaq) :=
 bnd (Xal p0 41) fun q1 =>
 bnd (Xbb q1.2 4) fun q2 =>
 bnd (
 bnd (Xal q2.2 3) fun q4 =>
 sel (q4.1 == 0) (
 some (true, false, q4.2.b_, q4.2.i_, q4.2.h_)) (
 sel (q4.1 == 1) (
 some (false, true, q4.2.b_, q4.2.i_, q4.2.h_)) (
 some (false, false, q4.2.b_, q4.2.i_, q4.2.h_)))) fun v3 =>
 some ((⟨q1.1, v3.1, v3.2.1, (!q2.1)⟩ : Par), (⟨v3.2.2.1, v3.2.2.2.1, v3.2.2.2.2⟩ : Xaq))
def Xiy (p0 : Xaq) : Option (Xd1 × Xaq) :=
 bnd (Xc4 p0) fun q1 =>
 bnd (Xbb q1.2 2) fun q2 =>
 some ((⟨q2.1, q1.1.Qp, q1.1.Large, q1.1.Exact⟩ : Xd1), q2.2)
def Xak (p0 : Int) (p1 : Int) (p2 : Int) : Option Bool :=
 bnd (
 sel (decide (p0 ≥ p1)) (
 some (decide (p0 ≤ p2))) (
 some false)) fun v1 =>
 some v1
def Xdr (p0 : Pic) : Option Bool :=
 bnd (
 bnd (Xak p0.Wide 1 256) fun q2 =>
 sel q2 (
 bnd (Xak p0.High 1 256) fun q3 =>
 sel q3 (
 some ((p0.Dots.size : Int) == (Xaa .i64 (p0.Wide * p0.High)))) (
 some false)) (
 some false)) fun v1 =>
 some v1
def Xb2 (p0 : Pic) (p1 : Int) (p2 : Int) : Option Bool :=
 bnd (
 req ((8 : Int) ≠ 0) <|
 sel ((p1.tmod 8) == 0) (
 req ((8 : Int) ≠ 0) <|
 sel ((p2.tmod 8) == 0) (
 bnd (Xak p1 0 (Xaa .i64 (p0.Wide - 8))) fun q2 =>
 sel q2 (
 bnd (Xak p2 0 (Xaa .i64 (p0.High - 8))) fun q3 =>
 some q3) (
 some false)) (
 some false)) (
 some false)) fun v1 =>
 some v1
def Xgz (p0 : (List Int)) (p2 : Int) (p3 : Int) (v3 : Int) : Option (Lp Int (Ou Unit Bool)) :=
 sel (decide (v3 < (p0.length : Int))) (
 req (0 ≤ v3 ∧ v3 < p0.length) <|
 bnd (Xak (p0.getD v3.toNat 0) p2 p3) fun q7 =>
 sel (!q7) (
 some (.done (.ret false))) (
 some (.go (Xaa .i64 (v3 + 1))))) (
 some (.done (.out ())))
def Xcs (p0 : (List Int)) (p1 : Int) (p2 : Int) (p3 : Int) : Option Bool :=
 bnd (loop (Xgz p0 p2 p3) 0) fun o8 => match o8 with
| .out v6 => (
 some ((p0.length : Int) == p1))
| .ret r => some r
def Xdf (p0 : Xd1) : Option Bool :=
 bnd (
 bnd (Xak p0.Qp 0 40) fun q2 =>
 sel q2 (
 sel p0.Large (
 some (!p0.Exact)) (
 some true)) (
 some false)) fun v1 =>
 some v1
def Xc5 (p0 : Int) (p1 : Int) (p2 : Int) : Option Int :=
 some (if (if p2 < p0 then p2 else p0) > p1 then (if p2 < p0 then p2 else p0) else p1)
def Xc9 (p0 : Pic) (p1 : Int) (p2 : Int) : Option Int :=
 bnd (Xc5 p2 0 (Xaa .i64 (p0.High - 1))) fun q1 =>
 bnd (Xc5 p1 0 (Xaa .i64 (p0.Wide - 1))) fun q2 =>
 req (0 ≤ (Xaa .i64 ((Xaa .i64 (q1 * p0.Wide)) + q2)) ∧ (Xaa .i64 ((Xaa .i64 (q1 * p0.Wide)) + q2)) < p0.Dots.size) <|
 some (Xaa .i64 ((Xx3 p0.Dots (Xaa .i64 ((Xaa .i64 (q1 * p0.Wide)) + q2)))))
def Xgq (p0 : Pic) (p1 : Int) (p2 : Int) (v9 : (Int × (List Int) × (List Int))) : Option (Lp (Int × (List Int) × (List Int)) ((List Int) × (List Int))) :=
 sel (decide (v9.1 < 8)) (
 bnd (
 bnd (
 sel (decide (p2 > 0)) (
 bnd (Xc9 p0 (Xaa .i64 (p1 + v9.1)) (Xaa .i64 (p2 - 1))) fun q18 =>
 req ((v9.2.1.length + ([q18]).length) * 8 ≤ 140737488355328 ∧ v9.2.1.length + ([q18]).length ≤ maxLen) <|
 some (v9.2.1 ++ ([q18]))) (
 some v9.2.1)) fun v17 =>
 sel (decide (p1 > 0)) (
 bnd (Xc9 p0 (Xaa .i64 (p1 - 1)) (Xaa .i64 (p2 + v9.1))) fun q19 =>
 req ((v9.2.2.length + ([q19]).length) * 8 ≤ 140737488355328 ∧ v9.2.2.length + ([q19]).length ≤ maxLen) <|
 some (v17, (v9.2.2 ++ ([q19])))) (
 some (v17, v9.2.2))) fun v16 =>
 some (.go (Xaa .i64 (v9.1 + 1), v16.1, v16.2))) (
 some (.done (v9.2.1, v9.2.2)))
def Xik (p0 : Pic) (p1 : Int) (p2 : Int) : Option (Xhn × Bool) :=
 bnd (
 bnd (Xdr p0) fun q2 =>
 sel q2 (
 bnd (Xb2 p0 p1 p2) fun q3 =>
 some (!q3)) (
 some true)) fun v1 =>
 sel v1 (
 some ((⟨[], [], 0⟩ : Xhn), false)) (
 bnd (loop (Xgq p0 p1 p2) (0, [], [])) fun v15 =>
 bnd (
 bnd (
 sel (decide (p1 > 0)) (
 some (decide (p2 > 0))) (
 some false)) fun v22 =>
 sel v22 (
 bnd (Xc9 p0 (Xaa .i64 (p1 - 1)) (Xaa .i64 (p2 - 1))) fun q23 =>
 some q23) (
 some (-1))) fun v21 =>
 some ((⟨v15.1, v15.2, v21⟩ : Xhn), true))
def Xdq (p0 : Xhn) (v4 : Int) : Option (Lp Int (Ou Unit Bool)) :=
 sel (decide (v4 < (([p0.Above, p0.Left]).length : Int))) (
 req (0 ≤ v4 ∧ v4 < ([p0.Above, p0.Left]).length) <|
 req (v4.toNat < ([p0.Above, p0.Left]).length) <|
 bnd (
 sel (decide (((([p0.Above, p0.Left]).getD v4.toNat Xu6).length : Int) > 0)) (
 bnd (Xcs (([p0.Above, p0.Left]).getD v4.toNat Xu6) 8 0 255) fun q10 =>
 some (!q10)) (
 some false)) fun v9 =>
 sel v9 (
 some (.done (.ret false))) (
 some (.go (Xaa .i64 (v4 + 1))))) (
 some (.done (.out ())))
def Xil (p0 : Xhn) : Option Bool :=
 bnd (loop (Xdq p0) 0) fun o11 => match o11 with
| .out v8 => (
 bnd (Xak p0.Corner (-1) 255) fun q12 =>
 some q12)
| .ret r => some r
def Xl3 (p0 : (List Int)) (v2 : (Int × Int)) : Option (Lp (Int × Int) Int) :=
 sel (decide (v2.2 < (p0.length : Int))) (
 req (0 ≤ v2.2 ∧ v2.2 < p0.length) <|
 some (.go (Xaa .i64 (v2.1 + (p0.getD v2.2.toNat 0)), Xaa .i64 (v2.2 + 1)))) (
 some (.done v2.1))
def Xgi (p0 : (List Int)) : Option Int :=
 bnd (loop (Xl3 p0) (0, 0)) fun v4 =>
 some v4
def Xhy (p0 : (List Int)) : Option (List Int) :=
 sel ((p0.length : Int) == 0) (
 some ([128, 128, 128, 128, 128, 128, 128, 128])) (
 some p0)
def Xeb (p0 : Int) (v4 : Int) (q7 : (List Int)) (q8 : (List Int)) (v9 : Int) (v22 : (Int × (List Int))) (v39 : (Int × (List Int))) : Option (Lp (Int × (List Int)) (List Int)) :=
 sel (decide (v39.1 < 8)) (
 bnd (
 sel (p0 == 0) (
 req ((v39.2.length + ([v4]).length) * 8 ≤ 140737488355328 ∧ v39.2.length + ([v4]).length ≤ maxLen) <|
 some (v39.2 ++ ([v4]))) (
 sel (p0 == 1) (
 req (0 ≤ v39.1 ∧ v39.1 < q7.length) <|
 req ((v39.2.length + ([(q7.getD v39.1.toNat 0)]).length) * 8 ≤ 140737488355328 ∧ v39.2.length + ([(q7.getD v39.1.toNat 0)]).length ≤ maxLen) <|
 some (v39.2 ++ ([(q7.getD v39.1.toNat 0)]))) (
 sel (p0 == 2) (
 req (0 ≤ v22.1 ∧ v22.1 < q8.length) <|
 req ((v39.2.length + ([(q8.getD v22.1.toNat 0)]).length) * 8 ≤ 140737488355328 ∧ v39.2.length + ([(q8.getD v22.1.toNat 0)]).length ≤ maxLen) <|
 some (v39.2 ++ ([(q8.getD v22.1.toNat 0)]))) (
 req (0 ≤ v22.1 ∧ v22.1 < q8.length) <|
 req (0 ≤ v39.1 ∧ v39.1 < q7.length) <|
 bnd (Xc5 (Xaa .i64 ((Xaa .i64 ((q8.getD v22.1.toNat 0) + (q7.getD v39.1.toNat 0))) - v9)) 0 255) fun q45 =>
 req ((v39.2.length + ([q45]).length) * 8 ≤ 140737488355328 ∧ v39.2.length + ([q45]).length ≤ maxLen) <|
 some (v39.2 ++ ([q45])))))) fun v44 =>
 some (.go (Xaa .i64 (v39.1 + 1), v44))) (
 some (.done v39.2))
def Xi2 (p0 : Int) (v4 : Int) (q7 : (List Int)) (q8 : (List Int)) (v9 : Int) (v22 : (Int × (List Int))) : Option (Lp (Int × (List Int)) (List Int)) :=
 sel (decide (v22.1 < 8)) (
 bnd (loop (Xeb p0 v4 q7 q8 v9 v22) (0, v22.2)) fun v43 =>
 some (.go (Xaa .i64 (v22.1 + 1), v43))) (
 some (.done v22.2))
def Xge (p0 : Int) (p1 : Xhn) : Option (List Int) :=
 bnd (
 bnd (Xil p1) fun q2 =>
 sel q2 (
 bnd (Xak p0 0 3) fun q3 =>
 some (!q3)) (
 some true)) fun v1 =>
 sel v1 (
 some ([] : List Int)) (
 bnd (
 sel (decide ((Xaa .i64 ((p1.Above.length : Int) + (p1.Left.length : Int))) > 0)) (
 bnd (Xgi p1.Above) fun q5 =>
 bnd (Xgi p1.Left) fun q6 =>
 req ((2 : Int) ≠ 0) <|
 req ((Xaa .i64 ((p1.Above.length : Int) + (p1.Left.length : Int))) ≠ 0) <|
 some (Xaa .i64 ((Xaa .i64 ((Xaa .i64 (q5 + q6)) + (Xaa .i64 ((Xaa .i64 ((p1.Above.length : Int) + (p1.Left.length : Int))).tdiv 2)))).tdiv (Xaa .i64 ((p1.Above.length : Int) + (p1.Left.length : Int)))))) (
 some 128)) fun v4 =>
 bnd (Xhy p1.Above) fun q7 =>
 bnd (Xhy p1.Left) fun q8 =>
 bnd (
 sel (decide (p1.Corner < 0)) (
 some 128) (
 some p1.Corner)) fun v9 =>
 bnd (loop (Xi2 p0 v4 q7 q8 v9) (0, ([] : List Int))) fun v35 =>
 some v35)
def Xb3 (v2 : (Int × Int)) : Option (Lp (Int × Int) Int) :=
 sel (decide (v2.1 > 0)) (
 req (0 ≤ (1 : Int)) <|
 some (.go ((v2.1 / 2 ^ min (1 : Int).toNat (IntKind.bits .i64)), Xaa .i64 (v2.2 + 1)))) (
 some (.done v2.2))
def Xia (p0 : Int) : Option Int :=
 bnd (loop (Xb3) (p0, 0)) fun v4 =>
 some v4
def Xg3 (v2 : (Int × Int × (List Int))) : Option (Lp (Int × Int × (List Int)) (List Int)) :=
 sel (decide (v2.2.1 ≥ 0)) (
 req (0 ≤ v2.2.1 ∧ v2.2.1 < v2.2.2.length) <|
 req (v2.2.1.toNat < v2.2.2.length) <|
 req (0 ≤ (1 : Int)) <|
 some (.go ((v2.1 / 2 ^ min (1 : Int).toNat (IntKind.bits .i64)), Xaa .i64 (v2.2.1 - 1), (v2.2.2.set v2.2.1.toNat (Xaa .u8 (Xaa .i64 (48 + (IntKind.wrap .i64 (BitVec.ofInt (IntKind.bits .i64) v2.1 &&& BitVec.ofInt (IntKind.bits .i64) 1).toNat)))))))) (
 some (.done v2.2.2))
def Xld (p0 : Int) (p1 : Int) : Option ByteArray :=
 req (0 ≤ p1 ∧ p1 ≤ p1 ∧ p1 * 1 ≤ 281474976710656) <|
 bnd (loop (Xg3) (p0, Xaa .i64 (p1 - 1), (List.replicate p1.toNat (0 : Int)))) fun v4 =>
 some (strOfNums v4)
def Xj3 (p0 : Int) : Option ByteArray :=
 bnd (Xia (Xaa .i64 (p0 + 1))) fun q1 =>
 bnd (Xld (Xaa .i64 (p0 + 1)) (Xaa .i64 ((Xaa .i64 (2 * q1)) - 1))) fun q2 =>
 some q2
def Xnm (p0 : Int) : Option (ByteArray × Bool) :=
 bnd (Xak p0 0 1000000) fun q1 =>
 sel (!q1) (
 some (⟨#[]⟩, false)) (
 bnd (Xj3 p0) fun q2 =>
 some (q2, true))
def Xg1 (p0 : Int) (v16 : (Int × (List Int))) (v37 : (Int × (List Int))) : Option (Lp (Int × (List Int)) (List Int)) :=
 sel (decide (v37.1 ≤ v16.1)) (
 bnd (
 bnd (
 req ((2 : Int) ≠ 0) <|
 sel ((v16.1.tmod 2) == 0) (
 some (Xaa .i64 (v16.1 - v37.1))) (
 some v37.1)) fun v44 =>
 bnd (
 sel (decide (v44 < p0)) (
 some (decide ((Xaa .i64 (v16.1 - v44)) < p0))) (
 some false)) fun v45 =>
 sel v45 (
 req ((v37.2.length + ([Xaa .i64 ((Xaa .i64 (v44 * p0)) + (Xaa .i64 (v16.1 - v44)))]).length) * 8 ≤ 140737488355328 ∧ v37.2.length + ([Xaa .i64 ((Xaa .i64 (v44 * p0)) + (Xaa .i64 (v16.1 - v44)))]).length ≤ maxLen) <|
 some (v37.2 ++ ([Xaa .i64 ((Xaa .i64 (v44 * p0)) + (Xaa .i64 (v16.1 - v44)))]))) (
 some v37.2)) fun v43 =>
 some (.go (Xaa .i64 (v37.1 + 1), v43))) (
 some (.done v37.2))
def Xet (p0 : Int) (v16 : (Int × (List Int))) : Option (Lp (Int × (List Int)) (List Int)) :=
 sel (decide (v16.1 ≤ (Xaa .i64 ((Xaa .i64 (2 * p0)) - 2)))) (
 bnd (loop (Xg1 p0 v16) (0, v16.2)) fun v42 =>
 some (.go (Xaa .i64 (v16.1 + 1), v42))) (
 some (.done v16.2))
def Xfu (p0 : Int) : Option (List Int) :=
 bnd (loop (Xet p0) (0, ([] : List Int))) fun v32 =>
 some v32
def Xhu (p0 : Int) (p1 : Int) : Option Int :=
 bnd (
 bnd (Xak p0 0 7) fun q2 =>
 sel q2 (
 bnd (Xak p1 0 7) fun q3 =>
 some (!q3)) (
 some true)) fun v1 =>
 sel v1 (
 some 0) (
 req (0 ≤ (1 : Int)) <|
 req (0 ≤ (2 : Int)) <|
 req ((2 : Int) ≠ 0) <|
 sel (((Xaa .i64 ((Xaa .i64 ((IntKind.wrap .i64 (BitVec.ofInt (IntKind.bits .i64) (IntKind.wrap .i64 (BitVec.ofInt (IntKind.bits .i64) p0 &&& BitVec.ofInt (IntKind.bits .i64) p1).toNat) &&& BitVec.ofInt (IntKind.bits .i64) 1).toNat) + (IntKind.wrap .i64 (BitVec.ofInt (IntKind.bits .i64) ((IntKind.wrap .i64 (BitVec.ofInt (IntKind.bits .i64) p0 &&& BitVec.ofInt (IntKind.bits .i64) p1).toNat) / 2 ^ min (1 : Int).toNat (IntKind.bits .i64)) &&& BitVec.ofInt (IntKind.bits .i64) 1).toNat))) + (IntKind.wrap .i64 (BitVec.ofInt (IntKind.bits .i64) ((IntKind.wrap .i64 (BitVec.ofInt (IntKind.bits .i64) p0 &&& BitVec.ofInt (IntKind.bits .i64) p1).toNat) / 2 ^ min (2 : Int).toNat (IntKind.bits .i64)) &&& BitVec.ofInt (IntKind.bits .i64) 1).toNat))).tmod 2) == 0) (
 some 1) (
 some (-1)))
def Xg4 (p0 : (List Int)) (v31 : (Int × (List Int))) (v72 : (Int × (List Int))) (v85 : (Int × (List Int))) : Option (Lp (Int × (List Int)) (List Int)) :=
 sel (decide (v85.1 < 8)) (
 req (0 ≤ (Xaa .i64 ((Xaa .i64 (8 * v31.1)) + v72.1)) ∧ (Xaa .i64 ((Xaa .i64 (8 * v31.1)) + v72.1)) < v85.2.length) <|
 req ((Xaa .i64 ((Xaa .i64 (8 * v31.1)) + v72.1)).toNat < v85.2.length) <|
 bnd (Xhu v72.1 v85.1) fun q89 =>
 req (0 ≤ (Xaa .i64 ((Xaa .i64 (8 * v31.1)) + v85.1)) ∧ (Xaa .i64 ((Xaa .i64 (8 * v31.1)) + v85.1)) < p0.length) <|
 req (0 ≤ (Xaa .i64 ((Xaa .i64 (8 * v31.1)) + v72.1)) ∧ (Xaa .i64 ((Xaa .i64 (8 * v31.1)) + v72.1)) < v85.2.length) <|
 req ((Xaa .i64 ((Xaa .i64 (8 * v31.1)) + v72.1)).toNat < v85.2.length) <|
 some (.go (Xaa .i64 (v85.1 + 1), (v85.2.set ((Xaa .i64 ((Xaa .i64 (8 * v31.1)) + v72.1)).toNat) (Xaa .i64 ((v85.2.getD ((Xaa .i64 ((Xaa .i64 (8 * v31.1)) + v72.1)).toNat) 0) + (Xaa .i64 (q89 * (p0.getD (Xaa .i64 ((Xaa .i64 (8 * v31.1)) + v85.1)).toNat 0))))))))) (
 some (.done v85.2))
def Xl5 (p0 : (List Int)) (v31 : (Int × (List Int))) (v72 : (Int × (List Int))) : Option (Lp (Int × (List Int)) (List Int)) :=
 sel (decide (v72.1 < 8)) (
 bnd (loop (Xg4 p0 v31 v72) (0, v72.2)) fun v88 =>
 some (.go (Xaa .i64 (v72.1 + 1), v88))) (
 some (.done v72.2))
def Xl4 (p0 : (List Int)) (v31 : (Int × (List Int))) : Option (Lp (Int × (List Int)) (List Int)) :=
 sel (decide (v31.1 < 8)) (
 bnd (loop (Xl5 p0 v31) (0, v31.2)) fun v82 =>
 some (.go (Xaa .i64 (v31.1 + 1), v82))) (
 some (.done v31.2))
def Xfv (v62 : (List Int)) (v123 : (Int × (List Int))) (v164 : (Int × (List Int))) (v177 : (Int × (List Int))) : Option (Lp (Int × (List Int)) (List Int)) :=
 sel (decide (v177.1 < 8)) (
 req (0 ≤ (Xaa .i64 ((Xaa .i64 (8 * v123.1)) + v164.1)) ∧ (Xaa .i64 ((Xaa .i64 (8 * v123.1)) + v164.1)) < v177.2.length) <|
 req ((Xaa .i64 ((Xaa .i64 (8 * v123.1)) + v164.1)).toNat < v177.2.length) <|
 bnd (Xhu v123.1 v177.1) fun q181 =>
 req (0 ≤ (Xaa .i64 ((Xaa .i64 (8 * v177.1)) + v164.1)) ∧ (Xaa .i64 ((Xaa .i64 (8 * v177.1)) + v164.1)) < v62.length) <|
 req ((Xaa .i64 ((Xaa .i64 (8 * v177.1)) + v164.1)).toNat < v62.length) <|
 req (0 ≤ (Xaa .i64 ((Xaa .i64 (8 * v123.1)) + v164.1)) ∧ (Xaa .i64 ((Xaa .i64 (8 * v123.1)) + v164.1)) < v177.2.length) <|
 req ((Xaa .i64 ((Xaa .i64 (8 * v123.1)) + v164.1)).toNat < v177.2.length) <|
 some (.go (Xaa .i64 (v177.1 + 1), (v177.2.set ((Xaa .i64 ((Xaa .i64 (8 * v123.1)) + v164.1)).toNat) (Xaa .i64 ((v177.2.getD ((Xaa .i64 ((Xaa .i64 (8 * v123.1)) + v164.1)).toNat) 0) + (Xaa .i64 (q181 * (v62.getD ((Xaa .i64 ((Xaa .i64 (8 * v177.1)) + v164.1)).toNat) 0))))))))) (
 some (.done v177.2))
def Xkq (v62 : (List Int)) (v123 : (Int × (List Int))) (v164 : (Int × (List Int))) : Option (Lp (Int × (List Int)) (List Int)) :=
 sel (decide (v164.1 < 8)) (
 bnd (loop (Xfv v62 v123 v164) (0, v164.2)) fun v180 =>
 some (.go (Xaa .i64 (v164.1 + 1), v180))) (
 some (.done v164.2))
def Xkp (v62 : (List Int)) (v123 : (Int × (List Int))) : Option (Lp (Int × (List Int)) (List Int)) :=
 sel (decide (v123.1 < 8)) (
 bnd (loop (Xkq v62 v123) (0, v123.2)) fun v174 =>
 some (.go (Xaa .i64 (v123.1 + 1), v174))) (
 some (.done v123.2))
def Xm0 (p0 : (List Int)) : Option (List Int) :=
 req (0 ≤ (64 : Int) ∧ (64 : Int) ≤ (64 : Int) ∧ (64 : Int) * 8 ≤ 281474976710656) <|
 bnd (loop (Xl4 p0) (0, (List.replicate (64 : Int).toNat (0 : Int)))) fun v62 =>
 req (0 ≤ (64 : Int) ∧ (64 : Int) ≤ (64 : Int) ∧ (64 : Int) * 8 ≤ 281474976710656) <|
 bnd (loop (Xkp v62) (0, (List.replicate (64 : Int).toNat (0 : Int)))) fun v154 =>
 some v154
def Xhv (p0 : Int) : Option Int :=
 bnd (Xak p0 0 40) fun q1 =>
 sel (!q1) (
 some 0) (
 req ((6 : Int) ≠ 0) <|
 req (0 ≤ (p0.tmod 6) ∧ (p0.tmod 6) < ([10, 11, 13, 14, 16, 18]).length) <|
 req ((p0.tmod 6).toNat < ([10, 11, 13, 14, 16, 18]).length) <|
 req ((6 : Int) ≠ 0) <|
 req (0 ≤ (Xaa .i64 (p0.tdiv 6))) <|
 some (Xaa .i64 ((([10, 11, 13, 14, 16, 18]).getD ((p0.tmod 6).toNat) 0) * 2 ^ min (Xaa .i64 (p0.tdiv 6)).toNat (IntKind.bits .i64))))
def Xi5 (p0 : Int) (v7 : (Int × (List Int))) (v16 : (Int × (List Int))) : Option (Lp (Int × (List Int)) (List Int)) :=
 sel (decide (v16.1 < 4)) (
 req ((2 : Int) ≠ 0) <|
 req ((2 : Int) ≠ 0) <|
 req ((v16.2.length + ([Xaa .i64 ((Xaa .i64 ((Xaa .i64 ((Xaa .i64 (v7.1 + (Xaa .i64 ((Xaa .i64 (p0.tdiv 2)) * 4)))) * 8)) + v16.1)) + (Xaa .i64 ((p0.tmod 2) * 4)))]).length) * 8 ≤ 140737488355328 ∧ v16.2.length + ([Xaa .i64 ((Xaa .i64 ((Xaa .i64 ((Xaa .i64 (v7.1 + (Xaa .i64 ((Xaa .i64 (p0.tdiv 2)) * 4)))) * 8)) + v16.1)) + (Xaa .i64 ((p0.tmod 2) * 4)))]).length ≤ maxLen) <|
 some (.go (Xaa .i64 (v16.1 + 1), (v16.2 ++ ([Xaa .i64 ((Xaa .i64 ((Xaa .i64 ((Xaa .i64 (v7.1 + (Xaa .i64 ((Xaa .i64 (p0.tdiv 2)) * 4)))) * 8)) + v16.1)) + (Xaa .i64 ((p0.tmod 2) * 4)))]))))) (
 some (.done v16.2))
def Xfz (p0 : Int) (v7 : (Int × (List Int))) : Option (Lp (Int × (List Int)) (List Int)) :=
 sel (decide (v7.1 < 4)) (
 bnd (loop (Xi5 p0 v7) (0, v7.2)) fun v18 =>
 some (.go (Xaa .i64 (v7.1 + 1), v18))) (
 some (.done v7.2))
def Xip (p0 : Int) : Option (List Int) :=
 bnd (loop (Xfz p0) (0, ([] : List Int))) fun v14 =>
 some v14
def Xg0 (p0 : (List Int)) : Option (List Int) :=
 req ((([] : List Int).length + p0.length) * 8 ≤ 140737488355328 ∧ ([] : List Int).length + p0.length ≤ maxLen) <|
 some (([] : List Int) ++ p0)
def Xo2 (p0 : Int) : Option Int :=
 bnd (Xak p0 0 15) fun q1 =>
 sel (!q1) (
 some (-1)) (
 req ((4 : Int) ≠ 0) <|
 req ((2 : Int) ≠ 0) <|
 req ((4 : Int) ≠ 0) <|
 req ((2 : Int) ≠ 0) <|
 bnd (
 sel (((Xaa .i64 (p0.tdiv 4)).tmod 2) == 0) (
 some (((p0.tmod 4).tmod 2) == 0)) (
 some false)) fun v2 =>
 sel v2 (
 some 0) (
 bnd (
 sel (((Xaa .i64 (p0.tdiv 4)).tmod 2) == 1) (
 some (((p0.tmod 4).tmod 2) == 1)) (
 some false)) fun v3 =>
 sel v3 (
 some 1) (
 some 2)))
def Xc8 (p0 : Pic) (p1 : Int) (p2 : Int) (v10 : (Int × (List Int))) (v23 : (Int × (List Int))) : Option (Lp (Int × (List Int)) (List Int)) :=
 sel (decide (v23.1 < 8)) (
 bnd (Xc9 p0 (Xaa .i64 (p1 + v23.1)) (Xaa .i64 (p2 + v10.1))) fun q27 =>
 req ((v23.2.length + ([q27]).length) * 8 ≤ 140737488355328 ∧ v23.2.length + ([q27]).length ≤ maxLen) <|
 some (.go (Xaa .i64 (v23.1 + 1), (v23.2 ++ ([q27]))))) (
 some (.done v23.2))
def Xc7 (p0 : Pic) (p1 : Int) (p2 : Int) (v10 : (Int × (List Int))) : Option (Lp (Int × (List Int)) (List Int)) :=
 sel (decide (v10.1 < 8)) (
 bnd (loop (Xc8 p0 p1 p2 v10) (0, v10.2)) fun v26 =>
 some (.go (Xaa .i64 (v10.1 + 1), v26))) (
 some (.done v10.2))
def Xek (p0 : Pic) (p1 : Int) (p2 : Int) : Option (List Int) :=
 req (0 ≤ (0 : Int) ∧ (0 : Int) ≤ (64 : Int) ∧ (64 : Int) * 8 ≤ 281474976710656) <|
 bnd (loop (Xc7 p0 p1 p2) (0, (List.replicate (0 : Int).toNat (0 : Int)))) fun v20 =>
 some v20
def Xcl (p0 : Pic) (p1 : Xov) : Option Bool :=
 bnd (
 bnd (Xak p1.Wide 1 p0.Wide) fun q2 =>
 sel q2 (
 bnd (Xak p1.High 1 p0.High) fun q3 =>
 sel q3 (
 bnd (Xak p1.Left 0 (Xaa .i64 (p0.Wide - p1.Wide))) fun q4 =>
 sel q4 (
 bnd (Xak p1.Top 0 (Xaa .i64 (p0.High - p1.High))) fun q5 =>
 some q5) (
 some false)) (
 some false)) (
 some false)) fun v1 =>
 some v1
def Xhq (p0 : Int) : Option (Int × Bool) :=
 bnd (Xak p0 (-500000) 500000) fun q1 =>
 sel (!q1) (
 some (0, false)) (
 sel (decide (p0 > 0)) (
 some (Xaa .i64 ((Xaa .i64 (2 * p0)) - 1), true)) (
 some (Xaa .i64 ((-2) * p0), true)))
def Xjn (p0 : Int) : Option (ByteArray × Bool) :=
 bnd (Xhq p0) fun q1 =>
 sel (!q1.2) (
 some (⟨#[]⟩, false)) (
 bnd (Xnm q1.1) fun q2 =>
 some (q2.1, q2.2))
def Xdh (p0 : (List Int)) : Option Bool :=
 bnd (Xcs p0 64 (-5000) 5000) fun q1 =>
 some q1
def Xd8 (p0 : Xap) : Option Bool :=
 sel (p0.Kind == 0) (
 bnd (
 sel (p0.Mode == 0) (
 sel (p0.Dx == 0) (
 sel (p0.Dy == 0) (
 some ((p0.Levels.length : Int) == 0)) (
 some false)) (
 some false)) (
 some false)) fun v1 =>
 some v1) (
 sel (p0.Kind == 1) (
 bnd (
 sel (p0.Mode == 0) (
 bnd (Xak p0.Dx (-16) 16) fun q3 =>
 sel q3 (
 bnd (Xak p0.Dy (-16) 16) fun q4 =>
 sel q4 (
 bnd (Xdh p0.Levels) fun q5 =>
 some q5) (
 some false)) (
 some false)) (
 some false)) fun v2 =>
 some v2) (
 sel (p0.Kind == 2) (
 bnd (
 bnd (Xak p0.Mode 0 3) fun q7 =>
 sel q7 (
 sel (p0.Dx == 0) (
 sel (p0.Dy == 0) (
 bnd (Xdh p0.Levels) fun q8 =>
 some q8) (
 some false)) (
 some false)) (
 some false)) fun v6 =>
 some v6) (
 some false)))
def Xcw (p0 : Xap) (p1 : Xd1) : Option Bool :=
 bnd (
 sel p1.Key (
 some (p0.Kind == 2)) (
 some true)) fun v1 =>
 some v1
def Xfb (p1 : (List Int)) (q2 : (List Int)) (v4 : (Int × (List Int))) : Option (Lp (Int × (List Int)) (List Int)) :=
 sel (decide (v4.1 < (q2.length : Int))) (
 req (0 ≤ v4.1 ∧ v4.1 < q2.length) <|
 req (v4.1.toNat < q2.length) <|
 req (0 ≤ v4.1 ∧ v4.1 < p1.length) <|
 req (0 ≤ (q2.getD v4.1.toNat 0) ∧ (q2.getD v4.1.toNat 0) < v4.2.length) <|
 req ((q2.getD v4.1.toNat 0).toNat < v4.2.length) <|
 some (.go (Xaa .i64 (v4.1 + 1), (v4.2.set ((q2.getD v4.1.toNat 0).toNat) (p1.getD v4.1.toNat 0))))) (
 some (.done v4.2))
def Xdg (p0 : Int) (p1 : (List Int)) : Option ((List Int) × Bool) :=
 bnd (
 sel (p0 != 4) (
 sel (p0 != 8) (
 some true) (
 some ((p1.length : Int) != (Xaa .i64 (p0 * p0))))) (
 some ((p1.length : Int) != (Xaa .i64 (p0 * p0))))) fun v1 =>
 sel v1 (
 some (([] : List Int), false)) (
 req (0 ≤ (p1.length : Int) ∧ (p1.length : Int) ≤ (p1.length : Int) ∧ (p1.length : Int) * 8 ≤ 281474976710656) <|
 bnd (Xfu p0) fun q2 =>
 bnd (loop (Xfb p1 q2) (0, (List.replicate (p1.length : Int).toNat (0 : Int)))) fun v6 =>
 some (v6, true))
def Xfr (p0 : Int) (p1 : Int) : Option Int :=
 bnd (Xak p0 (-5000) 5000) fun q1 =>
 sel (!q1) (
 some 0) (
 bnd (Xhv p1) fun q2 =>
 some (Xaa .i64 (p0 * q2)))
def Xjp (p0 : Int) (p1 : Int) : Option Int :=
 req (p1 ≠ 0) <|
 bnd (
 req (p1 ≠ 0) <|
 sel (decide ((p0.tmod p1) < 0)) (
 some (Xaa .i64 ((Xaa .i64 (p0.tdiv p1)) - 1))) (
 some (Xaa .i64 (p0.tdiv p1)))) fun v1 =>
 some v1
def Xj2 (p0 : (List Int)) (v3 : (Int × (List Int))) : Option (Lp (Int × (List Int)) (List Int)) :=
 sel (decide (v3.1 < (p0.length : Int))) (
 req (0 ≤ v3.1 ∧ v3.1 < v3.2.length) <|
 req (v3.1.toNat < v3.2.length) <|
 bnd (Xjp (Xaa .i64 ((v3.2.getD v3.1.toNat 0) + 32)) 64) fun q7 =>
 req (0 ≤ v3.1 ∧ v3.1 < v3.2.length) <|
 req (v3.1.toNat < v3.2.length) <|
 some (.go (Xaa .i64 (v3.1 + 1), (v3.2.set v3.1.toNat q7)))) (
 some (.done v3.2))
def Xgh (p0 : (List Int)) : Option ((List Int) × (List Int)) :=
 bnd (loop (Xj2 p0) (0, p0)) fun v6 =>
 some (v6, v6)
def Xfq (p0 : (List Int)) : Option (List Int) :=
 bnd (Xcs p0 64 (-10000000) 10000000) fun q1 =>
 sel (!q1) (
 some ([] : List Int)) (
 bnd (Xm0 p0) fun q2 =>
 bnd (Xgh q2) fun q3 =>
 some q3.2)
def Xin (p0 : Int) (p1 : Int) : Option Int :=
 bnd (
 bnd (Xak p0 0 40) fun q2 =>
 sel q2 (
 bnd (Xak p1 0 15) fun q3 =>
 some (!q3)) (
 some true)) fun v1 =>
 sel v1 (
 some 0) (
 req ((6 : Int) ≠ 0) <|
 bnd (Xo2 p1) fun q4 =>
 req (0 ≤ (p0.tmod 6) ∧ (p0.tmod 6) < 6) <|
 req (0 ≤ q4 ∧ q4 < 3) <|
 req (((0 + (p0.tmod 6).toNat * 3) + q4.toNat * 1) < ([10, 16, 13, 11, 18, 14, 13, 20, 16, 14, 23, 18, 16, 25, 20, 18, 29, 23] : List Int).length) <|
 req ((6 : Int) ≠ 0) <|
 req (0 ≤ (Xaa .i64 (p0.tdiv 6))) <|
 some (Xaa .i64 ((([10, 16, 13, 11, 18, 14, 13, 20, 16, 14, 23, 18, 16, 25, 20, 18, 29, 23] : List Int).getD ((0 + (p0.tmod 6).toNat * 3) + q4.toNat * 1) 0) * 2 ^ min (Xaa .i64 (p0.tdiv 6)).toNat (IntKind.bits .i64))))
def Xfs (p0 : Int) (p1 : Int) (p2 : Int) : Option Int :=
 bnd (Xak p0 (-5000) 5000) fun q1 =>
 sel (!q1) (
 some 0) (
 bnd (Xin p1 p2) fun q2 =>
 some (Xaa .i64 (p0 * q2)))
def Xcu (p0 : Int) (p1 : Int) (p2 : Int) (p3 : Int) : Option (Int × Int × Int × Int) :=
 bnd (Xjp p1 2) fun q1 =>
 bnd (Xjp p3 2) fun q2 =>
 some (Xaa .i64 ((Xaa .i64 (p0 + p2)) + (Xaa .i64 (p1 + q2))), Xaa .i64 ((Xaa .i64 (p0 - p2)) + (Xaa .i64 (q1 - p3))), Xaa .i64 ((Xaa .i64 (p0 - p2)) - (Xaa .i64 (q1 - p3))), Xaa .i64 ((Xaa .i64 (p0 + p2)) - (Xaa .i64 (p1 + q2))))
def Xd4 (v4 : (Int × (List Int))) : Option (Lp (Int × (List Int)) (List Int)) :=
 sel (decide (v4.1 < 16)) (
 req (0 ≤ v4.1 ∧ v4.1 < v4.2.length) <|
 req (v4.1.toNat < v4.2.length) <|
 req (0 ≤ (Xaa .i64 (v4.1 + 1)) ∧ (Xaa .i64 (v4.1 + 1)) < v4.2.length) <|
 req ((Xaa .i64 (v4.1 + 1)).toNat < v4.2.length) <|
 req (0 ≤ (Xaa .i64 (v4.1 + 2)) ∧ (Xaa .i64 (v4.1 + 2)) < v4.2.length) <|
 req ((Xaa .i64 (v4.1 + 2)).toNat < v4.2.length) <|
 req (0 ≤ (Xaa .i64 (v4.1 + 3)) ∧ (Xaa .i64 (v4.1 + 3)) < v4.2.length) <|
 req ((Xaa .i64 (v4.1 + 3)).toNat < v4.2.length) <|
 bnd (Xcu (v4.2.getD v4.1.toNat 0) (v4.2.getD ((Xaa .i64 (v4.1 + 1)).toNat) 0) (v4.2.getD ((Xaa .i64 (v4.1 + 2)).toNat) 0) (v4.2.getD ((Xaa .i64 (v4.1 + 3)).toNat) 0)) fun q8 =>
 req (0 ≤ v4.1 ∧ v4.1 ≤ (Xaa .i64 (v4.1 + 4)) ∧ (Xaa .i64 (v4.1 + 4)) ≤ (v4.2.length : Int)) <|
 req ((v4.1.toNat + ((Xaa .i64 (v4.1 + 4)).toNat - v4.1.toNat) ≤ v4.2.length ∧ ([q8.1, q8.2.1, q8.2.2.1, q8.2.2.2]).length ≤ ((Xaa .i64 (v4.1 + 4)).toNat - v4.1.toNat))) <|
 some (.go (Xaa .i64 (v4.1 + 4), (over v4.2 v4.1.toNat ([q8.1, q8.2.1, q8.2.2.1, q8.2.2.2]))))) (
 some (.done v4.2))
def Xdv (v17 : (Int × (List Int))) (q26 : (Int × Int × Int × Int)) (v28 : (Int × (List Int))) : Option (Lp (Int × (List Int)) (List Int)) :=
 sel (decide (v28.1 < 4)) (
 req (0 ≤ v28.1 ∧ v28.1 < ([q26.1, q26.2.1, q26.2.2.1, q26.2.2.2] : List Int).length) <|
 req (0 ≤ (Xaa .i64 (v17.1 + (Xaa .i64 (4 * v28.1)))) ∧ (Xaa .i64 (v17.1 + (Xaa .i64 (4 * v28.1)))) < v28.2.length) <|
 req ((Xaa .i64 (v17.1 + (Xaa .i64 (4 * v28.1)))).toNat < v28.2.length) <|
 some (.go (Xaa .i64 (v28.1 + 1), (v28.2.set ((Xaa .i64 (v17.1 + (Xaa .i64 (4 * v28.1)))).toNat) (([q26.1, q26.2.1, q26.2.2.1, q26.2.2.2] : List Int).getD v28.1.toNat 0))))) (
 some (.done v28.2))
def Xdu (v17 : (Int × (List Int))) : Option (Lp (Int × (List Int)) (List Int)) :=
 sel (decide (v17.1 < 4)) (
 req (0 ≤ v17.1 ∧ v17.1 < v17.2.length) <|
 req (v17.1.toNat < v17.2.length) <|
 req (0 ≤ (Xaa .i64 (v17.1 + 4)) ∧ (Xaa .i64 (v17.1 + 4)) < v17.2.length) <|
 req ((Xaa .i64 (v17.1 + 4)).toNat < v17.2.length) <|
 req (0 ≤ (Xaa .i64 (v17.1 + 8)) ∧ (Xaa .i64 (v17.1 + 8)) < v17.2.length) <|
 req ((Xaa .i64 (v17.1 + 8)).toNat < v17.2.length) <|
 req (0 ≤ (Xaa .i64 (v17.1 + 12)) ∧ (Xaa .i64 (v17.1 + 12)) < v17.2.length) <|
 req ((Xaa .i64 (v17.1 + 12)).toNat < v17.2.length) <|
 bnd (Xcu (v17.2.getD v17.1.toNat 0) (v17.2.getD ((Xaa .i64 (v17.1 + 4)).toNat) 0) (v17.2.getD ((Xaa .i64 (v17.1 + 8)).toNat) 0) (v17.2.getD ((Xaa .i64 (v17.1 + 12)).toNat) 0)) fun q26 =>
 bnd (loop (Xdv v17 q26) (0, v17.2)) fun v30 =>
 some (.go (Xaa .i64 (v17.1 + 1), v30))) (
 some (.done v17.2))
def Xbp (p0 : (List Int)) : Option (List Int) :=
 bnd (Xg0 p0) fun q1 =>
 bnd (loop (Xd4) (0, q1)) fun v7 =>
 bnd (loop (Xdu) (0, v7)) fun v25 =>
 some v25
def Xgr (p0 : (List Int)) : Option (List Int) :=
 bnd (Xcs p0 16 (-10000000) 10000000) fun q1 =>
 sel (!q1) (
 some ([] : List Int)) (
 bnd (Xbp p0) fun q2 =>
 bnd (Xgh q2) fun q3 =>
 some q3.2)
def Xc6 (p1 : Xd1) (q5 : ((List Int) × Bool)) (v8 : (Int × (List Int))) : Option (Lp (Int × (List Int)) (List Int)) :=
 sel (decide (v8.1 < (q5.1.length : Int))) (
 req (0 ≤ v8.1 ∧ v8.1 < v8.2.length) <|
 req (v8.1.toNat < v8.2.length) <|
 bnd (Xfr (v8.2.getD v8.1.toNat 0) p1.Qp) fun q12 =>
 req (0 ≤ v8.1 ∧ v8.1 < v8.2.length) <|
 req (v8.1.toNat < v8.2.length) <|
 some (.go (Xaa .i64 (v8.1 + 1), (v8.2.set v8.1.toNat q12)))) (
 some (.done v8.2))
def Xcv (p1 : Xd1) (q51 : ((List Int) × Bool)) (v54 : (Int × (List Int))) : Option (Lp (Int × (List Int)) (List Int)) :=
 sel (decide (v54.1 < (q51.1.length : Int))) (
 req (0 ≤ v54.1 ∧ v54.1 < v54.2.length) <|
 req (v54.1.toNat < v54.2.length) <|
 bnd (Xfs (v54.2.getD v54.1.toNat 0) p1.Qp v54.1) fun q58 =>
 req (0 ≤ v54.1 ∧ v54.1 < v54.2.length) <|
 req (v54.1.toNat < v54.2.length) <|
 some (.go (Xaa .i64 (v54.1 + 1), (v54.2.set v54.1.toNat q58)))) (
 some (.done v54.2))
def Xd7 (q60 : (List Int)) (q61 : (List Int)) (v63 : (Int × (List Int))) : Option (Lp (Int × (List Int)) (List Int)) :=
 sel (decide (v63.1 < (q61.length : Int))) (
 req (0 ≤ v63.1 ∧ v63.1 < q61.length) <|
 req (v63.1.toNat < q61.length) <|
 req (0 ≤ v63.1 ∧ v63.1 < q60.length) <|
 req (v63.1.toNat < q60.length) <|
 req (0 ≤ (q61.getD v63.1.toNat 0) ∧ (q61.getD v63.1.toNat 0) < v63.2.length) <|
 req ((q61.getD v63.1.toNat 0).toNat < v63.2.length) <|
 some (.go (Xaa .i64 (v63.1 + 1), (v63.2.set ((q61.getD v63.1.toNat 0).toNat) (q60.getD v63.1.toNat 0))))) (
 some (.done v63.2))
def Xf7 (p0 : (List Int)) (p1 : Xd1) (v32 : (Int × (List Int))) : Option (Lp (Int × (List Int)) (List Int)) :=
 sel (decide (v32.1 < 4)) (
 req (0 ≤ (Xaa .i64 (16 * v32.1)) ∧ (Xaa .i64 (16 * v32.1)) ≤ (Xaa .i64 ((Xaa .i64 (16 * v32.1)) + 16)) ∧ (Xaa .i64 ((Xaa .i64 (16 * v32.1)) + 16)) ≤ (p0.length : Int)) <|
 bnd (Xdg 4 ((p0.drop (Xaa .i64 (16 * v32.1)).toNat).take ((Xaa .i64 ((Xaa .i64 (16 * v32.1)) + 16)).toNat - (Xaa .i64 (16 * v32.1)).toNat))) fun q51 =>
 bnd (loop (Xcv p1 q51) (0, q51.1)) fun v57 =>
 bnd (Xgr v57) fun q60 =>
 bnd (Xip v32.1) fun q61 =>
 bnd (loop (Xd7 q60 q61) (0, v32.2)) fun v65 =>
 some (.go (Xaa .i64 (v32.1 + 1), v65))) (
 some (.done v32.2))
def Xey (p0 : (List Int)) (p1 : Xd1) : Option ((List Int) × Bool) :=
 bnd (
 bnd (Xdh p0) fun q2 =>
 sel q2 (
 bnd (Xdf p1) fun q3 =>
 some (!q3)) (
 some true)) fun v1 =>
 sel v1 (
 some (([] : List Int), false)) (
 sel p1.Exact (
 bnd (Xdg 8 p0) fun q4 =>
 some (q4.1, q4.2)) (
 sel p1.Large (
 bnd (Xdg 8 p0) fun q5 =>
 bnd (loop (Xc6 p1 q5) (0, q5.1)) fun v11 =>
 bnd (Xfq v11) fun q14 =>
 some (q14, true)) (
 req (0 ≤ (64 : Int) ∧ (64 : Int) ≤ (64 : Int) ∧ (64 : Int) * 8 ≤ 281474976710656) <|
 bnd (loop (Xf7 p0 p1) (0, (List.replicate (64 : Int).toNat (0 : Int)))) fun v50 =>
 some (v50, true))))
def Xh9 (p0 : (List Int)) (p1 : (List Int)) (v6 : (Int × (List Int))) : Option (Lp (Int × (List Int)) (List Int)) :=
 sel (decide (v6.1 < (p0.length : Int))) (
 req (0 ≤ v6.1 ∧ v6.1 < p0.length) <|
 req (0 ≤ v6.1 ∧ v6.1 < p1.length) <|
 bnd (Xc5 (Xaa .i64 ((p0.getD v6.1.toNat 0) + (p1.getD v6.1.toNat 0))) 0 255) fun q10 =>
 req ((v6.2.length + ([q10]).length) * 8 ≤ 140737488355328 ∧ v6.2.length + ([q10]).length ≤ maxLen) <|
 some (.go (Xaa .i64 (v6.1 + 1), (v6.2 ++ ([q10]))))) (
 some (.done v6.2))
def Xhr (p0 : (List Int)) (p1 : (List Int)) : Option (List Int) :=
 bnd (
 bnd (Xcs p0 64 0 255) fun q2 =>
 sel q2 (
 bnd (Xcs p1 64 (-10000000) 10000000) fun q3 =>
 some (!q3)) (
 some true)) fun v1 =>
 sel v1 (
 some ([] : List Int)) (
 bnd (loop (Xh9 p0 p1) (0, ([] : List Int))) fun v9 =>
 some v9)
def Xcd (p0 : Pic) (p1 : Pic) (p2 : Int) (p3 : Int) (p4 : Xd1) (p5 : Int) (p6 : Int) (p7 : Xap) : Option ((List Int) × Bool) :=
 bnd (
 bnd (Xdr p0) fun q2 =>
 sel q2 (
 bnd (Xb2 p0 p5 p6) fun q3 =>
 sel q3 (
 bnd (Xak p2 0 256) fun q4 =>
 sel q4 (
 bnd (Xak p3 0 256) fun q5 =>
 sel q5 (
 bnd (Xd8 p7) fun q6 =>
 sel q6 (
 bnd (Xdf p4) fun q7 =>
 sel q7 (
 bnd (Xcw p7 p4) fun q8 =>
 sel q8 (
 sel (p7.Kind != 2) (
 bnd (Xdr p1) fun q9 =>
 some (!q9)) (
 some false)) (
 some true)) (
 some true)) (
 some true)) (
 some true)) (
 some true)) (
 some true)) (
 some true)) fun v1 =>
 sel v1 (
 some (([] : List Int), false)) (
 sel (p7.Kind == 0) (
 bnd (Xek p1 (Xaa .i64 (p2 + p5)) (Xaa .i64 (p3 + p6))) fun q10 =>
 some (q10, true)) (
 bnd (Xey p7.Levels p4) fun q11 =>
 sel (p7.Kind == 1) (
 bnd (Xek p1 (Xaa .i64 ((Xaa .i64 (p2 + p5)) + p7.Dx)) (Xaa .i64 ((Xaa .i64 (p3 + p6)) + p7.Dy))) fun q12 =>
 bnd (Xhr q12 q11.1) fun q13 =>
 some (q13, true)) (
 bnd (Xik p0 p5 p6) fun q14 =>
 bnd (Xge p7.Mode q14.1) fun q15 =>
 bnd (Xhr q15 q11.1) fun q16 =>
 some (q16, true))))
def Xez (p0 : Int) : Option Bool :=
 bnd (
 req ((8 : Int) ≠ 0) <|
 sel ((p0.tmod 8) == 0) (
 bnd (Xak p0 8 64) fun q2 =>
 some q2) (
 some false)) fun v1 =>
 some v1
def Xim (p0 : Int) (p1 : Int) (v5 : (Int × (List Int))) : Option (Lp (Int × (List Int)) (List Int)) :=
 sel (decide (v5.1 < ((List.replicate (Xaa .i64 (p0 * p1)).toNat (0 : Int)).length : Int))) (
 req (0 ≤ v5.1 ∧ v5.1 < v5.2.length) <|
 req (v5.1.toNat < v5.2.length) <|
 some (.go (Xaa .i64 (v5.1 + 1), (v5.2.set v5.1.toNat 128)))) (
 some (.done v5.2))
def Xkz (p0 : Int) (p1 : Int) : Option Pic :=
 bnd (
 bnd (Xak p0 1 256) fun q2 =>
 sel q2 (
 bnd (Xak p1 1 256) fun q3 =>
 some (!q3)) (
 some true)) fun v1 =>
 sel v1 (
 some (⟨0, 0, ⟨#[]⟩⟩ : Pic)) (
 req (0 ≤ (Xaa .i64 (p0 * p1)) ∧ (Xaa .i64 (p0 * p1)) ≤ (Xaa .i64 (p0 * p1)) ∧ (Xaa .i64 (p0 * p1)) * 1 ≤ 281474976710656) <|
 bnd (loop (Xim p0 p1) (0, (List.replicate (Xaa .i64 (p0 * p1)).toNat (0 : Int)))) fun v7 =>
 some (⟨p0, p1, (strOfNums v7)⟩ : Pic))
def Xqs (p0 : Pic) : Option (List Int) :=
 req (p0.Dots.size ≤ maxLen) <|
 some (Xaz p0.Dots)
def Xl2 (p0 : Pic) (p1 : Int) (p2 : Int) (p3 : (List Int)) (v3 : (Int × (List Int))) : Option (Lp (Int × (List Int)) (List Int)) :=
 sel (decide (v3.1 < (p3.length : Int))) (
 req (0 ≤ v3.1 ∧ v3.1 < p3.length) <|
 req ((8 : Int) ≠ 0) <|
 req ((8 : Int) ≠ 0) <|
 req (0 ≤ (Xaa .i64 ((Xaa .i64 ((Xaa .i64 ((Xaa .i64 (p2 + (Xaa .i64 (v3.1.tdiv 8)))) * p0.Wide)) + p1)) + (v3.1.tmod 8))) ∧ (Xaa .i64 ((Xaa .i64 ((Xaa .i64 ((Xaa .i64 (p2 + (Xaa .i64 (v3.1.tdiv 8)))) * p0.Wide)) + p1)) + (v3.1.tmod 8))) < v3.2.length) <|
 req ((Xaa .i64 ((Xaa .i64 ((Xaa .i64 ((Xaa .i64 (p2 + (Xaa .i64 (v3.1.tdiv 8)))) * p0.Wide)) + p1)) + (v3.1.tmod 8))).toNat < v3.2.length) <|
 some (.go (Xaa .i64 (v3.1 + 1), (v3.2.set ((Xaa .i64 ((Xaa .i64 ((Xaa .i64 ((Xaa .i64 (p2 + (Xaa .i64 (v3.1.tdiv 8)))) * p0.Wide)) + p1)) + (v3.1.tmod 8))).toNat) (Xaa .u8 ((p3.getD v3.1.toNat 0))))))) (
 some (.done v3.2))
def Xqy (p0 : Pic) (p1 : Int) (p2 : Int) (p3 : (List Int)) : Option Pic :=
 bnd (Xqs p0) fun q1 =>
 bnd (loop (Xl2 p0 p1 p2 p3) (0, q1)) fun v5 =>
 some (⟨p0.Wide, p0.High, (strOfNums v5)⟩ : Pic)
def Xgf (p0 : (List Int)) (v3 : (Int × Int)) : Option (Lp (Int × Int) Int) :=
 sel (decide (v3.2 < (p0.length : Int))) (
 bnd (
 req (0 ≤ v3.2 ∧ v3.2 < p0.length) <|
 sel ((p0.getD v3.2.toNat 0) != 0) (
 some (Xaa .i64 (v3.1 + 1))) (
 some v3.1)) fun v7 =>
 some (.go (v7, Xaa .i64 (v3.2 + 1)))) (
 some (.done v3.1))
def Xgg (p0 : (List Int)) (v15 : (Int × Int × (List Int))) : Option (Lp (Int × Int × (List Int)) (List Int)) :=
 sel (decide (v15.2.1 < (p0.length : Int))) (
 bnd (
 req (0 ≤ v15.2.1 ∧ v15.2.1 < p0.length) <|
 sel ((p0.getD v15.2.1.toNat 0) == 0) (
 some (Xaa .i64 (v15.1 + 1), v15.2.2)) (
 bnd (Xhq (p0.getD v15.2.1.toNat 0)) fun q23 =>
 bnd (Xj3 v15.1) fun q24 =>
 req ((v15.2.2.length + (Xaz q24).length) * 1 ≤ 140737488355328 ∧ v15.2.2.length + (Xaz q24).length ≤ maxLen) <|
 bnd (Xj3 q23.1) fun q25 =>
 req (((v15.2.2 ++ (Xaz q24)).length + (Xaz q25).length) * 1 ≤ 140737488355328 ∧ (v15.2.2 ++ (Xaz q24)).length + (Xaz q25).length ≤ maxLen) <|
 some (0, ((v15.2.2 ++ (Xaz q24)) ++ (Xaz q25))))) fun v22 =>
 some (.go (v22.1, Xaa .i64 (v15.2.1 + 1), v22.2))) (
 some (.done v15.2.2))
def Xlb (p0 : (List Int)) : Option (List Int) :=
 bnd (loop (Xgf p0) (0, 0)) fun v6 =>
 bnd (Xj3 v6) fun q9 =>
 req ((([] : List Int).length + (Xaz q9).length) * 1 ≤ 140737488355328 ∧ ([] : List Int).length + (Xaz q9).length ≤ maxLen) <|
 bnd (loop (Xgg p0) (0, 0, (([] : List Int) ++ (Xaz q9)))) fun v21 =>
 some v21
def Xb4 (p0 : (List Int)) (v5 : (Int × (List Int))) : Option (Lp (Int × (List Int)) (List Int)) :=
 sel (decide (v5.1 < 4)) (
 req (0 ≤ (Xaa .i64 (16 * v5.1)) ∧ (Xaa .i64 (16 * v5.1)) ≤ (Xaa .i64 ((Xaa .i64 (16 * v5.1)) + 16)) ∧ (Xaa .i64 ((Xaa .i64 (16 * v5.1)) + 16)) ≤ (p0.length : Int)) <|
 bnd (Xlb ((p0.drop (Xaa .i64 (16 * v5.1)).toNat).take ((Xaa .i64 ((Xaa .i64 (16 * v5.1)) + 16)).toNat - (Xaa .i64 (16 * v5.1)).toNat))) fun q9 =>
 req ((v5.2.length + q9.length) * 1 ≤ 140737488355328 ∧ v5.2.length + q9.length ≤ maxLen) <|
 some (.go (Xaa .i64 (v5.1 + 1), (v5.2 ++ q9)))) (
 some (.done v5.2))
def Xel (p0 : (List Int)) (p1 : Xd1) : Option (List Int) :=
 bnd (
 sel p1.Large (
 some true) (
 some p1.Exact)) fun v1 =>
 sel v1 (
 bnd (Xlb p0) fun q2 =>
 some q2) (
 bnd (loop (Xb4 p0) (0, ([] : List Int))) fun v8 =>
 some v8)
def Xft (p0 : Xap) (p1 : Xd1) : Option (ByteArray × Bool) :=
 bnd (
 bnd (Xd8 p0) fun q2 =>
 sel q2 (
 bnd (Xdf p1) fun q3 =>
 sel q3 (
 bnd (Xcw p0 p1) fun q4 =>
 some (!q4)) (
 some true)) (
 some true)) fun v1 =>
 sel v1 (
 some (⟨#[]⟩, false)) (
 bnd (
 sel (!p1.Key) (
 bnd (Xj3 p0.Kind) fun q6 =>
 req ((([] : List Int).length + (Xaz q6).length) * 1 ≤ 140737488355328 ∧ ([] : List Int).length + (Xaz q6).length ≤ maxLen) <|
 some (([] : List Int) ++ (Xaz q6))) (
 some ([] : List Int))) fun v5 =>
 bnd (
 sel (p0.Kind == 1) (
 bnd (Xjn p0.Dx) fun q8 =>
 bnd (Xjn p0.Dy) fun q9 =>
 req ((v5.length + (Xaz q8.1).length) * 1 ≤ 140737488355328 ∧ v5.length + (Xaz q8.1).length ≤ maxLen) <|
 req (((v5 ++ (Xaz q8.1)).length + (Xaz q9.1).length) * 1 ≤ 140737488355328 ∧ (v5 ++ (Xaz q8.1)).length + (Xaz q9.1).length ≤ maxLen) <|
 bnd (Xel p0.Levels p1) fun q10 =>
 req ((((v5 ++ (Xaz q8.1)) ++ (Xaz q9.1)).length + q10.length) * 1 ≤ 140737488355328 ∧ ((v5 ++ (Xaz q8.1)) ++ (Xaz q9.1)).length + q10.length ≤ maxLen) <|
 some (((v5 ++ (Xaz q8.1)) ++ (Xaz q9.1)) ++ q10)) (
 sel (p0.Kind == 2) (
 bnd (Xj3 p0.Mode) fun q11 =>
 req ((v5.length + (Xaz q11).length) * 1 ≤ 140737488355328 ∧ v5.length + (Xaz q11).length ≤ maxLen) <|
 bnd (Xel p0.Levels p1) fun q12 =>
 req (((v5 ++ (Xaz q11)).length + q12.length) * 1 ≤ 140737488355328 ∧ (v5 ++ (Xaz q11)).length + q12.length ≤ maxLen) <|
 some ((v5 ++ (Xaz q11)) ++ q12)) (
 some v5))) fun v7 =>
 some ((strOfNums v7), true))
def Xds (p0 : (List Xap)) (p1 : Xd1) (v4 : (Int × (List Int))) : Option (Lp (Int × (List Int)) (Ou (List Int) (ByteArray × Bool))) :=
 sel (decide (v4.1 < (p0.length : Int))) (
 req (0 ≤ v4.1 ∧ v4.1 < p0.length) <|
 bnd (Xft (⟨(p0.getD v4.1.toNat Xdd).Kind, (p0.getD v4.1.toNat Xdd).Mode, (p0.getD v4.1.toNat Xdd).Dx, (p0.getD v4.1.toNat Xdd).Dy, (p0.getD v4.1.toNat Xdd).Levels⟩ : Xap) p1) fun q8 =>
 sel (!q8.2) (
 some (.done (.ret (⟨#[]⟩, false)))) (
 req ((v4.2.length + (Xaz q8.1).length) * 1 ≤ 140737488355328 ∧ v4.2.length + (Xaz q8.1).length ≤ maxLen) <|
 some (.go (Xaa .i64 (v4.1 + 1), (v4.2 ++ (Xaz q8.1)))))) (
 some (.done (.out v4.2)))
def Xio (p0 : (List Xap)) (p1 : Xd1) : Option (ByteArray × Bool) :=
 bnd (Xak (p0.length : Int) 1 64) fun q1 =>
 sel (!q1) (
 some (⟨#[]⟩, false)) (
 bnd (loop (Xds p0 p1) (0, ([] : List Int))) fun o9 => match o9 with
| .out v7 => (
 some ((strOfNums v7), true))
| .ret r => some r)
def Xfh (p1 : Int) (v11 : (Int × (List Int) × Int × Int × (List Int))) : Option (Lp (Int × (List Int) × Int × Int × (List Int)) ((List Int) × (List Int) × Int × Int)) :=
 bnd (
 bnd (Xal (⟨v11.2.1, v11.2.2.1, v11.2.2.2.1⟩ : Xaq) 7) fun q24 =>
 sel (decide (v11.1 < q24.1)) (
 some ((decide (p1 > 0)), q24.2.b_, q24.2.i_, q24.2.h_)) (
 some (false, q24.2.b_, q24.2.i_, q24.2.h_))) fun v23 =>
 sel v23.1 (
 bnd (
 bnd (Xal (⟨v23.2.1, v23.2.2.1, v23.2.2.2⟩ : Xaq) p1) fun q26 =>
 bnd (
 bnd (Xbb q26.2 2) fun q28 =>
 sel q28.1 (
 req ((5 : Int) ≠ 0) <|
 some ((q26.1.tmod 5), q28.2.b_, q28.2.i_, q28.2.h_)) (
 some (q26.1, q28.2.b_, q28.2.i_, q28.2.h_))) fun v27 =>
 bnd (Xal (⟨v27.2.1, v27.2.2.1, v27.2.2.2⟩ : Xaq) 21) fun q29 =>
 req (0 ≤ v27.1 ∧ v27.1 < v11.2.2.2.2.length) <|
 req (v27.1.toNat < v11.2.2.2.2.length) <|
 bnd (Xbb q29.2 6) fun q30 =>
 sel q30.1 (
 bnd (Xal q30.2 10001) fun q31 =>
 req (0 ≤ v27.1 ∧ v27.1 < (v11.2.2.2.2.set v27.1.toNat (Xaa .i64 (q29.1 - 10))).length) <|
 req (v27.1.toNat < (v11.2.2.2.2.set v27.1.toNat (Xaa .i64 (q29.1 - 10))).length) <|
 some (q31.2.b_, q31.2.i_, q31.2.h_, ((v11.2.2.2.2.set v27.1.toNat (Xaa .i64 (q29.1 - 10))).set v27.1.toNat (Xaa .i64 (q31.1 - 5000))))) (
 some (q30.2.b_, q30.2.i_, q30.2.h_, (v11.2.2.2.2.set v27.1.toNat (Xaa .i64 (q29.1 - 10)))))) fun v25 =>
 some (.go (Xaa .i64 (v11.1 + 1), v25.1, v25.2.1, v25.2.2.1, v25.2.2.2))) (
 some (.done (v11.2.2.2.2, v23.2.1, v23.2.2.1, v23.2.2.2)))
def Xep (p0 : Xaq) (p1 : Int) : Option ((List Int) × Xaq) :=
 req (0 ≤ p1 ∧ p1 ≤ p1 ∧ p1 * 8 ≤ 281474976710656) <|
 bnd (loop (Xfh p1) (0, p0.b_, p0.i_, p0.h_, (List.replicate p1.toNat (0 : Int)))) fun v22 =>
 some (v22.1, (⟨v22.2.1, v22.2.2.1, v22.2.2.2⟩ : Xaq))
def Xfy (p0 : Xaq) (p1 : Xd1) : Option (Xap × Xaq) :=
 bnd (
 sel p1.Key (
 some (false, p0.b_, p0.i_, p0.h_)) (
 bnd (Xbb p0 4) fun q2 =>
 some (q2.1, q2.2.b_, q2.2.i_, q2.2.h_))) fun v1 =>
 sel v1.1 (
 some ((⟨0, 0, 0, 0, []⟩ : Xap), (⟨v1.2.1, v1.2.2.1, v1.2.2.2⟩ : Xaq))) (
 bnd (
 sel p1.Key (
 some (false, v1.2.1, v1.2.2.1, v1.2.2.2)) (
 bnd (Xbb (⟨v1.2.1, v1.2.2.1, v1.2.2.2⟩ : Xaq) 2) fun q4 =>
 some (q4.1, q4.2.b_, q4.2.i_, q4.2.h_))) fun v3 =>
 sel v3.1 (
 bnd (Xal (⟨v3.2.1, v3.2.2.1, v3.2.2.2⟩ : Xaq) 7) fun q5 =>
 bnd (Xal q5.2 7) fun q6 =>
 bnd (Xep q6.2 64) fun q7 =>
 bnd (
 bnd (Xbb q7.2 6) fun q9 =>
 sel q9.1 (
 bnd (Xal q9.2 33) fun q10 =>
 some (Xaa .i64 (q10.1 - 16), q10.2.b_, q10.2.i_, q10.2.h_)) (
 some (Xaa .i64 (q5.1 - 3), q9.2.b_, q9.2.i_, q9.2.h_))) fun v8 =>
 some ((⟨1, 0, v8.1, Xaa .i64 (q6.1 - 3), q7.1⟩ : Xap), (⟨v8.2.1, v8.2.2.1, v8.2.2.2⟩ : Xaq))) (
 bnd (Xal (⟨v3.2.1, v3.2.2.1, v3.2.2.2⟩ : Xaq) 4) fun q11 =>
 bnd (Xep q11.2 64) fun q12 =>
 some ((⟨2, q11.1, 0, 0, q12.1⟩ : Xap), q12.2)))
def Xev (p1 : Int) (p2 : Xd1) (v3 : (Int × (List Int) × Int × Int × (List Xap))) : Option (Lp (Int × (List Int) × Int × Int × (List Xap)) ((List Xap) × (List Int) × Int × Int)) :=
 sel (decide (v3.1 < p1)) (
 bnd (Xfy (⟨v3.2.1, v3.2.2.1, v3.2.2.2.1⟩ : Xaq) p2) fun q7 =>
 req ((v3.2.2.2.2.length + ([q7.1]).length) * 56 ≤ 140737488355328 ∧ v3.2.2.2.2.length + ([q7.1]).length ≤ maxLen) <|
 some (.go (Xaa .i64 (v3.1 + 1), q7.2.b_, q7.2.i_, q7.2.h_, (v3.2.2.2.2 ++ ([q7.1]))))) (
 some (.done (v3.2.2.2.2, v3.2.1, v3.2.2.1, v3.2.2.2.1)))
def Xe9 (p0 : Xaq) (p1 : Int) (p2 : Xd1) : Option ((List Xap) × Xaq) :=
 bnd (loop (Xev p1 p2) (0, p0.b_, p0.i_, p0.h_, ([] : List Xap))) fun v6 =>
 some (v6.1, (⟨v6.2.1, v6.2.2.1, v6.2.2.2⟩ : Xaq))
def Xjk (p0 : Xaq) : Option (Pic × Xov × Xd1 × Bool × (List Xap) × Xaq) :=
 bnd (Xal p0 2) fun q1 =>
 bnd (Xal q1.2 2) fun q2 =>
 bnd (Xal q2.2 2) fun q3 =>
 bnd (Xal q3.2 2) fun q4 =>
 bnd (Xal q4.2 2) fun q5 =>
 bnd (Xal q5.2 5) fun q6 =>
 bnd (Xhh q6.2 (Xaa .i64 ((Xaa .i64 ((Xaa .i64 (8 * q1.1)) + (Xaa .i64 (8 + (Xaa .i64 (8 * q3.1)))))) + (Xaa .i64 (8 * q5.1)))) (Xaa .i64 ((Xaa .i64 ((Xaa .i64 (8 * q2.1)) + (Xaa .i64 (8 + (Xaa .i64 (8 * q4.1)))))) + q6.1))) fun q7 =>
 bnd (Xiy q7.2) fun q8 =>
 bnd (Xbb q8.2 3) fun q9 =>
 req ((8 : Int) ≠ 0) <|
 req ((8 : Int) ≠ 0) <|
 bnd (Xe9 q9.2 (Xaa .i64 ((Xaa .i64 ((Xaa .i64 (8 + (Xaa .i64 (8 * q3.1)))).tdiv 8)) * (Xaa .i64 ((Xaa .i64 (8 + (Xaa .i64 (8 * q4.1)))).tdiv 8)))) q8.1) fun q10 =>
 some (q7.1, (⟨Xaa .i64 (8 * q1.1), Xaa .i64 (8 * q2.1), Xaa .i64 (8 + (Xaa .i64 (8 * q3.1))), Xaa .i64 (8 + (Xaa .i64 (8 * q4.1)))⟩ : Xov), q8.1, (!q9.1), q10.1, q10.2)
def Xha (p0 : (List Int)) : Option (Pic × Xov × Xd1 × Bool × (List Xap)) :=
 bnd (Xh4 p0) fun q1 =>
 bnd (Xjk q1) fun q2 =>
 some (q2.1, q2.2.1, q2.2.2.1, q2.2.2.2.1, q2.2.2.2.2.1)
def Xf0 (v4 : (Int × (List Int) × Int × Int × (List Int))) : Option (Lp (Int × (List Int) × Int × Int × (List Int)) ((List Int) × (List Int) × Int × Int)) :=
 bnd (Xal (⟨v4.2.1, v4.2.2.1, v4.2.2.2.1⟩ : Xaq) 3) fun q9 =>
 sel (decide (v4.1 ≤ q9.1)) (
 bnd (Xal q9.2 2) fun q10 =>
 req ((v4.2.2.2.2.length + ([Xaa .i64 (1 + q10.1)]).length) * 8 ≤ 140737488355328 ∧ v4.2.2.2.2.length + ([Xaa .i64 (1 + q10.1)]).length ≤ maxLen) <|
 some (.go (Xaa .i64 (v4.1 + 1), q10.2.b_, q10.2.i_, q10.2.h_, (v4.2.2.2.2 ++ ([Xaa .i64 (1 + q10.1)]))))) (
 some (.done (v4.2.2.2.2, q9.2.b_, q9.2.i_, q9.2.h_)))
def Xff (p0 : Xaq) : Option ((List Int) × Xaq) :=
 bnd (loop (Xf0) (0, p0.b_, p0.i_, p0.h_, ([] : List Int))) fun v8 =>
 some (v8.1, (⟨v8.2.1, v8.2.2.1, v8.2.2.2⟩ : Xaq))
def Xeo (p0 : (List Int)) (v4 : (Int × Int)) : Option (Lp (Int × Int) (Ou Int Int)) :=
 sel (decide (v4.2 < (p0.length : Int))) (
 req (0 ≤ v4.2 ∧ v4.2 < p0.length) <|
 bnd (Xas (p0.getD v4.2.toNat 0) 1 8) fun q8 =>
 sel (!q8) (
 some (.done (.ret 0))) (
 req (0 ≤ v4.2 ∧ v4.2 < p0.length) <|
 some (.go (Xaa .i64 (v4.1 + (p0.getD v4.2.toNat 0)), Xaa .i64 (v4.2 + 1))))) (
 some (.done (.out v4.1)))
def Xh5 (p0 : (List Int)) : Option Int :=
 bnd (
 sel (decide ((p0.length : Int) < 1)) (
 some true) (
 some (decide ((p0.length : Int) > 4)))) fun v1 =>
 sel v1 (
 some 0) (
 bnd (loop (Xeo p0) (0, 0)) fun o9 => match o9 with
| .out v7 => (
 some v7)
| .ret r => some r)
def Xen (p0 : Seq) : Option Int :=
 bnd (Xh5 p0.Cols) fun q1 =>
 bnd (Xh5 p0.Rows) fun q2 =>
 some (Xaa .i64 (q1 * q2))
def Xhd (p0 : Xaq) : Option (Seq × Xaq) :=
 bnd (Xal p0 3) fun q1 =>
 bnd (Xff q1.2) fun q2 =>
 bnd (Xff q2.2) fun q3 =>
 bnd (
 bnd (
 bnd (Xbb q3.2 2) fun q6 =>
 sel q6.1 (
 bnd (Xen (⟨3, Xaa .i64 (3 + q1.1), q2.1, q3.1⟩ : Seq)) fun q7 =>
 some ((decide (q7 ≤ 16)), q6.2.b_, q6.2.i_, q6.2.h_)) (
 some (false, q6.2.b_, q6.2.i_, q6.2.h_))) fun v5 =>
 sel v5.1 (
 some (1, v5.2.1, v5.2.2.1, v5.2.2.2)) (
 some (3, v5.2.1, v5.2.2.1, v5.2.2.2))) fun v4 =>
 some ((⟨v4.1, Xaa .i64 (3 + q1.1), q2.1, q3.1⟩ : Seq), (⟨v4.2.1, v4.2.2.1, v4.2.2.2⟩ : Xaq))
def Xdx (p0 : Int) : Option Int :=
 sel (p0 == 1) (
 some 16) (
 sel (p0 == 2) (
 some 64) (
 sel (p0 == 3) (
 some 256) (
 some 0)))
def Xli (p0 : Seq) : Option Bool :=
 bnd (
 bnd (Xen p0) fun q2 =>
 bnd (Xdx p0.Level) fun q3 =>
 bnd (Xas q2 1 q3) fun q4 =>
 sel q4 (
 bnd (Xas p0.Bits 3 8) fun q5 =>
 some q5) (
 some false)) fun v1 =>
 some v1
def Xiv (p0 : Seq) : Option Int :=
 bnd (Xli p0) fun q1 =>
 sel (!q1) (
 some 0) (
 some (Xaa .i64 ((p0.Cols.length : Int) * (p0.Rows.length : Int))))
def Xhe (p0 : Xaq) (p1 : Seq) : Option (Yk8 × Xaq × Seq) :=
 bnd (Xiv p1) fun q1 =>
 bnd (Xal p0 q1) fun q2 =>
 bnd (Xal q2.2 41) fun q3 =>
 bnd (
 bnd (Xas p1.Bits 0 8) fun q5 =>
 sel q5 (
 req (0 ≤ (Xaa .u64 (p1.Bits))) <|
 bnd (Xal q3.2 (Xaa .i64 (1 * 2 ^ min (Xaa .u64 (p1.Bits)).toNat (IntKind.bits .i64)))) fun q6 =>
 some (q6.1, q6.2.b_, q6.2.i_, q6.2.h_)) (
 some (0, q3.2.b_, q3.2.i_, q3.2.h_))) fun v4 =>
 some ((⟨q2.1, v4.1, q3.1⟩ : Yk8), (⟨v4.2.1, v4.2.2.1, v4.2.2.2⟩ : Xaq), p1)
def Xg9 (p0 : (List Int)) : Option (Seq × Par × Yk8) :=
 bnd (Xh4 p0) fun q1 =>
 bnd (Xhd q1) fun q2 =>
 bnd (Xc4 q2.2) fun q3 =>
 bnd (Xhe q3.2 q2.1) fun q5 =>
 some ((⟨q2.1.Level, q2.1.Bits, q5.2.2.Cols, q5.2.2.Rows⟩ : Seq), q3.1, q5.1)
def Xhs (p0 : Par) : Option Bool :=
 bnd (
 bnd (Xak p0.Qp 0 40) fun q2 =>
 sel q2 (
 sel p0.Large (
 some (!p0.Exact)) (
 some true)) (
 some false)) fun v1 =>
 some v1
def Xd3 (p0 : Par) (p1 : Ydz) : Option Xd1 :=
 some (⟨p1.Key, p1.Qp, p0.Large, p0.Exact⟩ : Xd1)
def Xgy (p0 : Int) (p3 : Xap) (v5 : (Int × (List Xap))) : Option (Lp (Int × (List Xap)) (List Xap)) :=
 sel (decide (v5.1 < p0)) (
 req ((v5.2.length + ([p3]).length) * 56 ≤ 140737488355328 ∧ v5.2.length + ([p3]).length ≤ maxLen) <|
 some (.go (Xaa .i64 (v5.1 + 1), (v5.2 ++ ([p3]))))) (
 some (.done v5.2))
def Xjo (p0 : Int) (p1 : Par) (p2 : Bool) (p3 : Xap) : Option (Ydz × Bool) :=
 bnd (
 bnd (Xhs p1) fun q2 =>
 sel q2 (
 bnd (Xak p0 1 64) fun q3 =>
 some (!q3)) (
 some true)) fun v1 =>
 sel v1 (
 some ((⟨false, 0, ⟨#[]⟩⟩ : Ydz), false)) (
 bnd (loop (Xgy p0 p3) (0, ([] : List Xap))) fun v7 =>
 bnd (Xd3 p1 (⟨p2, p1.Qp, ⟨#[]⟩⟩ : Ydz)) fun q9 =>
 bnd (Xio v7 q9) fun q10 =>
 some ((⟨p2, p1.Qp, q10.1⟩ : Ydz), true))
def Xgs (p0 : Int) (p1 : Par) : Option (Ydz × Bool) :=
 req (0 ≤ (64 : Int) ∧ (64 : Int) ≤ (64 : Int) ∧ (64 : Int) * 8 ≤ 281474976710656) <|
 bnd (Xjo p0 p1 true (⟨2, 0, 0, 0, (List.replicate (64 : Int).toNat (0 : Int))⟩ : Xap)) fun q1 =>
 some (q1.1, q1.2)
def Xgx (p0 : Int) (p1 : Par) : Option (Ydz × Bool) :=
 bnd (Xjo p0 p1 false (⟨0, 0, 0, 0, []⟩ : Xap)) fun q1 =>
 some (q1.1, q1.2)
def Xgw (p0 : ByteArray) (v3 : Int) : Option (Lp Int (Ou Unit Bool)) :=
 sel (decide (v3 < (p0.size : Int))) (
 bnd (
 req (0 ≤ v3 ∧ v3 < p0.size) <|
 sel ((Xx3 p0 v3) != 48) (
 req (0 ≤ v3 ∧ v3 < p0.size) <|
 some ((Xx3 p0 v3) != 49)) (
 some false)) fun v7 =>
 sel v7 (
 some (.done (.ret false))) (
 some (.go (Xaa .i64 (v3 + 1))))) (
 some (.done (.out ())))
def Xk5 (p0 : ByteArray) : Option Bool :=
 sel (decide ((p0.size : Int) > 400000)) (
 some false) (
 bnd (loop (Xgw p0) 0) fun o8 => match o8 with
| .out v6 => (
 some true)
| .ret r => some r)
def Xl1 (p0 : ByteArray) (p1 : Int) : Option Xkb :=
 bnd (
 bnd (Xk5 p0) fun q2 =>
 sel q2 (
 bnd (Xak p1 0 (p0.size : Int)) fun q3 =>
 some (!q3)) (
 some true)) fun v1 =>
 some (⟨p0, p1, v1⟩ : Xkb)
def Xed (p0 : Xkb) (p1 : Int) (v3 : (Int × Int)) : Option (Lp (Int × Int) Int) :=
 sel (decide (v3.2 < p1)) (
 req (0 ≤ (1 : Int)) <|
 req (0 ≤ (Xaa .i64 (p0.at_ + v3.2)) ∧ (Xaa .i64 (p0.at_ + v3.2)) < p0.row_.size) <|
 some (.go ((IntKind.wrap .i64 (BitVec.ofInt (IntKind.bits .i64) (Xaa .i64 (v3.1 * 2 ^ min (1 : Int).toNat (IntKind.bits .i64))) ||| BitVec.ofInt (IntKind.bits .i64) (Xaa .i64 (Xaa .u8 ((Xx3 p0.row_ (Xaa .i64 (p0.at_ + v3.2))) - 48)))).toNat), Xaa .i64 (v3.2 + 1)))) (
 some (.done v3.1))
def Xg2 (p0 : Xkb) (p1 : Int) : Option (Int × Xkb) :=
 bnd (
 sel p0.bad_ (
 some true) (
 some (decide ((Xaa .i64 ((p0.row_.size : Int) - p0.at_)) < p1)))) fun v1 =>
 sel v1 (
 some (0, (⟨p0.row_, p0.at_, true⟩ : Xkb))) (
 bnd (loop (Xed p0 p1) (0, 0)) fun v5 =>
 some (v5, (⟨p0.row_, Xaa .i64 (p0.at_ + p1), p0.bad_⟩ : Xkb)))
def Xe1 (p0 : Xkb) (v3 : Int) : Option (Lp Int Int) :=
 bnd (
 sel p0.bad_ (
 some false) (
 sel (decide ((Xaa .i64 (p0.at_ + v3)) < (p0.row_.size : Int))) (
 req (0 ≤ (Xaa .i64 (p0.at_ + v3)) ∧ (Xaa .i64 (p0.at_ + v3)) < p0.row_.size) <|
 some ((Xx3 p0.row_ (Xaa .i64 (p0.at_ + v3))) == 48)) (
 some false))) fun v7 =>
 sel v7 (
 some (.go (Xaa .i64 (v3 + 1)))) (
 some (.done v3))
def Xce (p0 : Xkb) : Option (Int × Xkb) :=
 bnd (loop (Xe1 p0) 0) fun v6 =>
 bnd (
 sel (decide (v6 > 20)) (
 some true) (
 some p0.bad_)) fun v9 =>
 bnd (Xg2 (⟨p0.row_, p0.at_, v9⟩ : Xkb) (Xaa .i64 ((Xaa .i64 (2 * v6)) + 1))) fun q10 =>
 bnd (
 sel q10.2.bad_ (
 some true) (
 some (decide ((Xaa .i64 (q10.1 - 1)) > 1000000)))) fun v11 =>
 sel v11 (
 some (0, (⟨q10.2.row_, q10.2.at_, true⟩ : Xkb))) (
 some (Xaa .i64 (q10.1 - 1), q10.2))
def Xjz (p0 : Int) : Option (Int × Bool) :=
 bnd (Xak p0 0 1000000) fun q1 =>
 sel (!q1) (
 some (0, false)) (
 req ((2 : Int) ≠ 0) <|
 sel ((p0.tmod 2) == 1) (
 req ((2 : Int) ≠ 0) <|
 some (Xaa .i64 ((Xaa .i64 (p0 + 1)).tdiv 2), true)) (
 req ((2 : Int) ≠ 0) <|
 some (Xaa .i64 ((Xaa .i64 (0 - p0)).tdiv 2), true)))
def Xdb (p0 : Xkb) : Option (Int × Xkb) :=
 bnd (Xce p0) fun q1 =>
 bnd (Xjz q1.1) fun q2 =>
 bnd (
 sel q1.2.bad_ (
 some true) (
 some (!q2.2))) fun v3 =>
 some (q2.1, (⟨q1.2.row_, q1.2.at_, v3⟩ : Xkb))
def Xdt (p1 : Int) (v8 : (Int × Int × ByteArray × Int × Bool × (List Int))) : Option (Lp (Int × Int × ByteArray × Int × Bool × (List Int)) ((List Int) × ByteArray × Int × Bool)) :=
 bnd (
 sel (decide (v8.2.1 > 0)) (
 some (!v8.2.2.2.2.1)) (
 some false)) fun v16 =>
 sel v16 (
 bnd (Xce (⟨v8.2.2.1, v8.2.2.2.1, v8.2.2.2.2.1⟩ : Xkb)) fun q17 =>
 bnd (Xdb q17.2) fun q18 =>
 bnd (
 sel (decide ((Xaa .i64 (v8.1 + q17.1)) ≥ p1)) (
 some true) (
 sel (q18.1 == 0) (
 some true) (
 bnd (Xak q18.1 (-5000) 5000) fun q20 =>
 some (!q20)))) fun v19 =>
 sel v19 (
 some (.done (v8.2.2.2.2.2, q18.2.row_, q18.2.at_, true))) (
 req (0 ≤ (Xaa .i64 (v8.1 + q17.1)) ∧ (Xaa .i64 (v8.1 + q17.1)) < v8.2.2.2.2.2.length) <|
 req ((Xaa .i64 (v8.1 + q17.1)).toNat < v8.2.2.2.2.2.length) <|
 some (.go (Xaa .i64 ((Xaa .i64 (v8.1 + q17.1)) + 1), Xaa .i64 (v8.2.1 - 1), q18.2.row_, q18.2.at_, q18.2.bad_, (v8.2.2.2.2.2.set ((Xaa .i64 (v8.1 + q17.1)).toNat) q18.1))))) (
 some (.done (v8.2.2.2.2.2, v8.2.2.1, v8.2.2.2.1, v8.2.2.2.2.1)))
def Xem (p0 : Xkb) (p1 : Int) : Option ((List Int) × Xkb) :=
 req (0 ≤ p1 ∧ p1 ≤ p1 ∧ p1 * 8 ≤ 281474976710656) <|
 bnd (Xce p0) fun q1 =>
 bnd (loop (Xdt p1) (0, q1.1, q1.2.row_, q1.2.at_, q1.2.bad_, (List.replicate p1.toNat (0 : Int)))) fun v15 =>
 some (v15.1, (⟨v15.2.1, v15.2.2.1, v15.2.2.2⟩ : Xkb))
def Xbl (v5 : (Int × ByteArray × Int × Bool × (List Int))) : Option (Lp (Int × ByteArray × Int × Bool × (List Int)) ((List Int) × ByteArray × Int × Bool)) :=
 sel (decide (v5.1 < 4)) (
 bnd (Xem (⟨v5.2.1, v5.2.2.1, v5.2.2.2.1⟩ : Xkb) 16) fun q9 =>
 req ((v5.2.2.2.2.length + q9.1.length) * 8 ≤ 140737488355328 ∧ v5.2.2.2.2.length + q9.1.length ≤ maxLen) <|
 some (.go (Xaa .i64 (v5.1 + 1), q9.2.row_, q9.2.at_, q9.2.bad_, (v5.2.2.2.2 ++ q9.1)))) (
 some (.done (v5.2.2.2.2, v5.2.1, v5.2.2.1, v5.2.2.2.1)))
def Xbw (p0 : Xkb) (p1 : Xd1) : Option ((List Int) × Xkb) :=
 bnd (
 sel p1.Large (
 some true) (
 some p1.Exact)) fun v1 =>
 sel v1 (
 bnd (Xem p0 64) fun q2 =>
 some (q2.1, q2.2)) (
 bnd (loop (Xbl) (0, p0.row_, p0.at_, p0.bad_, ([] : List Int))) fun v8 =>
 some (v8.1, (⟨v8.2.1, v8.2.2.1, v8.2.2.2⟩ : Xkb)))
def Xee (p0 : Xkb) (p1 : Xd1) : Option (Xap × Xkb) :=
 bnd (
 sel (!p1.Key) (
 bnd (Xce p0) fun q2 =>
 some (q2.2.row_, q2.2.at_, q2.2.bad_, q2.1)) (
 some (p0.row_, p0.at_, p0.bad_, 2))) fun v1 =>
 bnd (
 sel v1.2.2.1 (
 some (v1.1, v1.2.1, v1.2.2.1, 0, 0, 0, [])) (
 sel (v1.2.2.2 == 1) (
 bnd (Xdb (⟨v1.1, v1.2.1, v1.2.2.1⟩ : Xkb)) fun q4 =>
 bnd (Xdb q4.2) fun q5 =>
 bnd (Xbw q5.2 p1) fun q6 =>
 some (q6.2.row_, q6.2.at_, q6.2.bad_, 0, q4.1, q5.1, q6.1)) (
 sel (v1.2.2.2 == 2) (
 bnd (Xce (⟨v1.1, v1.2.1, v1.2.2.1⟩ : Xkb)) fun q7 =>
 bnd (Xbw q7.2 p1) fun q8 =>
 some (q8.2.row_, q8.2.at_, q8.2.bad_, q7.1, 0, 0, q8.1)) (
 some (v1.1, v1.2.1, v1.2.2.1, 0, 0, 0, []))))) fun v3 =>
 bnd (
 sel v3.2.2.1 (
 some true) (
 bnd (Xd8 (⟨v1.2.2.2, v3.2.2.2.1, v3.2.2.2.2.1, v3.2.2.2.2.2.1, v3.2.2.2.2.2.2⟩ : Xap)) fun q10 =>
 some (!q10))) fun v9 =>
 some ((⟨v1.2.2.2, v3.2.2.2.1, v3.2.2.2.2.1, v3.2.2.2.2.2.1, v3.2.2.2.2.2.2⟩ : Xap), (⟨v3.1, v3.2.1, v9⟩ : Xkb))
def Xec (p2 : Int) (p3 : Xd1) (v7 : (Int × ByteArray × Int × Bool × (List Xap))) : Option (Lp (Int × ByteArray × Int × Bool × (List Xap)) (Ou (ByteArray × Int × Bool × (List Xap)) ((List Xap) × Bool))) :=
 sel (decide (v7.1 < p2)) (
 bnd (Xee (⟨v7.2.1, v7.2.2.1, v7.2.2.2.1⟩ : Xkb) p3) fun q11 =>
 req ((v7.2.2.2.2.length + ([q11.1]).length) * 56 ≤ 140737488355328 ∧ v7.2.2.2.2.length + ([q11.1]).length ≤ maxLen) <|
 sel q11.2.bad_ (
 some (.done (.ret (([] : List Xap), false)))) (
 some (.go (Xaa .i64 (v7.1 + 1), q11.2.row_, q11.2.at_, q11.2.bad_, (v7.2.2.2.2 ++ ([q11.1])))))) (
 some (.done (.out (v7.2.1, v7.2.2.1, v7.2.2.2.1, v7.2.2.2.2))))
def Xfa (p0 : ByteArray) (p1 : Int) (p2 : Int) (p3 : Xd1) : Option ((List Xap) × Bool) :=
 bnd (Xl1 p0 p1) fun q1 =>
 bnd (
 bnd (Xak p2 1 64) fun q3 =>
 sel q3 (
 bnd (Xdf p3) fun q4 =>
 some (!q4)) (
 some true)) fun v2 =>
 sel v2 (
 some (([] : List Xap), false)) (
 bnd (loop (Xec p2 p3) (0, q1.row_, q1.at_, q1.bad_, ([] : List Xap))) fun o12 => match o12 with
| .out v10 => (
 sel (v10.2.1 != (p0.size : Int)) (
 some (([] : List Xap), false)) (
 some (v10.2.2.2, true)))
| .ret r => some r)
def Xlx (p0 : Pic) (p1 : Xov) (v5 : (Int × (List Int))) : Option (Lp (Int × (List Int)) (List Int)) :=
 sel (decide (v5.1 < (Xaa .i64 (p1.Top + p1.High)))) (
 req (0 ≤ (Xaa .i64 ((Xaa .i64 (v5.1 * p0.Wide)) + p1.Left)) ∧ (Xaa .i64 ((Xaa .i64 (v5.1 * p0.Wide)) + p1.Left)) ≤ (Xaa .i64 ((Xaa .i64 ((Xaa .i64 (v5.1 * p0.Wide)) + p1.Left)) + p1.Wide)) ∧ (Xaa .i64 ((Xaa .i64 ((Xaa .i64 (v5.1 * p0.Wide)) + p1.Left)) + p1.Wide)) ≤ (p0.Dots.size : Int)) <|
 req ((v5.2.length + (Xaz (p0.Dots.extract (Xaa .i64 ((Xaa .i64 (v5.1 * p0.Wide)) + p1.Left)).toNat (Xaa .i64 ((Xaa .i64 ((Xaa .i64 (v5.1 * p0.Wide)) + p1.Left)) + p1.Wide)).toNat)).length) * 1 ≤ 140737488355328 ∧ v5.2.length + (Xaz (p0.Dots.extract (Xaa .i64 ((Xaa .i64 (v5.1 * p0.Wide)) + p1.Left)).toNat (Xaa .i64 ((Xaa .i64 ((Xaa .i64 (v5.1 * p0.Wide)) + p1.Left)) + p1.Wide)).toNat)).length ≤ maxLen) <|
 some (.go (Xaa .i64 (v5.1 + 1), (v5.2 ++ (Xaz (p0.Dots.extract (Xaa .i64 ((Xaa .i64 (v5.1 * p0.Wide)) + p1.Left)).toNat (Xaa .i64 ((Xaa .i64 ((Xaa .i64 (v5.1 * p0.Wide)) + p1.Left)) + p1.Wide)).toNat)))))) (
 some (.done v5.2))
def Xhp (p0 : Pic) (p1 : Xov) : Option (Pic × Bool) :=
 bnd (
 bnd (Xdr p0) fun q2 =>
 sel q2 (
 bnd (Xcl p0 p1) fun q3 =>
 some (!q3)) (
 some true)) fun v1 =>
 sel v1 (
 some ((⟨0, 0, ⟨#[]⟩⟩ : Pic), false)) (
 req (0 ≤ (0 : Int) ∧ (0 : Int) ≤ (Xaa .i64 (p1.Wide * p1.High)) ∧ (Xaa .i64 (p1.Wide * p1.High)) * 1 ≤ 281474976710656) <|
 bnd (loop (Xlx p0 p1) (p1.Top, (List.replicate (0 : Int).toNat (0 : Int)))) fun v7 =>
 some ((⟨p1.Wide, p1.High, (strOfNums v7)⟩ : Pic), true))
def Xbh (p1 : Xov) (p2 : Xd1) (p4 : (List Xap)) (v10 : (Int × Int × Int × Int × ByteArray)) (v16 : (Int × Int × Int × ByteArray)) : Option (Lp (Int × Int × Int × ByteArray) (Ou (Int × Int × ByteArray) (Pic × Bool))) :=
 sel (decide (v16.1 < (p4.length : Int))) (
 req (0 ≤ v16.1 ∧ v16.1 < p4.length) <|
 req ((8 : Int) ≠ 0) <|
 req ((Xaa .i64 (p1.Wide.tdiv 8)) ≠ 0) <|
 req ((8 : Int) ≠ 0) <|
 req ((Xaa .i64 (p1.Wide.tdiv 8)) ≠ 0) <|
 bnd (Xcd (⟨v16.2.1, v16.2.2.1, v16.2.2.2⟩ : Pic) (⟨v10.2.2.1, v10.2.2.2.1, v10.2.2.2.2⟩ : Pic) v10.1 v10.2.1 p2 (Xaa .i64 ((v16.1.tmod (Xaa .i64 (p1.Wide.tdiv 8))) * 8)) (Xaa .i64 ((Xaa .i64 (v16.1.tdiv (Xaa .i64 (p1.Wide.tdiv 8)))) * 8)) (⟨(p4.getD v16.1.toNat Xdd).Kind, (p4.getD v16.1.toNat Xdd).Mode, (p4.getD v16.1.toNat Xdd).Dx, (p4.getD v16.1.toNat Xdd).Dy, (p4.getD v16.1.toNat Xdd).Levels⟩ : Xap)) fun q21 =>
 sel (!q21.2) (
 some (.done (.ret ((⟨0, 0, ⟨#[]⟩⟩ : Pic), false)))) (
 bnd (Xqy (⟨v16.2.1, v16.2.2.1, v16.2.2.2⟩ : Pic) (Xaa .i64 ((v16.1.tmod (Xaa .i64 (p1.Wide.tdiv 8))) * 8)) (Xaa .i64 ((Xaa .i64 (v16.1.tdiv (Xaa .i64 (p1.Wide.tdiv 8)))) * 8)) q21.1) fun q22 =>
 some (.go (Xaa .i64 (v16.1 + 1), q22.Wide, q22.High, q22.Dots)))) (
 some (.done (.out (v16.2.1, v16.2.2.1, v16.2.2.2))))
def Xda (p0 : Pic) (p1 : Xov) (p2 : Xd1) (p3 : Bool) (p4 : (List Xap)) : Option (Pic × Bool) :=
 bnd (
 bnd (Xez p1.Wide) fun q2 =>
 sel q2 (
 bnd (Xez p1.High) fun q3 =>
 sel q3 (
 bnd (Xak p1.Left 0 256) fun q4 =>
 sel q4 (
 bnd (Xak p1.Top 0 256) fun q5 =>
 sel q5 (
 bnd (Xdf p2) fun q6 =>
 sel q6 (
 req ((8 : Int) ≠ 0) <|
 req ((8 : Int) ≠ 0) <|
 some ((p4.length : Int) != (Xaa .i64 ((Xaa .i64 (p1.Wide.tdiv 8)) * (Xaa .i64 (p1.High.tdiv 8)))))) (
 some true)) (
 some true)) (
 some true)) (
 some true)) (
 some true)) fun v1 =>
 sel v1 (
 some ((⟨0, 0, ⟨#[]⟩⟩ : Pic), false)) (
 bnd (
 sel p2.Key (
 some false) (
 bnd (Xdr p0) fun q8 =>
 sel q8 (
 bnd (Xcl p0 p1) fun q9 =>
 some (!q9)) (
 some true))) fun v7 =>
 sel v7 (
 some ((⟨0, 0, ⟨#[]⟩⟩ : Pic), false)) (
 bnd (
 sel p3 (
 sel (!p2.Key) (
 bnd (Xhp p0 p1) fun q11 =>
 some (0, 0, q11.1.Wide, q11.1.High, q11.1.Dots)) (
 some (0, 0, p0.Wide, p0.High, p0.Dots))) (
 some (p1.Left, p1.Top, p0.Wide, p0.High, p0.Dots))) fun v10 =>
 bnd (Xkz p1.Wide p1.High) fun q12 =>
 bnd (loop (Xbh p1 p2 p4 v10) (0, q12.Wide, q12.High, q12.Dots)) fun o23 => match o23 with
| .out v20 => (
 some ((⟨v20.1, v20.2.1, v20.2.2⟩ : Pic), true))
| .ret r => some r))
def Xej (p0 : Pic) (p1 : Xov) (p2 : Par) (p3 : Ydz) : Option (Pic × Bool) :=
 bnd (
 bnd (Xez p1.Wide) fun q2 =>
 sel q2 (
 bnd (Xez p1.High) fun q3 =>
 sel q3 (
 bnd (Xhs p2) fun q4 =>
 some (!q4)) (
 some true)) (
 some true)) fun v1 =>
 sel v1 (
 some ((⟨0, 0, ⟨#[]⟩⟩ : Pic), false)) (
 bnd (Xd3 p2 p3) fun q5 =>
 req ((8 : Int) ≠ 0) <|
 req ((8 : Int) ≠ 0) <|
 bnd (Xfa p3.Row 0 (Xaa .i64 ((Xaa .i64 (p1.Wide.tdiv 8)) * (Xaa .i64 (p1.High.tdiv 8)))) q5) fun q6 =>
 sel (!q6.2) (
 some ((⟨0, 0, ⟨#[]⟩⟩ : Pic), false)) (
 bnd (Xda p0 p1 q5 p2.Confined q6.1) fun q7 =>
 some (q7.1, q7.2)))
def Xht (p0 : Par) (p1 : Ydz) (p2 : Int) : Option Bool :=
 bnd (Xd3 p0 p1) fun q1 =>
 bnd (Xfa p1.Row 0 p2 q1) fun q2 =>
 bnd (
 sel q2.2 (
 bnd (Xhs p0) fun q4 =>
 some q4) (
 some false)) fun v3 =>
 some v3
def Xkh (p0 : (List Int)) : Option Bool :=
 bnd (Xu9 p0) fun q1 =>
 sel q1 (
 some true) (
 bnd (Xha p0) fun q2 =>
 bnd (Xg9 p0) fun q3 =>
 req ((8 : Int) ≠ 0) <|
 req ((8 : Int) ≠ 0) <|
 bnd (Xgs (Xaa .i64 ((Xaa .i64 (q2.2.1.Wide.tdiv 8)) * (Xaa .i64 (q2.2.1.High.tdiv 8)))) q3.2.1) fun q4 =>
 bnd (Xgx (Xaa .i64 ((Xaa .i64 (q2.2.1.Wide.tdiv 8)) * (Xaa .i64 (q2.2.1.High.tdiv 8)))) q3.2.1) fun q5 =>
 bnd (Xej q2.1 q2.2.1 q3.2.1 q4.1) fun q6 =>
 bnd (Xej q2.1 q2.2.1 q3.2.1 q5.1) fun q7 =>
 bnd (Xhp q2.1 q2.2.1) fun q8 =>
 bnd (
 sel q4.2 (
 sel q5.2 (
 sel q6.2 (
 sel q7.2 (
 bnd (Xkz q2.2.1.Wide q2.2.1.High) fun q10 =>
 sel (((q6.1.Wide == q10.Wide) && ((q6.1.High == q10.High) && (q6.1.Dots.toList == q10.Dots.toList))) == true) (
 sel (q6.1.Wide == q2.2.1.Wide) (
 sel (((q7.1.Wide == q8.1.Wide) && ((q7.1.High == q8.1.High) && (q7.1.Dots.toList == q8.1.Dots.toList))) == true) (
 sel (q7.1.Wide == q2.2.1.Wide) (
 bnd (Xht q3.2.1 q4.1 (Xaa .i64 ((Xaa .i64 (q2.2.1.Wide.tdiv 8)) * (Xaa .i64 (q2.2.1.High.tdiv 8))))) fun q11 =>
 sel q11 (
 bnd (Xht q3.2.1 q5.1 (Xaa .i64 ((Xaa .i64 (q2.2.1.Wide.tdiv 8)) * (Xaa .i64 (q2.2.1.High.tdiv 8))))) fun q12 =>
 sel q12 (
 sel q4.1.Key (
 sel q5.1.Key (
 some false) (
 sel ((q5.1.Row.size : Int) == (Xaa .i64 ((Xaa .i64 (q2.2.1.Wide.tdiv 8)) * (Xaa .i64 (q2.2.1.High.tdiv 8))))) (
 bnd (Xdf q2.2.2.1) fun q13 =>
 some q13) (
 some false))) (
 some false)) (
 some false)) (
 some false)) (
 some false)) (
 some false)) (
 some false)) (
 some false)) (
 some false)) (
 some false)) (
 some false)) (
 some false)) fun v9 =>
 some v9)
end
end Go.Proofs.Ytlebkepfhdjnmac.A
