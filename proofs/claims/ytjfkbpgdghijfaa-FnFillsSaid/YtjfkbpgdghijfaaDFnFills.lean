/- What the functions that the law FnFills reaches compute, over numbers, texts and lists. Written by a program of this session. Conditions: none. -/
import Derived.Test.YtjfkbpgdghijfaaAL1
namespace Go.Proofs.Ytjfkbpgdghijfaa.A
open Go Go.Proofs Go.Proofs.YtjfkbpgdghijfaaAL Go.RowKit
set_option linter.unusedVariables false
set_option linter.unusedSimpArgs false
structure Pic where
 Wide : Int
 High : Int
 Dots : ByteArray
structure Cond where
 Key : Bool
 Qp : Int
 Large : Bool
 Exact : Bool
structure Square where
 Kind : Int
 Mode : Int
 Dx : Int
 Dy : Int
 Levels : (List Int)
structure Rect where
 Left : Int
 Top : Int
 Wide : Int
 High : Int
structure Seq where
 Level : Int
 Bits : Int
 Cols : (List Int)
 Rows : (List Int)
structure Par where
 Qp : Int
 Large : Bool
 Exact : Bool
 Confined : Bool
structure Head where
 Tile : Int
 Frame : Int
 Qp : Int
structure Part where
 Key : Bool
 Qp : Int
 Row : ByteArray
structure Edges where
 Above : (List Int)
 Left : (List Int)
 Corner : Int
structure Scan where
 row_ : ByteArray
 at_ : Int
 bad_ : Bool
structure L01Cur where
 b_ : (List Int)
 i_ : Int
 h_ : Int
def dLInti64 : (List Int) := []
def dSquare : Square := ⟨0, 0, 0, 0, []⟩
noncomputable section
def laws_big (p0 : (List Int)) : Option Bool :=
some (decide ((p0.length : Int) > 1048576))
def spec_l01New_l2 (p0 : (List Int)) (v3 : (Int × Int)) : Option (Lp (Int × Int) Int) :=
bnd (
sel (decide (v3.2 < (p0.length : Int))) (
some (decide (v3.2 < 4000))) (
some false)) fun v7 =>
sel v7 (
req (0 ≤ v3.2 ∧ v3.2 < p0.length) <|
some (.go ((IntKind.wrap .i64 (BitVec.ofInt (IntKind.bits .i64) (wrapK .i64 ((wrapK .i64 ((wrapK .i64 (v3.1 * 131)) + (wrapK .i64 ((p0.getD v3.2.toNat 0))))) + 7)) &&& BitVec.ofInt (IntKind.bits .i64) 1073741823).toNat), wrapK .i64 (v3.2 + 1)))) (
some (.done v3.1))
def spec_l01New (p0 : (List Int)) : Option L01Cur :=
bnd (loop (spec_l01New_l2 p0) (wrapK .i64 (94701 + (p0.length : Int)), 0)) fun v6 =>
some (⟨p0, 0, v6⟩ : L01Cur)
def spec_l01Byte (p0 : L01Cur) : Option (Int × L01Cur) :=
req (0 ≤ (33 : Int)) <|
req (0 ≤ (45 : Int)) <|
bnd (
sel (decide (p0.i_ < (p0.b_.length : Int))) (
req (0 ≤ p0.i_ ∧ p0.i_ < p0.b_.length) <|
some ((IntKind.wrap .i64 (BitVec.ofInt (IntKind.bits .i64) (wrapK .i64 ((IntKind.wrap .i64 (BitVec.ofInt (IntKind.bits .i64) (IntKind.wrap .i64 (BitVec.ofInt (IntKind.bits .i64) ((wrapK .i64 ((wrapK .i64 (p0.h_ * 6364136223846793005)) + 1442695040888963407)) / 2 ^ min (33 : Int).toNat (IntKind.bits .i64)) ^^^ BitVec.ofInt (IntKind.bits .i64) ((wrapK .i64 ((wrapK .i64 (p0.h_ * 6364136223846793005)) + 1442695040888963407)) / 2 ^ min (45 : Int).toNat (IntKind.bits .i64))).toNat) &&& BitVec.ofInt (IntKind.bits .i64) 255).toNat) + (wrapK .i64 ((p0.b_.getD p0.i_.toNat 0))))) &&& BitVec.ofInt (IntKind.bits .i64) 255).toNat), wrapK .i64 (p0.i_ + 1))) (
some ((IntKind.wrap .i64 (BitVec.ofInt (IntKind.bits .i64) (IntKind.wrap .i64 (BitVec.ofInt (IntKind.bits .i64) ((wrapK .i64 ((wrapK .i64 (p0.h_ * 6364136223846793005)) + 1442695040888963407)) / 2 ^ min (33 : Int).toNat (IntKind.bits .i64)) ^^^ BitVec.ofInt (IntKind.bits .i64) ((wrapK .i64 ((wrapK .i64 (p0.h_ * 6364136223846793005)) + 1442695040888963407)) / 2 ^ min (45 : Int).toNat (IntKind.bits .i64))).toNat) &&& BitVec.ofInt (IntKind.bits .i64) 255).toNat), p0.i_))) fun v1 =>
some (v1.1, (⟨p0.b_, v1.2, wrapK .i64 ((wrapK .i64 (p0.h_ * 6364136223846793005)) + 1442695040888963407)⟩ : L01Cur))
def spec_l01Below (p0 : L01Cur) (p1 : Int) : Option (Int × L01Cur) :=
sel (decide (p1 ≤ 0)) (
some (0, p0)) (
sel (decide (p1 ≤ 256)) (
bnd (spec_l01Byte p0) fun q1 =>
req (p1 ≠ 0) <|
some ((q1.1.tmod p1), q1.2)) (
bnd (spec_l01Byte p0) fun q2 =>
bnd (spec_l01Byte q2.2) fun q3 =>
bnd (spec_l01Byte q3.2) fun q4 =>
bnd (spec_l01Byte q4.2) fun q5 =>
req (p1 ≠ 0) <|
some (((wrapK .i64 ((wrapK .i64 ((wrapK .i64 ((wrapK .i64 (q2.1 * 16777216)) + (wrapK .i64 (q3.1 * 65536)))) + (wrapK .i64 (q4.1 * 256)))) + q5.1)).tmod p1), q5.2)))
def spec_l12Dots_l2 (p1 : Int) (v7 : (Int × Int × (List Int) × Int × Int × (List Int))) : Option (Lp (Int × Int × (List Int) × Int × Int × (List Int)) ((List Int) × (List Int) × Int × Int)) :=
sel (decide (v7.2.1 < p1)) (
bnd (
bnd (spec_l01Below (⟨v7.2.2.1, v7.2.2.2.1, v7.2.2.2.2.1⟩ : L01Cur) 6) fun q15 =>
sel (q15.1 == 0) (
bnd (spec_l01Byte q15.2) fun q16 =>
some (q16.1, q16.2.b_, q16.2.i_, q16.2.h_)) (
sel (q15.1 == 1) (
bnd (spec_l01Below q15.2 9) fun q17 =>
some ((IntKind.wrap .i64 (BitVec.ofInt (IntKind.bits .i64) (wrapK .i64 ((wrapK .i64 (v7.1 + q17.1)) + 252)) &&& BitVec.ofInt (IntKind.bits .i64) 255).toNat), q17.2.b_, q17.2.i_, q17.2.h_)) (
some (v7.1, q15.2.b_, q15.2.i_, q15.2.h_)))) fun v14 =>
req ((v7.2.2.2.2.2.length + ([wrapK .u8 (v14.1)]).length) * 1 ≤ 140737488355328 ∧ v7.2.2.2.2.2.length + ([wrapK .u8 (v14.1)]).length ≤ maxLen) <|
some (.go (v14.1, wrapK .i64 (v7.2.1 + 1), v14.2.1, v14.2.2.1, v14.2.2.2, (v7.2.2.2.2.2 ++ ([wrapK .u8 (v14.1)]))))) (
some (.done (v7.2.2.2.2.2, v7.2.2.1, v7.2.2.2.1, v7.2.2.2.2.1)))
def spec_l12Dots (p0 : L01Cur) (p1 : Int) : Option (ByteArray × L01Cur) :=
bnd (spec_l01Byte p0) fun q1 =>
bnd (loop (spec_l12Dots_l2 p1) (q1.1, 0, q1.2.b_, q1.2.i_, q1.2.h_, ([] : List Int))) fun v13 =>
some ((strOfNums v13.1), (⟨v13.2.1, v13.2.2.1, v13.2.2.2⟩ : L01Cur))
def spec_l12Sized (p0 : L01Cur) (p1 : Int) (p2 : Int) : Option (Pic × L01Cur) :=
bnd (spec_l12Dots p0 (wrapK .i64 (p1 * p2))) fun q1 =>
some ((⟨p1, p2, q1.1⟩ : Pic), q1.2)
def spec_l01Once (p0 : L01Cur) (p1 : Int) : Option (Bool × L01Cur) :=
bnd (spec_l01Below p0 p1) fun q1 =>
some ((q1.1 == 0), q1.2)
def spec_l01In (p0 : Int) (p1 : Int) (p2 : Int) : Option Bool :=
bnd (
sel (decide (p0 ≥ p1)) (
some (decide (p0 ≤ p2))) (
some false)) fun v1 =>
some v1
def spec_l05ParRight (p0 : L01Cur) : Option (Par × L01Cur) :=
bnd (spec_l01Below p0 41) fun q1 =>
bnd (spec_l01Once q1.2 4) fun q2 =>
bnd (
bnd (spec_l01Below q2.2 3) fun q4 =>
sel (q4.1 == 0) (
some (true, false, q4.2.b_, q4.2.i_, q4.2.h_)) (
sel (q4.1 == 1) (
some (false, true, q4.2.b_, q4.2.i_, q4.2.h_)) (
some (false, false, q4.2.b_, q4.2.i_, q4.2.h_)))) fun v3 =>
some ((⟨q1.1, v3.1, v3.2.1, (!q2.1)⟩ : Par), (⟨v3.2.2.1, v3.2.2.2.1, v3.2.2.2.2⟩ : L01Cur))
def spec_l14Cond (p0 : L01Cur) : Option (Cond × L01Cur) :=
bnd (spec_l05ParRight p0) fun q1 =>
bnd (spec_l01Once q1.2 2) fun q2 =>
some ((⟨q2.1, q1.1.Qp, q1.1.Large, q1.1.Exact⟩ : Cond), q2.2)
def impl_within (p0 : Int) (p1 : Int) (p2 : Int) : Option Bool :=
bnd (
sel (decide (p0 ≥ p1)) (
some (decide (p0 ≤ p2))) (
some false)) fun v1 =>
some v1
def impl_PicOk (p0 : Pic) : Option Bool :=
bnd (
bnd (impl_within p0.Wide 1 256) fun q2 =>
sel q2 (
bnd (impl_within p0.High 1 256) fun q3 =>
sel q3 (
some ((p0.Dots.size : Int) == (wrapK .i64 (p0.Wide * p0.High)))) (
some false)) (
some false)) fun v1 =>
some v1
def impl_Pic_isSquare (p0 : Pic) (p1 : Int) (p2 : Int) : Option Bool :=
bnd (
req ((8 : Int) ≠ 0) <|
sel ((p1.tmod 8) == 0) (
req ((8 : Int) ≠ 0) <|
sel ((p2.tmod 8) == 0) (
bnd (impl_within p1 0 (wrapK .i64 (p0.Wide - 8))) fun q2 =>
sel q2 (
bnd (impl_within p2 0 (wrapK .i64 (p0.High - 8))) fun q3 =>
some q3) (
some false)) (
some false)) (
some false)) fun v1 =>
some v1
def impl_areIn_l2 (p0 : (List Int)) (p2 : Int) (p3 : Int) (v3 : Int) : Option (Lp Int (Ou Unit Bool)) :=
sel (decide (v3 < (p0.length : Int))) (
req (0 ≤ v3 ∧ v3 < p0.length) <|
bnd (impl_within (p0.getD v3.toNat 0) p2 p3) fun q7 =>
sel (!q7) (
some (.done (.ret false))) (
some (.go (wrapK .i64 (v3 + 1))))) (
some (.done (.out ())))
def impl_areIn (p0 : (List Int)) (p1 : Int) (p2 : Int) (p3 : Int) : Option Bool :=
bnd (loop (impl_areIn_l2 p0 p2 p3) 0) fun o8 => match o8 with
| .out v6 => (
some ((p0.length : Int) == p1))
| .ret r => some r
def impl_CondOk (p0 : Cond) : Option Bool :=
bnd (
bnd (impl_within p0.Qp 0 40) fun q2 =>
sel q2 (
sel p0.Large (
some (!p0.Exact)) (
some true)) (
some false)) fun v1 =>
some v1
def impl_Brought (p0 : Int) (p1 : Int) (p2 : Int) : Option Int :=
some (if (if p2 < p0 then p2 else p0) > p1 then (if p2 < p0 then p2 else p0) else p1)
def impl_Pic_dot (p0 : Pic) (p1 : Int) (p2 : Int) : Option Int :=
bnd (impl_Brought p2 0 (wrapK .i64 (p0.High - 1))) fun q1 =>
bnd (impl_Brought p1 0 (wrapK .i64 (p0.Wide - 1))) fun q2 =>
req (0 ≤ (wrapK .i64 ((wrapK .i64 (q1 * p0.Wide)) + q2)) ∧ (wrapK .i64 ((wrapK .i64 (q1 * p0.Wide)) + q2)) < p0.Dots.size) <|
some (wrapK .i64 ((btOf p0.Dots (wrapK .i64 ((wrapK .i64 (q1 * p0.Wide)) + q2)))))
def impl_EdgesOf_l2 (p0 : Pic) (p1 : Int) (p2 : Int) (v9 : (Int × (List Int) × (List Int))) : Option (Lp (Int × (List Int) × (List Int)) ((List Int) × (List Int))) :=
sel (decide (v9.1 < 8)) (
bnd (
bnd (
sel (decide (p2 > 0)) (
bnd (impl_Pic_dot p0 (wrapK .i64 (p1 + v9.1)) (wrapK .i64 (p2 - 1))) fun q18 =>
req ((v9.2.1.length + ([q18]).length) * 8 ≤ 140737488355328 ∧ v9.2.1.length + ([q18]).length ≤ maxLen) <|
some (v9.2.1 ++ ([q18]))) (
some v9.2.1)) fun v17 =>
sel (decide (p1 > 0)) (
bnd (impl_Pic_dot p0 (wrapK .i64 (p1 - 1)) (wrapK .i64 (p2 + v9.1))) fun q19 =>
req ((v9.2.2.length + ([q19]).length) * 8 ≤ 140737488355328 ∧ v9.2.2.length + ([q19]).length ≤ maxLen) <|
some (v17, (v9.2.2 ++ ([q19])))) (
some (v17, v9.2.2))) fun v16 =>
some (.go (wrapK .i64 (v9.1 + 1), v16.1, v16.2))) (
some (.done (v9.2.1, v9.2.2)))
def impl_EdgesOf (p0 : Pic) (p1 : Int) (p2 : Int) : Option (Edges × Bool) :=
bnd (
bnd (impl_PicOk p0) fun q2 =>
sel q2 (
bnd (impl_Pic_isSquare p0 p1 p2) fun q3 =>
some (!q3)) (
some true)) fun v1 =>
sel v1 (
some ((⟨[], [], 0⟩ : Edges), false)) (
bnd (loop (impl_EdgesOf_l2 p0 p1 p2) (0, [], [])) fun v15 =>
bnd (
bnd (
sel (decide (p1 > 0)) (
some (decide (p2 > 0))) (
some false)) fun v22 =>
sel v22 (
bnd (impl_Pic_dot p0 (wrapK .i64 (p1 - 1)) (wrapK .i64 (p2 - 1))) fun q23 =>
some q23) (
some (-1))) fun v21 =>
some ((⟨v15.1, v15.2, v21⟩ : Edges), true))
def impl_EdgesOk_l2 (p0 : Edges) (v4 : Int) : Option (Lp Int (Ou Unit Bool)) :=
sel (decide (v4 < (([p0.Above, p0.Left]).length : Int))) (
req (0 ≤ v4 ∧ v4 < ([p0.Above, p0.Left]).length) <|
req (v4.toNat < ([p0.Above, p0.Left]).length) <|
bnd (
sel (decide (((([p0.Above, p0.Left]).getD v4.toNat dLInti64).length : Int) > 0)) (
bnd (impl_areIn (([p0.Above, p0.Left]).getD v4.toNat dLInti64) 8 0 255) fun q10 =>
some (!q10)) (
some false)) fun v9 =>
sel v9 (
some (.done (.ret false))) (
some (.go (wrapK .i64 (v4 + 1))))) (
some (.done (.out ())))
def impl_EdgesOk (p0 : Edges) : Option Bool :=
bnd (loop (impl_EdgesOk_l2 p0) 0) fun o11 => match o11 with
| .out v8 => (
bnd (impl_within p0.Corner (-1) 255) fun q12 =>
some q12)
| .ret r => some r
def impl_sumOf_l2 (p0 : (List Int)) (v2 : (Int × Int)) : Option (Lp (Int × Int) Int) :=
sel (decide (v2.2 < (p0.length : Int))) (
req (0 ≤ v2.2 ∧ v2.2 < p0.length) <|
some (.go (wrapK .i64 (v2.1 + (p0.getD v2.2.toNat 0)), wrapK .i64 (v2.2 + 1)))) (
some (.done v2.1))
def impl_sumOf (p0 : (List Int)) : Option Int :=
bnd (loop (impl_sumOf_l2 p0) (0, 0)) fun v4 =>
some v4
def impl_orGrey (p0 : (List Int)) : Option (List Int) :=
sel ((p0.length : Int) == 0) (
some ([128, 128, 128, 128, 128, 128, 128, 128])) (
some p0)
def impl_GuessOf_l14 (p0 : Int) (v4 : Int) (q7 : (List Int)) (q8 : (List Int)) (v9 : Int) (v22 : (Int × (List Int))) (v39 : (Int × (List Int))) : Option (Lp (Int × (List Int)) (List Int)) :=
sel (decide (v39.1 < 8)) (
bnd (
sel (p0 == 0) (
req ((v39.2.length + ([v4]).length) * 8 ≤ 140737488355328 ∧ v39.2.length + ([v4]).length ≤ maxLen) <|
some (v39.2 ++ ([v4]))) (
sel (p0 == 1) (
req (0 ≤ v39.1 ∧ v39.1 < q7.length) <|
req ((v39.2.length + ([(q7.getD v39.1.toNat 0)]).length) * 8 ≤ 140737488355328 ∧ v39.2.length + ([(q7.getD v39.1.toNat 0)]).length ≤ maxLen) <|
some (v39.2 ++ ([(q7.getD v39.1.toNat 0)]))) (
sel (p0 == 2) (
req (0 ≤ v22.1 ∧ v22.1 < q8.length) <|
req ((v39.2.length + ([(q8.getD v22.1.toNat 0)]).length) * 8 ≤ 140737488355328 ∧ v39.2.length + ([(q8.getD v22.1.toNat 0)]).length ≤ maxLen) <|
some (v39.2 ++ ([(q8.getD v22.1.toNat 0)]))) (
req (0 ≤ v22.1 ∧ v22.1 < q8.length) <|
req (0 ≤ v39.1 ∧ v39.1 < q7.length) <|
bnd (impl_Brought (wrapK .i64 ((wrapK .i64 ((q8.getD v22.1.toNat 0) + (q7.getD v39.1.toNat 0))) - v9)) 0 255) fun q45 =>
req ((v39.2.length + ([q45]).length) * 8 ≤ 140737488355328 ∧ v39.2.length + ([q45]).length ≤ maxLen) <|
some (v39.2 ++ ([q45])))))) fun v44 =>
some (.go (wrapK .i64 (v39.1 + 1), v44))) (
some (.done v39.2))
def impl_GuessOf_l12 (p0 : Int) (v4 : Int) (q7 : (List Int)) (q8 : (List Int)) (v9 : Int) (v22 : (Int × (List Int))) : Option (Lp (Int × (List Int)) (List Int)) :=
sel (decide (v22.1 < 8)) (
bnd (loop (impl_GuessOf_l14 p0 v4 q7 q8 v9 v22) (0, v22.2)) fun v43 =>
some (.go (wrapK .i64 (v22.1 + 1), v43))) (
some (.done v22.2))
def impl_GuessOf (p0 : Int) (p1 : Edges) : Option (List Int) :=
bnd (
bnd (impl_EdgesOk p1) fun q2 =>
sel q2 (
bnd (impl_within p0 0 3) fun q3 =>
some (!q3)) (
some true)) fun v1 =>
sel v1 (
some ([] : List Int)) (
bnd (
sel (decide ((wrapK .i64 ((p1.Above.length : Int) + (p1.Left.length : Int))) > 0)) (
bnd (impl_sumOf p1.Above) fun q5 =>
bnd (impl_sumOf p1.Left) fun q6 =>
req ((2 : Int) ≠ 0) <|
req ((wrapK .i64 ((p1.Above.length : Int) + (p1.Left.length : Int))) ≠ 0) <|
some (wrapK .i64 ((wrapK .i64 ((wrapK .i64 (q5 + q6)) + (wrapK .i64 ((wrapK .i64 ((p1.Above.length : Int) + (p1.Left.length : Int))).tdiv 2)))).tdiv (wrapK .i64 ((p1.Above.length : Int) + (p1.Left.length : Int)))))) (
some 128)) fun v4 =>
bnd (impl_orGrey p1.Above) fun q7 =>
bnd (impl_orGrey p1.Left) fun q8 =>
bnd (
sel (decide (p1.Corner < 0)) (
some 128) (
some p1.Corner)) fun v9 =>
bnd (loop (impl_GuessOf_l12 p0 v4 q7 q8 v9) (0, ([] : List Int))) fun v35 =>
some v35)
def impl_figuresOf_l2 (v2 : (Int × Int)) : Option (Lp (Int × Int) Int) :=
sel (decide (v2.1 > 0)) (
req (0 ≤ (1 : Int)) <|
some (.go ((v2.1 / 2 ^ min (1 : Int).toNat (IntKind.bits .i64)), wrapK .i64 (v2.2 + 1)))) (
some (.done v2.2))
def impl_figuresOf (p0 : Int) : Option Int :=
bnd (loop (impl_figuresOf_l2) (p0, 0)) fun v4 =>
some v4
def impl_signs_l2 (v2 : (Int × Int × (List Int))) : Option (Lp (Int × Int × (List Int)) (List Int)) :=
sel (decide (v2.2.1 ≥ 0)) (
req (0 ≤ v2.2.1 ∧ v2.2.1 < v2.2.2.length) <|
req (v2.2.1.toNat < v2.2.2.length) <|
req (0 ≤ (1 : Int)) <|
some (.go ((v2.1 / 2 ^ min (1 : Int).toNat (IntKind.bits .i64)), wrapK .i64 (v2.2.1 - 1), (v2.2.2.set v2.2.1.toNat (wrapK .u8 (wrapK .i64 (48 + (IntKind.wrap .i64 (BitVec.ofInt (IntKind.bits .i64) v2.1 &&& BitVec.ofInt (IntKind.bits .i64) 1).toNat)))))))) (
some (.done v2.2.2))
def impl_signs (p0 : Int) (p1 : Int) : Option ByteArray :=
req (0 ≤ p1 ∧ p1 ≤ p1 ∧ p1 * 1 ≤ 281474976710656) <|
bnd (loop (impl_signs_l2) (p0, wrapK .i64 (p1 - 1), (List.replicate p1.toNat (0 : Int)))) fun v4 =>
some (strOfNums v4)
def impl_ue (p0 : Int) : Option ByteArray :=
bnd (impl_figuresOf (wrapK .i64 (p0 + 1))) fun q1 =>
bnd (impl_signs (wrapK .i64 (p0 + 1)) (wrapK .i64 ((wrapK .i64 (2 * q1)) - 1))) fun q2 =>
some q2
def impl_UeRow (p0 : Int) : Option (ByteArray × Bool) :=
bnd (impl_within p0 0 1000000) fun q1 =>
sel (!q1) (
some (⟨#[]⟩, false)) (
bnd (impl_ue p0) fun q2 =>
some (q2, true))
def impl_scanOrder_l14 (p0 : Int) (v16 : (Int × (List Int))) (v37 : (Int × (List Int))) : Option (Lp (Int × (List Int)) (List Int)) :=
sel (decide (v37.1 ≤ v16.1)) (
bnd (
bnd (
req ((2 : Int) ≠ 0) <|
sel ((v16.1.tmod 2) == 0) (
some (wrapK .i64 (v16.1 - v37.1))) (
some v37.1)) fun v44 =>
bnd (
sel (decide (v44 < p0)) (
some (decide ((wrapK .i64 (v16.1 - v44)) < p0))) (
some false)) fun v45 =>
sel v45 (
req ((v37.2.length + ([wrapK .i64 ((wrapK .i64 (v44 * p0)) + (wrapK .i64 (v16.1 - v44)))]).length) * 8 ≤ 140737488355328 ∧ v37.2.length + ([wrapK .i64 ((wrapK .i64 (v44 * p0)) + (wrapK .i64 (v16.1 - v44)))]).length ≤ maxLen) <|
some (v37.2 ++ ([wrapK .i64 ((wrapK .i64 (v44 * p0)) + (wrapK .i64 (v16.1 - v44)))]))) (
some v37.2)) fun v43 =>
some (.go (wrapK .i64 (v37.1 + 1), v43))) (
some (.done v37.2))
def impl_scanOrder_l12 (p0 : Int) (v16 : (Int × (List Int))) : Option (Lp (Int × (List Int)) (List Int)) :=
sel (decide (v16.1 ≤ (wrapK .i64 ((wrapK .i64 (2 * p0)) - 2)))) (
bnd (loop (impl_scanOrder_l14 p0 v16) (0, v16.2)) fun v42 =>
some (.go (wrapK .i64 (v16.1 + 1), v42))) (
some (.done v16.2))
def impl_scanOrder (p0 : Int) : Option (List Int) :=
bnd (loop (impl_scanOrder_l12 p0) (0, ([] : List Int))) fun v32 =>
some v32
def impl_SignOf (p0 : Int) (p1 : Int) : Option Int :=
bnd (
bnd (impl_within p0 0 7) fun q2 =>
sel q2 (
bnd (impl_within p1 0 7) fun q3 =>
some (!q3)) (
some true)) fun v1 =>
sel v1 (
some 0) (
req (0 ≤ (1 : Int)) <|
req (0 ≤ (2 : Int)) <|
req ((2 : Int) ≠ 0) <|
sel (((wrapK .i64 ((wrapK .i64 ((IntKind.wrap .i64 (BitVec.ofInt (IntKind.bits .i64) (IntKind.wrap .i64 (BitVec.ofInt (IntKind.bits .i64) p0 &&& BitVec.ofInt (IntKind.bits .i64) p1).toNat) &&& BitVec.ofInt (IntKind.bits .i64) 1).toNat) + (IntKind.wrap .i64 (BitVec.ofInt (IntKind.bits .i64) ((IntKind.wrap .i64 (BitVec.ofInt (IntKind.bits .i64) p0 &&& BitVec.ofInt (IntKind.bits .i64) p1).toNat) / 2 ^ min (1 : Int).toNat (IntKind.bits .i64)) &&& BitVec.ofInt (IntKind.bits .i64) 1).toNat))) + (IntKind.wrap .i64 (BitVec.ofInt (IntKind.bits .i64) ((IntKind.wrap .i64 (BitVec.ofInt (IntKind.bits .i64) p0 &&& BitVec.ofInt (IntKind.bits .i64) p1).toNat) / 2 ^ min (2 : Int).toNat (IntKind.bits .i64)) &&& BitVec.ofInt (IntKind.bits .i64) 1).toNat))).tmod 2) == 0) (
some 1) (
some (-1)))
def impl_sums_l86 (p0 : (List Int)) (v31 : (Int × (List Int))) (v72 : (Int × (List Int))) (v85 : (Int × (List Int))) : Option (Lp (Int × (List Int)) (List Int)) :=
sel (decide (v85.1 < 8)) (
req (0 ≤ (wrapK .i64 ((wrapK .i64 (8 * v31.1)) + v72.1)) ∧ (wrapK .i64 ((wrapK .i64 (8 * v31.1)) + v72.1)) < v85.2.length) <|
req ((wrapK .i64 ((wrapK .i64 (8 * v31.1)) + v72.1)).toNat < v85.2.length) <|
bnd (impl_SignOf v72.1 v85.1) fun q89 =>
req (0 ≤ (wrapK .i64 ((wrapK .i64 (8 * v31.1)) + v85.1)) ∧ (wrapK .i64 ((wrapK .i64 (8 * v31.1)) + v85.1)) < p0.length) <|
req (0 ≤ (wrapK .i64 ((wrapK .i64 (8 * v31.1)) + v72.1)) ∧ (wrapK .i64 ((wrapK .i64 (8 * v31.1)) + v72.1)) < v85.2.length) <|
req ((wrapK .i64 ((wrapK .i64 (8 * v31.1)) + v72.1)).toNat < v85.2.length) <|
some (.go (wrapK .i64 (v85.1 + 1), (v85.2.set ((wrapK .i64 ((wrapK .i64 (8 * v31.1)) + v72.1)).toNat) (wrapK .i64 ((v85.2.getD ((wrapK .i64 ((wrapK .i64 (8 * v31.1)) + v72.1)).toNat) 0) + (wrapK .i64 (q89 * (p0.getD (wrapK .i64 ((wrapK .i64 (8 * v31.1)) + v85.1)).toNat 0))))))))) (
some (.done v85.2))
def impl_sums_l84 (p0 : (List Int)) (v31 : (Int × (List Int))) (v72 : (Int × (List Int))) : Option (Lp (Int × (List Int)) (List Int)) :=
sel (decide (v72.1 < 8)) (
bnd (loop (impl_sums_l86 p0 v31 v72) (0, v72.2)) fun v88 =>
some (.go (wrapK .i64 (v72.1 + 1), v88))) (
some (.done v72.2))
def impl_sums_l72 (p0 : (List Int)) (v31 : (Int × (List Int))) : Option (Lp (Int × (List Int)) (List Int)) :=
sel (decide (v31.1 < 8)) (
bnd (loop (impl_sums_l84 p0 v31) (0, v31.2)) fun v82 =>
some (.go (wrapK .i64 (v31.1 + 1), v82))) (
some (.done v31.2))
def impl_sums_l172 (v62 : (List Int)) (v123 : (Int × (List Int))) (v164 : (Int × (List Int))) (v177 : (Int × (List Int))) : Option (Lp (Int × (List Int)) (List Int)) :=
sel (decide (v177.1 < 8)) (
req (0 ≤ (wrapK .i64 ((wrapK .i64 (8 * v123.1)) + v164.1)) ∧ (wrapK .i64 ((wrapK .i64 (8 * v123.1)) + v164.1)) < v177.2.length) <|
req ((wrapK .i64 ((wrapK .i64 (8 * v123.1)) + v164.1)).toNat < v177.2.length) <|
bnd (impl_SignOf v123.1 v177.1) fun q181 =>
req (0 ≤ (wrapK .i64 ((wrapK .i64 (8 * v177.1)) + v164.1)) ∧ (wrapK .i64 ((wrapK .i64 (8 * v177.1)) + v164.1)) < v62.length) <|
req ((wrapK .i64 ((wrapK .i64 (8 * v177.1)) + v164.1)).toNat < v62.length) <|
req (0 ≤ (wrapK .i64 ((wrapK .i64 (8 * v123.1)) + v164.1)) ∧ (wrapK .i64 ((wrapK .i64 (8 * v123.1)) + v164.1)) < v177.2.length) <|
req ((wrapK .i64 ((wrapK .i64 (8 * v123.1)) + v164.1)).toNat < v177.2.length) <|
some (.go (wrapK .i64 (v177.1 + 1), (v177.2.set ((wrapK .i64 ((wrapK .i64 (8 * v123.1)) + v164.1)).toNat) (wrapK .i64 ((v177.2.getD ((wrapK .i64 ((wrapK .i64 (8 * v123.1)) + v164.1)).toNat) 0) + (wrapK .i64 (q181 * (v62.getD ((wrapK .i64 ((wrapK .i64 (8 * v177.1)) + v164.1)).toNat) 0))))))))) (
some (.done v177.2))
def impl_sums_l170 (v62 : (List Int)) (v123 : (Int × (List Int))) (v164 : (Int × (List Int))) : Option (Lp (Int × (List Int)) (List Int)) :=
sel (decide (v164.1 < 8)) (
bnd (loop (impl_sums_l172 v62 v123 v164) (0, v164.2)) fun v180 =>
some (.go (wrapK .i64 (v164.1 + 1), v180))) (
some (.done v164.2))
def impl_sums_l158 (v62 : (List Int)) (v123 : (Int × (List Int))) : Option (Lp (Int × (List Int)) (List Int)) :=
sel (decide (v123.1 < 8)) (
bnd (loop (impl_sums_l170 v62 v123) (0, v123.2)) fun v174 =>
some (.go (wrapK .i64 (v123.1 + 1), v174))) (
some (.done v123.2))
def impl_sums (p0 : (List Int)) : Option (List Int) :=
req (0 ≤ (64 : Int) ∧ (64 : Int) ≤ (64 : Int) ∧ (64 : Int) * 8 ≤ 281474976710656) <|
bnd (loop (impl_sums_l72 p0) (0, (List.replicate (64 : Int).toNat (0 : Int)))) fun v62 =>
req (0 ≤ (64 : Int) ∧ (64 : Int) ≤ (64 : Int) ∧ (64 : Int) * 8 ≤ 281474976710656) <|
bnd (loop (impl_sums_l158 v62) (0, (List.replicate (64 : Int).toNat (0 : Int)))) fun v154 =>
some v154
def impl_StepOf (p0 : Int) : Option Int :=
bnd (impl_within p0 0 40) fun q1 =>
sel (!q1) (
some 0) (
req ((6 : Int) ≠ 0) <|
req (0 ≤ (p0.tmod 6) ∧ (p0.tmod 6) < ([10, 11, 13, 14, 16, 18]).length) <|
req ((p0.tmod 6).toNat < ([10, 11, 13, 14, 16, 18]).length) <|
req ((6 : Int) ≠ 0) <|
req (0 ≤ (wrapK .i64 (p0.tdiv 6))) <|
some (wrapK .i64 ((([10, 11, 13, 14, 16, 18]).getD ((p0.tmod 6).toNat) 0) * 2 ^ min (wrapK .i64 (p0.tdiv 6)).toNat (IntKind.bits .i64))))
def impl_quarter_l14 (p0 : Int) (v7 : (Int × (List Int))) (v16 : (Int × (List Int))) : Option (Lp (Int × (List Int)) (List Int)) :=
sel (decide (v16.1 < 4)) (
req ((2 : Int) ≠ 0) <|
req ((2 : Int) ≠ 0) <|
req ((v16.2.length + ([wrapK .i64 ((wrapK .i64 ((wrapK .i64 ((wrapK .i64 (v7.1 + (wrapK .i64 ((wrapK .i64 (p0.tdiv 2)) * 4)))) * 8)) + v16.1)) + (wrapK .i64 ((p0.tmod 2) * 4)))]).length) * 8 ≤ 140737488355328 ∧ v16.2.length + ([wrapK .i64 ((wrapK .i64 ((wrapK .i64 ((wrapK .i64 (v7.1 + (wrapK .i64 ((wrapK .i64 (p0.tdiv 2)) * 4)))) * 8)) + v16.1)) + (wrapK .i64 ((p0.tmod 2) * 4)))]).length ≤ maxLen) <|
some (.go (wrapK .i64 (v16.1 + 1), (v16.2 ++ ([wrapK .i64 ((wrapK .i64 ((wrapK .i64 ((wrapK .i64 (v7.1 + (wrapK .i64 ((wrapK .i64 (p0.tdiv 2)) * 4)))) * 8)) + v16.1)) + (wrapK .i64 ((p0.tmod 2) * 4)))]))))) (
some (.done v16.2))
def impl_quarter_l12 (p0 : Int) (v7 : (Int × (List Int))) : Option (Lp (Int × (List Int)) (List Int)) :=
sel (decide (v7.1 < 4)) (
bnd (loop (impl_quarter_l14 p0 v7) (0, v7.2)) fun v18 =>
some (.go (wrapK .i64 (v7.1 + 1), v18))) (
some (.done v7.2))
def impl_quarter (p0 : Int) : Option (List Int) :=
bnd (loop (impl_quarter_l12 p0) (0, ([] : List Int))) fun v14 =>
some v14
def impl_copyInts (p0 : (List Int)) : Option (List Int) :=
req ((([] : List Int).length + p0.length) * 8 ≤ 140737488355328 ∧ ([] : List Int).length + p0.length ≤ maxLen) <|
some (([] : List Int) ++ p0)
def impl_KindOf (p0 : Int) : Option Int :=
bnd (impl_within p0 0 15) fun q1 =>
sel (!q1) (
some (-1)) (
req ((4 : Int) ≠ 0) <|
req ((2 : Int) ≠ 0) <|
req ((4 : Int) ≠ 0) <|
req ((2 : Int) ≠ 0) <|
bnd (
sel (((wrapK .i64 (p0.tdiv 4)).tmod 2) == 0) (
some (((p0.tmod 4).tmod 2) == 0)) (
some false)) fun v2 =>
sel v2 (
some 0) (
bnd (
sel (((wrapK .i64 (p0.tdiv 4)).tmod 2) == 1) (
some (((p0.tmod 4).tmod 2) == 1)) (
some false)) fun v3 =>
sel v3 (
some 1) (
some 2)))
def impl_Pic_block_l14 (p0 : Pic) (p1 : Int) (p2 : Int) (v10 : (Int × (List Int))) (v23 : (Int × (List Int))) : Option (Lp (Int × (List Int)) (List Int)) :=
sel (decide (v23.1 < 8)) (
bnd (impl_Pic_dot p0 (wrapK .i64 (p1 + v23.1)) (wrapK .i64 (p2 + v10.1))) fun q27 =>
req ((v23.2.length + ([q27]).length) * 8 ≤ 140737488355328 ∧ v23.2.length + ([q27]).length ≤ maxLen) <|
some (.go (wrapK .i64 (v23.1 + 1), (v23.2 ++ ([q27]))))) (
some (.done v23.2))
def impl_Pic_block_l12 (p0 : Pic) (p1 : Int) (p2 : Int) (v10 : (Int × (List Int))) : Option (Lp (Int × (List Int)) (List Int)) :=
sel (decide (v10.1 < 8)) (
bnd (loop (impl_Pic_block_l14 p0 p1 p2 v10) (0, v10.2)) fun v26 =>
some (.go (wrapK .i64 (v10.1 + 1), v26))) (
some (.done v10.2))
def impl_Pic_block (p0 : Pic) (p1 : Int) (p2 : Int) : Option (List Int) :=
req (0 ≤ (0 : Int) ∧ (0 : Int) ≤ (64 : Int) ∧ (64 : Int) * 8 ≤ 281474976710656) <|
bnd (loop (impl_Pic_block_l12 p0 p1 p2) (0, (List.replicate (0 : Int).toNat (0 : Int)))) fun v20 =>
some v20
def impl_Pic_holds (p0 : Pic) (p1 : Rect) : Option Bool :=
bnd (
bnd (impl_within p1.Wide 1 p0.Wide) fun q2 =>
sel q2 (
bnd (impl_within p1.High 1 p0.High) fun q3 =>
sel q3 (
bnd (impl_within p1.Left 0 (wrapK .i64 (p0.Wide - p1.Wide))) fun q4 =>
sel q4 (
bnd (impl_within p1.Top 0 (wrapK .i64 (p0.High - p1.High))) fun q5 =>
some q5) (
some false)) (
some false)) (
some false)) fun v1 =>
some v1
def impl_FoldSe (p0 : Int) : Option (Int × Bool) :=
bnd (impl_within p0 (-500000) 500000) fun q1 =>
sel (!q1) (
some (0, false)) (
sel (decide (p0 > 0)) (
some (wrapK .i64 ((wrapK .i64 (2 * p0)) - 1), true)) (
some (wrapK .i64 ((-2) * p0), true)))
def impl_SeRow (p0 : Int) : Option (ByteArray × Bool) :=
bnd (impl_FoldSe p0) fun q1 =>
sel (!q1.2) (
some (⟨#[]⟩, false)) (
bnd (impl_UeRow q1.1) fun q2 =>
some (q2.1, q2.2))
def impl_areLevels (p0 : (List Int)) : Option Bool :=
bnd (impl_areIn p0 64 (-5000) 5000) fun q1 =>
some q1
def impl_SquareOk (p0 : Square) : Option Bool :=
sel (p0.Kind == 0) (
bnd (
sel (p0.Mode == 0) (
sel (p0.Dx == 0) (
sel (p0.Dy == 0) (
some ((p0.Levels.length : Int) == 0)) (
some false)) (
some false)) (
some false)) fun v1 =>
some v1) (
sel (p0.Kind == 1) (
bnd (
sel (p0.Mode == 0) (
bnd (impl_within p0.Dx (-16) 16) fun q3 =>
sel q3 (
bnd (impl_within p0.Dy (-16) 16) fun q4 =>
sel q4 (
bnd (impl_areLevels p0.Levels) fun q5 =>
some q5) (
some false)) (
some false)) (
some false)) fun v2 =>
some v2) (
sel (p0.Kind == 2) (
bnd (
bnd (impl_within p0.Mode 0 3) fun q7 =>
sel q7 (
sel (p0.Dx == 0) (
sel (p0.Dy == 0) (
bnd (impl_areLevels p0.Levels) fun q8 =>
some q8) (
some false)) (
some false)) (
some false)) fun v6 =>
some v6) (
some false)))
def impl_Square_let (p0 : Square) (p1 : Cond) : Option Bool :=
bnd (
sel p1.Key (
some (p0.Kind == 2)) (
some true)) fun v1 =>
some v1
def impl_Unscanned_l2 (p1 : (List Int)) (q2 : (List Int)) (v4 : (Int × (List Int))) : Option (Lp (Int × (List Int)) (List Int)) :=
sel (decide (v4.1 < (q2.length : Int))) (
req (0 ≤ v4.1 ∧ v4.1 < q2.length) <|
req (v4.1.toNat < q2.length) <|
req (0 ≤ v4.1 ∧ v4.1 < p1.length) <|
req (0 ≤ (q2.getD v4.1.toNat 0) ∧ (q2.getD v4.1.toNat 0) < v4.2.length) <|
req ((q2.getD v4.1.toNat 0).toNat < v4.2.length) <|
some (.go (wrapK .i64 (v4.1 + 1), (v4.2.set ((q2.getD v4.1.toNat 0).toNat) (p1.getD v4.1.toNat 0))))) (
some (.done v4.2))
def impl_Unscanned (p0 : Int) (p1 : (List Int)) : Option ((List Int) × Bool) :=
bnd (
sel (p0 != 4) (
sel (p0 != 8) (
some true) (
some ((p1.length : Int) != (wrapK .i64 (p0 * p0))))) (
some ((p1.length : Int) != (wrapK .i64 (p0 * p0))))) fun v1 =>
sel v1 (
some (([] : List Int), false)) (
req (0 ≤ (p1.length : Int) ∧ (p1.length : Int) ≤ (p1.length : Int) ∧ (p1.length : Int) * 8 ≤ 281474976710656) <|
bnd (impl_scanOrder p0) fun q2 =>
bnd (loop (impl_Unscanned_l2 p1 q2) (0, (List.replicate (p1.length : Int).toNat (0 : Int)))) fun v6 =>
some (v6, true))
def impl_LargeBack (p0 : Int) (p1 : Int) : Option Int :=
bnd (impl_within p0 (-5000) 5000) fun q1 =>
sel (!q1) (
some 0) (
bnd (impl_StepOf p1) fun q2 =>
some (wrapK .i64 (p0 * q2)))
def impl_floor (p0 : Int) (p1 : Int) : Option Int :=
req (p1 ≠ 0) <|
bnd (
req (p1 ≠ 0) <|
sel (decide ((p0.tmod p1) < 0)) (
some (wrapK .i64 ((wrapK .i64 (p0.tdiv p1)) - 1))) (
some (wrapK .i64 (p0.tdiv p1)))) fun v1 =>
some v1
def impl_settled_l2 (p0 : (List Int)) (v3 : (Int × (List Int))) : Option (Lp (Int × (List Int)) (List Int)) :=
sel (decide (v3.1 < (p0.length : Int))) (
req (0 ≤ v3.1 ∧ v3.1 < v3.2.length) <|
req (v3.1.toNat < v3.2.length) <|
bnd (impl_floor (wrapK .i64 ((v3.2.getD v3.1.toNat 0) + 32)) 64) fun q7 =>
req (0 ≤ v3.1 ∧ v3.1 < v3.2.length) <|
req (v3.1.toNat < v3.2.length) <|
some (.go (wrapK .i64 (v3.1 + 1), (v3.2.set v3.1.toNat q7)))) (
some (.done v3.2))
def impl_settled (p0 : (List Int)) : Option ((List Int) × (List Int)) :=
bnd (loop (impl_settled_l2 p0) (0, p0)) fun v6 =>
some (v6, v6)
def impl_EightBack (p0 : (List Int)) : Option (List Int) :=
bnd (impl_areIn p0 64 (-10000000) 10000000) fun q1 =>
sel (!q1) (
some ([] : List Int)) (
bnd (impl_sums p0) fun q2 =>
bnd (impl_settled q2) fun q3 =>
some q3.2)
def impl_ScaleOf (p0 : Int) (p1 : Int) : Option Int :=
bnd (
bnd (impl_within p0 0 40) fun q2 =>
sel q2 (
bnd (impl_within p1 0 15) fun q3 =>
some (!q3)) (
some true)) fun v1 =>
sel v1 (
some 0) (
req ((6 : Int) ≠ 0) <|
bnd (impl_KindOf p1) fun q4 =>
req (0 ≤ (p0.tmod 6) ∧ (p0.tmod 6) < 6) <|
req (0 ≤ q4 ∧ q4 < 3) <|
req (((0 + (p0.tmod 6).toNat * 3) + q4.toNat * 1) < ([10, 16, 13, 11, 18, 14, 13, 20, 16, 14, 23, 18, 16, 25, 20, 18, 29, 23] : List Int).length) <|
req ((6 : Int) ≠ 0) <|
req (0 ≤ (wrapK .i64 (p0.tdiv 6))) <|
some (wrapK .i64 ((([10, 16, 13, 11, 18, 14, 13, 20, 16, 14, 23, 18, 16, 25, 20, 18, 29, 23] : List Int).getD ((0 + (p0.tmod 6).toNat * 3) + q4.toNat * 1) 0) * 2 ^ min (wrapK .i64 (p0.tdiv 6)).toNat (IntKind.bits .i64))))
def impl_SmallBack (p0 : Int) (p1 : Int) (p2 : Int) : Option Int :=
bnd (impl_within p0 (-5000) 5000) fun q1 =>
sel (!q1) (
some 0) (
bnd (impl_ScaleOf p1 p2) fun q2 =>
some (wrapK .i64 (p0 * q2)))
def impl_FourBack_1 (p0 : Int) (p1 : Int) (p2 : Int) (p3 : Int) : Option (Int × Int × Int × Int) :=
bnd (impl_floor p1 2) fun q1 =>
bnd (impl_floor p3 2) fun q2 =>
some (wrapK .i64 ((wrapK .i64 (p0 + p2)) + (wrapK .i64 (p1 + q2))), wrapK .i64 ((wrapK .i64 (p0 - p2)) + (wrapK .i64 (q1 - p3))), wrapK .i64 ((wrapK .i64 (p0 - p2)) - (wrapK .i64 (q1 - p3))), wrapK .i64 ((wrapK .i64 (p0 + p2)) - (wrapK .i64 (p1 + q2))))
def impl_turned_impl_FourBack_1_l2 (v4 : (Int × (List Int))) : Option (Lp (Int × (List Int)) (List Int)) :=
sel (decide (v4.1 < 16)) (
req (0 ≤ v4.1 ∧ v4.1 < v4.2.length) <|
req (v4.1.toNat < v4.2.length) <|
req (0 ≤ (wrapK .i64 (v4.1 + 1)) ∧ (wrapK .i64 (v4.1 + 1)) < v4.2.length) <|
req ((wrapK .i64 (v4.1 + 1)).toNat < v4.2.length) <|
req (0 ≤ (wrapK .i64 (v4.1 + 2)) ∧ (wrapK .i64 (v4.1 + 2)) < v4.2.length) <|
req ((wrapK .i64 (v4.1 + 2)).toNat < v4.2.length) <|
req (0 ≤ (wrapK .i64 (v4.1 + 3)) ∧ (wrapK .i64 (v4.1 + 3)) < v4.2.length) <|
req ((wrapK .i64 (v4.1 + 3)).toNat < v4.2.length) <|
bnd (impl_FourBack_1 (v4.2.getD v4.1.toNat 0) (v4.2.getD ((wrapK .i64 (v4.1 + 1)).toNat) 0) (v4.2.getD ((wrapK .i64 (v4.1 + 2)).toNat) 0) (v4.2.getD ((wrapK .i64 (v4.1 + 3)).toNat) 0)) fun q8 =>
req (0 ≤ v4.1 ∧ v4.1 ≤ (wrapK .i64 (v4.1 + 4)) ∧ (wrapK .i64 (v4.1 + 4)) ≤ (v4.2.length : Int)) <|
req ((v4.1.toNat + ((wrapK .i64 (v4.1 + 4)).toNat - v4.1.toNat) ≤ v4.2.length ∧ ([q8.1, q8.2.1, q8.2.2.1, q8.2.2.2]).length ≤ ((wrapK .i64 (v4.1 + 4)).toNat - v4.1.toNat))) <|
some (.go (wrapK .i64 (v4.1 + 4), (over v4.2 v4.1.toNat ([q8.1, q8.2.1, q8.2.2.1, q8.2.2.2]))))) (
some (.done v4.2))
def impl_turned_impl_FourBack_1_l16 (v17 : (Int × (List Int))) (q26 : (Int × Int × Int × Int)) (v28 : (Int × (List Int))) : Option (Lp (Int × (List Int)) (List Int)) :=
sel (decide (v28.1 < 4)) (
req (0 ≤ v28.1 ∧ v28.1 < ([q26.1, q26.2.1, q26.2.2.1, q26.2.2.2] : List Int).length) <|
req (0 ≤ (wrapK .i64 (v17.1 + (wrapK .i64 (4 * v28.1)))) ∧ (wrapK .i64 (v17.1 + (wrapK .i64 (4 * v28.1)))) < v28.2.length) <|
req ((wrapK .i64 (v17.1 + (wrapK .i64 (4 * v28.1)))).toNat < v28.2.length) <|
some (.go (wrapK .i64 (v28.1 + 1), (v28.2.set ((wrapK .i64 (v17.1 + (wrapK .i64 (4 * v28.1)))).toNat) (([q26.1, q26.2.1, q26.2.2.1, q26.2.2.2] : List Int).getD v28.1.toNat 0))))) (
some (.done v28.2))
def impl_turned_impl_FourBack_1_l14 (v17 : (Int × (List Int))) : Option (Lp (Int × (List Int)) (List Int)) :=
sel (decide (v17.1 < 4)) (
req (0 ≤ v17.1 ∧ v17.1 < v17.2.length) <|
req (v17.1.toNat < v17.2.length) <|
req (0 ≤ (wrapK .i64 (v17.1 + 4)) ∧ (wrapK .i64 (v17.1 + 4)) < v17.2.length) <|
req ((wrapK .i64 (v17.1 + 4)).toNat < v17.2.length) <|
req (0 ≤ (wrapK .i64 (v17.1 + 8)) ∧ (wrapK .i64 (v17.1 + 8)) < v17.2.length) <|
req ((wrapK .i64 (v17.1 + 8)).toNat < v17.2.length) <|
req (0 ≤ (wrapK .i64 (v17.1 + 12)) ∧ (wrapK .i64 (v17.1 + 12)) < v17.2.length) <|
req ((wrapK .i64 (v17.1 + 12)).toNat < v17.2.length) <|
bnd (impl_FourBack_1 (v17.2.getD v17.1.toNat 0) (v17.2.getD ((wrapK .i64 (v17.1 + 4)).toNat) 0) (v17.2.getD ((wrapK .i64 (v17.1 + 8)).toNat) 0) (v17.2.getD ((wrapK .i64 (v17.1 + 12)).toNat) 0)) fun q26 =>
bnd (loop (impl_turned_impl_FourBack_1_l16 v17 q26) (0, v17.2)) fun v30 =>
some (.go (wrapK .i64 (v17.1 + 1), v30))) (
some (.done v17.2))
def impl_turned_impl_FourBack_1 (p0 : (List Int)) : Option (List Int) :=
bnd (impl_copyInts p0) fun q1 =>
bnd (loop (impl_turned_impl_FourBack_1_l2) (0, q1)) fun v7 =>
bnd (loop (impl_turned_impl_FourBack_1_l14) (0, v7)) fun v25 =>
some v25
def impl_FourBack (p0 : (List Int)) : Option (List Int) :=
bnd (impl_areIn p0 16 (-10000000) 10000000) fun q1 =>
sel (!q1) (
some ([] : List Int)) (
bnd (impl_turned_impl_FourBack_1 p0) fun q2 =>
bnd (impl_settled q2) fun q3 =>
some q3.2)
def impl_LevelsBack_l4 (p1 : Cond) (q5 : ((List Int) × Bool)) (v8 : (Int × (List Int))) : Option (Lp (Int × (List Int)) (List Int)) :=
sel (decide (v8.1 < (q5.1.length : Int))) (
req (0 ≤ v8.1 ∧ v8.1 < v8.2.length) <|
req (v8.1.toNat < v8.2.length) <|
bnd (impl_LargeBack (v8.2.getD v8.1.toNat 0) p1.Qp) fun q12 =>
req (0 ≤ v8.1 ∧ v8.1 < v8.2.length) <|
req (v8.1.toNat < v8.2.length) <|
some (.go (wrapK .i64 (v8.1 + 1), (v8.2.set v8.1.toNat q12)))) (
some (.done v8.2))
def impl_LevelsBack_l41 (p1 : Cond) (q51 : ((List Int) × Bool)) (v54 : (Int × (List Int))) : Option (Lp (Int × (List Int)) (List Int)) :=
sel (decide (v54.1 < (q51.1.length : Int))) (
req (0 ≤ v54.1 ∧ v54.1 < v54.2.length) <|
req (v54.1.toNat < v54.2.length) <|
bnd (impl_SmallBack (v54.2.getD v54.1.toNat 0) p1.Qp v54.1) fun q58 =>
req (0 ≤ v54.1 ∧ v54.1 < v54.2.length) <|
req (v54.1.toNat < v54.2.length) <|
some (.go (wrapK .i64 (v54.1 + 1), (v54.2.set v54.1.toNat q58)))) (
some (.done v54.2))
def impl_LevelsBack_l42 (q60 : (List Int)) (q61 : (List Int)) (v63 : (Int × (List Int))) : Option (Lp (Int × (List Int)) (List Int)) :=
sel (decide (v63.1 < (q61.length : Int))) (
req (0 ≤ v63.1 ∧ v63.1 < q61.length) <|
req (v63.1.toNat < q61.length) <|
req (0 ≤ v63.1 ∧ v63.1 < q60.length) <|
req (v63.1.toNat < q60.length) <|
req (0 ≤ (q61.getD v63.1.toNat 0) ∧ (q61.getD v63.1.toNat 0) < v63.2.length) <|
req ((q61.getD v63.1.toNat 0).toNat < v63.2.length) <|
some (.go (wrapK .i64 (v63.1 + 1), (v63.2.set ((q61.getD v63.1.toNat 0).toNat) (q60.getD v63.1.toNat 0))))) (
some (.done v63.2))
def impl_LevelsBack_l36 (p0 : (List Int)) (p1 : Cond) (v32 : (Int × (List Int))) : Option (Lp (Int × (List Int)) (List Int)) :=
sel (decide (v32.1 < 4)) (
req (0 ≤ (wrapK .i64 (16 * v32.1)) ∧ (wrapK .i64 (16 * v32.1)) ≤ (wrapK .i64 ((wrapK .i64 (16 * v32.1)) + 16)) ∧ (wrapK .i64 ((wrapK .i64 (16 * v32.1)) + 16)) ≤ (p0.length : Int)) <|
bnd (impl_Unscanned 4 ((p0.drop (wrapK .i64 (16 * v32.1)).toNat).take ((wrapK .i64 ((wrapK .i64 (16 * v32.1)) + 16)).toNat - (wrapK .i64 (16 * v32.1)).toNat))) fun q51 =>
bnd (loop (impl_LevelsBack_l41 p1 q51) (0, q51.1)) fun v57 =>
bnd (impl_FourBack v57) fun q60 =>
bnd (impl_quarter v32.1) fun q61 =>
bnd (loop (impl_LevelsBack_l42 q60 q61) (0, v32.2)) fun v65 =>
some (.go (wrapK .i64 (v32.1 + 1), v65))) (
some (.done v32.2))
def impl_LevelsBack (p0 : (List Int)) (p1 : Cond) : Option ((List Int) × Bool) :=
bnd (
bnd (impl_areLevels p0) fun q2 =>
sel q2 (
bnd (impl_CondOk p1) fun q3 =>
some (!q3)) (
some true)) fun v1 =>
sel v1 (
some (([] : List Int), false)) (
sel p1.Exact (
bnd (impl_Unscanned 8 p0) fun q4 =>
some (q4.1, q4.2)) (
sel p1.Large (
bnd (impl_Unscanned 8 p0) fun q5 =>
bnd (loop (impl_LevelsBack_l4 p1 q5) (0, q5.1)) fun v11 =>
bnd (impl_EightBack v11) fun q14 =>
some (q14, true)) (
req (0 ≤ (64 : Int) ∧ (64 : Int) ≤ (64 : Int) ∧ (64 : Int) * 8 ≤ 281474976710656) <|
bnd (loop (impl_LevelsBack_l36 p0 p1) (0, (List.replicate (64 : Int).toNat (0 : Int)))) fun v50 =>
some (v50, true))))
def impl_Joined_l2 (p0 : (List Int)) (p1 : (List Int)) (v6 : (Int × (List Int))) : Option (Lp (Int × (List Int)) (List Int)) :=
sel (decide (v6.1 < (p0.length : Int))) (
req (0 ≤ v6.1 ∧ v6.1 < p0.length) <|
req (0 ≤ v6.1 ∧ v6.1 < p1.length) <|
bnd (impl_Brought (wrapK .i64 ((p0.getD v6.1.toNat 0) + (p1.getD v6.1.toNat 0))) 0 255) fun q10 =>
req ((v6.2.length + ([q10]).length) * 8 ≤ 140737488355328 ∧ v6.2.length + ([q10]).length ≤ maxLen) <|
some (.go (wrapK .i64 (v6.1 + 1), (v6.2 ++ ([q10]))))) (
some (.done v6.2))
def impl_Joined (p0 : (List Int)) (p1 : (List Int)) : Option (List Int) :=
bnd (
bnd (impl_areIn p0 64 0 255) fun q2 =>
sel q2 (
bnd (impl_areIn p1 64 (-10000000) 10000000) fun q3 =>
some (!q3)) (
some true)) fun v1 =>
sel v1 (
some ([] : List Int)) (
bnd (loop (impl_Joined_l2 p0 p1) (0, ([] : List Int))) fun v9 =>
some v9)
def impl_SquareDots (p0 : Pic) (p1 : Pic) (p2 : Int) (p3 : Int) (p4 : Cond) (p5 : Int) (p6 : Int) (p7 : Square) : Option ((List Int) × Bool) :=
bnd (
bnd (impl_PicOk p0) fun q2 =>
sel q2 (
bnd (impl_Pic_isSquare p0 p5 p6) fun q3 =>
sel q3 (
bnd (impl_within p2 0 256) fun q4 =>
sel q4 (
bnd (impl_within p3 0 256) fun q5 =>
sel q5 (
bnd (impl_SquareOk p7) fun q6 =>
sel q6 (
bnd (impl_CondOk p4) fun q7 =>
sel q7 (
bnd (impl_Square_let p7 p4) fun q8 =>
sel q8 (
sel (p7.Kind != 2) (
bnd (impl_PicOk p1) fun q9 =>
some (!q9)) (
some false)) (
some true)) (
some true)) (
some true)) (
some true)) (
some true)) (
some true)) (
some true)) fun v1 =>
sel v1 (
some (([] : List Int), false)) (
sel (p7.Kind == 0) (
bnd (impl_Pic_block p1 (wrapK .i64 (p2 + p5)) (wrapK .i64 (p3 + p6))) fun q10 =>
some (q10, true)) (
bnd (impl_LevelsBack p7.Levels p4) fun q11 =>
sel (p7.Kind == 1) (
bnd (impl_Pic_block p1 (wrapK .i64 ((wrapK .i64 (p2 + p5)) + p7.Dx)) (wrapK .i64 ((wrapK .i64 (p3 + p6)) + p7.Dy))) fun q12 =>
bnd (impl_Joined q12 q11.1) fun q13 =>
some (q13, true)) (
bnd (impl_EdgesOf p0 p5 p6) fun q14 =>
bnd (impl_GuessOf p7.Mode q14.1) fun q15 =>
bnd (impl_Joined q15 q11.1) fun q16 =>
some (q16, true))))
def impl_isTile (p0 : Int) : Option Bool :=
bnd (
req ((8 : Int) ≠ 0) <|
sel ((p0.tmod 8) == 0) (
bnd (impl_within p0 8 64) fun q2 =>
some q2) (
some false)) fun v1 =>
some v1
def impl_Grey_l2 (p0 : Int) (p1 : Int) (v5 : (Int × (List Int))) : Option (Lp (Int × (List Int)) (List Int)) :=
sel (decide (v5.1 < ((List.replicate (wrapK .i64 (p0 * p1)).toNat (0 : Int)).length : Int))) (
req (0 ≤ v5.1 ∧ v5.1 < v5.2.length) <|
req (v5.1.toNat < v5.2.length) <|
some (.go (wrapK .i64 (v5.1 + 1), (v5.2.set v5.1.toNat 128)))) (
some (.done v5.2))
def impl_Grey (p0 : Int) (p1 : Int) : Option Pic :=
bnd (
bnd (impl_within p0 1 256) fun q2 =>
sel q2 (
bnd (impl_within p1 1 256) fun q3 =>
some (!q3)) (
some true)) fun v1 =>
sel v1 (
some (⟨0, 0, ⟨#[]⟩⟩ : Pic)) (
req (0 ≤ (wrapK .i64 (p0 * p1)) ∧ (wrapK .i64 (p0 * p1)) ≤ (wrapK .i64 (p0 * p1)) ∧ (wrapK .i64 (p0 * p1)) * 1 ≤ 281474976710656) <|
bnd (loop (impl_Grey_l2 p0 p1) (0, (List.replicate (wrapK .i64 (p0 * p1)).toNat (0 : Int)))) fun v7 =>
some (⟨p0, p1, (strOfNums v7)⟩ : Pic))
def impl_dots (p0 : Pic) : Option (List Int) :=
req (p0.Dots.size ≤ maxLen) <|
some (numsOf p0.Dots)
def impl_put_l2 (p0 : Pic) (p1 : Int) (p2 : Int) (p3 : (List Int)) (v3 : (Int × (List Int))) : Option (Lp (Int × (List Int)) (List Int)) :=
sel (decide (v3.1 < (p3.length : Int))) (
req (0 ≤ v3.1 ∧ v3.1 < p3.length) <|
req ((8 : Int) ≠ 0) <|
req ((8 : Int) ≠ 0) <|
req (0 ≤ (wrapK .i64 ((wrapK .i64 ((wrapK .i64 ((wrapK .i64 (p2 + (wrapK .i64 (v3.1.tdiv 8)))) * p0.Wide)) + p1)) + (v3.1.tmod 8))) ∧ (wrapK .i64 ((wrapK .i64 ((wrapK .i64 ((wrapK .i64 (p2 + (wrapK .i64 (v3.1.tdiv 8)))) * p0.Wide)) + p1)) + (v3.1.tmod 8))) < v3.2.length) <|
req ((wrapK .i64 ((wrapK .i64 ((wrapK .i64 ((wrapK .i64 (p2 + (wrapK .i64 (v3.1.tdiv 8)))) * p0.Wide)) + p1)) + (v3.1.tmod 8))).toNat < v3.2.length) <|
some (.go (wrapK .i64 (v3.1 + 1), (v3.2.set ((wrapK .i64 ((wrapK .i64 ((wrapK .i64 ((wrapK .i64 (p2 + (wrapK .i64 (v3.1.tdiv 8)))) * p0.Wide)) + p1)) + (v3.1.tmod 8))).toNat) (wrapK .u8 ((p3.getD v3.1.toNat 0))))))) (
some (.done v3.2))
def impl_put (p0 : Pic) (p1 : Int) (p2 : Int) (p3 : (List Int)) : Option Pic :=
bnd (impl_dots p0) fun q1 =>
bnd (loop (impl_put_l2 p0 p1 p2 p3) (0, q1)) fun v5 =>
some (⟨p0.Wide, p0.High, (strOfNums v5)⟩ : Pic)
def impl_runs_l2 (p0 : (List Int)) (v3 : (Int × Int)) : Option (Lp (Int × Int) Int) :=
sel (decide (v3.2 < (p0.length : Int))) (
bnd (
req (0 ≤ v3.2 ∧ v3.2 < p0.length) <|
sel ((p0.getD v3.2.toNat 0) != 0) (
some (wrapK .i64 (v3.1 + 1))) (
some v3.1)) fun v7 =>
some (.go (v7, wrapK .i64 (v3.2 + 1)))) (
some (.done v3.1))
def impl_runs_l4 (p0 : (List Int)) (v15 : (Int × Int × (List Int))) : Option (Lp (Int × Int × (List Int)) (List Int)) :=
sel (decide (v15.2.1 < (p0.length : Int))) (
bnd (
req (0 ≤ v15.2.1 ∧ v15.2.1 < p0.length) <|
sel ((p0.getD v15.2.1.toNat 0) == 0) (
some (wrapK .i64 (v15.1 + 1), v15.2.2)) (
bnd (impl_FoldSe (p0.getD v15.2.1.toNat 0)) fun q23 =>
bnd (impl_ue v15.1) fun q24 =>
req ((v15.2.2.length + (numsOf q24).length) * 1 ≤ 140737488355328 ∧ v15.2.2.length + (numsOf q24).length ≤ maxLen) <|
bnd (impl_ue q23.1) fun q25 =>
req (((v15.2.2 ++ (numsOf q24)).length + (numsOf q25).length) * 1 ≤ 140737488355328 ∧ (v15.2.2 ++ (numsOf q24)).length + (numsOf q25).length ≤ maxLen) <|
some (0, ((v15.2.2 ++ (numsOf q24)) ++ (numsOf q25))))) fun v22 =>
some (.go (v22.1, wrapK .i64 (v15.2.1 + 1), v22.2))) (
some (.done v15.2.2))
def impl_runs (p0 : (List Int)) : Option (List Int) :=
bnd (loop (impl_runs_l2 p0) (0, 0)) fun v6 =>
bnd (impl_ue v6) fun q9 =>
req ((([] : List Int).length + (numsOf q9).length) * 1 ≤ 140737488355328 ∧ ([] : List Int).length + (numsOf q9).length ≤ maxLen) <|
bnd (loop (impl_runs_l4 p0) (0, 0, (([] : List Int) ++ (numsOf q9)))) fun v21 =>
some v21
def impl_levelsRow_l2 (p0 : (List Int)) (v5 : (Int × (List Int))) : Option (Lp (Int × (List Int)) (List Int)) :=
sel (decide (v5.1 < 4)) (
req (0 ≤ (wrapK .i64 (16 * v5.1)) ∧ (wrapK .i64 (16 * v5.1)) ≤ (wrapK .i64 ((wrapK .i64 (16 * v5.1)) + 16)) ∧ (wrapK .i64 ((wrapK .i64 (16 * v5.1)) + 16)) ≤ (p0.length : Int)) <|
bnd (impl_runs ((p0.drop (wrapK .i64 (16 * v5.1)).toNat).take ((wrapK .i64 ((wrapK .i64 (16 * v5.1)) + 16)).toNat - (wrapK .i64 (16 * v5.1)).toNat))) fun q9 =>
req ((v5.2.length + q9.length) * 1 ≤ 140737488355328 ∧ v5.2.length + q9.length ≤ maxLen) <|
some (.go (wrapK .i64 (v5.1 + 1), (v5.2 ++ q9)))) (
some (.done v5.2))
def impl_levelsRow (p0 : (List Int)) (p1 : Cond) : Option (List Int) :=
bnd (
sel p1.Large (
some true) (
some p1.Exact)) fun v1 =>
sel v1 (
bnd (impl_runs p0) fun q2 =>
some q2) (
bnd (loop (impl_levelsRow_l2 p0) (0, ([] : List Int))) fun v8 =>
some v8)
def impl_SquareRow (p0 : Square) (p1 : Cond) : Option (ByteArray × Bool) :=
bnd (
bnd (impl_SquareOk p0) fun q2 =>
sel q2 (
bnd (impl_CondOk p1) fun q3 =>
sel q3 (
bnd (impl_Square_let p0 p1) fun q4 =>
some (!q4)) (
some true)) (
some true)) fun v1 =>
sel v1 (
some (⟨#[]⟩, false)) (
bnd (
sel (!p1.Key) (
bnd (impl_ue p0.Kind) fun q6 =>
req ((([] : List Int).length + (numsOf q6).length) * 1 ≤ 140737488355328 ∧ ([] : List Int).length + (numsOf q6).length ≤ maxLen) <|
some (([] : List Int) ++ (numsOf q6))) (
some ([] : List Int))) fun v5 =>
bnd (
sel (p0.Kind == 1) (
bnd (impl_SeRow p0.Dx) fun q8 =>
bnd (impl_SeRow p0.Dy) fun q9 =>
req ((v5.length + (numsOf q8.1).length) * 1 ≤ 140737488355328 ∧ v5.length + (numsOf q8.1).length ≤ maxLen) <|
req (((v5 ++ (numsOf q8.1)).length + (numsOf q9.1).length) * 1 ≤ 140737488355328 ∧ (v5 ++ (numsOf q8.1)).length + (numsOf q9.1).length ≤ maxLen) <|
bnd (impl_levelsRow p0.Levels p1) fun q10 =>
req ((((v5 ++ (numsOf q8.1)) ++ (numsOf q9.1)).length + q10.length) * 1 ≤ 140737488355328 ∧ ((v5 ++ (numsOf q8.1)) ++ (numsOf q9.1)).length + q10.length ≤ maxLen) <|
some (((v5 ++ (numsOf q8.1)) ++ (numsOf q9.1)) ++ q10)) (
sel (p0.Kind == 2) (
bnd (impl_ue p0.Mode) fun q11 =>
req ((v5.length + (numsOf q11).length) * 1 ≤ 140737488355328 ∧ v5.length + (numsOf q11).length ≤ maxLen) <|
bnd (impl_levelsRow p0.Levels p1) fun q12 =>
req (((v5 ++ (numsOf q11)).length + q12.length) * 1 ≤ 140737488355328 ∧ (v5 ++ (numsOf q11)).length + q12.length ≤ maxLen) <|
some ((v5 ++ (numsOf q11)) ++ q12)) (
some v5))) fun v7 =>
some ((strOfNums v7), true))
def impl_TileRow_l2 (p0 : (List Square)) (p1 : Cond) (v4 : (Int × (List Int))) : Option (Lp (Int × (List Int)) (Ou (List Int) (ByteArray × Bool))) :=
sel (decide (v4.1 < (p0.length : Int))) (
req (0 ≤ v4.1 ∧ v4.1 < p0.length) <|
bnd (impl_SquareRow (⟨(p0.getD v4.1.toNat dSquare).Kind, (p0.getD v4.1.toNat dSquare).Mode, (p0.getD v4.1.toNat dSquare).Dx, (p0.getD v4.1.toNat dSquare).Dy, (p0.getD v4.1.toNat dSquare).Levels⟩ : Square) p1) fun q8 =>
sel (!q8.2) (
some (.done (.ret (⟨#[]⟩, false)))) (
req ((v4.2.length + (numsOf q8.1).length) * 1 ≤ 140737488355328 ∧ v4.2.length + (numsOf q8.1).length ≤ maxLen) <|
some (.go (wrapK .i64 (v4.1 + 1), (v4.2 ++ (numsOf q8.1)))))) (
some (.done (.out v4.2)))
def impl_TileRow (p0 : (List Square)) (p1 : Cond) : Option (ByteArray × Bool) :=
bnd (impl_within (p0.length : Int) 1 64) fun q1 =>
sel (!q1) (
some (⟨#[]⟩, false)) (
bnd (loop (impl_TileRow_l2 p0 p1) (0, ([] : List Int))) fun o9 => match o9 with
| .out v7 => (
some ((strOfNums v7), true))
| .ret r => some r)
def spec_l11Levels_l2 (p1 : Int) (v11 : (Int × (List Int) × Int × Int × (List Int))) : Option (Lp (Int × (List Int) × Int × Int × (List Int)) ((List Int) × (List Int) × Int × Int)) :=
bnd (
bnd (spec_l01Below (⟨v11.2.1, v11.2.2.1, v11.2.2.2.1⟩ : L01Cur) 7) fun q24 =>
sel (decide (v11.1 < q24.1)) (
some ((decide (p1 > 0)), q24.2.b_, q24.2.i_, q24.2.h_)) (
some (false, q24.2.b_, q24.2.i_, q24.2.h_))) fun v23 =>
sel v23.1 (
bnd (
bnd (spec_l01Below (⟨v23.2.1, v23.2.2.1, v23.2.2.2⟩ : L01Cur) p1) fun q26 =>
bnd (
bnd (spec_l01Once q26.2 2) fun q28 =>
sel q28.1 (
req ((5 : Int) ≠ 0) <|
some ((q26.1.tmod 5), q28.2.b_, q28.2.i_, q28.2.h_)) (
some (q26.1, q28.2.b_, q28.2.i_, q28.2.h_))) fun v27 =>
bnd (spec_l01Below (⟨v27.2.1, v27.2.2.1, v27.2.2.2⟩ : L01Cur) 21) fun q29 =>
req (0 ≤ v27.1 ∧ v27.1 < v11.2.2.2.2.length) <|
req (v27.1.toNat < v11.2.2.2.2.length) <|
bnd (spec_l01Once q29.2 6) fun q30 =>
sel q30.1 (
bnd (spec_l01Below q30.2 10001) fun q31 =>
req (0 ≤ v27.1 ∧ v27.1 < (v11.2.2.2.2.set v27.1.toNat (wrapK .i64 (q29.1 - 10))).length) <|
req (v27.1.toNat < (v11.2.2.2.2.set v27.1.toNat (wrapK .i64 (q29.1 - 10))).length) <|
some (q31.2.b_, q31.2.i_, q31.2.h_, ((v11.2.2.2.2.set v27.1.toNat (wrapK .i64 (q29.1 - 10))).set v27.1.toNat (wrapK .i64 (q31.1 - 5000))))) (
some (q30.2.b_, q30.2.i_, q30.2.h_, (v11.2.2.2.2.set v27.1.toNat (wrapK .i64 (q29.1 - 10)))))) fun v25 =>
some (.go (wrapK .i64 (v11.1 + 1), v25.1, v25.2.1, v25.2.2.1, v25.2.2.2))) (
some (.done (v11.2.2.2.2, v23.2.1, v23.2.2.1, v23.2.2.2)))
def spec_l11Levels (p0 : L01Cur) (p1 : Int) : Option ((List Int) × L01Cur) :=
req (0 ≤ p1 ∧ p1 ≤ p1 ∧ p1 * 8 ≤ 281474976710656) <|
bnd (loop (spec_l11Levels_l2 p1) (0, p0.b_, p0.i_, p0.h_, (List.replicate p1.toNat (0 : Int)))) fun v22 =>
some (v22.1, (⟨v22.2.1, v22.2.2.1, v22.2.2.2⟩ : L01Cur))
def spec_l15Square (p0 : L01Cur) (p1 : Cond) : Option (Square × L01Cur) :=
bnd (
sel p1.Key (
some (false, p0.b_, p0.i_, p0.h_)) (
bnd (spec_l01Once p0 4) fun q2 =>
some (q2.1, q2.2.b_, q2.2.i_, q2.2.h_))) fun v1 =>
sel v1.1 (
some ((⟨0, 0, 0, 0, []⟩ : Square), (⟨v1.2.1, v1.2.2.1, v1.2.2.2⟩ : L01Cur))) (
bnd (
sel p1.Key (
some (false, v1.2.1, v1.2.2.1, v1.2.2.2)) (
bnd (spec_l01Once (⟨v1.2.1, v1.2.2.1, v1.2.2.2⟩ : L01Cur) 2) fun q4 =>
some (q4.1, q4.2.b_, q4.2.i_, q4.2.h_))) fun v3 =>
sel v3.1 (
bnd (spec_l01Below (⟨v3.2.1, v3.2.2.1, v3.2.2.2⟩ : L01Cur) 7) fun q5 =>
bnd (spec_l01Below q5.2 7) fun q6 =>
bnd (spec_l11Levels q6.2 64) fun q7 =>
bnd (
bnd (spec_l01Once q7.2 6) fun q9 =>
sel q9.1 (
bnd (spec_l01Below q9.2 33) fun q10 =>
some (wrapK .i64 (q10.1 - 16), q10.2.b_, q10.2.i_, q10.2.h_)) (
some (wrapK .i64 (q5.1 - 3), q9.2.b_, q9.2.i_, q9.2.h_))) fun v8 =>
some ((⟨1, 0, v8.1, wrapK .i64 (q6.1 - 3), q7.1⟩ : Square), (⟨v8.2.1, v8.2.2.1, v8.2.2.2⟩ : L01Cur))) (
bnd (spec_l01Below (⟨v3.2.1, v3.2.2.1, v3.2.2.2⟩ : L01Cur) 4) fun q11 =>
bnd (spec_l11Levels q11.2 64) fun q12 =>
some ((⟨2, q11.1, 0, 0, q12.1⟩ : Square), q12.2)))
def spec_l16Squares_l2 (p1 : Int) (p2 : Cond) (v3 : (Int × (List Int) × Int × Int × (List Square))) : Option (Lp (Int × (List Int) × Int × Int × (List Square)) ((List Square) × (List Int) × Int × Int)) :=
sel (decide (v3.1 < p1)) (
bnd (spec_l15Square (⟨v3.2.1, v3.2.2.1, v3.2.2.2.1⟩ : L01Cur) p2) fun q7 =>
req ((v3.2.2.2.2.length + ([q7.1]).length) * 56 ≤ 140737488355328 ∧ v3.2.2.2.2.length + ([q7.1]).length ≤ maxLen) <|
some (.go (wrapK .i64 (v3.1 + 1), q7.2.b_, q7.2.i_, q7.2.h_, (v3.2.2.2.2 ++ ([q7.1]))))) (
some (.done (v3.2.2.2.2, v3.2.1, v3.2.2.1, v3.2.2.2.1)))
def spec_l16Squares (p0 : L01Cur) (p1 : Int) (p2 : Cond) : Option ((List Square) × L01Cur) :=
bnd (loop (spec_l16Squares_l2 p1 p2) (0, p0.b_, p0.i_, p0.h_, ([] : List Square))) fun v6 =>
some (v6.1, (⟨v6.2.1, v6.2.2.1, v6.2.2.2⟩ : L01Cur))
def spec_l16Drawn (p0 : L01Cur) : Option (Pic × Rect × Cond × Bool × (List Square) × L01Cur) :=
bnd (spec_l01Below p0 2) fun q1 =>
bnd (spec_l01Below q1.2 2) fun q2 =>
bnd (spec_l01Below q2.2 2) fun q3 =>
bnd (spec_l01Below q3.2 2) fun q4 =>
bnd (spec_l01Below q4.2 2) fun q5 =>
bnd (spec_l01Below q5.2 5) fun q6 =>
bnd (spec_l12Sized q6.2 (wrapK .i64 ((wrapK .i64 ((wrapK .i64 (8 * q1.1)) + (wrapK .i64 (8 + (wrapK .i64 (8 * q3.1)))))) + (wrapK .i64 (8 * q5.1)))) (wrapK .i64 ((wrapK .i64 ((wrapK .i64 (8 * q2.1)) + (wrapK .i64 (8 + (wrapK .i64 (8 * q4.1)))))) + q6.1))) fun q7 =>
bnd (spec_l14Cond q7.2) fun q8 =>
bnd (spec_l01Once q8.2 3) fun q9 =>
req ((8 : Int) ≠ 0) <|
req ((8 : Int) ≠ 0) <|
bnd (spec_l16Squares q9.2 (wrapK .i64 ((wrapK .i64 ((wrapK .i64 (8 + (wrapK .i64 (8 * q3.1)))).tdiv 8)) * (wrapK .i64 ((wrapK .i64 (8 + (wrapK .i64 (8 * q4.1)))).tdiv 8)))) q8.1) fun q10 =>
some (q7.1, (⟨wrapK .i64 (8 * q1.1), wrapK .i64 (8 * q2.1), wrapK .i64 (8 + (wrapK .i64 (8 * q3.1))), wrapK .i64 (8 + (wrapK .i64 (8 * q4.1)))⟩ : Rect), q8.1, (!q9.1), q10.1, q10.2)
def spec_DrawTile (p0 : (List Int)) : Option (Pic × Rect × Cond × Bool × (List Square)) :=
bnd (spec_l01New p0) fun q1 =>
bnd (spec_l16Drawn q1) fun q2 =>
some (q2.1, q2.2.1, q2.2.2.1, q2.2.2.2.1, q2.2.2.2.2.1)
def spec_l05Sides_l2 (v4 : (Int × (List Int) × Int × Int × (List Int))) : Option (Lp (Int × (List Int) × Int × Int × (List Int)) ((List Int) × (List Int) × Int × Int)) :=
bnd (spec_l01Below (⟨v4.2.1, v4.2.2.1, v4.2.2.2.1⟩ : L01Cur) 3) fun q9 =>
sel (decide (v4.1 ≤ q9.1)) (
bnd (spec_l01Below q9.2 2) fun q10 =>
req ((v4.2.2.2.2.length + ([wrapK .i64 (1 + q10.1)]).length) * 8 ≤ 140737488355328 ∧ v4.2.2.2.2.length + ([wrapK .i64 (1 + q10.1)]).length ≤ maxLen) <|
some (.go (wrapK .i64 (v4.1 + 1), q10.2.b_, q10.2.i_, q10.2.h_, (v4.2.2.2.2 ++ ([wrapK .i64 (1 + q10.1)]))))) (
some (.done (v4.2.2.2.2, q9.2.b_, q9.2.i_, q9.2.h_)))
def spec_l05Sides (p0 : L01Cur) : Option ((List Int) × L01Cur) :=
bnd (loop (spec_l05Sides_l2) (0, p0.b_, p0.i_, p0.h_, ([] : List Int))) fun v8 =>
some (v8.1, (⟨v8.2.1, v8.2.2.1, v8.2.2.2⟩ : L01Cur))
def spec_l05Sum_l2 (p0 : (List Int)) (v4 : (Int × Int)) : Option (Lp (Int × Int) (Ou Int Int)) :=
sel (decide (v4.2 < (p0.length : Int))) (
req (0 ≤ v4.2 ∧ v4.2 < p0.length) <|
bnd (spec_l01In (p0.getD v4.2.toNat 0) 1 8) fun q8 =>
sel (!q8) (
some (.done (.ret 0))) (
req (0 ≤ v4.2 ∧ v4.2 < p0.length) <|
some (.go (wrapK .i64 (v4.1 + (p0.getD v4.2.toNat 0)), wrapK .i64 (v4.2 + 1))))) (
some (.done (.out v4.1)))
def spec_l05Sum (p0 : (List Int)) : Option Int :=
bnd (
sel (decide ((p0.length : Int) < 1)) (
some true) (
some (decide ((p0.length : Int) > 4)))) fun v1 =>
sel v1 (
some 0) (
bnd (loop (spec_l05Sum_l2 p0) (0, 0)) fun o9 => match o9 with
| .out v7 => (
some v7)
| .ret r => some r)
def spec_SquaresOf (p0 : Seq) : Option Int :=
bnd (spec_l05Sum p0.Cols) fun q1 =>
bnd (spec_l05Sum p0.Rows) fun q2 =>
some (wrapK .i64 (q1 * q2))
def spec_l05Right (p0 : L01Cur) : Option (Seq × L01Cur) :=
bnd (spec_l01Below p0 3) fun q1 =>
bnd (spec_l05Sides q1.2) fun q2 =>
bnd (spec_l05Sides q2.2) fun q3 =>
bnd (
bnd (
bnd (spec_l01Once q3.2 2) fun q6 =>
sel q6.1 (
bnd (spec_SquaresOf (⟨3, wrapK .i64 (3 + q1.1), q2.1, q3.1⟩ : Seq)) fun q7 =>
some ((decide (q7 ≤ 16)), q6.2.b_, q6.2.i_, q6.2.h_)) (
some (false, q6.2.b_, q6.2.i_, q6.2.h_))) fun v5 =>
sel v5.1 (
some (1, v5.2.1, v5.2.2.1, v5.2.2.2)) (
some (3, v5.2.1, v5.2.2.1, v5.2.2.2))) fun v4 =>
some ((⟨v4.1, wrapK .i64 (3 + q1.1), q2.1, q3.1⟩ : Seq), (⟨v4.2.1, v4.2.2.1, v4.2.2.2⟩ : L01Cur))
def spec_LevelSquares (p0 : Int) : Option Int :=
sel (p0 == 1) (
some 16) (
sel (p0 == 2) (
some 64) (
sel (p0 == 3) (
some 256) (
some 0)))
def spec_SeqOk (p0 : Seq) : Option Bool :=
bnd (
bnd (spec_SquaresOf p0) fun q2 =>
bnd (spec_LevelSquares p0.Level) fun q3 =>
bnd (spec_l01In q2 1 q3) fun q4 =>
sel q4 (
bnd (spec_l01In p0.Bits 3 8) fun q5 =>
some q5) (
some false)) fun v1 =>
some v1
def spec_TilesOf (p0 : Seq) : Option Int :=
bnd (spec_SeqOk p0) fun q1 =>
sel (!q1) (
some 0) (
some (wrapK .i64 ((p0.Cols.length : Int) * (p0.Rows.length : Int))))
def spec_l07Head_m1 (p0 : L01Cur) (p1 : Seq) : Option (Head × L01Cur × Seq) :=
bnd (spec_TilesOf p1) fun q1 =>
bnd (spec_l01Below p0 q1) fun q2 =>
bnd (spec_l01Below q2.2 41) fun q3 =>
bnd (
bnd (spec_l01In p1.Bits 0 8) fun q5 =>
sel q5 (
req (0 ≤ (wrapK .u64 (p1.Bits))) <|
bnd (spec_l01Below q3.2 (wrapK .i64 (1 * 2 ^ min (wrapK .u64 (p1.Bits)).toNat (IntKind.bits .i64)))) fun q6 =>
some (q6.1, q6.2.b_, q6.2.i_, q6.2.h_)) (
some (0, q3.2.b_, q3.2.i_, q3.2.h_))) fun v4 =>
some ((⟨q2.1, v4.1, q3.1⟩ : Head), (⟨v4.2.1, v4.2.2.1, v4.2.2.2⟩ : L01Cur), p1)
def spec_DrawSets (p0 : (List Int)) : Option (Seq × Par × Head) :=
bnd (spec_l01New p0) fun q1 =>
bnd (spec_l05Right q1) fun q2 =>
bnd (spec_l05ParRight q2.2) fun q3 =>
bnd (spec_l07Head_m1 q3.2 q2.1) fun q5 =>
some ((⟨q2.1.Level, q2.1.Bits, q5.2.2.Cols, q5.2.2.Rows⟩ : Seq), q3.1, q5.1)
def impl_ParOk (p0 : Par) : Option Bool :=
bnd (
bnd (impl_within p0.Qp 0 40) fun q2 =>
sel q2 (
sel p0.Large (
some (!p0.Exact)) (
some true)) (
some false)) fun v1 =>
some v1
def impl_CondFor (p0 : Par) (p1 : Part) : Option Cond :=
some (⟨p1.Key, p1.Qp, p0.Large, p0.Exact⟩ : Cond)
def impl_alike_l2 (p0 : Int) (p3 : Square) (v5 : (Int × (List Square))) : Option (Lp (Int × (List Square)) (List Square)) :=
sel (decide (v5.1 < p0)) (
req ((v5.2.length + ([p3]).length) * 56 ≤ 140737488355328 ∧ v5.2.length + ([p3]).length ≤ maxLen) <|
some (.go (wrapK .i64 (v5.1 + 1), (v5.2 ++ ([p3]))))) (
some (.done v5.2))
def impl_alike (p0 : Int) (p1 : Par) (p2 : Bool) (p3 : Square) : Option (Part × Bool) :=
bnd (
bnd (impl_ParOk p1) fun q2 =>
sel q2 (
bnd (impl_within p0 1 64) fun q3 =>
some (!q3)) (
some true)) fun v1 =>
sel v1 (
some ((⟨false, 0, ⟨#[]⟩⟩ : Part), false)) (
bnd (loop (impl_alike_l2 p0 p3) (0, ([] : List Square))) fun v7 =>
bnd (impl_CondFor p1 (⟨p2, p1.Qp, ⟨#[]⟩⟩ : Part)) fun q9 =>
bnd (impl_TileRow v7 q9) fun q10 =>
some ((⟨p2, p1.Qp, q10.1⟩ : Part), true))
def impl_GreyPart (p0 : Int) (p1 : Par) : Option (Part × Bool) :=
req (0 ≤ (64 : Int) ∧ (64 : Int) ≤ (64 : Int) ∧ (64 : Int) * 8 ≤ 281474976710656) <|
bnd (impl_alike p0 p1 true (⟨2, 0, 0, 0, (List.replicate (64 : Int).toNat (0 : Int))⟩ : Square)) fun q1 =>
some (q1.1, q1.2)
def impl_SkipPart (p0 : Int) (p1 : Par) : Option (Part × Bool) :=
bnd (impl_alike p0 p1 false (⟨0, 0, 0, 0, []⟩ : Square)) fun q1 =>
some (q1.1, q1.2)
def impl_RowOk_l2 (p0 : ByteArray) (v3 : Int) : Option (Lp Int (Ou Unit Bool)) :=
sel (decide (v3 < (p0.size : Int))) (
bnd (
req (0 ≤ v3 ∧ v3 < p0.size) <|
sel ((btOf p0 v3) != 48) (
req (0 ≤ v3 ∧ v3 < p0.size) <|
some ((btOf p0 v3) != 49)) (
some false)) fun v7 =>
sel v7 (
some (.done (.ret false))) (
some (.go (wrapK .i64 (v3 + 1))))) (
some (.done (.out ())))
def impl_RowOk (p0 : ByteArray) : Option Bool :=
sel (decide ((p0.size : Int) > 400000)) (
some false) (
bnd (loop (impl_RowOk_l2 p0) 0) fun o8 => match o8 with
| .out v6 => (
some true)
| .ret r => some r)
def impl_opened (p0 : ByteArray) (p1 : Int) : Option Scan :=
bnd (
bnd (impl_RowOk p0) fun q2 =>
sel q2 (
bnd (impl_within p1 0 (p0.size : Int)) fun q3 =>
some (!q3)) (
some true)) fun v1 =>
some (⟨p0, p1, v1⟩ : Scan)
def impl_scan_fix_l2 (p0 : Scan) (p1 : Int) (v3 : (Int × Int)) : Option (Lp (Int × Int) Int) :=
sel (decide (v3.2 < p1)) (
req (0 ≤ (1 : Int)) <|
req (0 ≤ (wrapK .i64 (p0.at_ + v3.2)) ∧ (wrapK .i64 (p0.at_ + v3.2)) < p0.row_.size) <|
some (.go ((IntKind.wrap .i64 (BitVec.ofInt (IntKind.bits .i64) (wrapK .i64 (v3.1 * 2 ^ min (1 : Int).toNat (IntKind.bits .i64))) ||| BitVec.ofInt (IntKind.bits .i64) (wrapK .i64 (wrapK .u8 ((btOf p0.row_ (wrapK .i64 (p0.at_ + v3.2))) - 48)))).toNat), wrapK .i64 (v3.2 + 1)))) (
some (.done v3.1))
def impl_scan_fix (p0 : Scan) (p1 : Int) : Option (Int × Scan) :=
bnd (
sel p0.bad_ (
some true) (
some (decide ((wrapK .i64 ((p0.row_.size : Int) - p0.at_)) < p1)))) fun v1 =>
sel v1 (
some (0, (⟨p0.row_, p0.at_, true⟩ : Scan))) (
bnd (loop (impl_scan_fix_l2 p0 p1) (0, 0)) fun v5 =>
some (v5, (⟨p0.row_, wrapK .i64 (p0.at_ + p1), p0.bad_⟩ : Scan)))
def impl_scan_ue_l2 (p0 : Scan) (v3 : Int) : Option (Lp Int Int) :=
bnd (
sel p0.bad_ (
some false) (
sel (decide ((wrapK .i64 (p0.at_ + v3)) < (p0.row_.size : Int))) (
req (0 ≤ (wrapK .i64 (p0.at_ + v3)) ∧ (wrapK .i64 (p0.at_ + v3)) < p0.row_.size) <|
some ((btOf p0.row_ (wrapK .i64 (p0.at_ + v3))) == 48)) (
some false))) fun v7 =>
sel v7 (
some (.go (wrapK .i64 (v3 + 1)))) (
some (.done v3))
def impl_scan_ue (p0 : Scan) : Option (Int × Scan) :=
bnd (loop (impl_scan_ue_l2 p0) 0) fun v6 =>
bnd (
sel (decide (v6 > 20)) (
some true) (
some p0.bad_)) fun v9 =>
bnd (impl_scan_fix (⟨p0.row_, p0.at_, v9⟩ : Scan) (wrapK .i64 ((wrapK .i64 (2 * v6)) + 1))) fun q10 =>
bnd (
sel q10.2.bad_ (
some true) (
some (decide ((wrapK .i64 (q10.1 - 1)) > 1000000)))) fun v11 =>
sel v11 (
some (0, (⟨q10.2.row_, q10.2.at_, true⟩ : Scan))) (
some (wrapK .i64 (q10.1 - 1), q10.2))
def impl_OpenSe (p0 : Int) : Option (Int × Bool) :=
bnd (impl_within p0 0 1000000) fun q1 =>
sel (!q1) (
some (0, false)) (
req ((2 : Int) ≠ 0) <|
sel ((p0.tmod 2) == 1) (
req ((2 : Int) ≠ 0) <|
some (wrapK .i64 ((wrapK .i64 (p0 + 1)).tdiv 2), true)) (
req ((2 : Int) ≠ 0) <|
some (wrapK .i64 ((wrapK .i64 (0 - p0)).tdiv 2), true)))
def impl_scan_se (p0 : Scan) : Option (Int × Scan) :=
bnd (impl_scan_ue p0) fun q1 =>
bnd (impl_OpenSe q1.1) fun q2 =>
bnd (
sel q1.2.bad_ (
some true) (
some (!q2.2))) fun v3 =>
some (q2.1, (⟨q1.2.row_, q1.2.at_, v3⟩ : Scan))
def impl_scan_runs_l2 (p1 : Int) (v8 : (Int × Int × ByteArray × Int × Bool × (List Int))) : Option (Lp (Int × Int × ByteArray × Int × Bool × (List Int)) ((List Int) × ByteArray × Int × Bool)) :=
bnd (
sel (decide (v8.2.1 > 0)) (
some (!v8.2.2.2.2.1)) (
some false)) fun v16 =>
sel v16 (
bnd (impl_scan_ue (⟨v8.2.2.1, v8.2.2.2.1, v8.2.2.2.2.1⟩ : Scan)) fun q17 =>
bnd (impl_scan_se q17.2) fun q18 =>
bnd (
sel (decide ((wrapK .i64 (v8.1 + q17.1)) ≥ p1)) (
some true) (
sel (q18.1 == 0) (
some true) (
bnd (impl_within q18.1 (-5000) 5000) fun q20 =>
some (!q20)))) fun v19 =>
sel v19 (
some (.done (v8.2.2.2.2.2, q18.2.row_, q18.2.at_, true))) (
req (0 ≤ (wrapK .i64 (v8.1 + q17.1)) ∧ (wrapK .i64 (v8.1 + q17.1)) < v8.2.2.2.2.2.length) <|
req ((wrapK .i64 (v8.1 + q17.1)).toNat < v8.2.2.2.2.2.length) <|
some (.go (wrapK .i64 ((wrapK .i64 (v8.1 + q17.1)) + 1), wrapK .i64 (v8.2.1 - 1), q18.2.row_, q18.2.at_, q18.2.bad_, (v8.2.2.2.2.2.set ((wrapK .i64 (v8.1 + q17.1)).toNat) q18.1))))) (
some (.done (v8.2.2.2.2.2, v8.2.2.1, v8.2.2.2.1, v8.2.2.2.2.1)))
def impl_scan_runs (p0 : Scan) (p1 : Int) : Option ((List Int) × Scan) :=
req (0 ≤ p1 ∧ p1 ≤ p1 ∧ p1 * 8 ≤ 281474976710656) <|
bnd (impl_scan_ue p0) fun q1 =>
bnd (loop (impl_scan_runs_l2 p1) (0, q1.1, q1.2.row_, q1.2.at_, q1.2.bad_, (List.replicate p1.toNat (0 : Int)))) fun v15 =>
some (v15.1, (⟨v15.2.1, v15.2.2.1, v15.2.2.2⟩ : Scan))
def impl_scan_levels_l2 (v5 : (Int × ByteArray × Int × Bool × (List Int))) : Option (Lp (Int × ByteArray × Int × Bool × (List Int)) ((List Int) × ByteArray × Int × Bool)) :=
sel (decide (v5.1 < 4)) (
bnd (impl_scan_runs (⟨v5.2.1, v5.2.2.1, v5.2.2.2.1⟩ : Scan) 16) fun q9 =>
req ((v5.2.2.2.2.length + q9.1.length) * 8 ≤ 140737488355328 ∧ v5.2.2.2.2.length + q9.1.length ≤ maxLen) <|
some (.go (wrapK .i64 (v5.1 + 1), q9.2.row_, q9.2.at_, q9.2.bad_, (v5.2.2.2.2 ++ q9.1)))) (
some (.done (v5.2.2.2.2, v5.2.1, v5.2.2.1, v5.2.2.2.1)))
def impl_scan_levels (p0 : Scan) (p1 : Cond) : Option ((List Int) × Scan) :=
bnd (
sel p1.Large (
some true) (
some p1.Exact)) fun v1 =>
sel v1 (
bnd (impl_scan_runs p0 64) fun q2 =>
some (q2.1, q2.2)) (
bnd (loop (impl_scan_levels_l2) (0, p0.row_, p0.at_, p0.bad_, ([] : List Int))) fun v8 =>
some (v8.1, (⟨v8.2.1, v8.2.2.1, v8.2.2.2⟩ : Scan)))
def impl_scan_square (p0 : Scan) (p1 : Cond) : Option (Square × Scan) :=
bnd (
sel (!p1.Key) (
bnd (impl_scan_ue p0) fun q2 =>
some (q2.2.row_, q2.2.at_, q2.2.bad_, q2.1)) (
some (p0.row_, p0.at_, p0.bad_, 2))) fun v1 =>
bnd (
sel v1.2.2.1 (
some (v1.1, v1.2.1, v1.2.2.1, 0, 0, 0, [])) (
sel (v1.2.2.2 == 1) (
bnd (impl_scan_se (⟨v1.1, v1.2.1, v1.2.2.1⟩ : Scan)) fun q4 =>
bnd (impl_scan_se q4.2) fun q5 =>
bnd (impl_scan_levels q5.2 p1) fun q6 =>
some (q6.2.row_, q6.2.at_, q6.2.bad_, 0, q4.1, q5.1, q6.1)) (
sel (v1.2.2.2 == 2) (
bnd (impl_scan_ue (⟨v1.1, v1.2.1, v1.2.2.1⟩ : Scan)) fun q7 =>
bnd (impl_scan_levels q7.2 p1) fun q8 =>
some (q8.2.row_, q8.2.at_, q8.2.bad_, q7.1, 0, 0, q8.1)) (
some (v1.1, v1.2.1, v1.2.2.1, 0, 0, 0, []))))) fun v3 =>
bnd (
sel v3.2.2.1 (
some true) (
bnd (impl_SquareOk (⟨v1.2.2.2, v3.2.2.2.1, v3.2.2.2.2.1, v3.2.2.2.2.2.1, v3.2.2.2.2.2.2⟩ : Square)) fun q10 =>
some (!q10))) fun v9 =>
some ((⟨v1.2.2.2, v3.2.2.2.1, v3.2.2.2.2.1, v3.2.2.2.2.2.1, v3.2.2.2.2.2.2⟩ : Square), (⟨v3.1, v3.2.1, v9⟩ : Scan))
def impl_ReadTile_l2 (p2 : Int) (p3 : Cond) (v7 : (Int × ByteArray × Int × Bool × (List Square))) : Option (Lp (Int × ByteArray × Int × Bool × (List Square)) (Ou (ByteArray × Int × Bool × (List Square)) ((List Square) × Bool))) :=
sel (decide (v7.1 < p2)) (
bnd (impl_scan_square (⟨v7.2.1, v7.2.2.1, v7.2.2.2.1⟩ : Scan) p3) fun q11 =>
req ((v7.2.2.2.2.length + ([q11.1]).length) * 56 ≤ 140737488355328 ∧ v7.2.2.2.2.length + ([q11.1]).length ≤ maxLen) <|
sel q11.2.bad_ (
some (.done (.ret (([] : List Square), false)))) (
some (.go (wrapK .i64 (v7.1 + 1), q11.2.row_, q11.2.at_, q11.2.bad_, (v7.2.2.2.2 ++ ([q11.1])))))) (
some (.done (.out (v7.2.1, v7.2.2.1, v7.2.2.2.1, v7.2.2.2.2))))
def impl_ReadTile (p0 : ByteArray) (p1 : Int) (p2 : Int) (p3 : Cond) : Option ((List Square) × Bool) :=
bnd (impl_opened p0 p1) fun q1 =>
bnd (
bnd (impl_within p2 1 64) fun q3 =>
sel q3 (
bnd (impl_CondOk p3) fun q4 =>
some (!q4)) (
some true)) fun v2 =>
sel v2 (
some (([] : List Square), false)) (
bnd (loop (impl_ReadTile_l2 p2 p3) (0, q1.row_, q1.at_, q1.bad_, ([] : List Square))) fun o12 => match o12 with
| .out v10 => (
sel (v10.2.1 != (p0.size : Int)) (
some (([] : List Square), false)) (
some (v10.2.2.2, true)))
| .ret r => some r)
def impl_CutOf_l2 (p0 : Pic) (p1 : Rect) (v5 : (Int × (List Int))) : Option (Lp (Int × (List Int)) (List Int)) :=
sel (decide (v5.1 < (wrapK .i64 (p1.Top + p1.High)))) (
req (0 ≤ (wrapK .i64 ((wrapK .i64 (v5.1 * p0.Wide)) + p1.Left)) ∧ (wrapK .i64 ((wrapK .i64 (v5.1 * p0.Wide)) + p1.Left)) ≤ (wrapK .i64 ((wrapK .i64 ((wrapK .i64 (v5.1 * p0.Wide)) + p1.Left)) + p1.Wide)) ∧ (wrapK .i64 ((wrapK .i64 ((wrapK .i64 (v5.1 * p0.Wide)) + p1.Left)) + p1.Wide)) ≤ (p0.Dots.size : Int)) <|
req ((v5.2.length + (numsOf (p0.Dots.extract (wrapK .i64 ((wrapK .i64 (v5.1 * p0.Wide)) + p1.Left)).toNat (wrapK .i64 ((wrapK .i64 ((wrapK .i64 (v5.1 * p0.Wide)) + p1.Left)) + p1.Wide)).toNat)).length) * 1 ≤ 140737488355328 ∧ v5.2.length + (numsOf (p0.Dots.extract (wrapK .i64 ((wrapK .i64 (v5.1 * p0.Wide)) + p1.Left)).toNat (wrapK .i64 ((wrapK .i64 ((wrapK .i64 (v5.1 * p0.Wide)) + p1.Left)) + p1.Wide)).toNat)).length ≤ maxLen) <|
some (.go (wrapK .i64 (v5.1 + 1), (v5.2 ++ (numsOf (p0.Dots.extract (wrapK .i64 ((wrapK .i64 (v5.1 * p0.Wide)) + p1.Left)).toNat (wrapK .i64 ((wrapK .i64 ((wrapK .i64 (v5.1 * p0.Wide)) + p1.Left)) + p1.Wide)).toNat)))))) (
some (.done v5.2))
def impl_CutOf (p0 : Pic) (p1 : Rect) : Option (Pic × Bool) :=
bnd (
bnd (impl_PicOk p0) fun q2 =>
sel q2 (
bnd (impl_Pic_holds p0 p1) fun q3 =>
some (!q3)) (
some true)) fun v1 =>
sel v1 (
some ((⟨0, 0, ⟨#[]⟩⟩ : Pic), false)) (
req (0 ≤ (0 : Int) ∧ (0 : Int) ≤ (wrapK .i64 (p1.Wide * p1.High)) ∧ (wrapK .i64 (p1.Wide * p1.High)) * 1 ≤ 281474976710656) <|
bnd (loop (impl_CutOf_l2 p0 p1) (p1.Top, (List.replicate (0 : Int).toNat (0 : Int)))) fun v7 =>
some ((⟨p1.Wide, p1.High, (strOfNums v7)⟩ : Pic), true))
def impl_TileBack_l2 (p1 : Rect) (p2 : Cond) (p4 : (List Square)) (v10 : (Int × Int × Int × Int × ByteArray)) (v16 : (Int × Int × Int × ByteArray)) : Option (Lp (Int × Int × Int × ByteArray) (Ou (Int × Int × ByteArray) (Pic × Bool))) :=
sel (decide (v16.1 < (p4.length : Int))) (
req (0 ≤ v16.1 ∧ v16.1 < p4.length) <|
req ((8 : Int) ≠ 0) <|
req ((wrapK .i64 (p1.Wide.tdiv 8)) ≠ 0) <|
req ((8 : Int) ≠ 0) <|
req ((wrapK .i64 (p1.Wide.tdiv 8)) ≠ 0) <|
bnd (impl_SquareDots (⟨v16.2.1, v16.2.2.1, v16.2.2.2⟩ : Pic) (⟨v10.2.2.1, v10.2.2.2.1, v10.2.2.2.2⟩ : Pic) v10.1 v10.2.1 p2 (wrapK .i64 ((v16.1.tmod (wrapK .i64 (p1.Wide.tdiv 8))) * 8)) (wrapK .i64 ((wrapK .i64 (v16.1.tdiv (wrapK .i64 (p1.Wide.tdiv 8)))) * 8)) (⟨(p4.getD v16.1.toNat dSquare).Kind, (p4.getD v16.1.toNat dSquare).Mode, (p4.getD v16.1.toNat dSquare).Dx, (p4.getD v16.1.toNat dSquare).Dy, (p4.getD v16.1.toNat dSquare).Levels⟩ : Square)) fun q21 =>
sel (!q21.2) (
some (.done (.ret ((⟨0, 0, ⟨#[]⟩⟩ : Pic), false)))) (
bnd (impl_put (⟨v16.2.1, v16.2.2.1, v16.2.2.2⟩ : Pic) (wrapK .i64 ((v16.1.tmod (wrapK .i64 (p1.Wide.tdiv 8))) * 8)) (wrapK .i64 ((wrapK .i64 (v16.1.tdiv (wrapK .i64 (p1.Wide.tdiv 8)))) * 8)) q21.1) fun q22 =>
some (.go (wrapK .i64 (v16.1 + 1), q22.Wide, q22.High, q22.Dots)))) (
some (.done (.out (v16.2.1, v16.2.2.1, v16.2.2.2))))
def impl_TileBack (p0 : Pic) (p1 : Rect) (p2 : Cond) (p3 : Bool) (p4 : (List Square)) : Option (Pic × Bool) :=
bnd (
bnd (impl_isTile p1.Wide) fun q2 =>
sel q2 (
bnd (impl_isTile p1.High) fun q3 =>
sel q3 (
bnd (impl_within p1.Left 0 256) fun q4 =>
sel q4 (
bnd (impl_within p1.Top 0 256) fun q5 =>
sel q5 (
bnd (impl_CondOk p2) fun q6 =>
sel q6 (
req ((8 : Int) ≠ 0) <|
req ((8 : Int) ≠ 0) <|
some ((p4.length : Int) != (wrapK .i64 ((wrapK .i64 (p1.Wide.tdiv 8)) * (wrapK .i64 (p1.High.tdiv 8)))))) (
some true)) (
some true)) (
some true)) (
some true)) (
some true)) fun v1 =>
sel v1 (
some ((⟨0, 0, ⟨#[]⟩⟩ : Pic), false)) (
bnd (
sel p2.Key (
some false) (
bnd (impl_PicOk p0) fun q8 =>
sel q8 (
bnd (impl_Pic_holds p0 p1) fun q9 =>
some (!q9)) (
some true))) fun v7 =>
sel v7 (
some ((⟨0, 0, ⟨#[]⟩⟩ : Pic), false)) (
bnd (
sel p3 (
sel (!p2.Key) (
bnd (impl_CutOf p0 p1) fun q11 =>
some (0, 0, q11.1.Wide, q11.1.High, q11.1.Dots)) (
some (0, 0, p0.Wide, p0.High, p0.Dots))) (
some (p1.Left, p1.Top, p0.Wide, p0.High, p0.Dots))) fun v10 =>
bnd (impl_Grey p1.Wide p1.High) fun q12 =>
bnd (loop (impl_TileBack_l2 p1 p2 p4 v10) (0, q12.Wide, q12.High, q12.Dots)) fun o23 => match o23 with
| .out v20 => (
some ((⟨v20.1, v20.2.1, v20.2.2⟩ : Pic), true))
| .ret r => some r))
def impl_PartShows (p0 : Pic) (p1 : Rect) (p2 : Par) (p3 : Part) : Option (Pic × Bool) :=
bnd (
bnd (impl_isTile p1.Wide) fun q2 =>
sel q2 (
bnd (impl_isTile p1.High) fun q3 =>
sel q3 (
bnd (impl_ParOk p2) fun q4 =>
some (!q4)) (
some true)) (
some true)) fun v1 =>
sel v1 (
some ((⟨0, 0, ⟨#[]⟩⟩ : Pic), false)) (
bnd (impl_CondFor p2 p3) fun q5 =>
req ((8 : Int) ≠ 0) <|
req ((8 : Int) ≠ 0) <|
bnd (impl_ReadTile p3.Row 0 (wrapK .i64 ((wrapK .i64 (p1.Wide.tdiv 8)) * (wrapK .i64 (p1.High.tdiv 8)))) q5) fun q6 =>
sel (!q6.2) (
some ((⟨0, 0, ⟨#[]⟩⟩ : Pic), false)) (
bnd (impl_TileBack p0 p1 q5 p2.Confined q6.1) fun q7 =>
some (q7.1, q7.2)))
def impl_PartOk (p0 : Par) (p1 : Part) (p2 : Int) : Option Bool :=
bnd (impl_CondFor p0 p1) fun q1 =>
bnd (impl_ReadTile p1.Row 0 p2 q1) fun q2 =>
bnd (
sel q2.2 (
bnd (impl_ParOk p0) fun q4 =>
some q4) (
some false)) fun v3 =>
some v3
def laws_FnFills (p0 : (List Int)) : Option Bool :=
bnd (laws_big p0) fun q1 =>
sel q1 (
some true) (
bnd (spec_DrawTile p0) fun q2 =>
bnd (spec_DrawSets p0) fun q3 =>
req ((8 : Int) ≠ 0) <|
req ((8 : Int) ≠ 0) <|
bnd (impl_GreyPart (wrapK .i64 ((wrapK .i64 (q2.2.1.Wide.tdiv 8)) * (wrapK .i64 (q2.2.1.High.tdiv 8)))) q3.2.1) fun q4 =>
bnd (impl_SkipPart (wrapK .i64 ((wrapK .i64 (q2.2.1.Wide.tdiv 8)) * (wrapK .i64 (q2.2.1.High.tdiv 8)))) q3.2.1) fun q5 =>
bnd (impl_PartShows q2.1 q2.2.1 q3.2.1 q4.1) fun q6 =>
bnd (impl_PartShows q2.1 q2.2.1 q3.2.1 q5.1) fun q7 =>
bnd (impl_CutOf q2.1 q2.2.1) fun q8 =>
bnd (
sel q4.2 (
sel q5.2 (
sel q6.2 (
sel q7.2 (
bnd (impl_Grey q2.2.1.Wide q2.2.1.High) fun q10 =>
sel (((q6.1.Wide == q10.Wide) && ((q6.1.High == q10.High) && (q6.1.Dots.toList == q10.Dots.toList))) == true) (
sel (q6.1.Wide == q2.2.1.Wide) (
sel (((q7.1.Wide == q8.1.Wide) && ((q7.1.High == q8.1.High) && (q7.1.Dots.toList == q8.1.Dots.toList))) == true) (
sel (q7.1.Wide == q2.2.1.Wide) (
bnd (impl_PartOk q3.2.1 q4.1 (wrapK .i64 ((wrapK .i64 (q2.2.1.Wide.tdiv 8)) * (wrapK .i64 (q2.2.1.High.tdiv 8))))) fun q11 =>
sel q11 (
bnd (impl_PartOk q3.2.1 q5.1 (wrapK .i64 ((wrapK .i64 (q2.2.1.Wide.tdiv 8)) * (wrapK .i64 (q2.2.1.High.tdiv 8))))) fun q12 =>
sel q12 (
sel q4.1.Key (
sel q5.1.Key (
some false) (
sel ((q5.1.Row.size : Int) == (wrapK .i64 ((wrapK .i64 (q2.2.1.Wide.tdiv 8)) * (wrapK .i64 (q2.2.1.High.tdiv 8))))) (
bnd (impl_CondOk q2.2.2.1) fun q13 =>
some q13) (
some false))) (
some false)) (
some false)) (
some false)) (
some false)) (
some false)) (
some false)) (
some false)) (
some false)) (
some false)) (
some false)) (
some false)) fun v9 =>
some v9)
end
end Go.Proofs.Ytjfkbpgdghijfaa.A
