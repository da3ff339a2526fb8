/- What the functions that the law FnBestMove reaches compute, over numbers, texts and lists. Written by a program of this session. Conditions: none. -/
import Derived.Test.YtplmeeookgefnaaAL1
namespace Go.Proofs.Ytplmeeookgefnaa.A
open Go Go.Proofs Go.Proofs.YtplmeeookgefnaaAL Go.RowKit
set_option linter.unusedVariables false
set_option linter.unusedSimpArgs false
structure Pic where
  Wide : Int
  High : Int
  Dots : ByteArray
structure Rect where
  Left : Int
  Top : Int
  Wide : Int
  High : Int
structure L01Cur where
  b_ : (List Int)
  i_ : Int
  h_ : Int
noncomputable section
def laws_big (p0 : (List Int)) : Option Bool :=
some (decide ((p0.length : Int) > 1048576))
def spec_l01New_l2 (p0 : (List Int)) (v3 : (Int × Int)) : Option (Lp (Int × Int) Int) :=
bnd (
sel (decide (v3.2 < (p0.length : Int))) (
some (decide (v3.2 < 4000))) (
some false)) fun v7 =>
sel v7 (
req (0 ≤ v3.2 ∧ v3.2 < p0.length) <|
some (.go ((IntKind.wrap .i64 (BitVec.ofInt (IntKind.bits .i64) (wrapK .i64 ((wrapK .i64 ((wrapK .i64 (v3.1 * 131)) + (wrapK .i64 ((p0.getD v3.2.toNat 0))))) + 7)) &&& BitVec.ofInt (IntKind.bits .i64) 1073741823).toNat), wrapK .i64 (v3.2 + 1)))) (
some (.done v3.1))
def spec_l01New (p0 : (List Int)) : Option L01Cur :=
bnd (loop (spec_l01New_l2 p0) (wrapK .i64 (94701 + (p0.length : Int)), 0)) fun v6 =>
some (⟨p0, 0, v6⟩ : L01Cur)
def spec_l01Byte (p0 : L01Cur) : Option (Int × L01Cur) :=
req (0 ≤ (33 : Int)) <|
req (0 ≤ (45 : Int)) <|
bnd (
sel (decide (p0.i_ < (p0.b_.length : Int))) (
req (0 ≤ p0.i_ ∧ p0.i_ < p0.b_.length) <|
some ((IntKind.wrap .i64 (BitVec.ofInt (IntKind.bits .i64) (wrapK .i64 ((IntKind.wrap .i64 (BitVec.ofInt (IntKind.bits .i64) (IntKind.wrap .i64 (BitVec.ofInt (IntKind.bits .i64) ((wrapK .i64 ((wrapK .i64 (p0.h_ * 6364136223846793005)) + 1442695040888963407)) / 2 ^ min (33 : Int).toNat (IntKind.bits .i64)) ^^^ BitVec.ofInt (IntKind.bits .i64) ((wrapK .i64 ((wrapK .i64 (p0.h_ * 6364136223846793005)) + 1442695040888963407)) / 2 ^ min (45 : Int).toNat (IntKind.bits .i64))).toNat) &&& BitVec.ofInt (IntKind.bits .i64) 255).toNat) + (wrapK .i64 ((p0.b_.getD p0.i_.toNat 0))))) &&& BitVec.ofInt (IntKind.bits .i64) 255).toNat), wrapK .i64 (p0.i_ + 1))) (
some ((IntKind.wrap .i64 (BitVec.ofInt (IntKind.bits .i64) (IntKind.wrap .i64 (BitVec.ofInt (IntKind.bits .i64) ((wrapK .i64 ((wrapK .i64 (p0.h_ * 6364136223846793005)) + 1442695040888963407)) / 2 ^ min (33 : Int).toNat (IntKind.bits .i64)) ^^^ BitVec.ofInt (IntKind.bits .i64) ((wrapK .i64 ((wrapK .i64 (p0.h_ * 6364136223846793005)) + 1442695040888963407)) / 2 ^ min (45 : Int).toNat (IntKind.bits .i64))).toNat) &&& BitVec.ofInt (IntKind.bits .i64) 255).toNat), p0.i_))) fun v1 =>
some (v1.1, (⟨p0.b_, v1.2, wrapK .i64 ((wrapK .i64 (p0.h_ * 6364136223846793005)) + 1442695040888963407)⟩ : L01Cur))
def spec_l01Below (p0 : L01Cur) (p1 : Int) : Option (Int × L01Cur) :=
sel (decide (p1 ≤ 0)) (
some (0, p0)) (
sel (decide (p1 ≤ 256)) (
bnd (spec_l01Byte p0) fun q1 =>
req (p1 ≠ 0) <|
some ((q1.1.tmod p1), q1.2)) (
bnd (spec_l01Byte p0) fun q2 =>
bnd (spec_l01Byte q2.2) fun q3 =>
bnd (spec_l01Byte q3.2) fun q4 =>
bnd (spec_l01Byte q4.2) fun q5 =>
req (p1 ≠ 0) <|
some (((wrapK .i64 ((wrapK .i64 ((wrapK .i64 ((wrapK .i64 (q2.1 * 16777216)) + (wrapK .i64 (q3.1 * 65536)))) + (wrapK .i64 (q4.1 * 256)))) + q5.1)).tmod p1), q5.2)))
def spec_DrawPlaces_l2 (v5 : (Int × (List Int) × Int × Int × (List Int))) : Option (Lp (Int × (List Int) × Int × Int × (List Int)) (List Int)) :=
sel (decide (v5.1 < 12)) (
bnd (spec_l01Below (⟨v5.2.1, v5.2.2.1, v5.2.2.2.1⟩ : L01Cur) 10000) fun q9 =>
req ((v5.2.2.2.2.length + ([q9.1]).length) * 8 ≤ 140737488355328 ∧ v5.2.2.2.2.length + ([q9.1]).length ≤ maxLen) <|
some (.go (wrapK .i64 (v5.1 + 1), q9.2.b_, q9.2.i_, q9.2.h_, (v5.2.2.2.2 ++ ([q9.1]))))) (
some (.done v5.2.2.2.2))
def spec_DrawPlaces (p0 : (List Int)) : Option (List Int) :=
bnd (spec_l01New p0) fun q1 =>
bnd (spec_l01Byte q1) fun q2 =>
bnd (loop (spec_DrawPlaces_l2) (0, q2.2.b_, q2.2.i_, q2.2.h_, ([] : List Int))) fun v8 =>
some v8
def impl_within (p0 : Int) (p1 : Int) (p2 : Int) : Option Bool :=
bnd (
sel (decide (p0 ≥ p1)) (
some (decide (p0 ≤ p2))) (
some false)) fun v1 =>
some v1
def impl_Brought (p0 : Int) (p1 : Int) (p2 : Int) : Option Int :=
some (if (if p2 < p0 then p2 else p0) > p1 then (if p2 < p0 then p2 else p0) else p1)
def spec_l12Dots_l2 (p1 : Int) (v7 : (Int × Int × (List Int) × Int × Int × (List Int))) : Option (Lp (Int × Int × (List Int) × Int × Int × (List Int)) ((List Int) × (List Int) × Int × Int)) :=
sel (decide (v7.2.1 < p1)) (
bnd (
bnd (spec_l01Below (⟨v7.2.2.1, v7.2.2.2.1, v7.2.2.2.2.1⟩ : L01Cur) 6) fun q15 =>
sel (q15.1 == 0) (
bnd (spec_l01Byte q15.2) fun q16 =>
some (q16.1, q16.2.b_, q16.2.i_, q16.2.h_)) (
sel (q15.1 == 1) (
bnd (spec_l01Below q15.2 9) fun q17 =>
some ((IntKind.wrap .i64 (BitVec.ofInt (IntKind.bits .i64) (wrapK .i64 ((wrapK .i64 (v7.1 + q17.1)) + 252)) &&& BitVec.ofInt (IntKind.bits .i64) 255).toNat), q17.2.b_, q17.2.i_, q17.2.h_)) (
some (v7.1, q15.2.b_, q15.2.i_, q15.2.h_)))) fun v14 =>
req ((v7.2.2.2.2.2.length + ([wrapK .u8 (v14.1)]).length) * 1 ≤ 140737488355328 ∧ v7.2.2.2.2.2.length + ([wrapK .u8 (v14.1)]).length ≤ maxLen) <|
some (.go (v14.1, wrapK .i64 (v7.2.1 + 1), v14.2.1, v14.2.2.1, v14.2.2.2, (v7.2.2.2.2.2 ++ ([wrapK .u8 (v14.1)]))))) (
some (.done (v7.2.2.2.2.2, v7.2.2.1, v7.2.2.2.1, v7.2.2.2.2.1)))
def spec_l12Dots (p0 : L01Cur) (p1 : Int) : Option (ByteArray × L01Cur) :=
bnd (spec_l01Byte p0) fun q1 =>
bnd (loop (spec_l12Dots_l2 p1) (q1.1, 0, q1.2.b_, q1.2.i_, q1.2.h_, ([] : List Int))) fun v13 =>
some ((strOfNums v13.1), (⟨v13.2.1, v13.2.2.1, v13.2.2.2⟩ : L01Cur))
def spec_l12Sized (p0 : L01Cur) (p1 : Int) (p2 : Int) : Option (Pic × L01Cur) :=
bnd (spec_l12Dots p0 (wrapK .i64 (p1 * p2))) fun q1 =>
some ((⟨p1, p2, q1.1⟩ : Pic), q1.2)
def spec_l12Squares (p0 : L01Cur) : Option (Pic × L01Cur) :=
bnd (spec_l01Below p0 2) fun q1 =>
bnd (spec_l01Below q1.2 2) fun q2 =>
bnd (spec_l12Sized q2.2 (wrapK .i64 (8 + (wrapK .i64 (8 * q1.1)))) (wrapK .i64 (8 + (wrapK .i64 (8 * q2.1))))) fun q3 =>
some (q3.1, q3.2)
def spec_l01Once (p0 : L01Cur) (p1 : Int) : Option (Bool × L01Cur) :=
bnd (spec_l01Below p0 p1) fun q1 =>
some ((q1.1 == 0), q1.2)
def spec_l01In (p0 : Int) (p1 : Int) (p2 : Int) : Option Bool :=
bnd (
sel (decide (p0 ≥ p1)) (
some (decide (p0 ≤ p2))) (
some false)) fun v1 =>
some v1
def spec_PicOk (p0 : Pic) : Option Bool :=
bnd (
bnd (spec_l01In p0.Wide 1 256) fun q2 =>
sel q2 (
bnd (spec_l01In p0.High 1 256) fun q3 =>
sel q3 (
some ((p0.Dots.size : Int) == (wrapK .i64 (p0.Wide * p0.High)))) (
some false)) (
some false)) fun v1 =>
some v1
def spec_Brought (p0 : Int) (p1 : Int) (p2 : Int) : Option Int :=
bnd (
sel (decide (p2 < p1)) (
some true) (
some (decide (p0 < p1)))) fun v1 =>
sel v1 (
some p1) (
sel (decide (p0 > p2)) (
some p2) (
some p0))
def spec_DotAt (p0 : Pic) (p1 : Int) (p2 : Int) : Option Int :=
bnd (spec_PicOk p0) fun q1 =>
sel (!q1) (
some (-1)) (
bnd (spec_Brought p2 0 (wrapK .i64 (p0.High - 1))) fun q2 =>
bnd (spec_Brought p1 0 (wrapK .i64 (p0.Wide - 1))) fun q3 =>
req (0 ≤ (wrapK .i64 ((wrapK .i64 (q2 * p0.Wide)) + q3)) ∧ (wrapK .i64 ((wrapK .i64 (q2 * p0.Wide)) + q3)) < p0.Dots.size) <|
some (wrapK .i64 ((btOf p0.Dots (wrapK .i64 ((wrapK .i64 (q2 * p0.Wide)) + q3))))))
def spec_l17Near_l2 (p1 : Pic) (v3 : (Int × Int × (List Int) × Int × Int)) (v7 : (Int × (List Int))) : Option (Lp (Int × (List Int)) (List Int)) :=
sel (decide (v7.1 < (p1.Dots.size : Int))) (
req (p1.Wide ≠ 0) <|
req (p1.Wide ≠ 0) <|
bnd (spec_DotAt p1 (wrapK .i64 ((v7.1.tmod p1.Wide) + v3.1)) (wrapK .i64 ((wrapK .i64 (v7.1.tdiv p1.Wide)) + v3.2.1))) fun q11 =>
req ((v7.2.length + ([wrapK .u8 (q11)]).length) * 1 ≤ 140737488355328 ∧ v7.2.length + ([wrapK .u8 (q11)]).length ≤ maxLen) <|
some (.go (wrapK .i64 (v7.1 + 1), (v7.2 ++ ([wrapK .u8 (q11)]))))) (
some (.done v7.2))
def spec_l17Near_l4 (v17 : (Int × (List Int) × Int × Int × (List Int))) : Option (Lp (Int × (List Int) × Int × Int × (List Int)) ((List Int) × (List Int) × Int × Int)) :=
bnd (spec_l01Below (⟨v17.2.1, v17.2.2.1, v17.2.2.2.1⟩ : L01Cur) 6) fun q23 =>
sel (decide (v17.1 < q23.1)) (
bnd (spec_l01Below q23.2 (v17.2.2.2.2.length : Int)) fun q24 =>
bnd (spec_l01Byte q24.2) fun q25 =>
req (0 ≤ q24.1 ∧ q24.1 < v17.2.2.2.2.length) <|
req (q24.1.toNat < v17.2.2.2.2.length) <|
some (.go (wrapK .i64 (v17.1 + 1), q25.2.b_, q25.2.i_, q25.2.h_, (v17.2.2.2.2.set q24.1.toNat (wrapK .u8 (q25.1)))))) (
some (.done (v17.2.2.2.2, q23.2.b_, q23.2.i_, q23.2.h_)))
def spec_l17Near (p0 : L01Cur) (p1 : Pic) : Option (Pic × L01Cur) :=
bnd (spec_l01Below p0 7) fun q1 =>
bnd (spec_l01Below q1.2 5) fun q2 =>
bnd (
bnd (spec_l01Once q2.2 3) fun q4 =>
sel q4.1 (
some (0, 0, q4.2.b_, q4.2.i_, q4.2.h_)) (
some (wrapK .i64 (q1.1 - 3), wrapK .i64 (q2.1 - 2), q4.2.b_, q4.2.i_, q4.2.h_))) fun v3 =>
bnd (loop (spec_l17Near_l2 p1 v3) (0, ([] : List Int))) fun v10 =>
bnd (loop (spec_l17Near_l4) (0, v3.2.2.1, v3.2.2.2.1, v3.2.2.2.2, v10)) fun v22 =>
some ((⟨p1.Wide, p1.High, (strOfNums v22.1)⟩ : Pic), (⟨v22.2.1, v22.2.2.1, v22.2.2.2⟩ : L01Cur))
def spec_DrawPics (p0 : (List Int)) : Option (Pic × Pic) :=
bnd (spec_l01New p0) fun q1 =>
bnd (spec_l12Squares q1) fun q2 =>
bnd (spec_l17Near q2.2 q2.1) fun q3 =>
some (q2.1, q3.1)
def spec_BlockOf_l2 (p0 : Pic) (p1 : Int) (p2 : Int) (v7 : (Int × (List Int))) : Option (Lp (Int × (List Int)) (List Int)) :=
sel (decide (v7.1 < 64)) (
req ((8 : Int) ≠ 0) <|
req ((8 : Int) ≠ 0) <|
bnd (spec_DotAt p0 (wrapK .i64 (p1 + (v7.1.tmod 8))) (wrapK .i64 (p2 + (wrapK .i64 (v7.1.tdiv 8))))) fun q11 =>
req ((v7.2.length + ([q11]).length) * 8 ≤ 140737488355328 ∧ v7.2.length + ([q11]).length ≤ maxLen) <|
some (.go (wrapK .i64 (v7.1 + 1), (v7.2 ++ ([q11]))))) (
some (.done v7.2))
def spec_BlockOf (p0 : Pic) (p1 : Int) (p2 : Int) : Option (List Int) :=
bnd (
bnd (spec_PicOk p0) fun q2 =>
sel q2 (
bnd (spec_l01In p1 (-1000) 1000) fun q3 =>
sel q3 (
bnd (spec_l01In p2 (-1000) 1000) fun q4 =>
some (!q4)) (
some true)) (
some true)) fun v1 =>
sel v1 (
some ([] : List Int)) (
bnd (loop (spec_BlockOf_l2 p0 p1 p2) (0, ([] : List Int))) fun v10 =>
some v10)
def impl_PicOk (p0 : Pic) : Option Bool :=
bnd (
bnd (impl_within p0.Wide 1 256) fun q2 =>
sel q2 (
bnd (impl_within p0.High 1 256) fun q3 =>
sel q3 (
some ((p0.Dots.size : Int) == (wrapK .i64 (p0.Wide * p0.High)))) (
some false)) (
some false)) fun v1 =>
some v1
def impl_areIn_l2 (p0 : (List Int)) (p2 : Int) (p3 : Int) (v3 : Int) : Option (Lp Int (Ou Unit Bool)) :=
sel (decide (v3 < (p0.length : Int))) (
req (0 ≤ v3 ∧ v3 < p0.length) <|
bnd (impl_within (p0.getD v3.toNat 0) p2 p3) fun q7 =>
sel (!q7) (
some (.done (.ret false))) (
some (.go (wrapK .i64 (v3 + 1))))) (
some (.done (.out ())))
def impl_areIn (p0 : (List Int)) (p1 : Int) (p2 : Int) (p3 : Int) : Option Bool :=
bnd (loop (impl_areIn_l2 p0 p2 p3) 0) fun o8 => match o8 with
| .out v6 => (
some ((p0.length : Int) == p1))
| .ret r => some r
def impl_Pic_isSquare (p0 : Pic) (p1 : Int) (p2 : Int) : Option Bool :=
bnd (
req ((8 : Int) ≠ 0) <|
sel ((p1.tmod 8) == 0) (
req ((8 : Int) ≠ 0) <|
sel ((p2.tmod 8) == 0) (
bnd (impl_within p1 0 (wrapK .i64 (p0.Wide - 8))) fun q2 =>
sel q2 (
bnd (impl_within p2 0 (wrapK .i64 (p0.High - 8))) fun q3 =>
some q3) (
some false)) (
some false)) (
some false)) fun v1 =>
some v1
def impl_Pic_holds (p0 : Pic) (p1 : Rect) : Option Bool :=
bnd (
bnd (impl_within p1.Wide 1 p0.Wide) fun q2 =>
sel q2 (
bnd (impl_within p1.High 1 p0.High) fun q3 =>
sel q3 (
bnd (impl_within p1.Left 0 (wrapK .i64 (p0.Wide - p1.Wide))) fun q4 =>
sel q4 (
bnd (impl_within p1.Top 0 (wrapK .i64 (p0.High - p1.High))) fun q5 =>
some q5) (
some false)) (
some false)) (
some false)) fun v1 =>
some v1
def impl_Pic_dot (p0 : Pic) (p1 : Int) (p2 : Int) : Option Int :=
bnd (impl_Brought p2 0 (wrapK .i64 (p0.High - 1))) fun q1 =>
bnd (impl_Brought p1 0 (wrapK .i64 (p0.Wide - 1))) fun q2 =>
req (0 ≤ (wrapK .i64 ((wrapK .i64 (q1 * p0.Wide)) + q2)) ∧ (wrapK .i64 ((wrapK .i64 (q1 * p0.Wide)) + q2)) < p0.Dots.size) <|
some (wrapK .i64 ((btOf p0.Dots (wrapK .i64 ((wrapK .i64 (q1 * p0.Wide)) + q2)))))
def impl_Pic_block_l14 (p0 : Pic) (p1 : Int) (p2 : Int) (v10 : (Int × (List Int))) (v23 : (Int × (List Int))) : Option (Lp (Int × (List Int)) (List Int)) :=
sel (decide (v23.1 < 8)) (
bnd (impl_Pic_dot p0 (wrapK .i64 (p1 + v23.1)) (wrapK .i64 (p2 + v10.1))) fun q27 =>
req ((v23.2.length + ([q27]).length) * 8 ≤ 140737488355328 ∧ v23.2.length + ([q27]).length ≤ maxLen) <|
some (.go (wrapK .i64 (v23.1 + 1), (v23.2 ++ ([q27]))))) (
some (.done v23.2))
def impl_Pic_block_l12 (p0 : Pic) (p1 : Int) (p2 : Int) (v10 : (Int × (List Int))) : Option (Lp (Int × (List Int)) (List Int)) :=
sel (decide (v10.1 < 8)) (
bnd (loop (impl_Pic_block_l14 p0 p1 p2 v10) (0, v10.2)) fun v26 =>
some (.go (wrapK .i64 (v10.1 + 1), v26))) (
some (.done v10.2))
def impl_Pic_block (p0 : Pic) (p1 : Int) (p2 : Int) : Option (List Int) :=
req (0 ≤ (0 : Int) ∧ (0 : Int) ≤ (64 : Int) ∧ (64 : Int) * 8 ≤ 281474976710656) <|
bnd (loop (impl_Pic_block_l12 p0 p1 p2) (0, (List.replicate (0 : Int).toNat (0 : Int)))) fun v20 =>
some v20
def impl_size (p0 : Int) : Option Int :=
some (if (wrapK .i64 (0 - p0)) > p0 then (wrapK .i64 (0 - p0)) else p0)
def impl_gap_l2 (p0 : (List Int)) (p1 : (List Int)) (v3 : (Int × Int)) : Option (Lp (Int × Int) Int) :=
sel (decide (v3.2 < (p0.length : Int))) (
req (0 ≤ v3.2 ∧ v3.2 < p0.length) <|
req (0 ≤ v3.2 ∧ v3.2 < p1.length) <|
bnd (impl_size (wrapK .i64 ((p0.getD v3.2.toNat 0) - (p1.getD v3.2.toNat 0)))) fun q7 =>
some (.go (wrapK .i64 (v3.1 + q7), wrapK .i64 (v3.2 + 1)))) (
some (.done v3.1))
def impl_gap (p0 : (List Int)) (p1 : (List Int)) : Option Int :=
bnd (loop (impl_gap_l2 p0 p1) (0, 0)) fun v6 =>
some v6
def impl_FoldSe (p0 : Int) : Option (Int × Bool) :=
bnd (impl_within p0 (-500000) 500000) fun q1 =>
sel (!q1) (
some (0, false)) (
sel (decide (p0 > 0)) (
some (wrapK .i64 ((wrapK .i64 (2 * p0)) - 1), true)) (
some (wrapK .i64 ((-2) * p0), true)))
def impl_figuresOf_l2 (v2 : (Int × Int)) : Option (Lp (Int × Int) Int) :=
sel (decide (v2.1 > 0)) (
req (0 ≤ (1 : Int)) <|
some (.go ((v2.1 / 2 ^ min (1 : Int).toNat (IntKind.bits .i64)), wrapK .i64 (v2.2 + 1)))) (
some (.done v2.2))
def impl_figuresOf (p0 : Int) : Option Int :=
bnd (loop (impl_figuresOf_l2) (p0, 0)) fun v4 =>
some v4
def impl_signs_l2 (v2 : (Int × Int × (List Int))) : Option (Lp (Int × Int × (List Int)) (List Int)) :=
sel (decide (v2.2.1 ≥ 0)) (
req (0 ≤ v2.2.1 ∧ v2.2.1 < v2.2.2.length) <|
req (v2.2.1.toNat < v2.2.2.length) <|
req (0 ≤ (1 : Int)) <|
some (.go ((v2.1 / 2 ^ min (1 : Int).toNat (IntKind.bits .i64)), wrapK .i64 (v2.2.1 - 1), (v2.2.2.set v2.2.1.toNat (wrapK .u8 (wrapK .i64 (48 + (IntKind.wrap .i64 (BitVec.ofInt (IntKind.bits .i64) v2.1 &&& BitVec.ofInt (IntKind.bits .i64) 1).toNat)))))))) (
some (.done v2.2.2))
def impl_signs (p0 : Int) (p1 : Int) : Option ByteArray :=
req (0 ≤ p1 ∧ p1 ≤ p1 ∧ p1 * 1 ≤ 281474976710656) <|
bnd (loop (impl_signs_l2) (p0, wrapK .i64 (p1 - 1), (List.replicate p1.toNat (0 : Int)))) fun v4 =>
some (strOfNums v4)
def impl_ue (p0 : Int) : Option ByteArray :=
bnd (impl_figuresOf (wrapK .i64 (p0 + 1))) fun q1 =>
bnd (impl_signs (wrapK .i64 (p0 + 1)) (wrapK .i64 ((wrapK .i64 (2 * q1)) - 1))) fun q2 =>
some q2
def impl_UeRow (p0 : Int) : Option (ByteArray × Bool) :=
bnd (impl_within p0 0 1000000) fun q1 =>
sel (!q1) (
some (⟨#[]⟩, false)) (
bnd (impl_ue p0) fun q2 =>
some (q2, true))
def impl_SeRow (p0 : Int) : Option (ByteArray × Bool) :=
bnd (impl_FoldSe p0) fun q1 =>
sel (!q1.2) (
some (⟨#[]⟩, false)) (
bnd (impl_UeRow q1.1) fun q2 =>
some (q2.1, q2.2))
def impl_SeSize (p0 : Int) : Option Int :=
bnd (impl_SeRow p0) fun q1 =>
some (q1.1.size : Int)
def impl_BestMove_l14 (p0 : Pic) (p1 : (List Int)) (p2 : Int) (p3 : Int) (p4 : Int) (v33 : (Int × Int × Int × Int)) (v70 : (Int × Int × Int × Int)) : Option (Lp (Int × Int × Int × Int) (Int × Int × Int)) :=
sel (decide (v70.2.2.2 ≤ p4)) (
bnd (
bnd (impl_Pic_holds p0 (⟨wrapK .i64 (p2 + v70.2.2.2), wrapK .i64 (p3 + v33.2.2.2), 8, 8⟩ : Rect)) fun q81 =>
sel (!q81) (
some (v70.1, v70.2.1, v70.2.2.1)) (
bnd (impl_Pic_block p0 (wrapK .i64 (p2 + v70.2.2.2)) (wrapK .i64 (p3 + v33.2.2.2))) fun q82 =>
bnd (impl_gap p1 q82) fun q83 =>
bnd (impl_SeSize v70.2.2.2) fun q84 =>
bnd (impl_SeSize v33.2.2.2) fun q85 =>
bnd (
sel (decide (v70.2.2.1 < 0)) (
some true) (
some (decide ((wrapK .i64 ((wrapK .i64 (q83 + q84)) + q85)) < v70.2.2.1)))) fun v86 =>
sel v86 (
some (v70.2.2.2, v33.2.2.2, wrapK .i64 ((wrapK .i64 (q83 + q84)) + q85))) (
some (v70.1, v70.2.1, v70.2.2.1)))) fun v80 =>
some (.go (v80.1, v80.2.1, v80.2.2, wrapK .i64 (v70.2.2.2 + 1)))) (
some (.done (v70.1, v70.2.1, v70.2.2.1)))
def impl_BestMove_l12 (p0 : Pic) (p1 : (List Int)) (p2 : Int) (p3 : Int) (p4 : Int) (v33 : (Int × Int × Int × Int)) : Option (Lp (Int × Int × Int × Int) (Int × Int × Int)) :=
sel (decide (v33.2.2.2 ≤ p4)) (
bnd (loop (impl_BestMove_l14 p0 p1 p2 p3 p4 v33) (v33.1, v33.2.1, v33.2.2.1, wrapK .i64 (0 - p4))) fun v79 =>
some (.go (v79.1, v79.2.1, v79.2.2, wrapK .i64 (v33.2.2.2 + 1)))) (
some (.done (v33.1, v33.2.1, v33.2.2.1)))
def impl_BestMove (p0 : Pic) (p1 : (List Int)) (p2 : Int) (p3 : Int) (p4 : Int) : Option (Int × Int × Int) :=
bnd (
bnd (impl_PicOk p0) fun q2 =>
sel q2 (
bnd (impl_areIn p1 64 0 255) fun q3 =>
sel q3 (
bnd (impl_within p4 0 4) fun q4 =>
sel q4 (
bnd (impl_Pic_isSquare p0 p2 p3) fun q5 =>
some (!q5)) (
some true)) (
some true)) (
some true)) fun v1 =>
sel v1 (
some (0, 0, (-1))) (
bnd (loop (impl_BestMove_l12 p0 p1 p2 p3 p4) (0, 0, (-1), wrapK .i64 (0 - p4))) fun v61 =>
some (v61.1, v61.2.1, v61.2.2))
def impl_BlockOf (p0 : Pic) (p1 : Int) (p2 : Int) : Option (List Int) :=
bnd (
bnd (impl_PicOk p0) fun q2 =>
sel q2 (
bnd (impl_within p1 (-1000) 1000) fun q3 =>
sel q3 (
bnd (impl_within p2 (-1000) 1000) fun q4 =>
some (!q4)) (
some true)) (
some true)) fun v1 =>
sel v1 (
some ([] : List Int)) (
bnd (impl_Pic_block p0 p1 p2) fun q5 =>
some q5)
def impl_GapOf (p0 : (List Int)) (p1 : (List Int)) : Option Int :=
bnd (
bnd (impl_areIn p0 64 (-1000) 1000) fun q2 =>
sel q2 (
bnd (impl_areIn p1 64 (-1000) 1000) fun q3 =>
some (!q3)) (
some true)) fun v1 =>
sel v1 (
some (-1)) (
bnd (impl_gap p0 p1) fun q4 =>
some q4)
def laws_FnBestMove (p0 : (List Int)) : Option Bool :=
bnd (laws_big p0) fun q1 =>
sel q1 (
some true) (
bnd (spec_DrawPics p0) fun q2 =>
bnd (spec_DrawPlaces p0) fun q3 =>
req (0 ≤ (0 : Int) ∧ (0 : Int) < q3.length) <|
req ((0 : Int).toNat < q3.length) <|
req ((8 : Int) ≠ 0) <|
req ((wrapK .i64 (q2.1.Wide.tdiv 8)) ≠ 0) <|
req (0 ≤ (1 : Int) ∧ (1 : Int) < q3.length) <|
req ((1 : Int).toNat < q3.length) <|
req ((8 : Int) ≠ 0) <|
req ((wrapK .i64 (q2.1.High.tdiv 8)) ≠ 0) <|
bnd (spec_BlockOf q2.2 (wrapK .i64 (8 * ((q3.getD ((0 : Int).toNat) 0).tmod (wrapK .i64 (q2.1.Wide.tdiv 8))))) (wrapK .i64 (8 * ((q3.getD ((1 : Int).toNat) 0).tmod (wrapK .i64 (q2.1.High.tdiv 8)))))) fun q4 =>
req ((([] : List Int).length + q4.length) * 8 ≤ 140737488355328 ∧ ([] : List Int).length + q4.length ≤ maxLen) <|
req (0 ≤ (2 : Int) ∧ (2 : Int) < q3.length) <|
req ((2 : Int).toNat < q3.length) <|
req ((4 : Int) ≠ 0) <|
bnd (impl_BestMove q2.1 (([] : List Int) ++ q4) (wrapK .i64 (8 * ((q3.getD ((0 : Int).toNat) 0).tmod (wrapK .i64 (q2.1.Wide.tdiv 8))))) (wrapK .i64 (8 * ((q3.getD ((1 : Int).toNat) 0).tmod (wrapK .i64 (q2.1.High.tdiv 8))))) ((q3.getD ((2 : Int).toNat) 0).tmod 4)) fun q5 =>
req ((([] : List Int).length + q4.length) * 8 ≤ 140737488355328 ∧ ([] : List Int).length + q4.length ≤ maxLen) <|
bnd (impl_BlockOf q2.1 (wrapK .i64 ((wrapK .i64 (8 * ((q3.getD ((0 : Int).toNat) 0).tmod (wrapK .i64 (q2.1.Wide.tdiv 8))))) + q5.1)) (wrapK .i64 ((wrapK .i64 (8 * ((q3.getD ((1 : Int).toNat) 0).tmod (wrapK .i64 (q2.1.High.tdiv 8))))) + q5.2.1))) fun q6 =>
bnd (impl_GapOf (([] : List Int) ++ q4) q6) fun q7 =>
bnd (impl_SeSize q5.1) fun q8 =>
bnd (impl_SeSize q5.2.1) fun q9 =>
req ((([] : List Int).length + q4.length) * 8 ≤ 140737488355328 ∧ ([] : List Int).length + q4.length ≤ maxLen) <|
bnd (impl_BlockOf q2.1 (wrapK .i64 (8 * ((q3.getD ((0 : Int).toNat) 0).tmod (wrapK .i64 (q2.1.Wide.tdiv 8))))) (wrapK .i64 (8 * ((q3.getD ((1 : Int).toNat) 0).tmod (wrapK .i64 (q2.1.High.tdiv 8)))))) fun q10 =>
bnd (impl_GapOf (([] : List Int) ++ q4) q10) fun q11 =>
bnd (
sel ((wrapK .i64 ((wrapK .i64 (q7 + q8)) + q9)) == q5.2.2) (
sel (decide (q5.2.2 ≥ 2)) (
sel (decide (q5.2.2 ≤ (wrapK .i64 (q11 + 2)))) (
req (0 ≤ (2 : Int) ∧ (2 : Int) < q3.length) <|
req ((2 : Int).toNat < q3.length) <|
req ((4 : Int) ≠ 0) <|
sel (decide (q5.1 ≥ (wrapK .i64 (0 - ((q3.getD ((2 : Int).toNat) 0).tmod 4))))) (
req (0 ≤ (2 : Int) ∧ (2 : Int) < q3.length) <|
req ((2 : Int).toNat < q3.length) <|
req ((4 : Int) ≠ 0) <|
sel (decide (q5.1 ≤ ((q3.getD ((2 : Int).toNat) 0).tmod 4))) (
req (0 ≤ (2 : Int) ∧ (2 : Int) < q3.length) <|
req ((2 : Int).toNat < q3.length) <|
req ((4 : Int) ≠ 0) <|
sel (decide (q5.2.1 ≥ (wrapK .i64 (0 - ((q3.getD ((2 : Int).toNat) 0).tmod 4))))) (
req (0 ≤ (2 : Int) ∧ (2 : Int) < q3.length) <|
req ((2 : Int).toNat < q3.length) <|
req ((4 : Int) ≠ 0) <|
sel (decide (q5.2.1 ≤ ((q3.getD ((2 : Int).toNat) 0).tmod 4))) (
sel (decide ((wrapK .i64 ((wrapK .i64 (8 * ((q3.getD ((0 : Int).toNat) 0).tmod (wrapK .i64 (q2.1.Wide.tdiv 8))))) + q5.1)) ≥ 0)) (
sel (decide ((wrapK .i64 ((wrapK .i64 (8 * ((q3.getD ((1 : Int).toNat) 0).tmod (wrapK .i64 (q2.1.High.tdiv 8))))) + q5.2.1)) ≥ 0)) (
sel (decide ((wrapK .i64 ((wrapK .i64 ((wrapK .i64 (8 * ((q3.getD ((0 : Int).toNat) 0).tmod (wrapK .i64 (q2.1.Wide.tdiv 8))))) + q5.1)) + 8)) ≤ q2.1.Wide)) (
some (decide ((wrapK .i64 ((wrapK .i64 ((wrapK .i64 (8 * ((q3.getD ((1 : Int).toNat) 0).tmod (wrapK .i64 (q2.1.High.tdiv 8))))) + q5.2.1)) + 8)) ≤ q2.1.High))) (
some false)) (
some false)) (
some false)) (
some false)) (
some false)) (
some false)) (
some false)) (
some false)) (
some false)) (
some false)) fun v12 =>
some v12)
end
end Go.Proofs.Ytplmeeookgefnaa.A
