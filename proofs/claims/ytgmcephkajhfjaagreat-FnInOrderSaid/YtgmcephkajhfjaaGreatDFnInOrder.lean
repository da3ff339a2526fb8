/- What the functions that the law FnInOrder reaches compute, over numbers, texts and lists. Written by a program of this session. Conditions: none. -/
import Derived.Test.YtgmcephkajhfjaaGreatAL1
namespace Go.Proofs.YtgmcephkajhfjaaGreat.A
open Go Go.Proofs Go.Proofs.YtgmcephkajhfjaaGreatAL Go.RowKit
set_option linter.unusedVariables false
set_option linter.unusedSimpArgs false
structure Packet where
 Seq : Int
 First : Bool
 Last : Bool
 Bytes : ByteArray
structure Queue where
 Begun : Bool
 Next : Int
 Age : Int
 Held : (List Packet)
 Late : Int
 Far : Int
 Twice : Int
 Over : Int
 Lost : Int
structure Seq where
 Level : Int
 Bits : Int
 Cols : (List Int)
 Rows : (List Int)
structure Par where
 Qp : Int
 Large : Bool
 Exact : Bool
 Confined : Bool
structure Rate where
 Qp : Int
 Target : Int
 Debt : Int
structure Pic where
 Wide : Int
 High : Int
 Dots : ByteArray
structure Source where
 Seq : Seq
 Par : Par
 Rate : Rate
 Frame : Int
 Since : Int
 Every : Int
 Reach : Int
 Has : Bool
 Ref : Pic
structure L01Cur where
 b_ : (List Int)
 i_ : Int
 h_ : Int
structure Cond where
 Key : Bool
 Qp : Int
 Large : Bool
 Exact : Bool
structure Head where
 Tile : Int
 Frame : Int
 Qp : Int
structure Square where
 Kind : Int
 Mode : Int
 Dx : Int
 Dy : Int
 Levels : (List Int)
structure Edges where
 Above : (List Int)
 Left : (List Int)
 Corner : Int
def dByteArray : ByteArray := ⟨#[]⟩
def dPacket : Packet := ⟨0, false, false, ⟨#[]⟩⟩
def dSquare : Square := ⟨0, 0, 0, 0, []⟩
noncomputable section
def laws_big (p0 : (List Int)) : Option Bool :=
some (decide ((p0.length : Int) > 1048576))
def spec_l01New_l2 (p0 : (List Int)) (v3 : (Int × Int)) : Option (Lp (Int × Int) Int) :=
bnd (
sel (decide (v3.2 < (p0.length : Int))) (
some (decide (v3.2 < 4000))) (
some false)) fun v7 =>
sel v7 (
req (0 ≤ v3.2 ∧ v3.2 < p0.length) <|
some (.go ((IntKind.wrap .i64 (BitVec.ofInt (IntKind.bits .i64) (wrapK .i64 ((wrapK .i64 ((wrapK .i64 (v3.1 * 131)) + (wrapK .i64 ((p0.getD v3.2.toNat 0))))) + 7)) &&& BitVec.ofInt (IntKind.bits .i64) 1073741823).toNat), wrapK .i64 (v3.2 + 1)))) (
some (.done v3.1))
def spec_l01New (p0 : (List Int)) : Option L01Cur :=
bnd (loop (spec_l01New_l2 p0) (wrapK .i64 (94701 + (p0.length : Int)), 0)) fun v6 =>
some (⟨p0, 0, v6⟩ : L01Cur)
def spec_l01Byte (p0 : L01Cur) : Option (Int × L01Cur) :=
req (0 ≤ (33 : Int)) <|
req (0 ≤ (45 : Int)) <|
bnd (
sel (decide (p0.i_ < (p0.b_.length : Int))) (
req (0 ≤ p0.i_ ∧ p0.i_ < p0.b_.length) <|
some ((IntKind.wrap .i64 (BitVec.ofInt (IntKind.bits .i64) (wrapK .i64 ((IntKind.wrap .i64 (BitVec.ofInt (IntKind.bits .i64) (IntKind.wrap .i64 (BitVec.ofInt (IntKind.bits .i64) ((wrapK .i64 ((wrapK .i64 (p0.h_ * 6364136223846793005)) + 1442695040888963407)) / 2 ^ min (33 : Int).toNat (IntKind.bits .i64)) ^^^ BitVec.ofInt (IntKind.bits .i64) ((wrapK .i64 ((wrapK .i64 (p0.h_ * 6364136223846793005)) + 1442695040888963407)) / 2 ^ min (45 : Int).toNat (IntKind.bits .i64))).toNat) &&& BitVec.ofInt (IntKind.bits .i64) 255).toNat) + (wrapK .i64 ((p0.b_.getD p0.i_.toNat 0))))) &&& BitVec.ofInt (IntKind.bits .i64) 255).toNat), wrapK .i64 (p0.i_ + 1))) (
some ((IntKind.wrap .i64 (BitVec.ofInt (IntKind.bits .i64) (IntKind.wrap .i64 (BitVec.ofInt (IntKind.bits .i64) ((wrapK .i64 ((wrapK .i64 (p0.h_ * 6364136223846793005)) + 1442695040888963407)) / 2 ^ min (33 : Int).toNat (IntKind.bits .i64)) ^^^ BitVec.ofInt (IntKind.bits .i64) ((wrapK .i64 ((wrapK .i64 (p0.h_ * 6364136223846793005)) + 1442695040888963407)) / 2 ^ min (45 : Int).toNat (IntKind.bits .i64))).toNat) &&& BitVec.ofInt (IntKind.bits .i64) 255).toNat), p0.i_))) fun v1 =>
some (v1.1, (⟨p0.b_, v1.2, wrapK .i64 ((wrapK .i64 (p0.h_ * 6364136223846793005)) + 1442695040888963407)⟩ : L01Cur))
def spec_l01Below (p0 : L01Cur) (p1 : Int) : Option (Int × L01Cur) :=
sel (decide (p1 ≤ 0)) (
some (0, p0)) (
sel (decide (p1 ≤ 256)) (
bnd (spec_l01Byte p0) fun q1 =>
req (p1 ≠ 0) <|
some ((q1.1.tmod p1), q1.2)) (
bnd (spec_l01Byte p0) fun q2 =>
bnd (spec_l01Byte q2.2) fun q3 =>
bnd (spec_l01Byte q3.2) fun q4 =>
bnd (spec_l01Byte q4.2) fun q5 =>
req (p1 ≠ 0) <|
some (((wrapK .i64 ((wrapK .i64 ((wrapK .i64 ((wrapK .i64 (q2.1 * 16777216)) + (wrapK .i64 (q3.1 * 65536)))) + (wrapK .i64 (q4.1 * 256)))) + q5.1)).tmod p1), q5.2)))
def spec_l01PickInt (p0 : L01Cur) (p1 : (List Int)) : Option (Int × L01Cur) :=
bnd (spec_l01Below p0 (p1.length : Int)) fun q1 =>
req (0 ≤ q1.1 ∧ q1.1 < p1.length) <|
some ((p1.getD q1.1.toNat 0), q1.2)
def spec_l01Once (p0 : L01Cur) (p1 : Int) : Option (Bool × L01Cur) :=
bnd (spec_l01Below p0 p1) fun q1 =>
some ((q1.1 == 0), q1.2)
def spec_l04Text_l2 (v4 : (Int × (List Int) × Int × Int × (List Int))) : Option (Lp (Int × (List Int) × Int × Int × (List Int)) ((List Int) × Int × Int × (List Int))) :=
bnd (spec_l01Below (⟨v4.2.1, v4.2.2.1, v4.2.2.2.1⟩ : L01Cur) 14) fun q9 =>
sel (decide (v4.1 < q9.1)) (
bnd (spec_l01PickInt q9.2 ([0, 0, 0, 0, 1, 2, 3, 3, 4, 200])) fun q10 =>
req ((v4.2.2.2.2.length + ([wrapK .u8 (q10.1)]).length) * 1 ≤ 140737488355328 ∧ v4.2.2.2.2.length + ([wrapK .u8 (q10.1)]).length ≤ maxLen) <|
some (.go (wrapK .i64 (v4.1 + 1), q10.2.b_, q10.2.i_, q10.2.h_, (v4.2.2.2.2 ++ ([wrapK .u8 (q10.1)]))))) (
some (.done (q9.2.b_, q9.2.i_, q9.2.h_, v4.2.2.2.2)))
def spec_l04Text (p0 : L01Cur) : Option (ByteArray × L01Cur) :=
bnd (loop (spec_l04Text_l2) (0, p0.b_, p0.i_, p0.h_, ([] : List Int))) fun v8 =>
bnd (
bnd (spec_l01Once (⟨v8.1, v8.2.1, v8.2.2.1⟩ : L01Cur) 8) fun q13 =>
sel (!q13.1) (
bnd (spec_l01Below q13.2 5) fun q14 =>
req ((v8.2.2.2.length + ([wrapK .u8 (wrapK .i64 (1 + q14.1))]).length) * 1 ≤ 140737488355328 ∧ v8.2.2.2.length + ([wrapK .u8 (wrapK .i64 (1 + q14.1))]).length ≤ maxLen) <|
some ((v8.2.2.2 ++ ([wrapK .u8 (wrapK .i64 (1 + q14.1))])), q14.2.b_, q14.2.i_, q14.2.h_)) (
some (v8.2.2.2, q13.2.b_, q13.2.i_, q13.2.h_))) fun v12 =>
some ((strOfNums v12.1), (⟨v12.2.1, v12.2.2.1, v12.2.2.2⟩ : L01Cur))
def spec_l04Units_l2 (v4 : (Int × (List Int) × Int × Int × (List ByteArray))) : Option (Lp (Int × (List Int) × Int × Int × (List ByteArray)) ((List ByteArray) × (List Int) × Int × Int)) :=
bnd (spec_l01Below (⟨v4.2.1, v4.2.2.1, v4.2.2.2.1⟩ : L01Cur) 5) fun q9 =>
sel (decide (v4.1 < q9.1)) (
bnd (spec_l04Text q9.2) fun q10 =>
req ((v4.2.2.2.2.length + ([q10.1]).length) * 16 ≤ 140737488355328 ∧ v4.2.2.2.2.length + ([q10.1]).length ≤ maxLen) <|
some (.go (wrapK .i64 (v4.1 + 1), q10.2.b_, q10.2.i_, q10.2.h_, (v4.2.2.2.2 ++ ([q10.1]))))) (
some (.done (v4.2.2.2.2, q9.2.b_, q9.2.i_, q9.2.h_)))
def spec_l04Units (p0 : L01Cur) : Option ((List ByteArray) × L01Cur) :=
bnd (loop (spec_l04Units_l2) (0, p0.b_, p0.i_, p0.h_, ([] : List ByteArray))) fun v8 =>
some (v8.1, (⟨v8.2.1, v8.2.2.1, v8.2.2.2⟩ : L01Cur))
def spec_l05ParRight (p0 : L01Cur) : Option (Par × L01Cur) :=
bnd (spec_l01Below p0 41) fun q1 =>
bnd (spec_l01Once q1.2 4) fun q2 =>
bnd (
bnd (spec_l01Below q2.2 3) fun q4 =>
sel (q4.1 == 0) (
some (true, false, q4.2.b_, q4.2.i_, q4.2.h_)) (
sel (q4.1 == 1) (
some (false, true, q4.2.b_, q4.2.i_, q4.2.h_)) (
some (false, false, q4.2.b_, q4.2.i_, q4.2.h_)))) fun v3 =>
some ((⟨q1.1, v3.1, v3.2.1, (!q2.1)⟩ : Par), (⟨v3.2.2.1, v3.2.2.2.1, v3.2.2.2.2⟩ : L01Cur))
def spec_l18Right (p0 : L01Cur) : Option (Rate × L01Cur) :=
bnd (spec_l01Below p0 2000) fun q1 =>
bnd (spec_l01Below q1.2 41) fun q2 =>
bnd (spec_l01Below q2.2 (wrapK .i64 ((wrapK .i64 (16 * (wrapK .i64 (1 + q1.1)))) + 1))) fun q3 =>
some ((⟨q2.1, wrapK .i64 (1 + q1.1), wrapK .i64 (q3.1 - (wrapK .i64 (8 * (wrapK .i64 (1 + q1.1)))))⟩ : Rate), q3.2)
def spec_l01In (p0 : Int) (p1 : Int) (p2 : Int) : Option Bool :=
bnd (
sel (decide (p0 ≥ p1)) (
some (decide (p0 ≤ p2))) (
some false)) fun v1 =>
some v1
def spec_l05Sum_l2 (p0 : (List Int)) (v4 : (Int × Int)) : Option (Lp (Int × Int) (Ou Int Int)) :=
sel (decide (v4.2 < (p0.length : Int))) (
req (0 ≤ v4.2 ∧ v4.2 < p0.length) <|
bnd (spec_l01In (p0.getD v4.2.toNat 0) 1 8) fun q8 =>
sel (!q8) (
some (.done (.ret 0))) (
req (0 ≤ v4.2 ∧ v4.2 < p0.length) <|
some (.go (wrapK .i64 (v4.1 + (p0.getD v4.2.toNat 0)), wrapK .i64 (v4.2 + 1))))) (
some (.done (.out v4.1)))
def spec_l05Sum (p0 : (List Int)) : Option Int :=
bnd (
sel (decide ((p0.length : Int) < 1)) (
some true) (
some (decide ((p0.length : Int) > 4)))) fun v1 =>
sel v1 (
some 0) (
bnd (loop (spec_l05Sum_l2 p0) (0, 0)) fun o9 => match o9 with
| .out v7 => (
some v7)
| .ret r => some r)
def spec_SquaresOf (p0 : Seq) : Option Int :=
bnd (spec_l05Sum p0.Cols) fun q1 =>
bnd (spec_l05Sum p0.Rows) fun q2 =>
some (wrapK .i64 (q1 * q2))
def spec_LevelSquares (p0 : Int) : Option Int :=
sel (p0 == 1) (
some 16) (
sel (p0 == 2) (
some 64) (
sel (p0 == 3) (
some 256) (
some 0)))
def spec_SeqOk (p0 : Seq) : Option Bool :=
bnd (
bnd (spec_SquaresOf p0) fun q2 =>
bnd (spec_LevelSquares p0.Level) fun q3 =>
bnd (spec_l01In q2 1 q3) fun q4 =>
sel q4 (
bnd (spec_l01In p0.Bits 3 8) fun q5 =>
some q5) (
some false)) fun v1 =>
some v1
def spec_LevelFor_l2 (p0 : (List Int)) (p1 : (List Int)) (v3 : Int) : Option (Lp Int (Ou Unit Int)) :=
sel (decide (v3 ≤ 3)) (
bnd (spec_SeqOk (⟨v3, 3, p0, p1⟩ : Seq)) fun q7 =>
sel q7 (
some (.done (.ret v3))) (
some (.go (wrapK .i64 (v3 + 1))))) (
some (.done (.out ())))
def spec_LevelFor (p0 : (List Int)) (p1 : (List Int)) : Option Int :=
bnd (loop (spec_LevelFor_l2 p0 p1) 1) fun o8 => match o8 with
| .out v6 => (
some 0)
| .ret r => some r
def spec_TilesOf (p0 : Seq) : Option Int :=
bnd (spec_SeqOk p0) fun q1 =>
sel (!q1) (
some 0) (
some (wrapK .i64 ((p0.Cols.length : Int) * (p0.Rows.length : Int))))
def spec_ParOk (p0 : Par) : Option Bool :=
bnd (
bnd (spec_l01In p0.Qp 0 40) fun q2 =>
sel q2 (
sel p0.Large (
some (!p0.Exact)) (
some true)) (
some false)) fun v1 =>
some v1
def spec_RateOk (p0 : Rate) : Option Bool :=
bnd (
bnd (spec_l01In p0.Qp 0 40) fun q2 =>
sel q2 (
bnd (spec_l01In p0.Target 1 100000) fun q3 =>
sel q3 (
bnd (spec_l01In p0.Debt (wrapK .i64 ((-8) * p0.Target)) (wrapK .i64 (8 * p0.Target))) fun q4 =>
some q4) (
some false)) (
some false)) fun v1 =>
some v1
def spec_SizeOf (p0 : Seq) : Option (Int × Int) :=
bnd (spec_SeqOk p0) fun q1 =>
sel (!q1) (
some (0, 0)) (
bnd (spec_l05Sum p0.Cols) fun q2 =>
bnd (spec_l05Sum p0.Rows) fun q3 =>
some (wrapK .i64 (8 * q2), wrapK .i64 (8 * q3)))
def spec_PicOk (p0 : Pic) : Option Bool :=
bnd (
bnd (spec_l01In p0.Wide 1 256) fun q2 =>
sel q2 (
bnd (spec_l01In p0.High 1 256) fun q3 =>
sel q3 (
some ((p0.Dots.size : Int) == (wrapK .i64 (p0.Wide * p0.High)))) (
some false)) (
some false)) fun v1 =>
some v1
def spec_SourceOk (p0 : Source) : Option Bool :=
bnd (
bnd (spec_TilesOf p0.Seq) fun q2 =>
sel (q2 != 1) (
some true) (
bnd (spec_ParOk p0.Par) fun q3 =>
sel q3 (
bnd (spec_RateOk p0.Rate) fun q4 =>
sel q4 (
sel (decide (p0.Frame < 0)) (
some true) (
req (0 ≤ (wrapK .u64 (p0.Seq.Bits))) <|
some (decide (p0.Frame ≥ (wrapK .i64 (1 * 2 ^ min (wrapK .u64 (p0.Seq.Bits)).toNat (IntKind.bits .i64))))))) (
some true)) (
some true))) fun v1 =>
sel v1 (
some false) (
bnd (
bnd (spec_l01In p0.Every 1 1000) fun q6 =>
sel q6 (
bnd (spec_l01In p0.Since 0 1000) fun q7 =>
sel q7 (
bnd (spec_l01In p0.Reach 0 4) fun q8 =>
some (!q8)) (
some true)) (
some true)) fun v5 =>
sel v5 (
some false) (
bnd (spec_SizeOf p0.Seq) fun q9 =>
sel p0.Has (
bnd (
bnd (spec_PicOk p0.Ref) fun q11 =>
sel q11 (
sel (p0.Ref.Wide == q9.1) (
some (p0.Ref.High == q9.2)) (
some false)) (
some false)) fun v10 =>
some v10) (
bnd (
sel (p0.Ref.Wide == 0) (
sel (p0.Ref.High == 0) (
some ((p0.Ref.Dots.size : Int) == 0)) (
some false)) (
some false)) fun v12 =>
some v12)))
def spec_SourceNew (p0 : Int) (p1 : Int) (p2 : Int) (p3 : Par) (p4 : Rate) (p5 : Int) (p6 : Int) : Option (Source × Bool) :=
bnd (spec_LevelFor ([p0]) ([p1])) fun q1 =>
bnd (spec_SourceOk (⟨(⟨q1, p2, [p0], [p1]⟩ : Seq), p3, p4, 0, 0, p5, p6, false, (⟨0, 0, ⟨#[]⟩⟩ : Pic)⟩ : Source)) fun q2 =>
sel (!q2) (
some ((⟨(⟨0, 0, [], []⟩ : Seq), (⟨0, false, false, false⟩ : Par), (⟨0, 0, 0⟩ : Rate), 0, 0, 0, 0, false, (⟨0, 0, ⟨#[]⟩⟩ : Pic)⟩ : Source), false)) (
some ((⟨(⟨q1, p2, [p0], [p1]⟩ : Seq), p3, p4, 0, 0, p5, p6, false, (⟨0, 0, ⟨#[]⟩⟩ : Pic)⟩ : Source), true))
def spec_l12Dots_l2 (p1 : Int) (v7 : (Int × Int × (List Int) × Int × Int × (List Int))) : Option (Lp (Int × Int × (List Int) × Int × Int × (List Int)) ((List Int) × (List Int) × Int × Int)) :=
sel (decide (v7.2.1 < p1)) (
bnd (
bnd (spec_l01Below (⟨v7.2.2.1, v7.2.2.2.1, v7.2.2.2.2.1⟩ : L01Cur) 6) fun q15 =>
sel (q15.1 == 0) (
bnd (spec_l01Byte q15.2) fun q16 =>
some (q16.1, q16.2.b_, q16.2.i_, q16.2.h_)) (
sel (q15.1 == 1) (
bnd (spec_l01Below q15.2 9) fun q17 =>
some ((IntKind.wrap .i64 (BitVec.ofInt (IntKind.bits .i64) (wrapK .i64 ((wrapK .i64 (v7.1 + q17.1)) + 252)) &&& BitVec.ofInt (IntKind.bits .i64) 255).toNat), q17.2.b_, q17.2.i_, q17.2.h_)) (
some (v7.1, q15.2.b_, q15.2.i_, q15.2.h_)))) fun v14 =>
req ((v7.2.2.2.2.2.length + ([wrapK .u8 (v14.1)]).length) * 1 ≤ 140737488355328 ∧ v7.2.2.2.2.2.length + ([wrapK .u8 (v14.1)]).length ≤ maxLen) <|
some (.go (v14.1, wrapK .i64 (v7.2.1 + 1), v14.2.1, v14.2.2.1, v14.2.2.2, (v7.2.2.2.2.2 ++ ([wrapK .u8 (v14.1)]))))) (
some (.done (v7.2.2.2.2.2, v7.2.2.1, v7.2.2.2.1, v7.2.2.2.2.1)))
def spec_l12Dots (p0 : L01Cur) (p1 : Int) : Option (ByteArray × L01Cur) :=
bnd (spec_l01Byte p0) fun q1 =>
bnd (loop (spec_l12Dots_l2 p1) (q1.1, 0, q1.2.b_, q1.2.i_, q1.2.h_, ([] : List Int))) fun v13 =>
some ((strOfNums v13.1), (⟨v13.2.1, v13.2.2.1, v13.2.2.2⟩ : L01Cur))
def spec_l12Sized (p0 : L01Cur) (p1 : Int) (p2 : Int) : Option (Pic × L01Cur) :=
bnd (spec_l12Dots p0 (wrapK .i64 (p1 * p2))) fun q1 =>
some ((⟨p1, p2, q1.1⟩ : Pic), q1.2)
def spec_KeyDue (p0 : Source) (p1 : Bool) : Option Bool :=
bnd (
bnd (spec_SourceOk p0) fun q2 =>
sel q2 (
sel p1 (
some true) (
sel p0.Has (
some (decide (p0.Since ≥ p0.Every))) (
some true))) (
some false)) fun v1 =>
some v1
def spec_l05Copy (p0 : Seq) : Option Seq :=
req ((([] : List Int).length + p0.Cols.length) * 8 ≤ 140737488355328 ∧ ([] : List Int).length + p0.Cols.length ≤ maxLen) <|
req ((([] : List Int).length + p0.Rows.length) * 8 ≤ 140737488355328 ∧ ([] : List Int).length + p0.Rows.length ≤ maxLen) <|
some (⟨p0.Level, p0.Bits, (([] : List Int) ++ p0.Cols), (([] : List Int) ++ p0.Rows)⟩ : Seq)
def spec_Brought (p0 : Int) (p1 : Int) (p2 : Int) : Option Int :=
bnd (
sel (decide (p2 < p1)) (
some true) (
some (decide (p0 < p1)))) fun v1 =>
sel v1 (
some p1) (
sel (decide (p0 > p2)) (
some p2) (
some p0))
def spec_QpFor (p0 : Rate) (p1 : Bool) : Option Int :=
bnd (spec_RateOk p0) fun q1 =>
sel (!q1) (
some 0) (
sel p1 (
bnd (spec_Brought (wrapK .i64 (p0.Qp - 2)) 0 40) fun q2 =>
some q2) (
some p0.Qp))
def spec_l16Side (p0 : Int) : Option Bool :=
bnd (
req ((8 : Int) ≠ 0) <|
sel ((p0.tmod 8) == 0) (
bnd (spec_l01In p0 8 64) fun q2 =>
some q2) (
some false)) fun v1 =>
some v1
def spec_CondOk (p0 : Cond) : Option Bool :=
bnd (
bnd (spec_l01In p0.Qp 0 40) fun q2 =>
sel q2 (
sel p0.Large (
some (!p0.Exact)) (
some true)) (
some false)) fun v1 =>
some v1
def spec_l17Like (p0 : Pic) (p1 : Pic) : Option Bool :=
bnd (
bnd (spec_PicOk p0) fun q2 =>
sel q2 (
bnd (spec_PicOk p1) fun q3 =>
sel q3 (
sel (p0.Wide == p1.Wide) (
some (p0.High == p1.High)) (
some false)) (
some false)) (
some false)) fun v1 =>
some v1
def spec_l01Long_l2 (p0 : Int) (p1 : Int) (v2 : (Int × (List Int))) : Option (Lp (Int × (List Int)) (List Int)) :=
sel (decide (v2.1 < p0)) (
req (0 ≤ v2.1 ∧ v2.1 < v2.2.length) <|
req (v2.1.toNat < v2.2.length) <|
some (.go (wrapK .i64 (v2.1 + 1), (v2.2.set v2.1.toNat p1)))) (
some (.done v2.2))
def spec_l01Long (p0 : Int) (p1 : Int) : Option ByteArray :=
req (0 ≤ p0 ∧ p0 ≤ p0 ∧ p0 * 1 ≤ 281474976710656) <|
bnd (loop (spec_l01Long_l2 p0 p1) (0, (List.replicate p0.toNat (0 : Int)))) fun v4 =>
some (strOfNums v4)
def spec_Grey (p0 : Int) (p1 : Int) : Option Pic :=
bnd (
bnd (spec_l01In p0 1 256) fun q2 =>
sel q2 (
bnd (spec_l01In p1 1 256) fun q3 =>
some (!q3)) (
some true)) fun v1 =>
sel v1 (
some (⟨0, 0, ⟨#[]⟩⟩ : Pic)) (
bnd (spec_l01Long (wrapK .i64 (p0 * p1)) 128) fun q4 =>
some (⟨p0, p1, q4⟩ : Pic))
def spec_DotAt (p0 : Pic) (p1 : Int) (p2 : Int) : Option Int :=
bnd (spec_PicOk p0) fun q1 =>
sel (!q1) (
some (-1)) (
bnd (spec_Brought p2 0 (wrapK .i64 (p0.High - 1))) fun q2 =>
bnd (spec_Brought p1 0 (wrapK .i64 (p0.Wide - 1))) fun q3 =>
req (0 ≤ (wrapK .i64 ((wrapK .i64 (q2 * p0.Wide)) + q3)) ∧ (wrapK .i64 ((wrapK .i64 (q2 * p0.Wide)) + q3)) < p0.Dots.size) <|
some (wrapK .i64 ((btOf p0.Dots (wrapK .i64 ((wrapK .i64 (q2 * p0.Wide)) + q3))))))
def spec_BlockOf_l2 (p0 : Pic) (p1 : Int) (p2 : Int) (v7 : (Int × (List Int))) : Option (Lp (Int × (List Int)) (List Int)) :=
sel (decide (v7.1 < 64)) (
req ((8 : Int) ≠ 0) <|
req ((8 : Int) ≠ 0) <|
bnd (spec_DotAt p0 (wrapK .i64 (p1 + (v7.1.tmod 8))) (wrapK .i64 (p2 + (wrapK .i64 (v7.1.tdiv 8))))) fun q11 =>
req ((v7.2.length + ([q11]).length) * 8 ≤ 140737488355328 ∧ v7.2.length + ([q11]).length ≤ maxLen) <|
some (.go (wrapK .i64 (v7.1 + 1), (v7.2 ++ ([q11]))))) (
some (.done v7.2))
def spec_BlockOf (p0 : Pic) (p1 : Int) (p2 : Int) : Option (List Int) :=
bnd (
bnd (spec_PicOk p0) fun q2 =>
sel q2 (
bnd (spec_l01In p1 (-1000) 1000) fun q3 =>
sel q3 (
bnd (spec_l01In p2 (-1000) 1000) fun q4 =>
some (!q4)) (
some true)) (
some true)) fun v1 =>
sel v1 (
some ([] : List Int)) (
bnd (loop (spec_BlockOf_l2 p0 p1 p2) (0, ([] : List Int))) fun v10 =>
some v10)
def spec_l12Within (p0 : Pic) (p1 : Int) (p2 : Int) (p3 : Int) (p4 : Int) : Option Bool :=
bnd (
bnd (spec_PicOk p0) fun q2 =>
sel q2 (
bnd (spec_l01In p3 1 p0.Wide) fun q3 =>
sel q3 (
bnd (spec_l01In p4 1 p0.High) fun q4 =>
sel q4 (
bnd (spec_l01In p1 0 (wrapK .i64 (p0.Wide - p3))) fun q5 =>
sel q5 (
bnd (spec_l01In p2 0 (wrapK .i64 (p0.High - p4))) fun q6 =>
some q6) (
some false)) (
some false)) (
some false)) (
some false)) fun v1 =>
some v1
def spec_l13Fits (p0 : Pic) (p1 : Int) (p2 : Int) : Option Bool :=
bnd (
req ((8 : Int) ≠ 0) <|
sel ((p1.tmod 8) == 0) (
req ((8 : Int) ≠ 0) <|
sel ((p2.tmod 8) == 0) (
bnd (spec_l12Within p0 p1 p2 8 8) fun q2 =>
some q2) (
some false)) (
some false)) fun v1 =>
some v1
def spec_l13Dots_l2 (p0 : (List Int)) (v3 : Int) : Option (Lp Int (Ou Unit Bool)) :=
sel (decide (v3 < 64)) (
req (0 ≤ v3 ∧ v3 < p0.length) <|
bnd (spec_l01In (p0.getD v3.toNat 0) 0 255) fun q7 =>
sel (!q7) (
some (.done (.ret false))) (
some (.go (wrapK .i64 (v3 + 1))))) (
some (.done (.out ())))
def spec_l13Dots (p0 : (List Int)) : Option Bool :=
sel ((p0.length : Int) != 64) (
some false) (
bnd (loop (spec_l13Dots_l2 p0) 0) fun o8 => match o8 with
| .out v6 => (
some true)
| .ret r => some r)
def spec_l17Less_l2 (p0 : (List Int)) (p1 : (List Int)) (v2 : (Int × (List Int))) : Option (Lp (Int × (List Int)) (List Int)) :=
sel (decide (v2.1 < 64)) (
req (0 ≤ v2.1 ∧ v2.1 < p0.length) <|
req (0 ≤ v2.1 ∧ v2.1 < p1.length) <|
req ((v2.2.length + ([wrapK .i64 ((p0.getD v2.1.toNat 0) - (p1.getD v2.1.toNat 0))]).length) * 8 ≤ 140737488355328 ∧ v2.2.length + ([wrapK .i64 ((p0.getD v2.1.toNat 0) - (p1.getD v2.1.toNat 0))]).length ≤ maxLen) <|
some (.go (wrapK .i64 (v2.1 + 1), (v2.2 ++ ([wrapK .i64 ((p0.getD v2.1.toNat 0) - (p1.getD v2.1.toNat 0))]))))) (
some (.done v2.2))
def spec_l17Less (p0 : (List Int)) (p1 : (List Int)) : Option (List Int) :=
bnd (loop (spec_l17Less_l2 p0 p1) (0, ([] : List Int))) fun v4 =>
some v4
def spec_l17Zero_l2 (p0 : (List Int)) (v2 : Int) : Option (Lp Int (Ou Unit Bool)) :=
sel (decide (v2 < (p0.length : Int))) (
req (0 ≤ v2 ∧ v2 < p0.length) <|
sel ((p0.getD v2.toNat 0) != 0) (
some (.done (.ret false))) (
some (.go (wrapK .i64 (v2 + 1))))) (
some (.done (.out ())))
def spec_l17Zero (p0 : (List Int)) : Option Bool :=
bnd (loop (spec_l17Zero_l2 p0) 0) fun o5 => match o5 with
| .out v4 => (
some true)
| .ret r => some r
def spec_EdgesOf_l2 (p0 : Pic) (p1 : Int) (p2 : Int) (v7 : (Int × (List Int) × (List Int))) : Option (Lp (Int × (List Int) × (List Int)) ((List Int) × (List Int))) :=
sel (decide (v7.1 < 8)) (
bnd (
bnd (
sel (decide (p2 > 0)) (
bnd (spec_DotAt p0 (wrapK .i64 (p1 + v7.1)) (wrapK .i64 (p2 - 1))) fun q16 =>
req ((v7.2.1.length + ([q16]).length) * 8 ≤ 140737488355328 ∧ v7.2.1.length + ([q16]).length ≤ maxLen) <|
some (v7.2.1 ++ ([q16]))) (
some v7.2.1)) fun v15 =>
sel (decide (p1 > 0)) (
bnd (spec_DotAt p0 (wrapK .i64 (p1 - 1)) (wrapK .i64 (p2 + v7.1))) fun q17 =>
req ((v7.2.2.length + ([q17]).length) * 8 ≤ 140737488355328 ∧ v7.2.2.length + ([q17]).length ≤ maxLen) <|
some (v15, (v7.2.2 ++ ([q17])))) (
some (v15, v7.2.2))) fun v14 =>
some (.go (wrapK .i64 (v7.1 + 1), v14.1, v14.2))) (
some (.done (v7.2.1, v7.2.2)))
def spec_EdgesOf (p0 : Pic) (p1 : Int) (p2 : Int) : Option (Edges × Bool) :=
bnd (spec_l13Fits p0 p1 p2) fun q1 =>
sel (!q1) (
some ((⟨[], [], 0⟩ : Edges), false)) (
bnd (loop (spec_EdgesOf_l2 p0 p1 p2) (0, [], [])) fun v13 =>
bnd (
bnd (
sel (decide (p1 > 0)) (
some (decide (p2 > 0))) (
some false)) fun v20 =>
sel v20 (
bnd (spec_DotAt p0 (wrapK .i64 (p1 - 1)) (wrapK .i64 (p2 - 1))) fun q21 =>
some q21) (
some (-1))) fun v19 =>
some ((⟨v13.1, v13.2, v19⟩ : Edges), true))
def spec_l13Side_l2 (p0 : (List Int)) (v4 : Int) : Option (Lp Int (Ou Unit Bool)) :=
sel (decide (v4 < (p0.length : Int))) (
req (0 ≤ v4 ∧ v4 < p0.length) <|
bnd (spec_l01In (p0.getD v4.toNat 0) 0 255) fun q8 =>
sel (!q8) (
some (.done (.ret false))) (
some (.go (wrapK .i64 (v4 + 1))))) (
some (.done (.out ())))
def spec_l13Side (p0 : (List Int)) : Option Bool :=
bnd (
sel ((p0.length : Int) != 0) (
some ((p0.length : Int) != 8)) (
some false)) fun v1 =>
sel v1 (
some false) (
bnd (loop (spec_l13Side_l2 p0) 0) fun o9 => match o9 with
| .out v7 => (
some true)
| .ret r => some r)
def spec_EdgesOk (p0 : Edges) : Option Bool :=
bnd (
bnd (spec_l13Side p0.Above) fun q2 =>
sel q2 (
bnd (spec_l13Side p0.Left) fun q3 =>
sel q3 (
bnd (spec_l01In p0.Corner (-1) 255) fun q4 =>
some q4) (
some false)) (
some false)) fun v1 =>
some v1
def spec_l13Filled (p0 : (List Int)) (p1 : Int) : Option Int :=
sel ((p0.length : Int) == 0) (
some 128) (
req (0 ≤ p1 ∧ p1 < p0.length) <|
some (p0.getD p1.toNat 0))
def spec_l13Mid_l2 (p0 : Edges) (v2 : (Int × Int)) : Option (Lp (Int × Int) Int) :=
sel (decide (v2.2 < (p0.Above.length : Int))) (
req (0 ≤ v2.2 ∧ v2.2 < p0.Above.length) <|
some (.go (wrapK .i64 (v2.1 + (p0.Above.getD v2.2.toNat 0)), wrapK .i64 (v2.2 + 1)))) (
some (.done v2.1))
def spec_l13Mid_l4 (p0 : Edges) (v7 : (Int × Int)) : Option (Lp (Int × Int) Int) :=
sel (decide (v7.2 < (p0.Left.length : Int))) (
req (0 ≤ v7.2 ∧ v7.2 < p0.Left.length) <|
some (.go (wrapK .i64 (v7.1 + (p0.Left.getD v7.2.toNat 0)), wrapK .i64 (v7.2 + 1)))) (
some (.done v7.1))
def spec_l13Mid (p0 : Edges) : Option Int :=
sel ((wrapK .i64 ((p0.Above.length : Int) + (p0.Left.length : Int))) == 0) (
some 128) (
req ((2 : Int) ≠ 0) <|
bnd (loop (spec_l13Mid_l2 p0) (wrapK .i64 ((wrapK .i64 ((p0.Above.length : Int) + (p0.Left.length : Int))).tdiv 2), 0)) fun v4 =>
bnd (loop (spec_l13Mid_l4 p0) (v4, 0)) fun v9 =>
req ((wrapK .i64 ((p0.Above.length : Int) + (p0.Left.length : Int))) ≠ 0) <|
some (wrapK .i64 (v9.tdiv (wrapK .i64 ((p0.Above.length : Int) + (p0.Left.length : Int))))))
def spec_GuessOf_l2 (p0 : Int) (p1 : Edges) (v4 : Int) (v11 : (Int × (List Int))) : Option (Lp (Int × (List Int)) (List Int)) :=
sel (decide (v11.1 < 64)) (
bnd (
req ((8 : Int) ≠ 0) <|
bnd (spec_l13Filled p1.Above (v11.1.tmod 8)) fun q20 =>
req ((8 : Int) ≠ 0) <|
bnd (spec_l13Filled p1.Left (wrapK .i64 (v11.1.tdiv 8))) fun q21 =>
sel (p0 == 0) (
bnd (spec_l13Mid p1) fun q22 =>
req ((v11.2.length + ([q22]).length) * 8 ≤ 140737488355328 ∧ v11.2.length + ([q22]).length ≤ maxLen) <|
some (v11.2 ++ ([q22]))) (
sel (p0 == 1) (
req ((v11.2.length + ([q20]).length) * 8 ≤ 140737488355328 ∧ v11.2.length + ([q20]).length ≤ maxLen) <|
some (v11.2 ++ ([q20]))) (
sel (p0 == 2) (
req ((v11.2.length + ([q21]).length) * 8 ≤ 140737488355328 ∧ v11.2.length + ([q21]).length ≤ maxLen) <|
some (v11.2 ++ ([q21]))) (
bnd (spec_Brought (wrapK .i64 ((wrapK .i64 (q21 + q20)) - v4)) 0 255) fun q23 =>
req ((v11.2.length + ([q23]).length) * 8 ≤ 140737488355328 ∧ v11.2.length + ([q23]).length ≤ maxLen) <|
some (v11.2 ++ ([q23])))))) fun v19 =>
some (.go (wrapK .i64 (v11.1 + 1), v19))) (
some (.done v11.2))
def spec_GuessOf (p0 : Int) (p1 : Edges) : Option (List Int) :=
bnd (
bnd (spec_EdgesOk p1) fun q2 =>
sel q2 (
bnd (spec_l01In p0 0 3) fun q3 =>
some (!q3)) (
some true)) fun v1 =>
sel v1 (
some ([] : List Int)) (
bnd (
sel (decide (p1.Corner < 0)) (
some 128) (
some p1.Corner)) fun v4 =>
bnd (loop (spec_GuessOf_l2 p0 p1 v4) (0, ([] : List Int))) fun v18 =>
some v18)
def spec_l09All_l2 (p0 : (List Int)) (p1 : Int) (p2 : Int) (v3 : Int) : Option (Lp Int (Ou Unit Bool)) :=
sel (decide (v3 < p1)) (
req (0 ≤ v3 ∧ v3 < p0.length) <|
bnd (spec_l01In (p0.getD v3.toNat 0) (wrapK .i64 (0 - p2)) p2) fun q7 =>
sel (!q7) (
some (.done (.ret false))) (
some (.go (wrapK .i64 (v3 + 1))))) (
some (.done (.out ())))
def spec_l09All (p0 : (List Int)) (p1 : Int) (p2 : Int) : Option Bool :=
sel ((p0.length : Int) != p1) (
some false) (
bnd (loop (spec_l09All_l2 p0 p1 p2) 0) fun o8 => match o8 with
| .out v6 => (
some true)
| .ret r => some r)
def spec_l08Sized (p0 : Int) : Option Int :=
sel (decide (p0 < 0)) (
some (wrapK .i64 (0 - p0))) (
some p0)
def spec_GapOf_l2 (p0 : (List Int)) (p1 : (List Int)) (v6 : (Int × Int)) : Option (Lp (Int × Int) Int) :=
sel (decide (v6.2 < 64)) (
req (0 ≤ v6.2 ∧ v6.2 < p0.length) <|
req (0 ≤ v6.2 ∧ v6.2 < p1.length) <|
bnd (spec_l08Sized (wrapK .i64 ((p0.getD v6.2.toNat 0) - (p1.getD v6.2.toNat 0)))) fun q10 =>
some (.go (wrapK .i64 (v6.1 + q10), wrapK .i64 (v6.2 + 1)))) (
some (.done v6.1))
def spec_GapOf (p0 : (List Int)) (p1 : (List Int)) : Option Int :=
bnd (
bnd (spec_l09All p0 64 1000) fun q2 =>
sel q2 (
bnd (spec_l09All p1 64 1000) fun q3 =>
some (!q3)) (
some true)) fun v1 =>
sel v1 (
some (-1)) (
bnd (loop (spec_GapOf_l2 p0 p1) (0, 0)) fun v9 =>
some v9)
def spec_l03Ue_l2 (v2 : (Int × ByteArray)) : Option (Lp (Int × ByteArray) ByteArray) :=
sel (decide (v2.1 > 0)) (
req ((2 : Int) ≠ 0) <|
req ((strOfNums ([wrapK .u8 (wrapK .i64 (48 + (v2.1.tmod 2)))])).size + v2.2.size ≤ 9223372036854775807) <|
req ((2 : Int) ≠ 0) <|
some (.go (wrapK .i64 (v2.1.tdiv 2), ((strOfNums ([wrapK .u8 (wrapK .i64 (48 + (v2.1.tmod 2)))])) ++ v2.2)))) (
some (.done v2.2))
def spec_l03Ue (p0 : Int) : Option ByteArray :=
bnd (loop (spec_l03Ue_l2) (wrapK .i64 (p0 + 1), ⟨#[]⟩)) fun v4 =>
bnd (spec_l01Long (wrapK .i64 ((v4.size : Int) - 1)) 48) fun q6 =>
req (q6.size + v4.size ≤ 9223372036854775807) <|
some (q6 ++ v4)
def spec_UeRow (p0 : Int) : Option (ByteArray × Bool) :=
bnd (spec_l01In p0 0 1000000) fun q1 =>
sel (!q1) (
some (⟨#[]⟩, false)) (
bnd (spec_l03Ue p0) fun q2 =>
some (q2, true))
def spec_UeSize (p0 : Int) : Option Int :=
bnd (spec_UeRow p0) fun q1 =>
some (q1.1.size : Int)
def spec_BestGuess_l2 (p0 : (List Int)) (p1 : Edges) (v16 : (Int × Int × Int)) : Option (Lp (Int × Int × Int) (Int × Int)) :=
sel (decide (v16.2.2 < 4)) (
bnd (
bnd (spec_GuessOf v16.2.2 p1) fun q25 =>
bnd (spec_GapOf p0 q25) fun q26 =>
bnd (spec_UeSize v16.2.2) fun q27 =>
bnd (
sel (decide (v16.2.1 < 0)) (
some true) (
some (decide ((wrapK .i64 (q26 + q27)) < v16.2.1)))) fun v28 =>
sel v28 (
some (v16.2.2, wrapK .i64 (q26 + q27))) (
some (v16.1, v16.2.1))) fun v24 =>
some (.go (v24.1, v24.2, wrapK .i64 (v16.2.2 + 1)))) (
some (.done (v16.1, v16.2.1)))
def spec_BestGuess (p0 : (List Int)) (p1 : Edges) : Option (Int × Int) :=
bnd (
bnd (spec_EdgesOk p1) fun q2 =>
sel q2 (
bnd (spec_l13Dots p0) fun q3 =>
some (!q3)) (
some true)) fun v1 =>
sel v1 (
some (0, (-1))) (
bnd (loop (spec_BestGuess_l2 p0 p1) (0, (-1), 0)) fun v23 =>
some (v23.1, v23.2))
def spec_FoldSe (p0 : Int) : Option (Int × Bool) :=
bnd (spec_l01In p0 (-500000) 500000) fun q1 =>
sel (!q1) (
some (0, false)) (
sel (decide (p0 > 0)) (
some (wrapK .i64 ((wrapK .i64 (2 * p0)) - 1), true)) (
some (wrapK .i64 ((-2) * p0), true)))
def spec_l03Se (p0 : Int) : Option ByteArray :=
bnd (spec_FoldSe p0) fun q1 =>
bnd (spec_l03Ue q1.1) fun q2 =>
some q2
def spec_SeRow (p0 : Int) : Option (ByteArray × Bool) :=
bnd (spec_l01In p0 (-500000) 500000) fun q1 =>
sel (!q1) (
some (⟨#[]⟩, false)) (
bnd (spec_l03Se p0) fun q2 =>
some (q2, true))
def spec_SeSize (p0 : Int) : Option Int :=
bnd (spec_SeRow p0) fun q1 =>
some (q1.1.size : Int)
def spec_BestMove_l14 (p0 : Pic) (p1 : (List Int)) (p2 : Int) (p3 : Int) (p4 : Int) (v32 : (Int × Int × Int × Int)) (v69 : (Int × Int × Int × Int)) : Option (Lp (Int × Int × Int × Int) (Int × Int × Int)) :=
sel (decide (v69.2.2.2 ≤ p4)) (
bnd (
bnd (spec_l12Within p0 (wrapK .i64 (p2 + v69.2.2.2)) (wrapK .i64 (p3 + v32.2.2.2)) 8 8) fun q80 =>
sel (!q80) (
some (v69.1, v69.2.1, v69.2.2.1)) (
bnd (spec_BlockOf p0 (wrapK .i64 (p2 + v69.2.2.2)) (wrapK .i64 (p3 + v32.2.2.2))) fun q81 =>
bnd (spec_GapOf p1 q81) fun q82 =>
bnd (spec_SeSize v69.2.2.2) fun q83 =>
bnd (spec_SeSize v32.2.2.2) fun q84 =>
bnd (
sel (decide (v69.2.2.1 < 0)) (
some true) (
some (decide ((wrapK .i64 ((wrapK .i64 (q82 + q83)) + q84)) < v69.2.2.1)))) fun v85 =>
sel v85 (
some (v69.2.2.2, v32.2.2.2, wrapK .i64 ((wrapK .i64 (q82 + q83)) + q84))) (
some (v69.1, v69.2.1, v69.2.2.1)))) fun v79 =>
some (.go (v79.1, v79.2.1, v79.2.2, wrapK .i64 (v69.2.2.2 + 1)))) (
some (.done (v69.1, v69.2.1, v69.2.2.1)))
def spec_BestMove_l12 (p0 : Pic) (p1 : (List Int)) (p2 : Int) (p3 : Int) (p4 : Int) (v32 : (Int × Int × Int × Int)) : Option (Lp (Int × Int × Int × Int) (Int × Int × Int)) :=
sel (decide (v32.2.2.2 ≤ p4)) (
bnd (loop (spec_BestMove_l14 p0 p1 p2 p3 p4 v32) (v32.1, v32.2.1, v32.2.2.1, wrapK .i64 (0 - p4))) fun v78 =>
some (.go (v78.1, v78.2.1, v78.2.2, wrapK .i64 (v32.2.2.2 + 1)))) (
some (.done (v32.1, v32.2.1, v32.2.2.1)))
def spec_BestMove (p0 : Pic) (p1 : (List Int)) (p2 : Int) (p3 : Int) (p4 : Int) : Option (Int × Int × Int) :=
bnd (
bnd (spec_l13Dots p1) fun q2 =>
sel q2 (
bnd (spec_l01In p4 0 4) fun q3 =>
sel q3 (
bnd (spec_l13Fits p0 p2 p3) fun q4 =>
some (!q4)) (
some true)) (
some true)) fun v1 =>
sel v1 (
some (0, 0, (-1))) (
bnd (loop (spec_BestMove_l12 p0 p1 p2 p3 p4) (0, 0, (-1), wrapK .i64 (0 - p4))) fun v60 =>
some (v60.1, v60.2.1, v60.2.2))
def spec_ScanAt_l14 (p0 : Int) (p1 : Int) (v17 : (Int × Int)) (v38 : (Int × Int)) : Option (Lp (Int × Int) (Ou Int Int)) :=
sel (decide (v38.2 < p0)) (
joinK (fun (v44 : Int) =>
some (.go (v44, wrapK .i64 (v38.2 + 1)))) fun j36 =>
bnd (
req ((2 : Int) ≠ 0) <|
sel ((v17.2.tmod 2) == 0) (
some (wrapK .i64 ((wrapK .i64 (p0 - 1)) - v38.2))) (
some v38.2)) fun v45 =>
bnd (spec_l01In (wrapK .i64 (v17.2 - v45)) 0 (wrapK .i64 (p0 - 1))) fun q46 =>
sel (!q46) (
j36 v38.1) (
sel (v38.1 == p1) (
some (.done (.ret (wrapK .i64 ((wrapK .i64 ((wrapK .i64 (p0 * v45)) + v17.2)) - v45))))) (
j36 (wrapK .i64 (v38.1 + 1))))) (
some (.done (.out v38.1)))
def spec_ScanAt_l12 (p0 : Int) (p1 : Int) (v17 : (Int × Int)) : Option (Lp (Int × Int) (Ou Unit Int)) :=
sel (decide (v17.2 ≤ (wrapK .i64 ((wrapK .i64 (2 * p0)) - 2)))) (
bnd (loop (spec_ScanAt_l14 p0 p1 v17) (v17.1, 0)) fun o47 => match o47 with
| .out v43 => (
some (.go (v43, wrapK .i64 (v17.2 + 1))))
| .ret r => some (.done (.ret r))) (
some (.done (.out ())))
def spec_ScanAt (p0 : Int) (p1 : Int) : Option Int :=
bnd (
sel (p0 != 4) (
sel (p0 != 8) (
some true) (
sel (decide (p1 < 0)) (
some true) (
some (decide (p1 ≥ (wrapK .i64 (p0 * p0))))))) (
sel (decide (p1 < 0)) (
some true) (
some (decide (p1 ≥ (wrapK .i64 (p0 * p0))))))) fun v1 =>
sel v1 (
some (-1)) (
bnd (loop (spec_ScanAt_l12 p0 p1) (0, 0)) fun o48 => match o48 with
| .out v33 => (
some (-1))
| .ret r => some r)
def spec_Scanned_l2 (p0 : Int) (p1 : (List Int)) (v4 : (Int × (List Int))) : Option (Lp (Int × (List Int)) (List Int)) :=
sel (decide (v4.1 < (wrapK .i64 (p0 * p0)))) (
bnd (spec_ScanAt p0 v4.1) fun q8 =>
req (0 ≤ q8 ∧ q8 < p1.length) <|
req ((v4.2.length + ([(p1.getD q8.toNat 0)]).length) * 8 ≤ 140737488355328 ∧ v4.2.length + ([(p1.getD q8.toNat 0)]).length ≤ maxLen) <|
some (.go (wrapK .i64 (v4.1 + 1), (v4.2 ++ ([(p1.getD q8.toNat 0)]))))) (
some (.done v4.2))
def spec_Scanned (p0 : Int) (p1 : (List Int)) : Option ((List Int) × Bool) :=
bnd (
sel (p0 != 4) (
sel (p0 != 8) (
some true) (
some ((p1.length : Int) != (wrapK .i64 (p0 * p0))))) (
some ((p1.length : Int) != (wrapK .i64 (p0 * p0))))) fun v1 =>
sel v1 (
some (([] : List Int), false)) (
bnd (loop (spec_Scanned_l2 p0 p1) (0, ([] : List Int))) fun v7 =>
some (v7, true))
def spec_SignOf_l2 (v6 : (Int × Int)) : Option (Lp (Int × Int) Int) :=
sel (decide (v6.2 > 0)) (
bnd (
req ((2 : Int) ≠ 0) <|
sel ((v6.2.tmod 2) == 1) (
some (wrapK .i64 (0 - v6.1))) (
some v6.1)) fun v10 =>
req ((2 : Int) ≠ 0) <|
some (.go (v10, wrapK .i64 (v6.2.tdiv 2)))) (
some (.done v6.1))
def spec_SignOf (p0 : Int) (p1 : Int) : Option Int :=
bnd (
bnd (spec_l01In p0 0 7) fun q2 =>
sel q2 (
bnd (spec_l01In p1 0 7) fun q3 =>
some (!q3)) (
some true)) fun v1 =>
sel v1 (
some 0) (
bnd (loop (spec_SignOf_l2) (1, (IntKind.wrap .i64 (BitVec.ofInt (IntKind.bits .i64) p0 &&& BitVec.ofInt (IntKind.bits .i64) p1).toNat))) fun v9 =>
some v9)
def spec_l10Row_l2 (p0 : (List Int)) (p1 : Int) (p2 : Int) (v3 : (Int × Int)) : Option (Lp (Int × Int) Int) :=
sel (decide (v3.2 < 8)) (
req (0 ≤ (wrapK .i64 ((wrapK .i64 (8 * p1)) + v3.2)) ∧ (wrapK .i64 ((wrapK .i64 (8 * p1)) + v3.2)) < p0.length) <|
bnd (spec_SignOf p2 v3.2) fun q7 =>
some (.go (wrapK .i64 (v3.1 + (wrapK .i64 ((p0.getD (wrapK .i64 ((wrapK .i64 (8 * p1)) + v3.2)).toNat 0) * q7))), wrapK .i64 (v3.2 + 1)))) (
some (.done v3.1))
def spec_l10Row (p0 : (List Int)) (p1 : Int) (p2 : Int) : Option Int :=
bnd (loop (spec_l10Row_l2 p0 p1 p2) (0, 0)) fun v6 =>
some v6
def spec_l10Sums_l14 (p0 : (List Int)) (v10 : (Int × (List Int))) (v23 : (Int × (List Int))) : Option (Lp (Int × (List Int)) (List Int)) :=
sel (decide (v23.1 < 8)) (
bnd (spec_l10Row p0 v10.1 v23.1) fun q27 =>
req ((v23.2.length + ([q27]).length) * 8 ≤ 140737488355328 ∧ v23.2.length + ([q27]).length ≤ maxLen) <|
some (.go (wrapK .i64 (v23.1 + 1), (v23.2 ++ ([q27]))))) (
some (.done v23.2))
def spec_l10Sums_l12 (p0 : (List Int)) (v10 : (Int × (List Int))) : Option (Lp (Int × (List Int)) (List Int)) :=
sel (decide (v10.1 < 8)) (
bnd (loop (spec_l10Sums_l14 p0 v10) (0, v10.2)) fun v26 =>
some (.go (wrapK .i64 (v10.1 + 1), v26))) (
some (.done v10.2))
def spec_l10Sums_l172 (v20 : (List Int)) (v60 : (Int × (List Int))) (v101 : (Int × (List Int))) (v114 : (Int × Int)) : Option (Lp (Int × Int) Int) :=
sel (decide (v114.2 < 8)) (
bnd (spec_SignOf v60.1 v114.2) fun q118 =>
req (0 ≤ (wrapK .i64 ((wrapK .i64 (8 * v114.2)) + v101.1)) ∧ (wrapK .i64 ((wrapK .i64 (8 * v114.2)) + v101.1)) < v20.length) <|
req ((wrapK .i64 ((wrapK .i64 (8 * v114.2)) + v101.1)).toNat < v20.length) <|
some (.go (wrapK .i64 (v114.1 + (wrapK .i64 (q118 * (v20.getD ((wrapK .i64 ((wrapK .i64 (8 * v114.2)) + v101.1)).toNat) 0)))), wrapK .i64 (v114.2 + 1)))) (
some (.done v114.1))
def spec_l10Sums_l168 (v20 : (List Int)) (v60 : (Int × (List Int))) (v101 : (Int × (List Int))) : Option (Lp (Int × (List Int)) (List Int)) :=
sel (decide (v101.1 < 8)) (
bnd (loop (spec_l10Sums_l172 v20 v60 v101) (0, 0)) fun v117 =>
req ((v101.2.length + ([v117]).length) * 8 ≤ 140737488355328 ∧ v101.2.length + ([v117]).length ≤ maxLen) <|
some (.go (wrapK .i64 (v101.1 + 1), (v101.2 ++ ([v117]))))) (
some (.done v101.2))
def spec_l10Sums_l146 (v20 : (List Int)) (v60 : (Int × (List Int))) : Option (Lp (Int × (List Int)) (List Int)) :=
sel (decide (v60.1 < 8)) (
bnd (loop (spec_l10Sums_l168 v20 v60) (0, v60.2)) fun v111 =>
some (.go (wrapK .i64 (v60.1 + 1), v111))) (
some (.done v60.2))
def spec_l10Sums (p0 : (List Int)) : Option (List Int) :=
bnd (loop (spec_l10Sums_l12 p0) (0, ([] : List Int))) fun v20 =>
bnd (loop (spec_l10Sums_l146 v20) (0, ([] : List Int))) fun v91 =>
some v91
def spec_Eight (p0 : (List Int)) : Option (List Int) :=
bnd (spec_l09All p0 64 1000) fun q1 =>
sel (!q1) (
some ([] : List Int)) (
bnd (spec_l10Sums p0) fun q2 =>
some q2)
def spec_StepOf_l2 (p0 : Int) (v4 : (Int × Int)) : Option (Lp (Int × Int) Int) :=
req ((6 : Int) ≠ 0) <|
sel (decide (v4.2 < (wrapK .i64 (p0.tdiv 6)))) (
some (.go (wrapK .i64 (2 * v4.1), wrapK .i64 (v4.2 + 1)))) (
some (.done v4.1))
def spec_StepOf (p0 : Int) : Option Int :=
bnd (spec_l01In p0 0 40) fun q1 =>
sel (!q1) (
some 0) (
bnd (
req ((6 : Int) ≠ 0) <|
sel ((p0.tmod 6) == 0) (
some 10) (
sel ((p0.tmod 6) == 1) (
some 11) (
sel ((p0.tmod 6) == 2) (
some 13) (
sel ((p0.tmod 6) == 3) (
some 14) (
sel ((p0.tmod 6) == 4) (
some 16) (
some 18)))))) fun v2 =>
bnd (loop (spec_StepOf_l2 p0) (v2, 0)) fun v6 =>
some v6)
def spec_l08Signed (p0 : Int) (p1 : Int) : Option Int :=
sel (decide (p0 < 0)) (
some (wrapK .i64 (0 - p1))) (
some p1)
def spec_LargeLevel (p0 : Int) (p1 : Int) : Option Int :=
bnd (
bnd (spec_l01In p0 (-20000) 20000) fun q2 =>
sel q2 (
bnd (spec_l01In p1 0 40) fun q3 =>
some (!q3)) (
some true)) fun v1 =>
sel v1 (
some 0) (
bnd (spec_StepOf p1) fun q4 =>
bnd (spec_l08Sized p0) fun q5 =>
req ((2 : Int) ≠ 0) <|
req (q4 ≠ 0) <|
bnd (spec_l08Signed p0 (wrapK .i64 ((wrapK .i64 (q5 + (wrapK .i64 (q4.tdiv 2)))).tdiv q4))) fun q6 =>
some q6)
def spec_l14Quarter_l2 (p0 : (List Int)) (p1 : Int) (v2 : (Int × (List Int))) : Option (Lp (Int × (List Int)) (List Int)) :=
sel (decide (v2.1 < 16)) (
req ((2 : Int) ≠ 0) <|
req ((4 : Int) ≠ 0) <|
req ((2 : Int) ≠ 0) <|
req ((4 : Int) ≠ 0) <|
req (0 ≤ (wrapK .i64 ((wrapK .i64 ((wrapK .i64 (8 * (wrapK .i64 ((wrapK .i64 ((wrapK .i64 (p1.tdiv 2)) * 4)) + (wrapK .i64 (v2.1.tdiv 4)))))) + (wrapK .i64 ((p1.tmod 2) * 4)))) + (v2.1.tmod 4))) ∧ (wrapK .i64 ((wrapK .i64 ((wrapK .i64 (8 * (wrapK .i64 ((wrapK .i64 ((wrapK .i64 (p1.tdiv 2)) * 4)) + (wrapK .i64 (v2.1.tdiv 4)))))) + (wrapK .i64 ((p1.tmod 2) * 4)))) + (v2.1.tmod 4))) < p0.length) <|
req ((v2.2.length + ([(p0.getD (wrapK .i64 ((wrapK .i64 ((wrapK .i64 (8 * (wrapK .i64 ((wrapK .i64 ((wrapK .i64 (p1.tdiv 2)) * 4)) + (wrapK .i64 (v2.1.tdiv 4)))))) + (wrapK .i64 ((p1.tmod 2) * 4)))) + (v2.1.tmod 4))).toNat 0)]).length) * 8 ≤ 140737488355328 ∧ v2.2.length + ([(p0.getD (wrapK .i64 ((wrapK .i64 ((wrapK .i64 (8 * (wrapK .i64 ((wrapK .i64 ((wrapK .i64 (p1.tdiv 2)) * 4)) + (wrapK .i64 (v2.1.tdiv 4)))))) + (wrapK .i64 ((p1.tmod 2) * 4)))) + (v2.1.tmod 4))).toNat 0)]).length ≤ maxLen) <|
some (.go (wrapK .i64 (v2.1 + 1), (v2.2 ++ ([(p0.getD (wrapK .i64 ((wrapK .i64 ((wrapK .i64 (8 * (wrapK .i64 ((wrapK .i64 ((wrapK .i64 (p1.tdiv 2)) * 4)) + (wrapK .i64 (v2.1.tdiv 4)))))) + (wrapK .i64 ((p1.tmod 2) * 4)))) + (v2.1.tmod 4))).toNat 0)]))))) (
some (.done v2.2))
def spec_l14Quarter (p0 : (List Int)) (p1 : Int) : Option (List Int) :=
bnd (loop (spec_l14Quarter_l2 p0 p1) (0, ([] : List Int))) fun v4 =>
some v4
def spec_l09Rows_l2 (p0 : (List Int)) (v2 : (Int × (List Int))) : Option (Lp (Int × (List Int)) (List Int)) :=
sel (decide (v2.1 < 4)) (
req (0 ≤ (wrapK .i64 (4 * v2.1)) ∧ (wrapK .i64 (4 * v2.1)) < p0.length) <|
req (0 ≤ (wrapK .i64 ((wrapK .i64 (4 * v2.1)) + 1)) ∧ (wrapK .i64 ((wrapK .i64 (4 * v2.1)) + 1)) < p0.length) <|
req (0 ≤ (wrapK .i64 ((wrapK .i64 (4 * v2.1)) + 2)) ∧ (wrapK .i64 ((wrapK .i64 (4 * v2.1)) + 2)) < p0.length) <|
req (0 ≤ (wrapK .i64 ((wrapK .i64 (4 * v2.1)) + 3)) ∧ (wrapK .i64 ((wrapK .i64 (4 * v2.1)) + 3)) < p0.length) <|
req ((v2.2.length + ([wrapK .i64 ((wrapK .i64 ((wrapK .i64 ((p0.getD (wrapK .i64 (4 * v2.1)).toNat 0) + (p0.getD (wrapK .i64 ((wrapK .i64 (4 * v2.1)) + 1)).toNat 0))) + (p0.getD (wrapK .i64 ((wrapK .i64 (4 * v2.1)) + 2)).toNat 0))) + (p0.getD (wrapK .i64 ((wrapK .i64 (4 * v2.1)) + 3)).toNat 0)), wrapK .i64 ((wrapK .i64 ((wrapK .i64 ((wrapK .i64 (2 * (p0.getD (wrapK .i64 (4 * v2.1)).toNat 0))) + (p0.getD (wrapK .i64 ((wrapK .i64 (4 * v2.1)) + 1)).toNat 0))) - (p0.getD (wrapK .i64 ((wrapK .i64 (4 * v2.1)) + 2)).toNat 0))) - (wrapK .i64 (2 * (p0.getD (wrapK .i64 ((wrapK .i64 (4 * v2.1)) + 3)).toNat 0)))), wrapK .i64 ((wrapK .i64 ((wrapK .i64 ((p0.getD (wrapK .i64 (4 * v2.1)).toNat 0) - (p0.getD (wrapK .i64 ((wrapK .i64 (4 * v2.1)) + 1)).toNat 0))) - (p0.getD (wrapK .i64 ((wrapK .i64 (4 * v2.1)) + 2)).toNat 0))) + (p0.getD (wrapK .i64 ((wrapK .i64 (4 * v2.1)) + 3)).toNat 0)), wrapK .i64 ((wrapK .i64 ((wrapK .i64 ((p0.getD (wrapK .i64 (4 * v2.1)).toNat 0) - (wrapK .i64 (2 * (p0.getD (wrapK .i64 ((wrapK .i64 (4 * v2.1)) + 1)).toNat 0))))) + (wrapK .i64 (2 * (p0.getD (wrapK .i64 ((wrapK .i64 (4 * v2.1)) + 2)).toNat 0))))) - (p0.getD (wrapK .i64 ((wrapK .i64 (4 * v2.1)) + 3)).toNat 0))]).length) * 8 ≤ 140737488355328 ∧ v2.2.length + ([wrapK .i64 ((wrapK .i64 ((wrapK .i64 ((p0.getD (wrapK .i64 (4 * v2.1)).toNat 0) + (p0.getD (wrapK .i64 ((wrapK .i64 (4 * v2.1)) + 1)).toNat 0))) + (p0.getD (wrapK .i64 ((wrapK .i64 (4 * v2.1)) + 2)).toNat 0))) + (p0.getD (wrapK .i64 ((wrapK .i64 (4 * v2.1)) + 3)).toNat 0)), wrapK .i64 ((wrapK .i64 ((wrapK .i64 ((wrapK .i64 (2 * (p0.getD (wrapK .i64 (4 * v2.1)).toNat 0))) + (p0.getD (wrapK .i64 ((wrapK .i64 (4 * v2.1)) + 1)).toNat 0))) - (p0.getD (wrapK .i64 ((wrapK .i64 (4 * v2.1)) + 2)).toNat 0))) - (wrapK .i64 (2 * (p0.getD (wrapK .i64 ((wrapK .i64 (4 * v2.1)) + 3)).toNat 0)))), wrapK .i64 ((wrapK .i64 ((wrapK .i64 ((p0.getD (wrapK .i64 (4 * v2.1)).toNat 0) - (p0.getD (wrapK .i64 ((wrapK .i64 (4 * v2.1)) + 1)).toNat 0))) - (p0.getD (wrapK .i64 ((wrapK .i64 (4 * v2.1)) + 2)).toNat 0))) + (p0.getD (wrapK .i64 ((wrapK .i64 (4 * v2.1)) + 3)).toNat 0)), wrapK .i64 ((wrapK .i64 ((wrapK .i64 ((p0.getD (wrapK .i64 (4 * v2.1)).toNat 0) - (wrapK .i64 (2 * (p0.getD (wrapK .i64 ((wrapK .i64 (4 * v2.1)) + 1)).toNat 0))))) + (wrapK .i64 (2 * (p0.getD (wrapK .i64 ((wrapK .i64 (4 * v2.1)) + 2)).toNat 0))))) - (p0.getD (wrapK .i64 ((wrapK .i64 (4 * v2.1)) + 3)).toNat 0))]).length ≤ maxLen) <|
some (.go (wrapK .i64 (v2.1 + 1), (v2.2 ++ ([wrapK .i64 ((wrapK .i64 ((wrapK .i64 ((p0.getD (wrapK .i64 (4 * v2.1)).toNat 0) + (p0.getD (wrapK .i64 ((wrapK .i64 (4 * v2.1)) + 1)).toNat 0))) + (p0.getD (wrapK .i64 ((wrapK .i64 (4 * v2.1)) + 2)).toNat 0))) + (p0.getD (wrapK .i64 ((wrapK .i64 (4 * v2.1)) + 3)).toNat 0)), wrapK .i64 ((wrapK .i64 ((wrapK .i64 ((wrapK .i64 (2 * (p0.getD (wrapK .i64 (4 * v2.1)).toNat 0))) + (p0.getD (wrapK .i64 ((wrapK .i64 (4 * v2.1)) + 1)).toNat 0))) - (p0.getD (wrapK .i64 ((wrapK .i64 (4 * v2.1)) + 2)).toNat 0))) - (wrapK .i64 (2 * (p0.getD (wrapK .i64 ((wrapK .i64 (4 * v2.1)) + 3)).toNat 0)))), wrapK .i64 ((wrapK .i64 ((wrapK .i64 ((p0.getD (wrapK .i64 (4 * v2.1)).toNat 0) - (p0.getD (wrapK .i64 ((wrapK .i64 (4 * v2.1)) + 1)).toNat 0))) - (p0.getD (wrapK .i64 ((wrapK .i64 (4 * v2.1)) + 2)).toNat 0))) + (p0.getD (wrapK .i64 ((wrapK .i64 (4 * v2.1)) + 3)).toNat 0)), wrapK .i64 ((wrapK .i64 ((wrapK .i64 ((p0.getD (wrapK .i64 (4 * v2.1)).toNat 0) - (wrapK .i64 (2 * (p0.getD (wrapK .i64 ((wrapK .i64 (4 * v2.1)) + 1)).toNat 0))))) + (wrapK .i64 (2 * (p0.getD (wrapK .i64 ((wrapK .i64 (4 * v2.1)) + 2)).toNat 0))))) - (p0.getD (wrapK .i64 ((wrapK .i64 (4 * v2.1)) + 3)).toNat 0))]))))) (
some (.done v2.2))
def spec_l09Rows (p0 : (List Int)) : Option (List Int) :=
bnd (loop (spec_l09Rows_l2 p0) (0, ([] : List Int))) fun v4 =>
some v4
def spec_l09Flip_l2 (p0 : (List Int)) (v2 : (Int × (List Int))) : Option (Lp (Int × (List Int)) (List Int)) :=
sel (decide (v2.1 < 16)) (
req ((4 : Int) ≠ 0) <|
req ((4 : Int) ≠ 0) <|
req (0 ≤ v2.1 ∧ v2.1 < p0.length) <|
req (0 ≤ (wrapK .i64 ((wrapK .i64 ((v2.1.tmod 4) * 4)) + (wrapK .i64 (v2.1.tdiv 4)))) ∧ (wrapK .i64 ((wrapK .i64 ((v2.1.tmod 4) * 4)) + (wrapK .i64 (v2.1.tdiv 4)))) < v2.2.length) <|
req ((wrapK .i64 ((wrapK .i64 ((v2.1.tmod 4) * 4)) + (wrapK .i64 (v2.1.tdiv 4)))).toNat < v2.2.length) <|
some (.go (wrapK .i64 (v2.1 + 1), (v2.2.set ((wrapK .i64 ((wrapK .i64 ((v2.1.tmod 4) * 4)) + (wrapK .i64 (v2.1.tdiv 4)))).toNat) (p0.getD v2.1.toNat 0))))) (
some (.done v2.2))
def spec_l09Flip (p0 : (List Int)) : Option (List Int) :=
req (0 ≤ (16 : Int) ∧ (16 : Int) ≤ (16 : Int) ∧ (16 : Int) * 8 ≤ 281474976710656) <|
bnd (loop (spec_l09Flip_l2 p0) (0, (List.replicate (16 : Int).toNat (0 : Int)))) fun v4 =>
some v4
def spec_Four (p0 : (List Int)) : Option (List Int) :=
bnd (spec_l09All p0 16 1000) fun q1 =>
sel (!q1) (
some ([] : List Int)) (
bnd (spec_l09Rows p0) fun q2 =>
bnd (spec_l09Flip q2) fun q3 =>
bnd (spec_l09Rows q3) fun q4 =>
bnd (spec_l09Flip q4) fun q5 =>
some q5)
def spec_KindOf (p0 : Int) : Option Int :=
bnd (spec_l01In p0 0 15) fun q1 =>
sel (!q1) (
some (-1)) (
req ((4 : Int) ≠ 0) <|
req ((2 : Int) ≠ 0) <|
req ((4 : Int) ≠ 0) <|
req ((2 : Int) ≠ 0) <|
bnd (
sel (((wrapK .i64 (p0.tdiv 4)).tmod 2) == 0) (
some (((p0.tmod 4).tmod 2) == 0)) (
some false)) fun v2 =>
sel v2 (
some 0) (
bnd (
sel (((wrapK .i64 (p0.tdiv 4)).tmod 2) == 1) (
some (((p0.tmod 4).tmod 2) == 1)) (
some false)) fun v3 =>
sel v3 (
some 1) (
some 2)))
def spec_l08Pick (p0 : Int) (p1 : Int) (p2 : Int) (p3 : Int) : Option Int :=
sel (p0 == 0) (
some p1) (
sel (p0 == 1) (
some p2) (
some p3))
def spec_ShareOf (p0 : Int) (p1 : Int) : Option Int :=
bnd (spec_KindOf p1) fun q1 =>
bnd (
bnd (spec_l01In p0 0 40) fun q3 =>
sel q3 (
some (decide (q1 < 0))) (
some true)) fun v2 =>
sel v2 (
some 0) (
req ((6 : Int) ≠ 0) <|
sel ((p0.tmod 6) == 0) (
bnd (spec_l08Pick q1 13107 5243 8066) fun q4 =>
some q4) (
sel ((p0.tmod 6) == 1) (
bnd (spec_l08Pick q1 11916 4660 7490) fun q5 =>
some q5) (
sel ((p0.tmod 6) == 2) (
bnd (spec_l08Pick q1 10082 4194 6554) fun q6 =>
some q6) (
sel ((p0.tmod 6) == 3) (
bnd (spec_l08Pick q1 9362 3647 5825) fun q7 =>
some q7) (
sel ((p0.tmod 6) == 4) (
bnd (spec_l08Pick q1 8192 3355 5243) fun q8 =>
some q8) (
bnd (spec_l08Pick q1 7282 2893 4559) fun q9 =>
some q9))))))
def spec_SmallLevel (p0 : Int) (p1 : Int) (p2 : Int) : Option Int :=
bnd (
bnd (spec_l01In p0 (-20000) 20000) fun q2 =>
sel q2 (
bnd (spec_l01In p1 0 40) fun q3 =>
sel q3 (
bnd (spec_l01In p2 0 15) fun q4 =>
some (!q4)) (
some true)) (
some true)) fun v1 =>
sel v1 (
some 0) (
req ((6 : Int) ≠ 0) <|
req (0 ≤ (wrapK .u64 (wrapK .i64 (15 + (wrapK .i64 (p1.tdiv 6)))))) <|
bnd (spec_l08Sized p0) fun q5 =>
bnd (spec_ShareOf p1 p2) fun q6 =>
req ((3 : Int) ≠ 0) <|
req ((wrapK .i64 (1 * 2 ^ min (wrapK .u64 (wrapK .i64 (15 + (wrapK .i64 (p1.tdiv 6))))).toNat (IntKind.bits .i64))) ≠ 0) <|
bnd (spec_l08Signed p0 (wrapK .i64 ((wrapK .i64 ((wrapK .i64 (q5 * q6)) + (wrapK .i64 ((wrapK .i64 (1 * 2 ^ min (wrapK .u64 (wrapK .i64 (15 + (wrapK .i64 (p1.tdiv 6))))).toNat (IntKind.bits .i64))).tdiv 3)))).tdiv (wrapK .i64 (1 * 2 ^ min (wrapK .u64 (wrapK .i64 (15 + (wrapK .i64 (p1.tdiv 6))))).toNat (IntKind.bits .i64)))))) fun q7 =>
some q7)
def spec_LevelsOf_l4 (p1 : Cond) (v8 : (Int × (List Int))) : Option (Lp (Int × (List Int)) (List Int)) :=
sel (decide (v8.1 < 64)) (
req (0 ≤ v8.1 ∧ v8.1 < v8.2.length) <|
req (v8.1.toNat < v8.2.length) <|
bnd (spec_LargeLevel (v8.2.getD v8.1.toNat 0) p1.Qp) fun q12 =>
req (0 ≤ v8.1 ∧ v8.1 < v8.2.length) <|
req (v8.1.toNat < v8.2.length) <|
some (.go (wrapK .i64 (v8.1 + 1), (v8.2.set v8.1.toNat q12)))) (
some (.done v8.2))
def spec_LevelsOf_l30 (p1 : Cond) (v45 : (Int × (List Int))) : Option (Lp (Int × (List Int)) (List Int)) :=
sel (decide (v45.1 < 16)) (
req (0 ≤ v45.1 ∧ v45.1 < v45.2.length) <|
req (v45.1.toNat < v45.2.length) <|
bnd (spec_SmallLevel (v45.2.getD v45.1.toNat 0) p1.Qp v45.1) fun q49 =>
req (0 ≤ v45.1 ∧ v45.1 < v45.2.length) <|
req (v45.1.toNat < v45.2.length) <|
some (.go (wrapK .i64 (v45.1 + 1), (v45.2.set v45.1.toNat q49)))) (
some (.done v45.2))
def spec_LevelsOf_l26 (p0 : (List Int)) (p1 : Cond) (v27 : (Int × (List Int))) : Option (Lp (Int × (List Int)) (List Int)) :=
sel (decide (v27.1 < 4)) (
bnd (spec_l14Quarter p0 v27.1) fun q41 =>
bnd (spec_Four q41) fun q42 =>
bnd (loop (spec_LevelsOf_l30 p1) (0, q42)) fun v48 =>
bnd (spec_Scanned 4 v48) fun q51 =>
req ((v27.2.length + q51.1.length) * 8 ≤ 140737488355328 ∧ v27.2.length + q51.1.length ≤ maxLen) <|
some (.go (wrapK .i64 (v27.1 + 1), (v27.2 ++ q51.1)))) (
some (.done v27.2))
def spec_LevelsOf (p0 : (List Int)) (p1 : Cond) : Option ((List Int) × Bool) :=
bnd (
bnd (spec_CondOk p1) fun q2 =>
sel q2 (
bnd (spec_l09All p0 64 255) fun q3 =>
some (!q3)) (
some true)) fun v1 =>
sel v1 (
some (([] : List Int), false)) (
sel p1.Exact (
bnd (spec_Scanned 8 p0) fun q4 =>
some (q4.1, q4.2)) (
sel p1.Large (
bnd (spec_Eight p0) fun q5 =>
bnd (loop (spec_LevelsOf_l4 p1) (0, q5)) fun v11 =>
bnd (spec_Scanned 8 v11) fun q14 =>
some (q14.1, q14.2)) (
bnd (loop (spec_LevelsOf_l26 p0 p1) (0, ([] : List Int))) fun v40 =>
some (v40, true))))
def spec_l17Square (p0 : Pic) (p1 : Pic) (p2 : (List Int)) (p3 : Int) (p4 : Int) (p5 : Cond) (p6 : Int) : Option Square :=
bnd (
sel p5.Key (
some false) (
bnd (spec_BlockOf p1 p3 p4) fun q2 =>
bnd (spec_l17Less p2 q2) fun q3 =>
bnd (spec_l17Zero q3) fun q4 =>
some q4)) fun v1 =>
sel v1 (
some (⟨0, 0, 0, 0, []⟩ : Square)) (
bnd (spec_EdgesOf p0 p3 p4) fun q5 =>
bnd (spec_BestGuess p2 q5.1) fun q6 =>
joinK (fun (v7 : Unit) =>
bnd (spec_GuessOf q6.1 q5.1) fun q14 =>
bnd (spec_l17Less p2 q14) fun q15 =>
bnd (spec_LevelsOf q15 p5) fun q16 =>
some (⟨2, q6.1, 0, 0, q16.1⟩ : Square)) fun j1 =>
sel (!p5.Key) (
bnd (spec_BestMove p1 p2 p3 p4 p6) fun q8 =>
sel (decide (q8.2.2 ≤ q6.2)) (
bnd (spec_BlockOf p1 (wrapK .i64 (p3 + q8.1)) (wrapK .i64 (p4 + q8.2.1))) fun q9 =>
bnd (spec_l17Less p2 q9) fun q10 =>
bnd (spec_LevelsOf q10 p5) fun q11 =>
bnd (
sel (q8.1 == 0) (
sel (q8.2.1 == 0) (
bnd (spec_l17Zero q11.1) fun q13 =>
some q13) (
some false)) (
some false)) fun v12 =>
sel v12 (
some (⟨0, 0, 0, 0, []⟩ : Square)) (
some (⟨1, 0, q8.1, q8.2.1, q11.1⟩ : Square))) (
j1 ())) (
j1 ()))
def spec_SquareOk (p0 : Square) : Option Bool :=
sel (p0.Kind == 0) (
bnd (
sel (p0.Mode == 0) (
sel (p0.Dx == 0) (
sel (p0.Dy == 0) (
some ((p0.Levels.length : Int) == 0)) (
some false)) (
some false)) (
some false)) fun v1 =>
some v1) (
sel (p0.Kind == 1) (
bnd (
sel (p0.Mode == 0) (
bnd (spec_l01In p0.Dx (-16) 16) fun q3 =>
sel q3 (
bnd (spec_l01In p0.Dy (-16) 16) fun q4 =>
sel q4 (
bnd (spec_l09All p0.Levels 64 5000) fun q5 =>
some q5) (
some false)) (
some false)) (
some false)) fun v2 =>
some v2) (
sel (p0.Kind == 2) (
bnd (
bnd (spec_l01In p0.Mode 0 3) fun q7 =>
sel q7 (
sel (p0.Dx == 0) (
sel (p0.Dy == 0) (
bnd (spec_l09All p0.Levels 64 5000) fun q8 =>
some q8) (
some false)) (
some false)) (
some false)) fun v6 =>
some v6) (
some false)))
def spec_Unscanned_l2 (p0 : Int) (p1 : (List Int)) (v4 : (Int × (List Int))) : Option (Lp (Int × (List Int)) (List Int)) :=
sel (decide (v4.1 < (wrapK .i64 (p0 * p0)))) (
bnd (spec_ScanAt p0 v4.1) fun q8 =>
req (0 ≤ v4.1 ∧ v4.1 < p1.length) <|
req (0 ≤ q8 ∧ q8 < v4.2.length) <|
req (q8.toNat < v4.2.length) <|
some (.go (wrapK .i64 (v4.1 + 1), (v4.2.set q8.toNat (p1.getD v4.1.toNat 0))))) (
some (.done v4.2))
def spec_Unscanned (p0 : Int) (p1 : (List Int)) : Option ((List Int) × Bool) :=
bnd (
sel (p0 != 4) (
sel (p0 != 8) (
some true) (
some ((p1.length : Int) != (wrapK .i64 (p0 * p0))))) (
some ((p1.length : Int) != (wrapK .i64 (p0 * p0))))) fun v1 =>
sel v1 (
some (([] : List Int), false)) (
req (0 ≤ (p1.length : Int) ∧ (p1.length : Int) ≤ (p1.length : Int) ∧ (p1.length : Int) * 8 ≤ 281474976710656) <|
bnd (loop (spec_Unscanned_l2 p0 p1) (0, (List.replicate (p1.length : Int).toNat (0 : Int)))) fun v7 =>
some (v7, true))
def spec_LargeBack (p0 : Int) (p1 : Int) : Option Int :=
bnd (spec_l01In p0 (-5000) 5000) fun q1 =>
sel (!q1) (
some 0) (
bnd (spec_StepOf p1) fun q2 =>
some (wrapK .i64 (p0 * q2)))
def spec_l09Down (p0 : Int) (p1 : Int) : Option Int :=
req (p1 ≠ 0) <|
bnd (
req (p1 ≠ 0) <|
sel (decide ((p0.tmod p1) < 0)) (
some (wrapK .i64 ((wrapK .i64 (p0.tdiv p1)) - 1))) (
some (wrapK .i64 (p0.tdiv p1)))) fun v1 =>
some v1
def spec_EightBack_l2 (v5 : (Int × (List Int))) : Option (Lp (Int × (List Int)) (List Int)) :=
sel (decide (v5.1 < 64)) (
req (0 ≤ v5.1 ∧ v5.1 < v5.2.length) <|
req (v5.1.toNat < v5.2.length) <|
bnd (spec_l09Down (wrapK .i64 ((v5.2.getD v5.1.toNat 0) + 32)) 64) fun q9 =>
req (0 ≤ v5.1 ∧ v5.1 < v5.2.length) <|
req (v5.1.toNat < v5.2.length) <|
some (.go (wrapK .i64 (v5.1 + 1), (v5.2.set v5.1.toNat q9)))) (
some (.done v5.2))
def spec_EightBack (p0 : (List Int)) : Option (List Int) :=
bnd (spec_l09All p0 64 10000000) fun q1 =>
sel (!q1) (
some ([] : List Int)) (
bnd (spec_l10Sums p0) fun q2 =>
bnd (loop (spec_EightBack_l2) (0, q2)) fun v8 =>
some v8)
def spec_ScaleOf_l2 (p0 : Int) (v12 : (Int × Int)) : Option (Lp (Int × Int) Int) :=
req ((6 : Int) ≠ 0) <|
sel (decide (v12.2 < (wrapK .i64 (p0.tdiv 6)))) (
some (.go (wrapK .i64 (2 * v12.1), wrapK .i64 (v12.2 + 1)))) (
some (.done v12.1))
def spec_ScaleOf (p0 : Int) (p1 : Int) : Option Int :=
bnd (spec_KindOf p1) fun q1 =>
bnd (
bnd (spec_l01In p0 0 40) fun q3 =>
sel q3 (
some (decide (q1 < 0))) (
some true)) fun v2 =>
sel v2 (
some 0) (
bnd (
req ((6 : Int) ≠ 0) <|
sel ((p0.tmod 6) == 0) (
bnd (spec_l08Pick q1 10 16 13) fun q5 =>
some q5) (
sel ((p0.tmod 6) == 1) (
bnd (spec_l08Pick q1 11 18 14) fun q6 =>
some q6) (
sel ((p0.tmod 6) == 2) (
bnd (spec_l08Pick q1 13 20 16) fun q7 =>
some q7) (
sel ((p0.tmod 6) == 3) (
bnd (spec_l08Pick q1 14 23 18) fun q8 =>
some q8) (
sel ((p0.tmod 6) == 4) (
bnd (spec_l08Pick q1 16 25 20) fun q9 =>
some q9) (
sel ((p0.tmod 6) == 5) (
bnd (spec_l08Pick q1 18 29 23) fun q10 =>
some q10) (
some 0))))))) fun v4 =>
bnd (loop (spec_ScaleOf_l2 p0) (v4, 0)) fun v14 =>
some v14)
def spec_SmallBack (p0 : Int) (p1 : Int) (p2 : Int) : Option Int :=
bnd (spec_l01In p0 (-5000) 5000) fun q1 =>
sel (!q1) (
some 0) (
bnd (spec_ScaleOf p1 p2) fun q2 =>
some (wrapK .i64 (p0 * q2)))
def spec_l09Backs_l2 (p0 : (List Int)) (v4 : (Int × (List Int))) : Option (Lp (Int × (List Int)) (List Int)) :=
sel (decide (v4.1 < 4)) (
req (0 ≤ (wrapK .i64 (4 * v4.1)) ∧ (wrapK .i64 (4 * v4.1)) < p0.length) <|
req (0 ≤ (wrapK .i64 ((wrapK .i64 (4 * v4.1)) + 1)) ∧ (wrapK .i64 ((wrapK .i64 (4 * v4.1)) + 1)) < p0.length) <|
req (0 ≤ (wrapK .i64 ((wrapK .i64 (4 * v4.1)) + 2)) ∧ (wrapK .i64 ((wrapK .i64 (4 * v4.1)) + 2)) < p0.length) <|
req (0 ≤ (wrapK .i64 ((wrapK .i64 (4 * v4.1)) + 3)) ∧ (wrapK .i64 ((wrapK .i64 (4 * v4.1)) + 3)) < p0.length) <|
bnd (spec_l09Down (p0.getD (wrapK .i64 ((wrapK .i64 (4 * v4.1)) + 1)).toNat 0) 2) fun q9 =>
bnd (spec_l09Down (p0.getD (wrapK .i64 ((wrapK .i64 (4 * v4.1)) + 3)).toNat 0) 2) fun q10 =>
req ((v4.2.length + ([wrapK .i64 ((wrapK .i64 ((p0.getD (wrapK .i64 (4 * v4.1)).toNat 0) + (p0.getD (wrapK .i64 ((wrapK .i64 (4 * v4.1)) + 2)).toNat 0))) + (wrapK .i64 ((p0.getD (wrapK .i64 ((wrapK .i64 (4 * v4.1)) + 1)).toNat 0) + q10))), wrapK .i64 ((wrapK .i64 ((p0.getD (wrapK .i64 (4 * v4.1)).toNat 0) - (p0.getD (wrapK .i64 ((wrapK .i64 (4 * v4.1)) + 2)).toNat 0))) + (wrapK .i64 (q9 - (p0.getD (wrapK .i64 ((wrapK .i64 (4 * v4.1)) + 3)).toNat 0)))), wrapK .i64 ((wrapK .i64 ((p0.getD (wrapK .i64 (4 * v4.1)).toNat 0) - (p0.getD (wrapK .i64 ((wrapK .i64 (4 * v4.1)) + 2)).toNat 0))) - (wrapK .i64 (q9 - (p0.getD (wrapK .i64 ((wrapK .i64 (4 * v4.1)) + 3)).toNat 0)))), wrapK .i64 ((wrapK .i64 ((p0.getD (wrapK .i64 (4 * v4.1)).toNat 0) + (p0.getD (wrapK .i64 ((wrapK .i64 (4 * v4.1)) + 2)).toNat 0))) - (wrapK .i64 ((p0.getD (wrapK .i64 ((wrapK .i64 (4 * v4.1)) + 1)).toNat 0) + q10)))]).length) * 8 ≤ 140737488355328 ∧ v4.2.length + ([wrapK .i64 ((wrapK .i64 ((p0.getD (wrapK .i64 (4 * v4.1)).toNat 0) + (p0.getD (wrapK .i64 ((wrapK .i64 (4 * v4.1)) + 2)).toNat 0))) + (wrapK .i64 ((p0.getD (wrapK .i64 ((wrapK .i64 (4 * v4.1)) + 1)).toNat 0) + q10))), wrapK .i64 ((wrapK .i64 ((p0.getD (wrapK .i64 (4 * v4.1)).toNat 0) - (p0.getD (wrapK .i64 ((wrapK .i64 (4 * v4.1)) + 2)).toNat 0))) + (wrapK .i64 (q9 - (p0.getD (wrapK .i64 ((wrapK .i64 (4 * v4.1)) + 3)).toNat 0)))), wrapK .i64 ((wrapK .i64 ((p0.getD (wrapK .i64 (4 * v4.1)).toNat 0) - (p0.getD (wrapK .i64 ((wrapK .i64 (4 * v4.1)) + 2)).toNat 0))) - (wrapK .i64 (q9 - (p0.getD (wrapK .i64 ((wrapK .i64 (4 * v4.1)) + 3)).toNat 0)))), wrapK .i64 ((wrapK .i64 ((p0.getD (wrapK .i64 (4 * v4.1)).toNat 0) + (p0.getD (wrapK .i64 ((wrapK .i64 (4 * v4.1)) + 2)).toNat 0))) - (wrapK .i64 ((p0.getD (wrapK .i64 ((wrapK .i64 (4 * v4.1)) + 1)).toNat 0) + q10)))]).length ≤ maxLen) <|
some (.go (wrapK .i64 (v4.1 + 1), (v4.2 ++ ([wrapK .i64 ((wrapK .i64 ((p0.getD (wrapK .i64 (4 * v4.1)).toNat 0) + (p0.getD (wrapK .i64 ((wrapK .i64 (4 * v4.1)) + 2)).toNat 0))) + (wrapK .i64 ((p0.getD (wrapK .i64 ((wrapK .i64 (4 * v4.1)) + 1)).toNat 0) + q10))), wrapK .i64 ((wrapK .i64 ((p0.getD (wrapK .i64 (4 * v4.1)).toNat 0) - (p0.getD (wrapK .i64 ((wrapK .i64 (4 * v4.1)) + 2)).toNat 0))) + (wrapK .i64 (q9 - (p0.getD (wrapK .i64 ((wrapK .i64 (4 * v4.1)) + 3)).toNat 0)))), wrapK .i64 ((wrapK .i64 ((p0.getD (wrapK .i64 (4 * v4.1)).toNat 0) - (p0.getD (wrapK .i64 ((wrapK .i64 (4 * v4.1)) + 2)).toNat 0))) - (wrapK .i64 (q9 - (p0.getD (wrapK .i64 ((wrapK .i64 (4 * v4.1)) + 3)).toNat 0)))), wrapK .i64 ((wrapK .i64 ((p0.getD (wrapK .i64 (4 * v4.1)).toNat 0) + (p0.getD (wrapK .i64 ((wrapK .i64 (4 * v4.1)) + 2)).toNat 0))) - (wrapK .i64 ((p0.getD (wrapK .i64 ((wrapK .i64 (4 * v4.1)) + 1)).toNat 0) + q10)))]))))) (
some (.done v4.2))
def spec_l09Backs (p0 : (List Int)) : Option (List Int) :=
bnd (loop (spec_l09Backs_l2 p0) (0, ([] : List Int))) fun v8 =>
some v8
def spec_FourBack_l2 (v8 : (Int × (List Int))) : Option (Lp (Int × (List Int)) (List Int)) :=
sel (decide (v8.1 < 16)) (
req (0 ≤ v8.1 ∧ v8.1 < v8.2.length) <|
req (v8.1.toNat < v8.2.length) <|
bnd (spec_l09Down (wrapK .i64 ((v8.2.getD v8.1.toNat 0) + 32)) 64) fun q12 =>
req (0 ≤ v8.1 ∧ v8.1 < v8.2.length) <|
req (v8.1.toNat < v8.2.length) <|
some (.go (wrapK .i64 (v8.1 + 1), (v8.2.set v8.1.toNat q12)))) (
some (.done v8.2))
def spec_FourBack (p0 : (List Int)) : Option (List Int) :=
bnd (spec_l09All p0 16 10000000) fun q1 =>
sel (!q1) (
some ([] : List Int)) (
bnd (spec_l09Backs p0) fun q2 =>
bnd (spec_l09Flip q2) fun q3 =>
bnd (spec_l09Backs q3) fun q4 =>
bnd (spec_l09Flip q4) fun q5 =>
bnd (loop (spec_FourBack_l2) (0, q5)) fun v11 =>
some v11)
def spec_LevelsBack_l4 (p1 : Cond) (v8 : (Int × (List Int))) : Option (Lp (Int × (List Int)) (List Int)) :=
sel (decide (v8.1 < 64)) (
req (0 ≤ v8.1 ∧ v8.1 < v8.2.length) <|
req (v8.1.toNat < v8.2.length) <|
bnd (spec_LargeBack (v8.2.getD v8.1.toNat 0) p1.Qp) fun q12 =>
req (0 ≤ v8.1 ∧ v8.1 < v8.2.length) <|
req (v8.1.toNat < v8.2.length) <|
some (.go (wrapK .i64 (v8.1 + 1), (v8.2.set v8.1.toNat q12)))) (
some (.done v8.2))
def spec_LevelsBack_l41 (p1 : Cond) (v52 : (Int × (List Int))) : Option (Lp (Int × (List Int)) (List Int)) :=
sel (decide (v52.1 < 16)) (
req (0 ≤ v52.1 ∧ v52.1 < v52.2.length) <|
req (v52.1.toNat < v52.2.length) <|
bnd (spec_SmallBack (v52.2.getD v52.1.toNat 0) p1.Qp v52.1) fun q56 =>
req (0 ≤ v52.1 ∧ v52.1 < v52.2.length) <|
req (v52.1.toNat < v52.2.length) <|
some (.go (wrapK .i64 (v52.1 + 1), (v52.2.set v52.1.toNat q56)))) (
some (.done v52.2))
def spec_LevelsBack_l42 (v31 : (Int × (List Int))) (q58 : (List Int)) (v60 : (Int × (List Int))) : Option (Lp (Int × (List Int)) (List Int)) :=
sel (decide (v60.1 < 16)) (
req ((2 : Int) ≠ 0) <|
req ((4 : Int) ≠ 0) <|
req ((2 : Int) ≠ 0) <|
req ((4 : Int) ≠ 0) <|
req (0 ≤ v60.1 ∧ v60.1 < q58.length) <|
req (v60.1.toNat < q58.length) <|
req (0 ≤ (wrapK .i64 ((wrapK .i64 ((wrapK .i64 (8 * (wrapK .i64 ((wrapK .i64 ((wrapK .i64 (v31.1.tdiv 2)) * 4)) + (wrapK .i64 (v60.1.tdiv 4)))))) + (wrapK .i64 ((v31.1.tmod 2) * 4)))) + (v60.1.tmod 4))) ∧ (wrapK .i64 ((wrapK .i64 ((wrapK .i64 (8 * (wrapK .i64 ((wrapK .i64 ((wrapK .i64 (v31.1.tdiv 2)) * 4)) + (wrapK .i64 (v60.1.tdiv 4)))))) + (wrapK .i64 ((v31.1.tmod 2) * 4)))) + (v60.1.tmod 4))) < v60.2.length) <|
req ((wrapK .i64 ((wrapK .i64 ((wrapK .i64 (8 * (wrapK .i64 ((wrapK .i64 ((wrapK .i64 (v31.1.tdiv 2)) * 4)) + (wrapK .i64 (v60.1.tdiv 4)))))) + (wrapK .i64 ((v31.1.tmod 2) * 4)))) + (v60.1.tmod 4))).toNat < v60.2.length) <|
some (.go (wrapK .i64 (v60.1 + 1), (v60.2.set ((wrapK .i64 ((wrapK .i64 ((wrapK .i64 (8 * (wrapK .i64 ((wrapK .i64 ((wrapK .i64 (v31.1.tdiv 2)) * 4)) + (wrapK .i64 (v60.1.tdiv 4)))))) + (wrapK .i64 ((v31.1.tmod 2) * 4)))) + (v60.1.tmod 4))).toNat) (q58.getD v60.1.toNat 0))))) (
some (.done v60.2))
def spec_LevelsBack_l36 (p0 : (List Int)) (p1 : Cond) (v31 : (Int × (List Int))) : Option (Lp (Int × (List Int)) (List Int)) :=
sel (decide (v31.1 < 4)) (
req (0 ≤ (wrapK .i64 (16 * v31.1)) ∧ (wrapK .i64 (16 * v31.1)) ≤ (wrapK .i64 ((wrapK .i64 (16 * v31.1)) + 16)) ∧ (wrapK .i64 ((wrapK .i64 (16 * v31.1)) + 16)) ≤ (p0.length : Int)) <|
bnd (spec_Unscanned 4 ((p0.drop (wrapK .i64 (16 * v31.1)).toNat).take ((wrapK .i64 ((wrapK .i64 (16 * v31.1)) + 16)).toNat - (wrapK .i64 (16 * v31.1)).toNat))) fun q49 =>
bnd (loop (spec_LevelsBack_l41 p1) (0, q49.1)) fun v55 =>
bnd (spec_FourBack v55) fun q58 =>
bnd (loop (spec_LevelsBack_l42 v31 q58) (0, v31.2)) fun v62 =>
some (.go (wrapK .i64 (v31.1 + 1), v62))) (
some (.done v31.2))
def spec_LevelsBack (p0 : (List Int)) (p1 : Cond) : Option ((List Int) × Bool) :=
bnd (
bnd (spec_CondOk p1) fun q2 =>
sel q2 (
bnd (spec_l09All p0 64 5000) fun q3 =>
some (!q3)) (
some true)) fun v1 =>
sel v1 (
some (([] : List Int), false)) (
sel p1.Exact (
bnd (spec_Unscanned 8 p0) fun q4 =>
some (q4.1, q4.2)) (
sel p1.Large (
bnd (spec_Unscanned 8 p0) fun q5 =>
bnd (loop (spec_LevelsBack_l4 p1) (0, q5.1)) fun v11 =>
bnd (spec_EightBack v11) fun q14 =>
some (q14, true)) (
req (0 ≤ (64 : Int) ∧ (64 : Int) ≤ (64 : Int) ∧ (64 : Int) * 8 ≤ 281474976710656) <|
bnd (loop (spec_LevelsBack_l36 p0 p1) (0, (List.replicate (64 : Int).toNat (0 : Int)))) fun v48 =>
some (v48, true))))
def spec_Joined_l2 (p0 : (List Int)) (p1 : (List Int)) (v6 : (Int × (List Int))) : Option (Lp (Int × (List Int)) (List Int)) :=
sel (decide (v6.1 < 64)) (
req (0 ≤ v6.1 ∧ v6.1 < p0.length) <|
req (0 ≤ v6.1 ∧ v6.1 < p1.length) <|
bnd (spec_Brought (wrapK .i64 ((p0.getD v6.1.toNat 0) + (p1.getD v6.1.toNat 0))) 0 255) fun q10 =>
req ((v6.2.length + ([q10]).length) * 8 ≤ 140737488355328 ∧ v6.2.length + ([q10]).length ≤ maxLen) <|
some (.go (wrapK .i64 (v6.1 + 1), (v6.2 ++ ([q10]))))) (
some (.done v6.2))
def spec_Joined (p0 : (List Int)) (p1 : (List Int)) : Option (List Int) :=
bnd (
bnd (spec_l13Dots p0) fun q2 =>
sel q2 (
bnd (spec_l09All p1 64 10000000) fun q3 =>
some (!q3)) (
some true)) fun v1 =>
sel v1 (
some ([] : List Int)) (
bnd (loop (spec_Joined_l2 p0 p1) (0, ([] : List Int))) fun v9 =>
some v9)
def spec_SquareDots (p0 : Pic) (p1 : Pic) (p2 : Int) (p3 : Int) (p4 : Cond) (p5 : Int) (p6 : Int) (p7 : Square) : Option ((List Int) × Bool) :=
bnd (
bnd (spec_l13Fits p0 p5 p6) fun q2 =>
sel q2 (
bnd (spec_l01In p2 0 256) fun q3 =>
sel q3 (
bnd (spec_l01In p3 0 256) fun q4 =>
sel q4 (
bnd (spec_SquareOk p7) fun q5 =>
sel q5 (
bnd (spec_CondOk p4) fun q6 =>
some (!q6)) (
some true)) (
some true)) (
some true)) (
some true)) fun v1 =>
sel v1 (
some (([] : List Int), false)) (
sel (p7.Kind == 2) (
bnd (spec_EdgesOf p0 p5 p6) fun q7 =>
bnd (spec_LevelsBack p7.Levels p4) fun q8 =>
bnd (spec_GuessOf p7.Mode q7.1) fun q9 =>
bnd (spec_Joined q9 q8.1) fun q10 =>
some (q10, true)) (
bnd (
sel p4.Key (
some true) (
bnd (spec_PicOk p1) fun q12 =>
some (!q12))) fun v11 =>
sel v11 (
some (([] : List Int), false)) (
bnd (spec_BlockOf p1 (wrapK .i64 ((wrapK .i64 (p2 + p5)) + p7.Dx)) (wrapK .i64 ((wrapK .i64 (p3 + p6)) + p7.Dy))) fun q13 =>
sel (p7.Kind == 0) (
some (q13, true)) (
bnd (spec_LevelsBack p7.Levels p4) fun q14 =>
bnd (spec_Joined q13 q14.1) fun q15 =>
some (q15, true)))))
def spec_SquareFor (p0 : Pic) (p1 : Pic) (p2 : (List Int)) (p3 : Int) (p4 : Int) (p5 : Cond) (p6 : Int) : Option (Square × (List Int) × Bool) :=
bnd (
bnd (spec_l13Fits p0 p3 p4) fun q2 =>
sel q2 (
bnd (spec_l13Dots p2) fun q3 =>
sel q3 (
bnd (spec_CondOk p5) fun q4 =>
sel q4 (
bnd (spec_l01In p6 0 4) fun q5 =>
sel q5 (
sel p5.Key (
some false) (
bnd (spec_l17Like p0 p1) fun q6 =>
some (!q6))) (
some true)) (
some true)) (
some true)) (
some true)) fun v1 =>
sel v1 (
some ((⟨0, 0, 0, 0, []⟩ : Square), ([] : List Int), false)) (
bnd (spec_l17Square p0 p1 p2 p3 p4 p5 p6) fun q7 =>
bnd (spec_SquareDots p0 p1 0 0 p5 p3 p4 q7) fun q8 =>
some (q7, q8.1, true))
def spec_l16Put_l2 (p0 : Pic) (p1 : Int) (p2 : Int) (p3 : (List Int)) (v2 : (Int × (List Int))) : Option (Lp (Int × (List Int)) (List Int)) :=
sel (decide (v2.1 < 64)) (
req ((8 : Int) ≠ 0) <|
req ((8 : Int) ≠ 0) <|
req (0 ≤ v2.1 ∧ v2.1 < p3.length) <|
req (0 ≤ (wrapK .i64 ((wrapK .i64 ((wrapK .i64 ((wrapK .i64 (p2 + (wrapK .i64 (v2.1.tdiv 8)))) * p0.Wide)) + p1)) + (v2.1.tmod 8))) ∧ (wrapK .i64 ((wrapK .i64 ((wrapK .i64 ((wrapK .i64 (p2 + (wrapK .i64 (v2.1.tdiv 8)))) * p0.Wide)) + p1)) + (v2.1.tmod 8))) < v2.2.length) <|
req ((wrapK .i64 ((wrapK .i64 ((wrapK .i64 ((wrapK .i64 (p2 + (wrapK .i64 (v2.1.tdiv 8)))) * p0.Wide)) + p1)) + (v2.1.tmod 8))).toNat < v2.2.length) <|
some (.go (wrapK .i64 (v2.1 + 1), (v2.2.set ((wrapK .i64 ((wrapK .i64 ((wrapK .i64 ((wrapK .i64 (p2 + (wrapK .i64 (v2.1.tdiv 8)))) * p0.Wide)) + p1)) + (v2.1.tmod 8))).toNat) (wrapK .u8 ((p3.getD v2.1.toNat 0))))))) (
some (.done v2.2))
def spec_l16Put (p0 : Pic) (p1 : Int) (p2 : Int) (p3 : (List Int)) : Option Pic :=
req (p0.Dots.size ≤ maxLen) <|
bnd (loop (spec_l16Put_l2 p0 p1 p2 p3) (0, (numsOf p0.Dots))) fun v4 =>
some (⟨p0.Wide, p0.High, (strOfNums v4)⟩ : Pic)
def spec_TileFor_l14 (p0 : Pic) (p1 : Pic) (p2 : Cond) (p3 : Int) (v24 : (Int × (List Square) × Int × Int × ByteArray)) (v45 : (Int × (List Square) × Int × Int × ByteArray)) : Option (Lp (Int × (List Square) × Int × Int × ByteArray) ((List Square) × Int × Int × ByteArray)) :=
sel (decide (v45.1 < p0.Wide)) (
bnd (spec_BlockOf p0 v45.1 v24.1) fun q51 =>
bnd (spec_SquareFor (⟨v45.2.2.1, v45.2.2.2.1, v45.2.2.2.2⟩ : Pic) p1 q51 v45.1 v24.1 p2 p3) fun q52 =>
req ((v45.2.1.length + ([q52.1]).length) * 56 ≤ 140737488355328 ∧ v45.2.1.length + ([q52.1]).length ≤ maxLen) <|
bnd (spec_l16Put (⟨v45.2.2.1, v45.2.2.2.1, v45.2.2.2.2⟩ : Pic) v45.1 v24.1 q52.2.1) fun q53 =>
some (.go (wrapK .i64 (v45.1 + 8), (v45.2.1 ++ ([q52.1])), q53.Wide, q53.High, q53.Dots))) (
some (.done (v45.2.1, v45.2.2.1, v45.2.2.2.1, v45.2.2.2.2)))
def spec_TileFor_l12 (p0 : Pic) (p1 : Pic) (p2 : Cond) (p3 : Int) (v24 : (Int × (List Square) × Int × Int × ByteArray)) : Option (Lp (Int × (List Square) × Int × Int × ByteArray) ((List Square) × Int × Int × ByteArray)) :=
sel (decide (v24.1 < p0.High)) (
bnd (loop (spec_TileFor_l14 p0 p1 p2 p3 v24) (0, v24.2.1, v24.2.2.1, v24.2.2.2.1, v24.2.2.2.2)) fun v50 =>
some (.go (wrapK .i64 (v24.1 + 8), v50.1, v50.2.1, v50.2.2.1, v50.2.2.2))) (
some (.done (v24.2.1, v24.2.2.1, v24.2.2.2.1, v24.2.2.2.2)))
def spec_TileFor (p0 : Pic) (p1 : Pic) (p2 : Cond) (p3 : Int) : Option ((List Square) × Pic × Bool) :=
bnd (
bnd (spec_PicOk p0) fun q2 =>
sel q2 (
bnd (spec_l16Side p0.Wide) fun q3 =>
sel q3 (
bnd (spec_l16Side p0.High) fun q4 =>
sel q4 (
bnd (spec_CondOk p2) fun q5 =>
sel q5 (
bnd (spec_l01In p3 0 4) fun q6 =>
sel q6 (
sel p2.Key (
some false) (
bnd (spec_l17Like p0 p1) fun q7 =>
some (!q7))) (
some true)) (
some true)) (
some true)) (
some true)) (
some true)) fun v1 =>
sel v1 (
some (([] : List Square), (⟨0, 0, ⟨#[]⟩⟩ : Pic), false)) (
bnd (spec_Grey p0.Wide p0.High) fun q8 =>
bnd (loop (spec_TileFor_l12 p0 p1 p2 p3) (0, ([] : List Square), q8.Wide, q8.High, q8.Dots)) fun v40 =>
some (v40.1, (⟨v40.2.1, v40.2.2.1, v40.2.2.2⟩ : Pic), true))
def spec_HeadOk (p0 : Seq) (p1 : Par) (p2 : Head) : Option Bool :=
bnd (
bnd (spec_ParOk p1) fun q2 =>
sel q2 (
sel (decide (p2.Tile ≥ 0)) (
bnd (spec_TilesOf p0) fun q3 =>
sel (decide (p2.Tile < q3)) (
sel (decide (p2.Frame ≥ 0)) (
req (0 ≤ (wrapK .u64 (p0.Bits))) <|
sel (decide (p2.Frame < (wrapK .i64 (1 * 2 ^ min (wrapK .u64 (p0.Bits)).toNat (IntKind.bits .i64))))) (
bnd (spec_l01In p2.Qp 0 40) fun q4 =>
some q4) (
some false)) (
some false)) (
some false)) (
some false)) (
some false)) fun v1 =>
some v1
def spec_l02Fix_l2 (v2 : (Int × Int × (List Int))) : Option (Lp (Int × Int × (List Int)) (List Int)) :=
sel (decide (v2.2.1 ≥ 0)) (
req ((2 : Int) ≠ 0) <|
req (0 ≤ v2.2.1 ∧ v2.2.1 < v2.2.2.length) <|
req (v2.2.1.toNat < v2.2.2.length) <|
req ((2 : Int) ≠ 0) <|
some (.go (wrapK .i64 (v2.1.tdiv 2), wrapK .i64 (v2.2.1 - 1), (v2.2.2.set v2.2.1.toNat (wrapK .u8 (wrapK .i64 (48 + (v2.1.tmod 2)))))))) (
some (.done v2.2.2))
def spec_l02Fix (p0 : Int) (p1 : Int) : Option ByteArray :=
req (0 ≤ p1 ∧ p1 ≤ p1 ∧ p1 * 1 ≤ 281474976710656) <|
bnd (loop (spec_l02Fix_l2) (p0, wrapK .i64 (p1 - 1), (List.replicate p1.toNat (0 : Int)))) fun v4 =>
some (strOfNums v4)
def spec_HeadRow (p0 : Seq) (p1 : Par) (p2 : Head) : Option (ByteArray × Bool) :=
bnd (spec_HeadOk p0 p1 p2) fun q1 =>
sel (!q1) (
some (⟨#[]⟩, false)) (
bnd (spec_l03Ue p2.Tile) fun q2 =>
bnd (spec_l02Fix p2.Frame p0.Bits) fun q3 =>
req (q2.size + q3.size ≤ 9223372036854775807) <|
bnd (spec_l03Se (wrapK .i64 (p2.Qp - p1.Qp))) fun q4 =>
req ((q2 ++ q3).size + q4.size ≤ 9223372036854775807) <|
some (((q2 ++ q3) ++ q4), true))
def spec_l11Runs_l2 (p0 : (List Int)) (v5 : (Int × Int × ByteArray × Int)) : Option (Lp (Int × Int × ByteArray × Int) (Int × ByteArray)) :=
sel (decide (v5.2.2.2 < (p0.length : Int))) (
bnd (
req (0 ≤ v5.2.2.2 ∧ v5.2.2.2 < p0.length) <|
sel ((p0.getD v5.2.2.2.toNat 0) == 0) (
some (v5.1, wrapK .i64 (v5.2.1 + 1), v5.2.2.1)) (
bnd (spec_l03Ue v5.2.1) fun q12 =>
req (v5.2.2.1.size + q12.size ≤ 9223372036854775807) <|
req (0 ≤ v5.2.2.2 ∧ v5.2.2.2 < p0.length) <|
bnd (spec_l03Se (p0.getD v5.2.2.2.toNat 0)) fun q13 =>
req ((v5.2.2.1 ++ q12).size + q13.size ≤ 9223372036854775807) <|
some (wrapK .i64 (v5.1 + 1), 0, ((v5.2.2.1 ++ q12) ++ q13)))) fun v11 =>
some (.go (v11.1, v11.2.1, v11.2.2, wrapK .i64 (v5.2.2.2 + 1)))) (
some (.done (v5.1, v5.2.2.1)))
def spec_l11Runs (p0 : (List Int)) : Option ByteArray :=
bnd (loop (spec_l11Runs_l2 p0) (0, 0, ⟨#[]⟩, 0)) fun v10 =>
bnd (spec_l03Ue v10.1) fun q15 =>
req (q15.size + v10.2.size ≤ 9223372036854775807) <|
some (q15 ++ v10.2)
def spec_l14Row (p0 : (List Int)) (p1 : Cond) : Option ByteArray :=
bnd (
sel p1.Large (
some true) (
some p1.Exact)) fun v1 =>
sel v1 (
bnd (spec_l11Runs p0) fun q2 =>
some q2) (
req (0 ≤ (0 : Int) ∧ (0 : Int) ≤ (16 : Int) ∧ (16 : Int) ≤ (p0.length : Int)) <|
bnd (spec_l11Runs ((p0.drop (0 : Int).toNat).take ((16 : Int).toNat - (0 : Int).toNat))) fun q3 =>
req (0 ≤ (16 : Int) ∧ (16 : Int) ≤ (32 : Int) ∧ (32 : Int) ≤ (p0.length : Int)) <|
bnd (spec_l11Runs ((p0.drop (16 : Int).toNat).take ((32 : Int).toNat - (16 : Int).toNat))) fun q4 =>
req (q3.size + q4.size ≤ 9223372036854775807) <|
req (0 ≤ (32 : Int) ∧ (32 : Int) ≤ (48 : Int) ∧ (48 : Int) ≤ (p0.length : Int)) <|
bnd (spec_l11Runs ((p0.drop (32 : Int).toNat).take ((48 : Int).toNat - (32 : Int).toNat))) fun q5 =>
req ((q3 ++ q4).size + q5.size ≤ 9223372036854775807) <|
req (0 ≤ (48 : Int) ∧ (48 : Int) ≤ (p0.length : Int) ∧ (p0.length : Int) ≤ (p0.length : Int)) <|
bnd (spec_l11Runs ((p0.drop (48 : Int).toNat).take ((p0.length : Int).toNat - (48 : Int).toNat))) fun q6 =>
req (((q3 ++ q4) ++ q5).size + q6.size ≤ 9223372036854775807) <|
some (((q3 ++ q4) ++ q5) ++ q6))
def spec_l15Row (p0 : Square) (p1 : Cond) : Option ByteArray :=
bnd (
sel (!p1.Key) (
bnd (spec_l03Ue p0.Kind) fun q2 =>
some q2) (
some ⟨#[]⟩)) fun v1 =>
sel (p0.Kind == 1) (
bnd (spec_l03Se p0.Dx) fun q3 =>
req (v1.size + q3.size ≤ 9223372036854775807) <|
bnd (spec_l03Se p0.Dy) fun q4 =>
req ((v1 ++ q3).size + q4.size ≤ 9223372036854775807) <|
bnd (spec_l14Row p0.Levels p1) fun q5 =>
req (((v1 ++ q3) ++ q4).size + q5.size ≤ 9223372036854775807) <|
some (((v1 ++ q3) ++ q4) ++ q5)) (
sel (p0.Kind == 2) (
bnd (spec_l03Ue p0.Mode) fun q6 =>
req (v1.size + q6.size ≤ 9223372036854775807) <|
bnd (spec_l14Row p0.Levels p1) fun q7 =>
req ((v1 ++ q6).size + q7.size ≤ 9223372036854775807) <|
some ((v1 ++ q6) ++ q7)) (
some v1))
def spec_l16Row_l2 (p0 : (List Square)) (p1 : Cond) (v3 : (Int × (List Int))) : Option (Lp (Int × (List Int)) (List Int)) :=
sel (decide (v3.1 < (p0.length : Int))) (
req (0 ≤ v3.1 ∧ v3.1 < p0.length) <|
bnd (spec_l15Row (⟨(p0.getD v3.1.toNat dSquare).Kind, (p0.getD v3.1.toNat dSquare).Mode, (p0.getD v3.1.toNat dSquare).Dx, (p0.getD v3.1.toNat dSquare).Dy, (p0.getD v3.1.toNat dSquare).Levels⟩ : Square) p1) fun q7 =>
req ((v3.2.length + (numsOf q7).length) * 1 ≤ 140737488355328 ∧ v3.2.length + (numsOf q7).length ≤ maxLen) <|
some (.go (wrapK .i64 (v3.1 + 1), (v3.2 ++ (numsOf q7))))) (
some (.done v3.2))
def spec_l16Row (p0 : (List Square)) (p1 : Cond) : Option ByteArray :=
bnd (loop (spec_l16Row_l2 p0 p1) (0, ([] : List Int))) fun v6 =>
some (strOfNums v6)
def spec_l05List_l2 (p0 : (List Int)) (v4 : (ByteArray × Int)) : Option (Lp (ByteArray × Int) ByteArray) :=
sel (decide (v4.2 < (p0.length : Int))) (
req (0 ≤ v4.2 ∧ v4.2 < p0.length) <|
bnd (spec_l03Ue (p0.getD v4.2.toNat 0)) fun q8 =>
req (v4.1.size + q8.size ≤ 9223372036854775807) <|
some (.go ((v4.1 ++ q8), wrapK .i64 (v4.2 + 1)))) (
some (.done v4.1))
def spec_l05List (p0 : (List Int)) : Option ByteArray :=
bnd (spec_l03Ue (p0.length : Int)) fun q1 =>
bnd (loop (spec_l05List_l2 p0) (q1, 0)) fun v7 =>
some v7
def spec_l05Seq (p0 : Seq) : Option ByteArray :=
bnd (spec_l03Ue p0.Level) fun q1 =>
bnd (spec_l02Fix p0.Bits 4) fun q2 =>
req (q1.size + q2.size ≤ 9223372036854775807) <|
bnd (spec_l05List p0.Cols) fun q3 =>
req ((q1 ++ q2).size + q3.size ≤ 9223372036854775807) <|
bnd (spec_l05List p0.Rows) fun q4 =>
req (((q1 ++ q2) ++ q3).size + q4.size ≤ 9223372036854775807) <|
some (((q1 ++ q2) ++ q3) ++ q4)
def spec_l07Kind (p0 : Int) : Option Bool :=
bnd (
sel (p0 == 1) (
some true) (
sel (p0 == 5) (
some true) (
sel (p0 == 7) (
some true) (
some (p0 == 8))))) fun v1 =>
some v1
def spec_l02Row_l2 (p0 : ByteArray) (v3 : Int) : Option (Lp Int (Ou Unit Bool)) :=
sel (decide (v3 < (p0.size : Int))) (
bnd (
req (0 ≤ v3 ∧ v3 < p0.size) <|
sel ((btOf p0 v3) != 48) (
req (0 ≤ v3 ∧ v3 < p0.size) <|
some ((btOf p0 v3) != 49)) (
some false)) fun v7 =>
sel v7 (
some (.done (.ret false))) (
some (.go (wrapK .i64 (v3 + 1))))) (
some (.done (.out ())))
def spec_l02Row (p0 : ByteArray) : Option Bool :=
bnd (loop (spec_l02Row_l2 p0) 0) fun o8 => match o8 with
| .out v6 => (
some true)
| .ret r => some r
def spec_RowOk (p0 : ByteArray) : Option Bool :=
bnd (
sel (decide ((p0.size : Int) ≤ 400000)) (
bnd (spec_l02Row p0) fun q2 =>
some q2) (
some false)) fun v1 =>
some v1
def spec_l02Bytes_l2 (v2 : (List Int)) : Option (Lp (List Int) (List Int)) :=
req ((8 : Int) ≠ 0) <|
sel (((v2.length : Int).tmod 8) != 0) (
req ((v2.length + ([48]).length) * 1 ≤ 140737488355328 ∧ v2.length + ([48]).length ≤ maxLen) <|
some (.go (v2 ++ ([48])))) (
some (.done v2))
def spec_l02Bytes_l28 (v4 : (List Int)) (v12 : (Int × (List Int))) (v21 : (Int × Int)) : Option (Lp (Int × Int) Int) :=
sel (decide (v21.2 < 8)) (
req (0 ≤ (wrapK .i64 (v12.1 + v21.2)) ∧ (wrapK .i64 (v12.1 + v21.2)) < v4.length) <|
req ((wrapK .i64 (v12.1 + v21.2)).toNat < v4.length) <|
some (.go (wrapK .i64 ((wrapK .i64 ((wrapK .i64 (2 * v21.1)) + (wrapK .i64 ((v4.getD ((wrapK .i64 (v12.1 + v21.2)).toNat) 0))))) - 48), wrapK .i64 (v21.2 + 1)))) (
some (.done v21.1))
def spec_l02Bytes_l24 (v4 : (List Int)) (v12 : (Int × (List Int))) : Option (Lp (Int × (List Int)) (List Int)) :=
sel (decide (v12.1 < (v4.length : Int))) (
bnd (loop (spec_l02Bytes_l28 v4 v12) (0, 0)) fun v23 =>
req ((v12.2.length + ([wrapK .u8 (v23)]).length) * 1 ≤ 140737488355328 ∧ v12.2.length + ([wrapK .u8 (v23)]).length ≤ maxLen) <|
some (.go (wrapK .i64 (v12.1 + 8), (v12.2 ++ ([wrapK .u8 (v23)]))))) (
some (.done v12.2))
def spec_l02Bytes (p0 : ByteArray) : Option ByteArray :=
req (p0.size ≤ maxLen) <|
req (((numsOf p0).length + ([49]).length) * 1 ≤ 140737488355328 ∧ (numsOf p0).length + ([49]).length ≤ maxLen) <|
bnd (loop (spec_l02Bytes_l2) ((numsOf p0) ++ ([49]))) fun v4 =>
bnd (loop (spec_l02Bytes_l24 v4) (0, ([] : List Int))) fun v19 =>
some (strOfNums v19)
def spec_UnitOf (p0 : Int) (p1 : ByteArray) : Option (ByteArray × Bool) :=
bnd (
bnd (spec_l07Kind p0) fun q2 =>
sel q2 (
bnd (spec_RowOk p1) fun q3 =>
some (!q3)) (
some true)) fun v1 =>
sel v1 (
some (⟨#[]⟩, false)) (
bnd (spec_l02Bytes p1) fun q4 =>
req ((strOfNums ([wrapK .u8 (p0)])).size + q4.size ≤ 9223372036854775807) <|
some (((strOfNums ([wrapK .u8 (p0)])) ++ q4), true))
def spec_l05Flag (p0 : Bool) : Option ByteArray :=
sel p0 (
some ⟨#[49]⟩) (
some ⟨#[48]⟩)
def spec_l05Par (p0 : Par) : Option ByteArray :=
bnd (spec_l02Fix p0.Qp 6) fun q1 =>
bnd (spec_l05Flag p0.Large) fun q2 =>
req (q1.size + q2.size ≤ 9223372036854775807) <|
bnd (spec_l05Flag p0.Exact) fun q3 =>
req ((q1 ++ q2).size + q3.size ≤ 9223372036854775807) <|
bnd (spec_l05Flag p0.Confined) fun q4 =>
req (((q1 ++ q2) ++ q3).size + q4.size ≤ 9223372036854775807) <|
some (((q1 ++ q2) ++ q3) ++ q4)
def spec_SourceSets (p0 : Source) : Option (List ByteArray) :=
bnd (spec_SourceOk p0) fun q1 =>
sel (!q1) (
some ([] : List ByteArray)) (
bnd (spec_l05Seq p0.Seq) fun q2 =>
bnd (spec_UnitOf 7 q2) fun q3 =>
bnd (spec_l05Par p0.Par) fun q4 =>
bnd (spec_UnitOf 8 q4) fun q5 =>
some ([q3.1, q5.1]))
def spec_RateNext (p0 : Rate) (p1 : Int) : Option Rate :=
bnd (spec_RateOk p0) fun q1 =>
sel (!q1) (
some p0) (
bnd (spec_Brought p1 0 400000) fun q2 =>
bnd (spec_Brought (wrapK .i64 ((wrapK .i64 (p0.Debt + q2)) - p0.Target)) (wrapK .i64 ((-8) * p0.Target)) (wrapK .i64 (8 * p0.Target))) fun q3 =>
bnd (
sel (decide (q3 > p0.Target)) (
some (wrapK .i64 (p0.Qp + 1))) (
some p0.Qp)) fun v4 =>
bnd (
sel (decide (q3 < (wrapK .i64 (0 - p0.Target)))) (
some (wrapK .i64 (v4 - 1))) (
some v4)) fun v5 =>
bnd (spec_Brought v5 0 40) fun q6 =>
some (⟨q6, p0.Target, q3⟩ : Rate))
def spec_SourceStep (p0 : Source) (p1 : Pic) (p2 : Bool) : Option (Source × (List ByteArray) × Bool) :=
bnd (spec_SizeOf p0.Seq) fun q1 =>
bnd (spec_KeyDue p0 p2) fun q2 =>
bnd (
bnd (spec_SourceOk p0) fun q4 =>
sel q4 (
bnd (spec_PicOk p1) fun q5 =>
sel q5 (
sel (p1.Wide != q1.1) (
some true) (
sel (p1.High != q1.2) (
some true) (
sel q2 (
some false) (
some (decide (p0.Since ≥ 1000)))))) (
some true)) (
some true)) fun v3 =>
sel v3 (
bnd (spec_l05Copy p0.Seq) fun q6 =>
some ((⟨q6, p0.Par, p0.Rate, p0.Frame, p0.Since, p0.Every, p0.Reach, p0.Has, p0.Ref⟩ : Source), ([] : List ByteArray), false)) (
bnd (spec_QpFor p0.Rate q2) fun q7 =>
bnd (spec_TileFor p1 p0.Ref (⟨q2, q7, p0.Par.Large, p0.Par.Exact⟩ : Cond) p0.Reach) fun q8 =>
bnd (spec_HeadRow p0.Seq p0.Par (⟨0, p0.Frame, q7⟩ : Head)) fun q9 =>
bnd (spec_l16Row q8.1 (⟨q2, q7, p0.Par.Large, p0.Par.Exact⟩ : Cond)) fun q10 =>
req (q9.1.size + q10.size ≤ 9223372036854775807) <|
bnd (
sel q2 (
bnd (spec_SourceSets p0) fun q12 =>
some (5, q12)) (
some (1, ([] : List ByteArray)))) fun v11 =>
bnd (spec_UnitOf v11.1 (q9.1 ++ q10)) fun q13 =>
req ((v11.2.length + ([q13.1]).length) * 16 ≤ 140737488355328 ∧ v11.2.length + ([q13.1]).length ≤ maxLen) <|
bnd (spec_l05Copy p0.Seq) fun q14 =>
bnd (spec_RateNext p0.Rate ((q9.1 ++ q10).size : Int)) fun q15 =>
req (0 ≤ (wrapK .u64 (p0.Seq.Bits))) <|
req ((wrapK .i64 (1 * 2 ^ min (wrapK .u64 (p0.Seq.Bits)).toNat (IntKind.bits .i64))) ≠ 0) <|
bnd (
sel q2 (
some 1) (
some (wrapK .i64 (p0.Since + 1)))) fun v16 =>
some ((⟨q14, p0.Par, q15, ((wrapK .i64 (p0.Frame + 1)).tmod (wrapK .i64 (1 * 2 ^ min (wrapK .u64 (p0.Seq.Bits)).toNat (IntKind.bits .i64)))), v16, p0.Every, p0.Reach, true, q8.2.1⟩ : Source), (v11.2 ++ ([q13.1])), true))
def spec_l17Near_l2 (p1 : Pic) (v3 : (Int × Int × (List Int) × Int × Int)) (v7 : (Int × (List Int))) : Option (Lp (Int × (List Int)) (List Int)) :=
sel (decide (v7.1 < (p1.Dots.size : Int))) (
req (p1.Wide ≠ 0) <|
req (p1.Wide ≠ 0) <|
bnd (spec_DotAt p1 (wrapK .i64 ((v7.1.tmod p1.Wide) + v3.1)) (wrapK .i64 ((wrapK .i64 (v7.1.tdiv p1.Wide)) + v3.2.1))) fun q11 =>
req ((v7.2.length + ([wrapK .u8 (q11)]).length) * 1 ≤ 140737488355328 ∧ v7.2.length + ([wrapK .u8 (q11)]).length ≤ maxLen) <|
some (.go (wrapK .i64 (v7.1 + 1), (v7.2 ++ ([wrapK .u8 (q11)]))))) (
some (.done v7.2))
def spec_l17Near_l4 (v17 : (Int × (List Int) × Int × Int × (List Int))) : Option (Lp (Int × (List Int) × Int × Int × (List Int)) ((List Int) × (List Int) × Int × Int)) :=
bnd (spec_l01Below (⟨v17.2.1, v17.2.2.1, v17.2.2.2.1⟩ : L01Cur) 6) fun q23 =>
sel (decide (v17.1 < q23.1)) (
bnd (spec_l01Below q23.2 (v17.2.2.2.2.length : Int)) fun q24 =>
bnd (spec_l01Byte q24.2) fun q25 =>
req (0 ≤ q24.1 ∧ q24.1 < v17.2.2.2.2.length) <|
req (q24.1.toNat < v17.2.2.2.2.length) <|
some (.go (wrapK .i64 (v17.1 + 1), q25.2.b_, q25.2.i_, q25.2.h_, (v17.2.2.2.2.set q24.1.toNat (wrapK .u8 (q25.1)))))) (
some (.done (v17.2.2.2.2, q23.2.b_, q23.2.i_, q23.2.h_)))
def spec_l17Near (p0 : L01Cur) (p1 : Pic) : Option (Pic × L01Cur) :=
bnd (spec_l01Below p0 7) fun q1 =>
bnd (spec_l01Below q1.2 5) fun q2 =>
bnd (
bnd (spec_l01Once q2.2 3) fun q4 =>
sel q4.1 (
some (0, 0, q4.2.b_, q4.2.i_, q4.2.h_)) (
some (wrapK .i64 (q1.1 - 3), wrapK .i64 (q2.1 - 2), q4.2.b_, q4.2.i_, q4.2.h_))) fun v3 =>
bnd (loop (spec_l17Near_l2 p1 v3) (0, ([] : List Int))) fun v10 =>
bnd (loop (spec_l17Near_l4) (0, v3.2.2.1, v3.2.2.2.1, v3.2.2.2.2, v10)) fun v22 =>
some ((⟨p1.Wide, p1.High, (strOfNums v22.1)⟩ : Pic), (⟨v22.2.1, v22.2.2.1, v22.2.2.2⟩ : L01Cur))
def spec_l19Right_l2 (v16 : (Int × (List Int) × Int × Int × Int × Int × Int × Bool × Bool × Bool × Int × Int × Int × Int × Int × Int × Int × Bool × Int × Int × ByteArray × (List ByteArray) × Int × Int × ByteArray × (List Int) × (List Int))) : Option (Lp (Int × (List Int) × Int × Int × Int × Int × Int × Bool × Bool × Bool × Int × Int × Int × Int × Int × Int × Int × Bool × Int × Int × ByteArray × (List ByteArray) × Int × Int × ByteArray × (List Int) × (List Int)) (Int × Int × Int × Bool × Bool × Bool × Int × Int × Int × Int × Int × Int × Int × Bool × Int × Int × ByteArray × (List ByteArray) × (List Int) × Int × Int × (List Int) × (List Int))) :=
bnd (spec_l01Below (⟨v16.2.1, v16.2.2.1, v16.2.2.2.1⟩ : L01Cur) 4) fun q23 =>
sel (decide (v16.1 < q23.1)) (
bnd (spec_l01Once q23.2 5) fun q24 =>
bnd (spec_SourceStep (⟨(⟨v16.2.2.2.2.1, v16.2.2.2.2.2.1, v16.2.2.2.2.2.2.2.2.2.2.2.2.2.2.2.2.2.2.2.2.2.2.2.2.2.1, v16.2.2.2.2.2.2.2.2.2.2.2.2.2.2.2.2.2.2.2.2.2.2.2.2.2.2⟩ : Seq), (⟨v16.2.2.2.2.2.2.1, v16.2.2.2.2.2.2.2.1, v16.2.2.2.2.2.2.2.2.1, v16.2.2.2.2.2.2.2.2.2.1⟩ : Par), (⟨v16.2.2.2.2.2.2.2.2.2.2.1, v16.2.2.2.2.2.2.2.2.2.2.2.1, v16.2.2.2.2.2.2.2.2.2.2.2.2.1⟩ : Rate), v16.2.2.2.2.2.2.2.2.2.2.2.2.2.1, v16.2.2.2.2.2.2.2.2.2.2.2.2.2.2.1, v16.2.2.2.2.2.2.2.2.2.2.2.2.2.2.2.1, v16.2.2.2.2.2.2.2.2.2.2.2.2.2.2.2.2.1, v16.2.2.2.2.2.2.2.2.2.2.2.2.2.2.2.2.2.1, (⟨v16.2.2.2.2.2.2.2.2.2.2.2.2.2.2.2.2.2.2.1, v16.2.2.2.2.2.2.2.2.2.2.2.2.2.2.2.2.2.2.2.1, v16.2.2.2.2.2.2.2.2.2.2.2.2.2.2.2.2.2.2.2.2.1⟩ : Pic)⟩ : Source) (⟨v16.2.2.2.2.2.2.2.2.2.2.2.2.2.2.2.2.2.2.2.2.2.2.1, v16.2.2.2.2.2.2.2.2.2.2.2.2.2.2.2.2.2.2.2.2.2.2.2.1, v16.2.2.2.2.2.2.2.2.2.2.2.2.2.2.2.2.2.2.2.2.2.2.2.2.1⟩ : Pic) q24.1) fun q25 =>
req ((v16.2.2.2.2.2.2.2.2.2.2.2.2.2.2.2.2.2.2.2.2.2.1.length + q25.2.1.length) * 16 ≤ 140737488355328 ∧ v16.2.2.2.2.2.2.2.2.2.2.2.2.2.2.2.2.2.2.2.2.2.1.length + q25.2.1.length ≤ maxLen) <|
bnd (spec_l17Near q24.2 (⟨v16.2.2.2.2.2.2.2.2.2.2.2.2.2.2.2.2.2.2.2.2.2.2.1, v16.2.2.2.2.2.2.2.2.2.2.2.2.2.2.2.2.2.2.2.2.2.2.2.1, v16.2.2.2.2.2.2.2.2.2.2.2.2.2.2.2.2.2.2.2.2.2.2.2.2.1⟩ : Pic)) fun q26 =>
some (.go (wrapK .i64 (v16.1 + 1), q26.2.b_, q26.2.i_, q26.2.h_, q25.1.Seq.Level, q25.1.Seq.Bits, q25.1.Par.Qp, q25.1.Par.Large, q25.1.Par.Exact, q25.1.Par.Confined, q25.1.Rate.Qp, q25.1.Rate.Target, q25.1.Rate.Debt, q25.1.Frame, q25.1.Since, q25.1.Every, q25.1.Reach, q25.1.Has, q25.1.Ref.Wide, q25.1.Ref.High, q25.1.Ref.Dots, (v16.2.2.2.2.2.2.2.2.2.2.2.2.2.2.2.2.2.2.2.2.2.1 ++ q25.2.1), q26.1.Wide, q26.1.High, q26.1.Dots, q25.1.Seq.Cols, q25.1.Seq.Rows))) (
some (.done (v16.2.2.2.2.1, v16.2.2.2.2.2.1, v16.2.2.2.2.2.2.1, v16.2.2.2.2.2.2.2.1, v16.2.2.2.2.2.2.2.2.1, v16.2.2.2.2.2.2.2.2.2.1, v16.2.2.2.2.2.2.2.2.2.2.1, v16.2.2.2.2.2.2.2.2.2.2.2.1, v16.2.2.2.2.2.2.2.2.2.2.2.2.1, v16.2.2.2.2.2.2.2.2.2.2.2.2.2.1, v16.2.2.2.2.2.2.2.2.2.2.2.2.2.2.1, v16.2.2.2.2.2.2.2.2.2.2.2.2.2.2.2.1, v16.2.2.2.2.2.2.2.2.2.2.2.2.2.2.2.2.1, v16.2.2.2.2.2.2.2.2.2.2.2.2.2.2.2.2.2.1, v16.2.2.2.2.2.2.2.2.2.2.2.2.2.2.2.2.2.2.1, v16.2.2.2.2.2.2.2.2.2.2.2.2.2.2.2.2.2.2.2.1, v16.2.2.2.2.2.2.2.2.2.2.2.2.2.2.2.2.2.2.2.2.1, v16.2.2.2.2.2.2.2.2.2.2.2.2.2.2.2.2.2.2.2.2.2.1, q23.2.b_, q23.2.i_, q23.2.h_, v16.2.2.2.2.2.2.2.2.2.2.2.2.2.2.2.2.2.2.2.2.2.2.2.2.2.1, v16.2.2.2.2.2.2.2.2.2.2.2.2.2.2.2.2.2.2.2.2.2.2.2.2.2.2)))
def spec_l19Right (p0 : L01Cur) : Option (Source × (List ByteArray) × L01Cur) :=
bnd (spec_l01Below p0 2) fun q1 =>
bnd (spec_l01Below q1.2 2) fun q2 =>
bnd (spec_l01Below q2.2 3) fun q3 =>
bnd (spec_l05ParRight q3.2) fun q4 =>
bnd (spec_l18Right q4.2) fun q5 =>
bnd (spec_l01Below q5.2 5) fun q6 =>
bnd (spec_l01Below q6.2 3) fun q7 =>
bnd (spec_SourceNew (wrapK .i64 (1 + q1.1)) (wrapK .i64 (1 + q2.1)) (wrapK .i64 (3 + q3.1)) q4.1 q5.1 (wrapK .i64 (1 + q6.1)) q7.1) fun q8 =>
bnd (spec_SizeOf q8.1.Seq) fun q9 =>
bnd (spec_l12Sized q7.2 q9.1 q9.2) fun q10 =>
bnd (loop (spec_l19Right_l2) (0, q10.2.b_, q10.2.i_, q10.2.h_, q8.1.Seq.Level, q8.1.Seq.Bits, q8.1.Par.Qp, q8.1.Par.Large, q8.1.Par.Exact, q8.1.Par.Confined, q8.1.Rate.Qp, q8.1.Rate.Target, q8.1.Rate.Debt, q8.1.Frame, q8.1.Since, q8.1.Every, q8.1.Reach, q8.1.Has, q8.1.Ref.Wide, q8.1.Ref.High, q8.1.Ref.Dots, ([] : List ByteArray), q10.1.Wide, q10.1.High, q10.1.Dots, q8.1.Seq.Cols, q8.1.Seq.Rows)) fun v22 =>
some ((⟨(⟨v22.1, v22.2.1, v22.2.2.2.2.2.2.2.2.2.2.2.2.2.2.2.2.2.2.2.2.2.1, v22.2.2.2.2.2.2.2.2.2.2.2.2.2.2.2.2.2.2.2.2.2.2⟩ : Seq), (⟨v22.2.2.1, v22.2.2.2.1, v22.2.2.2.2.1, v22.2.2.2.2.2.1⟩ : Par), (⟨v22.2.2.2.2.2.2.1, v22.2.2.2.2.2.2.2.1, v22.2.2.2.2.2.2.2.2.1⟩ : Rate), v22.2.2.2.2.2.2.2.2.2.1, v22.2.2.2.2.2.2.2.2.2.2.1, v22.2.2.2.2.2.2.2.2.2.2.2.1, v22.2.2.2.2.2.2.2.2.2.2.2.2.1, v22.2.2.2.2.2.2.2.2.2.2.2.2.2.1, (⟨v22.2.2.2.2.2.2.2.2.2.2.2.2.2.2.1, v22.2.2.2.2.2.2.2.2.2.2.2.2.2.2.2.1, v22.2.2.2.2.2.2.2.2.2.2.2.2.2.2.2.2.1⟩ : Pic)⟩ : Source), v22.2.2.2.2.2.2.2.2.2.2.2.2.2.2.2.2.2.1, (⟨v22.2.2.2.2.2.2.2.2.2.2.2.2.2.2.2.2.2.2.1, v22.2.2.2.2.2.2.2.2.2.2.2.2.2.2.2.2.2.2.2.1, v22.2.2.2.2.2.2.2.2.2.2.2.2.2.2.2.2.2.2.2.2.1⟩ : L01Cur))
def spec_l22Seq (p0 : L01Cur) : Option (Int × L01Cur) :=
bnd (spec_l01Once p0 3) fun q1 =>
sel q1.1 (
bnd (spec_l01PickInt q1.2 ([0, 65535, 65530, 65520, 32767, 32768])) fun q2 =>
some (q2.1, q2.2)) (
bnd (spec_l01Below q1.2 65536) fun q3 =>
some (q3.1, q3.2))
def spec_l04Escaped_l2 (p0 : ByteArray) (v4 : (Int × (List Int))) : Option (Lp (Int × (List Int)) (List Int)) :=
sel (decide (v4.1 < (p0.size : Int))) (
bnd (
bnd (
sel (decide ((v4.2.length : Int) ≥ 2)) (
req (0 ≤ (wrapK .i64 ((v4.2.length : Int) - 1)) ∧ (wrapK .i64 ((v4.2.length : Int) - 1)) < v4.2.length) <|
req ((wrapK .i64 ((v4.2.length : Int) - 1)).toNat < v4.2.length) <|
sel ((v4.2.getD ((wrapK .i64 ((v4.2.length : Int) - 1)).toNat) 0) == 0) (
req (0 ≤ (wrapK .i64 ((v4.2.length : Int) - 2)) ∧ (wrapK .i64 ((v4.2.length : Int) - 2)) < v4.2.length) <|
req ((wrapK .i64 ((v4.2.length : Int) - 2)).toNat < v4.2.length) <|
sel ((v4.2.getD ((wrapK .i64 ((v4.2.length : Int) - 2)).toNat) 0) == 0) (
req (0 ≤ v4.1 ∧ v4.1 < p0.size) <|
some (decide ((btOf p0 v4.1) < 4))) (
some false)) (
some false)) (
some false)) fun v10 =>
sel v10 (
req ((v4.2.length + ([3]).length) * 1 ≤ 140737488355328 ∧ v4.2.length + ([3]).length ≤ maxLen) <|
some (v4.2 ++ ([3]))) (
some v4.2)) fun v9 =>
req (0 ≤ v4.1 ∧ v4.1 < p0.size) <|
req ((v9.length + ([(btOf p0 v4.1)]).length) * 1 ≤ 140737488355328 ∧ v9.length + ([(btOf p0 v4.1)]).length ≤ maxLen) <|
some (.go (wrapK .i64 (v4.1 + 1), (v9 ++ ([(btOf p0 v4.1)]))))) (
some (.done v4.2))
def spec_l04Escaped (p0 : ByteArray) : Option ByteArray :=
bnd (loop (spec_l04Escaped_l2 p0) (0, ([] : List Int))) fun v8 =>
some (strOfNums v8)
def spec_Escaped (p0 : ByteArray) : Option (ByteArray × Bool) :=
bnd (
sel ((p0.size : Int) == 0) (
some true) (
sel (decide ((p0.size : Int) > 60000)) (
some true) (
req (0 ≤ (wrapK .i64 ((p0.size : Int) - 1)) ∧ (wrapK .i64 ((p0.size : Int) - 1)) < p0.size) <|
some ((btOf p0 (wrapK .i64 ((p0.size : Int) - 1))) == 0)))) fun v1 =>
sel v1 (
some (⟨#[]⟩, false)) (
bnd (spec_l04Escaped p0) fun q2 =>
some (q2, true))
def spec_Framed_l2 (p0 : (List ByteArray)) (v3 : (Int × (List Int))) : Option (Lp (Int × (List Int)) (Ou (List Int) (ByteArray × Bool))) :=
sel (decide (v3.1 < (p0.length : Int))) (
req (0 ≤ v3.1 ∧ v3.1 < p0.length) <|
bnd (spec_Escaped (p0.getD v3.1.toNat dByteArray)) fun q7 =>
sel (!q7.2) (
some (.done (.ret (⟨#[]⟩, false)))) (
req ((v3.2.length + ([0, 0, 1]).length) * 1 ≤ 140737488355328 ∧ v3.2.length + ([0, 0, 1]).length ≤ maxLen) <|
req (((v3.2 ++ ([0, 0, 1])).length + (numsOf q7.1).length) * 1 ≤ 140737488355328 ∧ (v3.2 ++ ([0, 0, 1])).length + (numsOf q7.1).length ≤ maxLen) <|
sel (decide ((((v3.2 ++ ([0, 0, 1])) ++ (numsOf q7.1)).length : Int) > 60000)) (
some (.done (.ret (⟨#[]⟩, false)))) (
some (.go (wrapK .i64 (v3.1 + 1), ((v3.2 ++ ([0, 0, 1])) ++ (numsOf q7.1))))))) (
some (.done (.out v3.2)))
def spec_Framed (p0 : (List ByteArray)) : Option (ByteArray × Bool) :=
sel (decide ((p0.length : Int) > 400)) (
some (⟨#[]⟩, false)) (
bnd (loop (spec_Framed_l2 p0) (0, ([] : List Int))) fun o8 => match o8 with
| .out v6 => (
some ((strOfNums v6), true))
| .ret r => some r)
def spec_SeqPlus (p0 : Int) (p1 : Int) : Option Int :=
bnd (
bnd (spec_l01In p0 0 65535) fun q2 =>
sel q2 (
bnd (spec_l01In p1 0 65535) fun q3 =>
some (!q3)) (
some true)) fun v1 =>
sel v1 (
some 0) (
req ((65536 : Int) ≠ 0) <|
some ((wrapK .i64 (p0 + p1)).tmod 65536))
def spec_PacketsOf_l2 (p1 : Int) (p2 : Int) (q4 : (ByteArray × Bool)) (v9 : (Int × (List Packet))) : Option (Lp (Int × (List Packet)) (List Packet)) :=
sel (decide (v9.1 < (q4.1.size : Int))) (
bnd (spec_Brought (wrapK .i64 (v9.1 + p2)) 0 (q4.1.size : Int)) fun q14 =>
bnd (spec_SeqPlus p1 (v9.2.length : Int)) fun q15 =>
req (0 ≤ v9.1 ∧ v9.1 ≤ q14 ∧ q14 ≤ (q4.1.size : Int)) <|
req ((v9.2.length + ([(⟨q15, (v9.1 == 0), (q14 == (q4.1.size : Int)), (q4.1.extract v9.1.toNat q14.toNat)⟩ : Packet)]).length) * 32 ≤ 140737488355328 ∧ v9.2.length + ([(⟨q15, (v9.1 == 0), (q14 == (q4.1.size : Int)), (q4.1.extract v9.1.toNat q14.toNat)⟩ : Packet)]).length ≤ maxLen) <|
some (.go (wrapK .i64 (v9.1 + p2), (v9.2 ++ ([(⟨q15, (v9.1 == 0), (q14 == (q4.1.size : Int)), (q4.1.extract v9.1.toNat q14.toNat)⟩ : Packet)]))))) (
some (.done v9.2))
def spec_PacketsOf (p0 : (List ByteArray)) (p1 : Int) (p2 : Int) : Option ((List Packet) × Bool) :=
bnd (
bnd (spec_l01In p1 0 65535) fun q2 =>
sel q2 (
bnd (spec_l01In p2 1 400) fun q3 =>
some (!q3)) (
some true)) fun v1 =>
sel v1 (
some (([] : List Packet), false)) (
bnd (spec_Framed p0) fun q4 =>
bnd (
sel q4.2 (
sel ((q4.1.size : Int) == 0) (
some true) (
req (p2 ≠ 0) <|
some (decide ((wrapK .i64 ((wrapK .i64 ((wrapK .i64 ((q4.1.size : Int) + p2)) - 1)).tdiv p2)) > 60)))) (
some true)) fun v5 =>
sel v5 (
some (([] : List Packet), false)) (
bnd (loop (spec_PacketsOf_l2 p1 p2 q4) (0, ([] : List Packet))) fun v13 =>
some (v13, true)))
def spec_l22List (p0 : L01Cur) : Option ((List Packet) × L01Cur) :=
bnd (spec_l04Units p0) fun q1 =>
bnd (
bnd (spec_l01Once q1.2 2) fun q3 =>
sel q3.1 (
bnd (spec_l19Right q3.2) fun q4 =>
some (q4.2.2.b_, q4.2.2.i_, q4.2.2.h_, q4.2.1)) (
some (q3.2.b_, q3.2.i_, q3.2.h_, q1.1))) fun v2 =>
bnd (spec_l22Seq (⟨v2.1, v2.2.1, v2.2.2.1⟩ : L01Cur)) fun q5 =>
bnd (spec_l01PickInt q5.2 ([2, 9, 40, 100, 400])) fun q6 =>
bnd (spec_PacketsOf v2.2.2.2 q5.1 q6.1) fun q7 =>
some (q7.1, q6.2)
def spec_DrawPicture (p0 : (List Int)) : Option (List Packet) :=
bnd (spec_l01New p0) fun q1 =>
bnd (spec_l22List q1) fun q2 =>
bnd (
sel (decide ((q2.1.length : Int) < 2)) (
some true) (
some (decide ((q2.1.length : Int) > 24)))) fun v3 =>
sel v3 (
some ([] : List Packet)) (
some q2.1)
def spec_DrawPlaces_l2 (v5 : (Int × (List Int) × Int × Int × (List Int))) : Option (Lp (Int × (List Int) × Int × Int × (List Int)) (List Int)) :=
sel (decide (v5.1 < 12)) (
bnd (spec_l01Below (⟨v5.2.1, v5.2.2.1, v5.2.2.2.1⟩ : L01Cur) 10000) fun q9 =>
req ((v5.2.2.2.2.length + ([q9.1]).length) * 8 ≤ 140737488355328 ∧ v5.2.2.2.2.length + ([q9.1]).length ≤ maxLen) <|
some (.go (wrapK .i64 (v5.1 + 1), q9.2.b_, q9.2.i_, q9.2.h_, (v5.2.2.2.2 ++ ([q9.1]))))) (
some (.done v5.2.2.2.2))
def spec_DrawPlaces (p0 : (List Int)) : Option (List Int) :=
bnd (spec_l01New p0) fun q1 =>
bnd (spec_l01Byte q1) fun q2 =>
bnd (loop (spec_DrawPlaces_l2) (0, q2.2.b_, q2.2.i_, q2.2.h_, ([] : List Int))) fun v8 =>
some v8
def impl_copyQueue (p0 : Queue) : Option Queue :=
req ((([] : List Packet).length + p0.Held.length) * 32 ≤ 140737488355328 ∧ ([] : List Packet).length + p0.Held.length ≤ maxLen) <|
some (⟨p0.Begun, p0.Next, p0.Age, (([] : List Packet) ++ p0.Held), p0.Late, p0.Far, p0.Twice, p0.Over, p0.Lost⟩ : Queue)
def impl_within (p0 : Int) (p1 : Int) (p2 : Int) : Option Bool :=
bnd (
sel (decide (p0 ≥ p1)) (
some (decide (p0 ≤ p2))) (
some false)) fun v1 =>
some v1
def impl_isNumber (p0 : Int) : Option Bool :=
bnd (impl_within p0 0 65535) fun q1 =>
some q1
def impl_SeqGap (p0 : Int) (p1 : Int) : Option Int :=
bnd (
bnd (impl_isNumber p0) fun q2 =>
sel q2 (
bnd (impl_isNumber p1) fun q3 =>
some (!q3)) (
some true)) fun v1 =>
sel v1 (
some 0) (
req ((65536 : Int) ≠ 0) <|
bnd (
sel (decide (((wrapK .i64 ((wrapK .i64 (p1 - p0)) + 65536)).tmod 65536) ≥ 32768)) (
some (wrapK .i64 (((wrapK .i64 ((wrapK .i64 (p1 - p0)) + 65536)).tmod 65536) - 65536))) (
some ((wrapK .i64 ((wrapK .i64 (p1 - p0)) + 65536)).tmod 65536))) fun v4 =>
some v4)
def impl_PacketOk (p0 : Packet) : Option Bool :=
bnd (
bnd (impl_isNumber p0.Seq) fun q2 =>
sel q2 (
bnd (impl_within (p0.Bytes.size : Int) 1 400) fun q3 =>
some q3) (
some false)) fun v1 =>
some v1
def impl_QueueOk_l2 (p0 : Queue) (v10 : (Int × Int)) : Option (Lp (Int × Int) (Ou Unit Bool)) :=
sel (decide (v10.2 < (p0.Held.length : Int))) (
req (0 ≤ v10.2 ∧ v10.2 < p0.Held.length) <|
bnd (impl_SeqGap p0.Next ((p0.Held.getD v10.2.toNat dPacket).Seq)) fun q17 =>
bnd (
bnd (impl_PacketOk (⟨(p0.Held.getD v10.2.toNat dPacket).Seq, (p0.Held.getD v10.2.toNat dPacket).First, (p0.Held.getD v10.2.toNat dPacket).Last, (p0.Held.getD v10.2.toNat dPacket).Bytes⟩ : Packet)) fun q19 =>
sel q19 (
bnd (impl_within q17 (wrapK .i64 (v10.1 + 1)) 39) fun q20 =>
some (!q20)) (
some true)) fun v18 =>
sel v18 (
some (.done (.ret false))) (
some (.go (q17, wrapK .i64 (v10.2 + 1))))) (
some (.done (.out ())))
def impl_QueueOk_l4 (p0 : Queue) (v24 : Int) : Option (Lp Int (Ou Unit Bool)) :=
sel (decide (v24 < (([p0.Late, p0.Far, p0.Twice, p0.Over, p0.Lost]).length : Int))) (
req (0 ≤ v24 ∧ v24 < ([p0.Late, p0.Far, p0.Twice, p0.Over, p0.Lost]).length) <|
req (v24.toNat < ([p0.Late, p0.Far, p0.Twice, p0.Over, p0.Lost]).length) <|
bnd (impl_within (([p0.Late, p0.Far, p0.Twice, p0.Over, p0.Lost]).getD v24.toNat 0) 0 1000000000) fun q28 =>
sel (!q28) (
some (.done (.ret false))) (
some (.go (wrapK .i64 (v24 + 1))))) (
some (.done (.out ())))
def impl_QueueOk (p0 : Queue) : Option Bool :=
sel (!p0.Begun) (
bnd (
sel (p0.Next == 0) (
sel (p0.Age == 0) (
sel ((p0.Held.length : Int) == 0) (
sel (p0.Late == 0) (
sel (p0.Far == 0) (
sel (p0.Twice == 0) (
sel (p0.Over == 0) (
some (p0.Lost == 0)) (
some false)) (
some false)) (
some false)) (
some false)) (
some false)) (
some false)) (
some false)) fun v1 =>
some v1) (
bnd (
bnd (impl_isNumber p0.Next) fun q3 =>
sel q3 (
bnd (impl_within p0.Age 0 20) fun q4 =>
sel q4 (
some (decide ((p0.Held.length : Int) > 24))) (
some true)) (
some true)) fun v2 =>
sel v2 (
some false) (
bnd (loop (impl_QueueOk_l2 p0) ((-1), 0)) fun o21 => match o21 with
| .out v16 => (
bnd (loop (impl_QueueOk_l4 p0) 0) fun o29 => match o29 with
| .out v27 => (
some true)
| .ret r => some r)
| .ret r => some r))
def impl_counted (p0 : Int) : Option Int :=
some (if (1000000000 : Int) < (wrapK .i64 (p0 + 1)) then (1000000000 : Int) else (wrapK .i64 (p0 + 1)))
def impl_QueueHas_l2 (p0 : Queue) (p1 : Int) (v3 : Int) : Option (Lp Int (Ou Unit Bool)) :=
sel (decide (v3 < (p0.Held.length : Int))) (
req (0 ≤ v3 ∧ v3 < p0.Held.length) <|
sel (((p0.Held.getD v3.toNat dPacket).Seq) == p1) (
some (.done (.ret true))) (
some (.go (wrapK .i64 (v3 + 1))))) (
some (.done (.out ())))
def impl_QueueHas (p0 : Queue) (p1 : Int) : Option Bool :=
bnd (impl_QueueOk p0) fun q1 =>
sel (!q1) (
some false) (
bnd (loop (impl_QueueHas_l2 p0 p1) 0) fun o6 => match o6 with
| .out v5 => (
some false)
| .ret r => some r)
def impl_SeqPlus (p0 : Int) (p1 : Int) : Option Int :=
bnd (
bnd (impl_isNumber p0) fun q2 =>
sel q2 (
bnd (impl_isNumber p1) fun q3 =>
some (!q3)) (
some true)) fun v1 =>
sel v1 (
some 0) (
req ((65536 : Int) ≠ 0) <|
some ((wrapK .i64 (p0 + p1)).tmod 65536))
def impl_Queue_hold_d_l2 (p0 : Queue) (p1 : Packet) (v5 : Int) : Option (Lp Int Int) :=
bnd (
sel (decide (v5 < (p0.Held.length : Int))) (
req (0 ≤ v5 ∧ v5 < p0.Held.length) <|
req (v5.toNat < p0.Held.length) <|
bnd (impl_SeqGap p0.Next ((p0.Held.getD v5.toNat dPacket).Seq)) fun q12 =>
bnd (impl_SeqGap p0.Next p1.Seq) fun q13 =>
some (decide (q12 < q13))) (
some false)) fun v11 =>
sel v11 (
some (.go (wrapK .i64 (v5 + 1)))) (
some (.done v5))
def impl_Queue_hold_d (p0 : Queue) (p1 : Packet) : Option Queue :=
bnd (loop (impl_Queue_hold_d_l2 p0 p1) 0) fun v10 =>
req (0 ≤ (0 : Int) ∧ (0 : Int) ≤ v10 ∧ v10 ≤ (p0.Held.length : Int)) <|
req (((0 : Int).toNat + (v10.toNat - (0 : Int).toNat) ≤ p0.Held.length) ∧ (([] : List Packet).length + ((p0.Held.drop ((0 : Int).toNat)).take (v10.toNat - (0 : Int).toNat)).length) * 32 ≤ 140737488355328 ∧ ([] : List Packet).length + ((p0.Held.drop ((0 : Int).toNat)).take (v10.toNat - (0 : Int).toNat)).length ≤ maxLen) <|
req (((([] : List Packet) ++ ((p0.Held.drop ((0 : Int).toNat)).take (v10.toNat - (0 : Int).toNat))).length + ([p1]).length) * 32 ≤ 140737488355328 ∧ (([] : List Packet) ++ ((p0.Held.drop ((0 : Int).toNat)).take (v10.toNat - (0 : Int).toNat))).length + ([p1]).length ≤ maxLen) <|
req (0 ≤ v10 ∧ v10 ≤ (p0.Held.length : Int) ∧ (p0.Held.length : Int) ≤ (p0.Held.length : Int)) <|
req ((v10.toNat + ((p0.Held.length : Int).toNat - v10.toNat) ≤ p0.Held.length) ∧ (((([] : List Packet) ++ ((p0.Held.drop ((0 : Int).toNat)).take (v10.toNat - (0 : Int).toNat))) ++ ([p1])).length + ((p0.Held.drop v10.toNat).take ((p0.Held.length : Int).toNat - v10.toNat)).length) * 32 ≤ 140737488355328 ∧ ((([] : List Packet) ++ ((p0.Held.drop ((0 : Int).toNat)).take (v10.toNat - (0 : Int).toNat))) ++ ([p1])).length + ((p0.Held.drop v10.toNat).take ((p0.Held.length : Int).toNat - v10.toNat)).length ≤ maxLen) <|
some (⟨p0.Begun, p0.Next, p0.Age, (((([] : List Packet) ++ ((p0.Held.drop ((0 : Int).toNat)).take (v10.toNat - (0 : Int).toNat))) ++ ([p1])) ++ ((p0.Held.drop v10.toNat).take ((p0.Held.length : Int).toNat - v10.toNat))), p0.Late, p0.Far, p0.Twice, p0.Over, p0.Lost⟩ : Queue)
def impl_QueueIn_l4 (p0 : Queue) (v13 : Int) : Option (Lp Int Int) :=
bnd (
sel (decide (v13 < (wrapK .i64 ((p0.Held.length : Int) - 1)))) (
req (0 ≤ v13 ∧ v13 < p0.Held.length) <|
some (!((p0.Held.getD v13.toNat dPacket).Last))) (
some false)) fun v17 =>
sel v17 (
some (.go (wrapK .i64 (v13 + 1)))) (
some (.done v13))
def impl_QueueIn (p0 : Queue) (p1 : Packet) : Option (Queue × Int) :=
bnd (impl_copyQueue p0) fun q1 =>
bnd (impl_QueueOk p0) fun q2 =>
sel (!q2) (
some (q1, 1)) (
bnd (impl_PacketOk p1) fun q3 =>
sel (!q3) (
some (q1, 2)) (
sel (!p0.Begun) (
some ((⟨true, p1.Seq, q1.Age, [p1], q1.Late, q1.Far, q1.Twice, q1.Over, q1.Lost⟩ : Queue), 0)) (
bnd (impl_SeqGap p0.Next p1.Seq) fun q4 =>
bnd (
sel (decide (q4 ≥ 40)) (
some true) (
some (decide (q4 < (-40))))) fun v5 =>
sel v5 (
bnd (impl_counted p0.Far) fun q6 =>
some ((⟨q1.Begun, p1.Seq, 0, [p1], q1.Late, q6, q1.Twice, q1.Over, q1.Lost⟩ : Queue), 4)) (
sel (decide (q4 < 0)) (
bnd (impl_counted p0.Late) fun q7 =>
some ((⟨q1.Begun, q1.Next, q1.Age, q1.Held, q7, q1.Far, q1.Twice, q1.Over, q1.Lost⟩ : Queue), 3)) (
bnd (impl_QueueHas p0 p1.Seq) fun q8 =>
sel q8 (
bnd (impl_counted p0.Twice) fun q9 =>
some ((⟨q1.Begun, q1.Next, q1.Age, q1.Held, q1.Late, q1.Far, q9, q1.Over, q1.Lost⟩ : Queue), 5)) (
sel ((p0.Held.length : Int) == 24) (
bnd (impl_counted p0.Over) fun q10 =>
bnd (loop (impl_QueueIn_l4 p0) 0) fun v16 =>
req (0 ≤ v16 ∧ v16 < p0.Held.length) <|
bnd (impl_SeqPlus ((p0.Held.getD v16.toNat dPacket).Seq) 1) fun q19 =>
req (0 ≤ (wrapK .i64 (v16 + 1)) ∧ (wrapK .i64 (v16 + 1)) ≤ (q1.Held.length : Int) ∧ (q1.Held.length : Int) ≤ (q1.Held.length : Int)) <|
bnd (
bnd (impl_SeqGap q19 p1.Seq) fun q21 =>
bnd (impl_within q21 0 39) fun q22 =>
sel q22 (
bnd (impl_Queue_hold_d (⟨q1.Begun, q19, 0, ((q1.Held.drop ((wrapK .i64 (v16 + 1)).toNat)).take ((q1.Held.length : Int).toNat - (wrapK .i64 (v16 + 1)).toNat)), q1.Late, q1.Far, q1.Twice, q10, q1.Lost⟩ : Queue) p1) fun q23 =>
some (q23.Begun, q23.Next, q23.Age, q23.Late, q23.Far, q23.Twice, q23.Over, q23.Lost, q23.Held)) (
some (q1.Begun, q19, 0, q1.Late, q1.Far, q1.Twice, q10, q1.Lost, ((q1.Held.drop ((wrapK .i64 (v16 + 1)).toNat)).take ((q1.Held.length : Int).toNat - (wrapK .i64 (v16 + 1)).toNat))))) fun v20 =>
some ((⟨v20.1, v20.2.1, v20.2.2.1, v20.2.2.2.2.2.2.2.2, v20.2.2.2.1, v20.2.2.2.2.1, v20.2.2.2.2.2.1, v20.2.2.2.2.2.2.1, v20.2.2.2.2.2.2.2.1⟩ : Queue), 6)) (
bnd (impl_Queue_hold_d q1 p1) fun q24 =>
some (q24, 0))))))))
def impl_QueueTick_l2 (p0 : Queue) (q1 : Queue) (v8 : Int) : Option (Lp Int (Ou Unit (Queue × (List Packet) × Int))) :=
sel (decide (v8 < (q1.Held.length : Int))) (
req (0 ≤ v8 ∧ v8 < q1.Held.length) <|
req (v8.toNat < q1.Held.length) <|
bnd (impl_SeqPlus p0.Next v8) fun q13 =>
sel (((q1.Held.getD v8.toNat dPacket).Seq) != q13) (
some (.done (.out ()))) (
sel ((q1.Held.getD v8.toNat dPacket).Last) (
req (0 ≤ (0 : Int) ∧ (0 : Int) ≤ (wrapK .i64 (v8 + 1)) ∧ (wrapK .i64 (v8 + 1)) ≤ (q1.Held.length : Int)) <|
req (((0 : Int).toNat + ((wrapK .i64 (v8 + 1)).toNat - (0 : Int).toNat) ≤ q1.Held.length) ∧ (([] : List Packet).length + ((q1.Held.drop ((0 : Int).toNat)).take ((wrapK .i64 (v8 + 1)).toNat - (0 : Int).toNat)).length) * 32 ≤ 140737488355328 ∧ ([] : List Packet).length + ((q1.Held.drop ((0 : Int).toNat)).take ((wrapK .i64 (v8 + 1)).toNat - (0 : Int).toNat)).length ≤ maxLen) <|
req (0 ≤ (wrapK .i64 (v8 + 1)) ∧ (wrapK .i64 (v8 + 1)) ≤ (q1.Held.length : Int) ∧ (q1.Held.length : Int) ≤ (q1.Held.length : Int)) <|
req (((wrapK .i64 (v8 + 1)).toNat + ((q1.Held.length : Int).toNat - (wrapK .i64 (v8 + 1)).toNat) ≤ q1.Held.length) ∧ (([] : List Packet).length + ((q1.Held.drop ((wrapK .i64 (v8 + 1)).toNat)).take ((q1.Held.length : Int).toNat - (wrapK .i64 (v8 + 1)).toNat)).length) * 32 ≤ 140737488355328 ∧ ([] : List Packet).length + ((q1.Held.drop ((wrapK .i64 (v8 + 1)).toNat)).take ((q1.Held.length : Int).toNat - (wrapK .i64 (v8 + 1)).toNat)).length ≤ maxLen) <|
bnd (impl_SeqPlus ((q1.Held.getD v8.toNat dPacket).Seq) 1) fun q14 =>
some (.done (.ret ((⟨q1.Begun, q14, 0, (([] : List Packet) ++ ((q1.Held.drop ((wrapK .i64 (v8 + 1)).toNat)).take ((q1.Held.length : Int).toNat - (wrapK .i64 (v8 + 1)).toNat))), q1.Late, q1.Far, q1.Twice, q1.Over, q1.Lost⟩ : Queue), (([] : List Packet) ++ ((q1.Held.drop ((0 : Int).toNat)).take ((wrapK .i64 (v8 + 1)).toNat - (0 : Int).toNat))), 1)))) (
some (.go (wrapK .i64 (v8 + 1)))))) (
some (.done (.out ())))
def impl_QueueTick_l4 (p0 : Queue) (q17 : Int) (v20 : Int) : Option (Lp Int (Int × (List Packet))) :=
sel (decide (v20 < (p0.Held.length : Int))) (
req (0 ≤ v20 ∧ v20 < p0.Held.length) <|
bnd (
sel ((p0.Held.getD v20.toNat dPacket).First) (
some (((p0.Held.getD v20.toNat dPacket).Seq) != p0.Next)) (
some false)) fun v24 =>
sel v24 (
req (0 ≤ v20 ∧ v20 ≤ (p0.Held.length : Int) ∧ (p0.Held.length : Int) ≤ (p0.Held.length : Int)) <|
req ((([] : List Packet).length + ((p0.Held.drop v20.toNat).take ((p0.Held.length : Int).toNat - v20.toNat)).length) * 32 ≤ 140737488355328 ∧ ([] : List Packet).length + ((p0.Held.drop v20.toNat).take ((p0.Held.length : Int).toNat - v20.toNat)).length ≤ maxLen) <|
some (.done ((p0.Held.getD v20.toNat dPacket).Seq, (([] : List Packet) ++ ((p0.Held.drop v20.toNat).take ((p0.Held.length : Int).toNat - v20.toNat)))))) (
some (.go (wrapK .i64 (v20 + 1))))) (
some (.done (q17, ([] : List Packet))))
def impl_QueueTick (p0 : Queue) (p1 : Int) : Option (Queue × (List Packet) × Int) :=
bnd (impl_copyQueue p0) fun q1 =>
bnd (
bnd (impl_QueueOk p0) fun q3 =>
sel q3 (
bnd (impl_within p1 0 20) fun q4 =>
some (!q4)) (
some true)) fun v2 =>
sel v2 (
some (q1, ([] : List Packet), 0)) (
bnd (loop (impl_QueueTick_l2 p0 q1) 0) fun o15 => match o15 with
| .out v12 => (
sel ((p0.Held.length : Int) == 0) (
some ((⟨q1.Begun, q1.Next, 0, q1.Held, q1.Late, q1.Far, q1.Twice, q1.Over, q1.Lost⟩ : Queue), ([] : List Packet), 0)) (
sel (decide (p0.Age < p1)) (
some ((⟨q1.Begun, q1.Next, wrapK .i64 (q1.Age + 1), q1.Held, q1.Late, q1.Far, q1.Twice, q1.Over, q1.Lost⟩ : Queue), ([] : List Packet), 0)) (
bnd (impl_counted p0.Lost) fun q16 =>
req (0 ≤ (wrapK .i64 ((p0.Held.length : Int) - 1)) ∧ (wrapK .i64 ((p0.Held.length : Int) - 1)) < p0.Held.length) <|
bnd (impl_SeqPlus ((p0.Held.getD (wrapK .i64 ((p0.Held.length : Int) - 1)).toNat dPacket).Seq) 1) fun q17 =>
bnd (loop (impl_QueueTick_l4 p0 q17) 0) fun v23 =>
some ((⟨q1.Begun, v23.1, 0, v23.2, q1.Late, q1.Far, q1.Twice, q1.Over, q16⟩ : Queue), ([] : List Packet), 2))))
| .ret r => some r)
def laws_samePackets_l2 (p0 : (List Packet)) (p1 : (List Packet)) (v2 : Int) : Option (Lp Int (Ou Unit Bool)) :=
sel (decide (v2 < (p0.length : Int))) (
req (0 ≤ v2 ∧ v2 < p0.length) <|
req (0 ≤ v2 ∧ v2 < p1.length) <|
sel (((((p0.getD v2.toNat dPacket).Seq) == ((p1.getD v2.toNat dPacket).Seq)) && ((((p0.getD v2.toNat dPacket).First) == ((p1.getD v2.toNat dPacket).First)) && ((((p0.getD v2.toNat dPacket).Last) == ((p1.getD v2.toNat dPacket).Last)) && (((p0.getD v2.toNat dPacket).Bytes).toList == ((p1.getD v2.toNat dPacket).Bytes).toList)))) == false) (
some (.done (.ret false))) (
some (.go (wrapK .i64 (v2 + 1))))) (
some (.done (.out ())))
def laws_samePackets (p0 : (List Packet)) (p1 : (List Packet)) : Option Bool :=
sel ((p0.length : Int) != (p1.length : Int)) (
some false) (
bnd (loop (laws_samePackets_l2 p0 p1) 0) fun o5 => match o5 with
| .out v4 => (
some true)
| .ret r => some r)
def laws_FnInOrder_l2 (q3 : (List Int)) (v9 : (Int × Bool × Int × Int × Int × Int × Int × Int × Int × (List Packet) × (List Packet))) : Option (Lp (Int × Bool × Int × Int × Int × Int × Int × Int × Int × (List Packet) × (List Packet)) (Ou (Bool × Int × Int × Int × Int × Int × Int × Int × (List Packet)) Bool)) :=
sel (decide ((v9.2.2.2.2.2.2.2.2.2.1.length : Int) > 0)) (
req ((12 : Int) ≠ 0) <|
req (0 ≤ (v9.1.tmod 12) ∧ (v9.1.tmod 12) < q3.length) <|
req ((v9.1.tmod 12).toNat < q3.length) <|
req ((v9.2.2.2.2.2.2.2.2.2.1.length : Int) ≠ 0) <|
req (0 ≤ ((q3.getD ((v9.1.tmod 12).toNat) 0).tmod (v9.2.2.2.2.2.2.2.2.2.1.length : Int)) ∧ ((q3.getD ((v9.1.tmod 12).toNat) 0).tmod (v9.2.2.2.2.2.2.2.2.2.1.length : Int)) < v9.2.2.2.2.2.2.2.2.2.1.length) <|
req (((q3.getD ((v9.1.tmod 12).toNat) 0).tmod (v9.2.2.2.2.2.2.2.2.2.1.length : Int)).toNat < v9.2.2.2.2.2.2.2.2.2.1.length) <|
bnd (impl_QueueIn (⟨v9.2.1, v9.2.2.1, v9.2.2.2.1, v9.2.2.2.2.2.2.2.2.2.2, v9.2.2.2.2.1, v9.2.2.2.2.2.1, v9.2.2.2.2.2.2.1, v9.2.2.2.2.2.2.2.1, v9.2.2.2.2.2.2.2.2.1⟩ : Queue) (⟨(v9.2.2.2.2.2.2.2.2.2.1.getD (((q3.getD ((v9.1.tmod 12).toNat) 0).tmod (v9.2.2.2.2.2.2.2.2.2.1.length : Int)).toNat) dPacket).Seq, (v9.2.2.2.2.2.2.2.2.2.1.getD (((q3.getD ((v9.1.tmod 12).toNat) 0).tmod (v9.2.2.2.2.2.2.2.2.2.1.length : Int)).toNat) dPacket).First, (v9.2.2.2.2.2.2.2.2.2.1.getD (((q3.getD ((v9.1.tmod 12).toNat) 0).tmod (v9.2.2.2.2.2.2.2.2.2.1.length : Int)).toNat) dPacket).Last, (v9.2.2.2.2.2.2.2.2.2.1.getD (((q3.getD ((v9.1.tmod 12).toNat) 0).tmod (v9.2.2.2.2.2.2.2.2.2.1.length : Int)).toNat) dPacket).Bytes⟩ : Packet)) fun q15 =>
bnd (
sel (q15.2 != 0) (
some true) (
req (0 ≤ ((q3.getD ((v9.1.tmod 12).toNat) 0).tmod (v9.2.2.2.2.2.2.2.2.2.1.length : Int)) ∧ ((q3.getD ((v9.1.tmod 12).toNat) 0).tmod (v9.2.2.2.2.2.2.2.2.2.1.length : Int)) < v9.2.2.2.2.2.2.2.2.2.1.length) <|
req (((q3.getD ((v9.1.tmod 12).toNat) 0).tmod (v9.2.2.2.2.2.2.2.2.2.1.length : Int)).toNat < v9.2.2.2.2.2.2.2.2.2.1.length) <|
bnd (impl_QueueHas q15.1 ((v9.2.2.2.2.2.2.2.2.2.1.getD (((q3.getD ((v9.1.tmod 12).toNat) 0).tmod (v9.2.2.2.2.2.2.2.2.2.1.length : Int)).toNat) dPacket).Seq)) fun q17 =>
some (!q17))) fun v16 =>
sel v16 (
some (.done (.ret false))) (
req (0 ≤ (0 : Int) ∧ (0 : Int) ≤ ((q3.getD ((v9.1.tmod 12).toNat) 0).tmod (v9.2.2.2.2.2.2.2.2.2.1.length : Int)) ∧ ((q3.getD ((v9.1.tmod 12).toNat) 0).tmod (v9.2.2.2.2.2.2.2.2.2.1.length : Int)) ≤ (v9.2.2.2.2.2.2.2.2.2.1.length : Int)) <|
req (((0 : Int).toNat + (((q3.getD ((v9.1.tmod 12).toNat) 0).tmod (v9.2.2.2.2.2.2.2.2.2.1.length : Int)).toNat - (0 : Int).toNat) ≤ v9.2.2.2.2.2.2.2.2.2.1.length) ∧ (([] : List Packet).length + ((v9.2.2.2.2.2.2.2.2.2.1.drop ((0 : Int).toNat)).take (((q3.getD ((v9.1.tmod 12).toNat) 0).tmod (v9.2.2.2.2.2.2.2.2.2.1.length : Int)).toNat - (0 : Int).toNat)).length) * 32 ≤ 140737488355328 ∧ ([] : List Packet).length + ((v9.2.2.2.2.2.2.2.2.2.1.drop ((0 : Int).toNat)).take (((q3.getD ((v9.1.tmod 12).toNat) 0).tmod (v9.2.2.2.2.2.2.2.2.2.1.length : Int)).toNat - (0 : Int).toNat)).length ≤ maxLen) <|
req (0 ≤ (wrapK .i64 (((q3.getD ((v9.1.tmod 12).toNat) 0).tmod (v9.2.2.2.2.2.2.2.2.2.1.length : Int)) + 1)) ∧ (wrapK .i64 (((q3.getD ((v9.1.tmod 12).toNat) 0).tmod (v9.2.2.2.2.2.2.2.2.2.1.length : Int)) + 1)) ≤ (v9.2.2.2.2.2.2.2.2.2.1.length : Int) ∧ (v9.2.2.2.2.2.2.2.2.2.1.length : Int) ≤ (v9.2.2.2.2.2.2.2.2.2.1.length : Int)) <|
req (((wrapK .i64 (((q3.getD ((v9.1.tmod 12).toNat) 0).tmod (v9.2.2.2.2.2.2.2.2.2.1.length : Int)) + 1)).toNat + ((v9.2.2.2.2.2.2.2.2.2.1.length : Int).toNat - (wrapK .i64 (((q3.getD ((v9.1.tmod 12).toNat) 0).tmod (v9.2.2.2.2.2.2.2.2.2.1.length : Int)) + 1)).toNat) ≤ v9.2.2.2.2.2.2.2.2.2.1.length) ∧ ((([] : List Packet) ++ ((v9.2.2.2.2.2.2.2.2.2.1.drop ((0 : Int).toNat)).take (((q3.getD ((v9.1.tmod 12).toNat) 0).tmod (v9.2.2.2.2.2.2.2.2.2.1.length : Int)).toNat - (0 : Int).toNat))).length + ((v9.2.2.2.2.2.2.2.2.2.1.drop ((wrapK .i64 (((q3.getD ((v9.1.tmod 12).toNat) 0).tmod (v9.2.2.2.2.2.2.2.2.2.1.length : Int)) + 1)).toNat)).take ((v9.2.2.2.2.2.2.2.2.2.1.length : Int).toNat - (wrapK .i64 (((q3.getD ((v9.1.tmod 12).toNat) 0).tmod (v9.2.2.2.2.2.2.2.2.2.1.length : Int)) + 1)).toNat)).length) * 32 ≤ 140737488355328 ∧ (([] : List Packet) ++ ((v9.2.2.2.2.2.2.2.2.2.1.drop ((0 : Int).toNat)).take (((q3.getD ((v9.1.tmod 12).toNat) 0).tmod (v9.2.2.2.2.2.2.2.2.2.1.length : Int)).toNat - (0 : Int).toNat))).length + ((v9.2.2.2.2.2.2.2.2.2.1.drop ((wrapK .i64 (((q3.getD ((v9.1.tmod 12).toNat) 0).tmod (v9.2.2.2.2.2.2.2.2.2.1.length : Int)) + 1)).toNat)).take ((v9.2.2.2.2.2.2.2.2.2.1.length : Int).toNat - (wrapK .i64 (((q3.getD ((v9.1.tmod 12).toNat) 0).tmod (v9.2.2.2.2.2.2.2.2.2.1.length : Int)) + 1)).toNat)).length ≤ maxLen) <|
some (.go (wrapK .i64 (v9.1 + 1), q15.1.Begun, q15.1.Next, q15.1.Age, q15.1.Late, q15.1.Far, q15.1.Twice, q15.1.Over, q15.1.Lost, ((([] : List Packet) ++ ((v9.2.2.2.2.2.2.2.2.2.1.drop ((0 : Int).toNat)).take (((q3.getD ((v9.1.tmod 12).toNat) 0).tmod (v9.2.2.2.2.2.2.2.2.2.1.length : Int)).toNat - (0 : Int).toNat))) ++ ((v9.2.2.2.2.2.2.2.2.2.1.drop ((wrapK .i64 (((q3.getD ((v9.1.tmod 12).toNat) 0).tmod (v9.2.2.2.2.2.2.2.2.2.1.length : Int)) + 1)).toNat)).take ((v9.2.2.2.2.2.2.2.2.2.1.length : Int).toNat - (wrapK .i64 (((q3.getD ((v9.1.tmod 12).toNat) 0).tmod (v9.2.2.2.2.2.2.2.2.2.1.length : Int)) + 1)).toNat))), q15.1.Held)))) (
some (.done (.out (v9.2.1, v9.2.2.1, v9.2.2.2.1, v9.2.2.2.2.1, v9.2.2.2.2.2.1, v9.2.2.2.2.2.2.1, v9.2.2.2.2.2.2.2.1, v9.2.2.2.2.2.2.2.2.1, v9.2.2.2.2.2.2.2.2.2.2))))
def laws_FnInOrder (p0 : (List Int)) : Option Bool :=
bnd (laws_big p0) fun q1 =>
sel q1 (
some true) (
bnd (spec_DrawPicture p0) fun q2 =>
bnd (spec_DrawPlaces p0) fun q3 =>
sel ((q2.length : Int) == 0) (
some true) (
req (0 ≤ (0 : Int) ∧ (0 : Int) < q2.length) <|
req ((0 : Int).toNat < q2.length) <|
bnd (impl_QueueIn (⟨false, 0, 0, [], 0, 0, 0, 0, 0⟩ : Queue) (⟨(q2.getD ((0 : Int).toNat) dPacket).Seq, (q2.getD ((0 : Int).toNat) dPacket).First, (q2.getD ((0 : Int).toNat) dPacket).Last, (q2.getD ((0 : Int).toNat) dPacket).Bytes⟩ : Packet)) fun q4 =>
sel (q4.2 != 0) (
some false) (
req (0 ≤ (1 : Int) ∧ (1 : Int) ≤ (q2.length : Int) ∧ (q2.length : Int) ≤ (q2.length : Int)) <|
req (((1 : Int).toNat + ((q2.length : Int).toNat - (1 : Int).toNat) ≤ q2.length) ∧ (([] : List Packet).length + ((q2.drop ((1 : Int).toNat)).take ((q2.length : Int).toNat - (1 : Int).toNat)).length) * 32 ≤ 140737488355328 ∧ ([] : List Packet).length + ((q2.drop ((1 : Int).toNat)).take ((q2.length : Int).toNat - (1 : Int).toNat)).length ≤ maxLen) <|
bnd (loop (laws_FnInOrder_l2 q3) (0, q4.1.Begun, q4.1.Next, q4.1.Age, q4.1.Late, q4.1.Far, q4.1.Twice, q4.1.Over, q4.1.Lost, (([] : List Packet) ++ ((q2.drop ((1 : Int).toNat)).take ((q2.length : Int).toNat - (1 : Int).toNat))), q4.1.Held)) fun o18 => match o18 with
| .out v14 => (
bnd (impl_QueueTick (⟨v14.1, v14.2.1, v14.2.2.1, v14.2.2.2.2.2.2.2.2, v14.2.2.2.1, v14.2.2.2.2.1, v14.2.2.2.2.2.1, v14.2.2.2.2.2.2.1, v14.2.2.2.2.2.2.2.1⟩ : Queue) 0) fun q19 =>
bnd (
sel (q19.2.2 == 1) (
bnd (laws_samePackets q19.2.1 q2) fun q21 =>
sel q21 (
sel ((q19.1.Held.length : Int) == 0) (
req (0 ≤ (wrapK .i64 ((q2.length : Int) - 1)) ∧ (wrapK .i64 ((q2.length : Int) - 1)) < q2.length) <|
req ((wrapK .i64 ((q2.length : Int) - 1)).toNat < q2.length) <|
bnd (impl_SeqPlus ((q2.getD ((wrapK .i64 ((q2.length : Int) - 1)).toNat) dPacket).Seq) 1) fun q22 =>
sel (q19.1.Next == q22) (
bnd (impl_QueueOk q19.1) fun q23 =>
some q23) (
some false)) (
some false)) (
some false)) (
some false)) fun v20 =>
some v20)
| .ret r => some r)))
end
end Go.Proofs.YtgmcephkajhfjaaGreat.A
