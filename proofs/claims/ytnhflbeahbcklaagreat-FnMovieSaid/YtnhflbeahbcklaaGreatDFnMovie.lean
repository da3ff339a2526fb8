/- What the functions that the law FnMovie reaches compute, over numbers, texts and lists. Written by a program of this session. Conditions: none. -/
import Derived.Test.YtnhflbeahbcklaaGreatAL2
namespace Go.Proofs.YtnhflbeahbcklaaGreat.A
open Go Go.Proofs Go.Proofs.YtnhflbeahbcklaaGreatAL Go.RowKit
set_option linter.unusedVariables false
set_option linter.unusedSimpArgs false
structure Seq where
 Level : Int
 Bits : Int
 Cols : (List Int)
 Rows : (List Int)
structure Par where
 Qp : Int
 Large : Bool
 Exact : Bool
 Confined : Bool
structure Pic where
 Wide : Int
 High : Int
 Dots : ByteArray
structure Xa3 where
 HasSeq : Bool
 HasPar : Bool
 HasRef : Bool
 Seq : Seq
 Par : Par
 Frame : Int
 Got : Int
 Now : Pic
 Ref : Pic
structure Ynb where
 Tile : Int
 Frame : Int
 Qp : Int
structure Rate where
 Qp : Int
 Target : Int
 Debt : Int
structure Xbb where
 Seq : Seq
 Par : Par
 Rate : Rate
 Frame : Int
 Since : Int
 Every : Int
 Reach : Int
 Has : Bool
 Ref : Pic
structure Xyz where
 Left : Int
 Top : Int
 Wide : Int
 High : Int
structure Xeu where
 Key : Bool
 Qp : Int
 Large : Bool
 Exact : Bool
structure Xnn where
 row_ : ByteArray
 at_ : Int
 bad_ : Bool
structure Xbw where
 b_ : (List Int)
 i_ : Int
 h_ : Int
structure Xam where
 Kind : Int
 Mode : Int
 Dx : Int
 Dy : Int
 Levels : (List Int)
structure Xi9 where
 Above : (List Int)
 Left : (List Int)
 Corner : Int
def Yuy : Bool := false
def Ybg : ByteArray := ⟨#[]⟩
def Xgn : (List Int) := []
def Yrw : Pic := ⟨0, 0, ⟨#[]⟩⟩
def Xgo : Xam := ⟨0, 0, 0, 0, []⟩
noncomputable section
def Yga (p0 : (List Int)) : Option Bool :=
 some (decide ((p0.length : Int) > 1048576))
def Xnk (p0 : (List Int)) (v3 : (Int × Int)) : Option (Lp (Int × Int) Int) :=
 bnd (
 sel (decide (v3.2 < (p0.length : Int))) (
 some (decide (v3.2 < 4000))) (
 some false)) fun v7 =>
 sel v7 (
 req (0 ≤ v3.2 ∧ v3.2 < p0.length) <|
 some (.go ((IntKind.wrap .i64 (BitVec.ofInt (IntKind.bits .i64) (Xaa .i64 ((Xaa .i64 ((Xaa .i64 (v3.1 * 131)) + (Xaa .i64 ((p0.getD v3.2.toNat 0))))) + 7)) &&& BitVec.ofInt (IntKind.bits .i64) 1073741823).toNat), Xaa .i64 (v3.2 + 1)))) (
 some (.done v3.1))
def Xp5 (p0 : (List Int)) : Option Xbw :=
 bnd (loop (Xnk p0) (Xaa .i64 (94701 + (p0.length : Int)), 0)) fun v6 =>
 some (⟨p0, 0, v6⟩ : Xbw)
def Xcs (p0 : Xbw) : Option (Int × Xbw) :=
 req (0 ≤ (33 : Int)) <|
 req (0 ≤ (45 : Int)) <|
 bnd (
 sel (decide (p0.i_ < (p0.b_.length : Int))) (
 req (0 ≤ p0.i_ ∧ p0.i_ < p0.b_.length) <|
 some ((IntKind.wrap .i64 (BitVec.ofInt (IntKind.bits .i64) (Xaa .i64 ((IntKind.wrap .i64 (BitVec.ofInt (IntKind.bits .i64) (IntKind.wrap .i64 (BitVec.ofInt (IntKind.bits .i64) ((Xaa .i64 ((Xaa .i64 (p0.h_ * 6364136223846793005)) + 1442695040888963407)) / 2 ^ min (33 : Int).toNat (IntKind.bits .i64)) ^^^ BitVec.ofInt (IntKind.bits .i64) ((Xaa .i64 ((Xaa .i64 (p0.h_ * 6364136223846793005)) + 1442695040888963407)) / 2 ^ min (45 : Int).toNat (IntKind.bits .i64))).toNat) &&& BitVec.ofInt (IntKind.bits .i64) 255).toNat) + (Xaa .i64 ((p0.b_.getD p0.i_.toNat 0))))) &&& BitVec.ofInt (IntKind.bits .i64) 255).toNat), Xaa .i64 (p0.i_ + 1))) (
 some ((IntKind.wrap .i64 (BitVec.ofInt (IntKind.bits .i64) (IntKind.wrap .i64 (BitVec.ofInt (IntKind.bits .i64) ((Xaa .i64 ((Xaa .i64 (p0.h_ * 6364136223846793005)) + 1442695040888963407)) / 2 ^ min (33 : Int).toNat (IntKind.bits .i64)) ^^^ BitVec.ofInt (IntKind.bits .i64) ((Xaa .i64 ((Xaa .i64 (p0.h_ * 6364136223846793005)) + 1442695040888963407)) / 2 ^ min (45 : Int).toNat (IntKind.bits .i64))).toNat) &&& BitVec.ofInt (IntKind.bits .i64) 255).toNat), p0.i_))) fun v1 =>
 some (v1.1, (⟨p0.b_, v1.2, Xaa .i64 ((Xaa .i64 (p0.h_ * 6364136223846793005)) + 1442695040888963407)⟩ : Xbw))
def Xa6 (p0 : Xbw) (p1 : Int) : Option (Int × Xbw) :=
 sel (decide (p1 ≤ 0)) (
 some (0, p0)) (
 sel (decide (p1 ≤ 256)) (
 bnd (Xcs p0) fun q1 =>
 req (p1 ≠ 0) <|
 some ((q1.1.tmod p1), q1.2)) (
 bnd (Xcs p0) fun q2 =>
 bnd (Xcs q2.2) fun q3 =>
 bnd (Xcs q3.2) fun q4 =>
 bnd (Xcs q4.2) fun q5 =>
 req (p1 ≠ 0) <|
 some (((Xaa .i64 ((Xaa .i64 ((Xaa .i64 ((Xaa .i64 (q2.1 * 16777216)) + (Xaa .i64 (q3.1 * 65536)))) + (Xaa .i64 (q4.1 * 256)))) + q5.1)).tmod p1), q5.2)))
def Xgk (p0 : Xbw) (p1 : Int) : Option (Bool × Xbw) :=
 bnd (Xa6 p0 p1) fun q1 =>
 some ((q1.1 == 0), q1.2)
def Xha (p0 : Xbw) : Option (Par × Xbw) :=
 bnd (Xa6 p0 41) fun q1 =>
 bnd (Xgk q1.2 4) fun q2 =>
 bnd (
 bnd (Xa6 q2.2 3) fun q4 =>
 sel (q4.1 == 0) (
 some (true, false, q4.2.b_, q4.2.i_, q4.2.h_)) (
 sel (q4.1 == 1) (
 some (false, true, q4.2.b_, q4.2.i_, q4.2.h_)) (
 some (false, false, q4.2.b_, q4.2.i_, q4.2.h_)))) fun v3 =>
 some ((⟨q1.1, v3.1, v3.2.1, (!q2.1)⟩ : Par), (⟨v3.2.2.1, v3.2.2.2.1, v3.2.2.2.2⟩ : Xbw))
def Xar (p0 : Int) (p1 : Int) (p2 : Int) : Option Bool :=
 bnd (
 sel (decide (p0 ≥ p1)) (
 some (decide (p0 ≤ p2))) (
 some false)) fun v1 =>
 some v1
def Xhj (p0 : (List Int)) (v4 : (Int × Int)) : Option (Lp (Int × Int) (Ou Int Int)) :=
 sel (decide (v4.2 < (p0.length : Int))) (
 req (0 ≤ v4.2 ∧ v4.2 < p0.length) <|
 bnd (Xar (p0.getD v4.2.toNat 0) 1 8) fun q8 =>
 sel (!q8) (
 some (.done (.ret 0))) (
 req (0 ≤ v4.2 ∧ v4.2 < p0.length) <|
 some (.go (Xaa .i64 (v4.1 + (p0.getD v4.2.toNat 0)), Xaa .i64 (v4.2 + 1))))) (
 some (.done (.out v4.1)))
def Xig (p0 : (List Int)) : Option Int :=
 bnd (
 sel (decide ((p0.length : Int) < 1)) (
 some true) (
 some (decide ((p0.length : Int) > 4)))) fun v1 =>
 sel v1 (
 some 0) (
 bnd (loop (Xhj p0) (0, 0)) fun o9 => match o9 with
| .out v7 => (
 some v7)
| .ret r => some r)
def Xjr (p0 : Seq) : Option Int :=
 bnd (Xig p0.Cols) fun q1 =>
 bnd (Xig p0.Rows) fun q2 =>
 some (Xaa .i64 (q1 * q2))
def Xgb (p0 : Int) : Option Int :=
 sel (p0 == 1) (
 some 16) (
 sel (p0 == 2) (
 some 64) (
 sel (p0 == 3) (
 some 256) (
 some 0)))
def Xmz (p0 : Seq) : Option Bool :=
 bnd (
 bnd (Xjr p0) fun q2 =>
 bnd (Xgb p0.Level) fun q3 =>
 bnd (Xar q2 1 q3) fun q4 =>
 sel q4 (
 bnd (Xar p0.Bits 3 8) fun q5 =>
 some q5) (
 some false)) fun v1 =>
 some v1
def Xkw (p0 : Seq) : Option Int :=
 bnd (Xmz p0) fun q1 =>
 sel (!q1) (
 some 0) (
 some (Xaa .i64 ((p0.Cols.length : Int) * (p0.Rows.length : Int))))
def Xsh (p0 : Par) : Option Bool :=
 bnd (
 bnd (Xar p0.Qp 0 40) fun q2 =>
 sel q2 (
 sel p0.Large (
 some (!p0.Exact)) (
 some true)) (
 some false)) fun v1 =>
 some v1
def Xpk : Option Xa3 :=
 some (⟨false, false, false, (⟨0, 0, [], []⟩ : Seq), (⟨0, false, false, false⟩ : Par), (-1), 0, (⟨0, 0, ⟨#[]⟩⟩ : Pic), (⟨0, 0, ⟨#[]⟩⟩ : Pic)⟩ : Xa3)
def Xd3 (p0 : (List Int)) : Option (List Int) :=
 req ((([] : List Int).length + p0.length) * 8 ≤ 140737488355328 ∧ ([] : List Int).length + p0.length ≤ maxLen) <|
 some (([] : List Int) ++ p0)
def Xkm (p0 : Seq) : Option Seq :=
 bnd (Xd3 p0.Cols) fun q1 =>
 bnd (Xd3 p0.Rows) fun q2 =>
 some (⟨p0.Level, p0.Bits, q1, q2⟩ : Seq)
def Xbq (p0 : Xa3) : Option Xa3 :=
 bnd (Xkm p0.Seq) fun q1 =>
 some (⟨p0.HasSeq, p0.HasPar, p0.HasRef, q1, p0.Par, p0.Frame, p0.Got, p0.Now, p0.Ref⟩ : Xa3)
def Xnx (p0 : Seq) : Option Bool :=
 bnd (
 sel (p0.Level == 0) (
 sel (p0.Bits == 0) (
 sel ((p0.Cols.length : Int) == 0) (
 some ((p0.Rows.length : Int) == 0)) (
 some false)) (
 some false)) (
 some false)) fun v1 =>
 some v1
def Xal (p0 : Int) (p1 : Int) (p2 : Int) : Option Bool :=
 bnd (
 sel (decide (p0 ≥ p1)) (
 some (decide (p0 ≤ p2))) (
 some false)) fun v1 =>
 some v1
def Xd4 (p0 : (List Int)) (v2 : (Int × Int)) : Option (Lp (Int × Int) Int) :=
 sel (decide (v2.2 < (p0.length : Int))) (
 req (0 ≤ v2.2 ∧ v2.2 < p0.length) <|
 some (.go (Xaa .i64 (v2.1 + (p0.getD v2.2.toNat 0)), Xaa .i64 (v2.2 + 1)))) (
 some (.done v2.1))
def Xcp (p0 : (List Int)) : Option Int :=
 bnd (loop (Xd4 p0) (0, 0)) fun v4 =>
 some v4
def Xcu (p0 : Seq) (v11 : Int) (v26 : Int) : Option (Lp Int (Ou Unit Int)) :=
 sel (decide (v26 < ((([p0.Cols, p0.Rows]).getD v11.toNat Xgn).length : Int))) (
 req (0 ≤ v26 ∧ v26 < (([p0.Cols, p0.Rows]).getD v11.toNat Xgn).length) <|
 bnd (Xal ((([p0.Cols, p0.Rows]).getD v11.toNat Xgn).getD v26.toNat 0) 1 8) fun q30 =>
 sel (!q30) (
 some (.done (.ret 0))) (
 some (.go (Xaa .i64 (v26 + 1))))) (
 some (.done (.out ())))
def Xdv (p0 : Seq) (v11 : Int) : Option (Lp Int (Ou Unit Int)) :=
 sel (decide (v11 < (([p0.Cols, p0.Rows]).length : Int))) (
 req (0 ≤ v11 ∧ v11 < ([p0.Cols, p0.Rows]).length) <|
 req (v11.toNat < ([p0.Cols, p0.Rows]).length) <|
 bnd (Xal ((([p0.Cols, p0.Rows]).getD v11.toNat Xgn).length : Int) 1 4) fun q23 =>
 sel (!q23) (
 some (.done (.ret 0))) (
 bnd (loop (Xcu p0 v11) 0) fun o31 => match o31 with
| .out v29 => (
 some (.go (Xaa .i64 (v11 + 1))))
| .ret r => some (.done (.ret r)))) (
 some (.done (.out ())))
def Xjh (p0 : Seq) : Option Int :=
 bnd (loop (Xdv p0) 0) fun o32 => match o32 with
| .out v22 => (
 bnd (Xcp p0.Cols) fun q33 =>
 bnd (Xcp p0.Rows) fun q34 =>
 some (Xaa .i64 (q33 * q34)))
| .ret r => some r
def Xf0 (p0 : Int) : Option Int :=
 bnd (Xal p0 1 3) fun q1 =>
 sel (!q1) (
 some 0) (
 req (0 ≤ (Xaa .i64 (p0 - 1)) ∧ (Xaa .i64 (p0 - 1)) < ([16, 64, 256]).length) <|
 req ((Xaa .i64 (p0 - 1)).toNat < ([16, 64, 256]).length) <|
 some (([16, 64, 256]).getD ((Xaa .i64 (p0 - 1)).toNat) 0))
def Xf2 (p0 : Seq) : Option Bool :=
 bnd (
 bnd (Xjh p0) fun q2 =>
 bnd (Xf0 p0.Level) fun q3 =>
 bnd (Xal q2 1 q3) fun q4 =>
 sel q4 (
 bnd (Xal p0.Bits 3 8) fun q5 =>
 some q5) (
 some false)) fun v1 =>
 some v1
def Xhc (p0 : Par) : Option Bool :=
 bnd (
 bnd (Xal p0.Qp 0 40) fun q2 =>
 sel q2 (
 sel p0.Large (
 some (!p0.Exact)) (
 some true)) (
 some false)) fun v1 =>
 some v1
def Xfc (p0 : Seq) : Option Int :=
 bnd (Xf2 p0) fun q1 =>
 sel (!q1) (
 some 0) (
 some (Xaa .i64 ((p0.Cols.length : Int) * (p0.Rows.length : Int))))
def Xka (p0 : Seq) : Option (Int × Int) :=
 bnd (Xf2 p0) fun q1 =>
 sel (!q1) (
 some (0, 0)) (
 bnd (Xcp p0.Cols) fun q2 =>
 bnd (Xcp p0.Rows) fun q3 =>
 some (Xaa .i64 (8 * q2), Xaa .i64 (8 * q3)))
def Xbt (p0 : Pic) : Option Bool :=
 bnd (
 bnd (Xal p0.Wide 1 256) fun q2 =>
 sel q2 (
 bnd (Xal p0.High 1 256) fun q3 =>
 sel q3 (
 some ((p0.Dots.size : Int) == (Xaa .i64 (p0.Wide * p0.High)))) (
 some false)) (
 some false)) fun v1 =>
 some v1
def Xnw (p0 : Pic) (p1 : Seq) : Option Bool :=
 bnd (Xka p1) fun q1 =>
 bnd (
 bnd (Xbt p0) fun q3 =>
 sel q3 (
 sel (p0.Wide == q1.1) (
 some (p0.High == q1.2)) (
 some false)) (
 some false)) fun v2 =>
 some v2
def Xo6 (p0 : Xa3) : Option Bool :=
 sel (!p0.HasSeq) (
 bnd (
 sel p0.HasPar (
 some false) (
 sel p0.HasRef (
 some false) (
 bnd (Xnx p0.Seq) fun q2 =>
 sel q2 (
 sel (((p0.Par.Qp == 0) && ((p0.Par.Large == false) && ((p0.Par.Exact == false) && (p0.Par.Confined == false)))) == true) (
 sel (p0.Frame == (-1)) (
 sel (p0.Got == 0) (
 sel (((p0.Now.Wide == 0) && ((p0.Now.High == 0) && (p0.Now.Dots.toList == (⟨#[]⟩ : ByteArray).toList))) == true) (
 some (((p0.Ref.Wide == 0) && ((p0.Ref.High == 0) && (p0.Ref.Dots.toList == (⟨#[]⟩ : ByteArray).toList))) == true)) (
 some false)) (
 some false)) (
 some false)) (
 some false)) (
 some false)))) fun v1 =>
 some v1) (
 bnd (
 bnd (Xf2 p0.Seq) fun q4 =>
 sel q4 (
 sel p0.HasPar (
 bnd (Xhc p0.Par) fun q5 =>
 sel q5 (
 some false) (
 some true)) (
 sel (((p0.Par.Qp == 0) && ((p0.Par.Large == false) && ((p0.Par.Exact == false) && (p0.Par.Confined == false)))) == false) (
 some true) (
 sel (p0.Got != 0) (
 some true) (
 some p0.HasRef)))) (
 some true)) fun v3 =>
 sel v3 (
 some false) (
 bnd (
 req (0 ≤ p0.Seq.Bits) <|
 bnd (Xal p0.Frame (-1) (Xaa .i64 ((Xaa .i64 (1 * 2 ^ min p0.Seq.Bits.toNat (IntKind.bits .i64))) - 1))) fun q7 =>
 sel q7 (
 bnd (Xfc p0.Seq) fun q8 =>
 bnd (Xal p0.Got 0 (Xaa .i64 (q8 - 1))) fun q9 =>
 some (!q9)) (
 some true)) fun v6 =>
 sel v6 (
 some false) (
 bnd (
 sel (decide (p0.Got > 0)) (
 sel (p0.Frame == (-1)) (
 some true) (
 bnd (Xnw p0.Now p0.Seq) fun q11 =>
 sel q11 (
 sel (p0.Got == 0) (
 some (((p0.Now.Wide == 0) && ((p0.Now.High == 0) && (p0.Now.Dots.toList == (⟨#[]⟩ : ByteArray).toList))) == false)) (
 some false)) (
 some true))) (
 sel (p0.Got == 0) (
 some (((p0.Now.Wide == 0) && ((p0.Now.High == 0) && (p0.Now.Dots.toList == (⟨#[]⟩ : ByteArray).toList))) == false)) (
 some false))) fun v10 =>
 sel v10 (
 some false) (
 sel p0.HasRef (
 bnd (Xnw p0.Ref p0.Seq) fun q12 =>
 some q12) (
 some (((p0.Ref.Wide == 0) && ((p0.Ref.High == 0) && (p0.Ref.Dots.toList == (⟨#[]⟩ : ByteArray).toList))) == true))))))
def Xmo (p0 : Int) : Option Bool :=
 bnd (
 sel (p0 == 1) (
 some true) (
 sel (p0 == 5) (
 some true) (
 sel (p0 == 7) (
 some true) (
 some (p0 == 8))))) fun v1 =>
 some v1
def Xey (p0 : ByteArray) (v3 : (Int × (List Int))) : Option (Lp (Int × (List Int)) (List Int)) :=
 sel (decide (v3.1 < (Xaa .i64 (8 * (p0.size : Int))))) (
 req ((8 : Int) ≠ 0) <|
 req (0 ≤ (Xaa .i64 (v3.1.tdiv 8)) ∧ (Xaa .i64 (v3.1.tdiv 8)) < p0.size) <|
 req ((8 : Int) ≠ 0) <|
 req (0 ≤ (Xaa .i64 (7 - (v3.1.tmod 8)))) <|
 req ((v3.2.length + ([Xaa .u8 (48 + (IntKind.wrap .u8 (BitVec.ofInt (IntKind.bits .u8) ((Xuh p0 (Xaa .i64 (v3.1.tdiv 8))) / 2 ^ min (Xaa .i64 (7 - (v3.1.tmod 8))).toNat (IntKind.bits .u8)) &&& BitVec.ofInt (IntKind.bits .u8) 1).toNat))]).length) * 1 ≤ 140737488355328 ∧ v3.2.length + ([Xaa .u8 (48 + (IntKind.wrap .u8 (BitVec.ofInt (IntKind.bits .u8) ((Xuh p0 (Xaa .i64 (v3.1.tdiv 8))) / 2 ^ min (Xaa .i64 (7 - (v3.1.tmod 8))).toNat (IntKind.bits .u8)) &&& BitVec.ofInt (IntKind.bits .u8) 1).toNat))]).length ≤ maxLen) <|
 some (.go (Xaa .i64 (v3.1 + 1), (v3.2 ++ ([Xaa .u8 (48 + (IntKind.wrap .u8 (BitVec.ofInt (IntKind.bits .u8) ((Xuh p0 (Xaa .i64 (v3.1.tdiv 8))) / 2 ^ min (Xaa .i64 (7 - (v3.1.tmod 8))).toNat (IntKind.bits .u8)) &&& BitVec.ofInt (IntKind.bits .u8) 1).toNat))]))))) (
 some (.done v3.2))
def Xez (v5 : (List Int)) (v8 : Int) : Option (Lp Int Int) :=
 req (0 ≤ (Xaa .i64 (v8 - 1)) ∧ (Xaa .i64 (v8 - 1)) < v5.length) <|
 req ((Xaa .i64 (v8 - 1)).toNat < v5.length) <|
 sel ((v5.getD ((Xaa .i64 (v8 - 1)).toNat) 0) == 48) (
 some (.go (Xaa .i64 (v8 - 1)))) (
 some (.done v8))
def Xk3 (p0 : ByteArray) : Option (ByteArray × Bool) :=
 bnd (
 sel ((Xaa .i64 (8 * (p0.size : Int))) == 0) (
 some true) (
 req (0 ≤ (Xaa .i64 ((p0.size : Int) - 1)) ∧ (Xaa .i64 ((p0.size : Int) - 1)) < p0.size) <|
 sel ((Xuh p0 (Xaa .i64 ((p0.size : Int) - 1))) == 0) (
 some true) (
 some (decide ((Xaa .i64 (8 * (p0.size : Int))) > 400008))))) fun v1 =>
 sel v1 (
 some (⟨#[]⟩, false)) (
 req (0 ≤ (0 : Int) ∧ (0 : Int) ≤ (Xaa .i64 (8 * (p0.size : Int))) ∧ (Xaa .i64 (8 * (p0.size : Int))) * 1 ≤ 281474976710656) <|
 bnd (loop (Xey p0) (0, (List.replicate (0 : Int).toNat (0 : Int)))) fun v5 =>
 bnd (loop (Xez v5) (Xaa .i64 (8 * (p0.size : Int)))) fun v10 =>
 sel (decide ((Xaa .i64 (v10 - 1)) > 400000)) (
 some (⟨#[]⟩, false)) (
 req (0 ≤ (0 : Int) ∧ (0 : Int) ≤ (Xaa .i64 (v10 - 1)) ∧ (Xaa .i64 (v10 - 1)) ≤ (v5.length : Int)) <|
 req ((0 : Int).toNat + ((Xaa .i64 (v10 - 1)).toNat - (0 : Int).toNat) ≤ v5.length) <|
 some ((strOfNums ((v5.drop ((0 : Int).toNat)).take ((Xaa .i64 (v10 - 1)).toNat - (0 : Int).toNat))), true)))
def Xpq (p0 : ByteArray) : Option (Int × ByteArray × Bool) :=
 bnd (
 sel (p0.toList == (⟨#[]⟩ : ByteArray).toList) (
 some true) (
 req (0 ≤ (0 : Int) ∧ (0 : Int) < p0.size) <|
 bnd (Xmo (Xaa .i64 ((Xuh p0 (0 : Int))))) fun q2 =>
 some (!q2))) fun v1 =>
 sel v1 (
 some (0, ⟨#[]⟩, false)) (
 req (0 ≤ (1 : Int) ∧ (1 : Int) ≤ (p0.size : Int) ∧ (p0.size : Int) ≤ (p0.size : Int)) <|
 bnd (Xk3 (p0.extract (1 : Int).toNat (p0.size : Int).toNat)) fun q3 =>
 sel (!q3.2) (
 some (0, ⟨#[]⟩, false)) (
 req (0 ≤ (0 : Int) ∧ (0 : Int) < p0.size) <|
 some (Xaa .i64 ((Xuh p0 (0 : Int))), q3.1, true)))
def Xk9 (p0 : ByteArray) (v3 : Int) : Option (Lp Int (Ou Unit Bool)) :=
 sel (decide (v3 < (p0.size : Int))) (
 bnd (
 req (0 ≤ v3 ∧ v3 < p0.size) <|
 sel ((Xuh p0 v3) != 48) (
 req (0 ≤ v3 ∧ v3 < p0.size) <|
 some ((Xuh p0 v3) != 49)) (
 some false)) fun v7 =>
 sel v7 (
 some (.done (.ret false))) (
 some (.go (Xaa .i64 (v3 + 1))))) (
 some (.done (.out ())))
def Xo7 (p0 : ByteArray) : Option Bool :=
 sel (decide ((p0.size : Int) > 400000)) (
 some false) (
 bnd (loop (Xk9 p0) 0) fun o8 => match o8 with
| .out v6 => (
 some true)
| .ret r => some r)
def Xh4 (p0 : ByteArray) (p1 : Int) : Option Xnn :=
 bnd (
 bnd (Xo7 p0) fun q2 =>
 sel q2 (
 bnd (Xal p1 0 (p0.size : Int)) fun q3 =>
 some (!q3)) (
 some true)) fun v1 =>
 some (⟨p0, p1, v1⟩ : Xnn)
def Xg6 (p0 : Xnn) (p1 : Int) (v3 : (Int × Int)) : Option (Lp (Int × Int) Int) :=
 sel (decide (v3.2 < p1)) (
 req (0 ≤ (1 : Int)) <|
 req (0 ≤ (Xaa .i64 (p0.at_ + v3.2)) ∧ (Xaa .i64 (p0.at_ + v3.2)) < p0.row_.size) <|
 some (.go ((IntKind.wrap .i64 (BitVec.ofInt (IntKind.bits .i64) (Xaa .i64 (v3.1 * 2 ^ min (1 : Int).toNat (IntKind.bits .i64))) ||| BitVec.ofInt (IntKind.bits .i64) (Xaa .i64 (Xaa .u8 ((Xuh p0.row_ (Xaa .i64 (p0.at_ + v3.2))) - 48)))).toNat), Xaa .i64 (v3.2 + 1)))) (
 some (.done v3.1))
def Xcw (p0 : Xnn) (p1 : Int) : Option (Int × Xnn) :=
 bnd (
 sel p0.bad_ (
 some true) (
 some (decide ((Xaa .i64 ((p0.row_.size : Int) - p0.at_)) < p1)))) fun v1 =>
 sel v1 (
 some (0, (⟨p0.row_, p0.at_, true⟩ : Xnn))) (
 bnd (loop (Xg6 p0 p1) (0, 0)) fun v5 =>
 some (v5, (⟨p0.row_, Xaa .i64 (p0.at_ + p1), p0.bad_⟩ : Xnn)))
def Xh5 (p0 : Xnn) (v3 : Int) : Option (Lp Int Int) :=
 bnd (
 sel p0.bad_ (
 some false) (
 sel (decide ((Xaa .i64 (p0.at_ + v3)) < (p0.row_.size : Int))) (
 req (0 ≤ (Xaa .i64 (p0.at_ + v3)) ∧ (Xaa .i64 (p0.at_ + v3)) < p0.row_.size) <|
 some ((Xuh p0.row_ (Xaa .i64 (p0.at_ + v3))) == 48)) (
 some false))) fun v7 =>
 sel v7 (
 some (.go (Xaa .i64 (v3 + 1)))) (
 some (.done v3))
def Xb5 (p0 : Xnn) : Option (Int × Xnn) :=
 bnd (loop (Xh5 p0) 0) fun v6 =>
 bnd (
 sel (decide (v6 > 20)) (
 some true) (
 some p0.bad_)) fun v9 =>
 bnd (Xcw (⟨p0.row_, p0.at_, v9⟩ : Xnn) (Xaa .i64 ((Xaa .i64 (2 * v6)) + 1))) fun q10 =>
 bnd (
 sel q10.2.bad_ (
 some true) (
 some (decide ((Xaa .i64 (q10.1 - 1)) > 1000000)))) fun v11 =>
 sel v11 (
 some (0, (⟨q10.2.row_, q10.2.at_, true⟩ : Xnn))) (
 some (Xaa .i64 (q10.1 - 1), q10.2))
def Xf4 (q1 : (Int × Xnn)) (v6 : (Int × ByteArray × Int × Bool × (List Int))) : Option (Lp (Int × ByteArray × Int × Bool × (List Int)) ((List Int) × ByteArray × Int × Bool)) :=
 bnd (
 sel (decide (v6.1 < q1.1)) (
 some (!v6.2.2.2.1)) (
 some false)) fun v11 =>
 sel v11 (
 bnd (Xb5 (⟨v6.2.1, v6.2.2.1, v6.2.2.2.1⟩ : Xnn)) fun q12 =>
 req ((v6.2.2.2.2.length + ([q12.1]).length) * 8 ≤ 140737488355328 ∧ v6.2.2.2.2.length + ([q12.1]).length ≤ maxLen) <|
 some (.go (Xaa .i64 (v6.1 + 1), q12.2.row_, q12.2.at_, q12.2.bad_, (v6.2.2.2.2 ++ ([q12.1]))))) (
 some (.done (v6.2.2.2.2, v6.2.1, v6.2.2.1, v6.2.2.2.1)))
def Xhg (p0 : Xnn) : Option ((List Int) × Xnn) :=
 bnd (Xb5 p0) fun q1 =>
 bnd (
 sel (decide (q1.1 > 4)) (
 some true) (
 some q1.2.bad_)) fun v2 =>
 bnd (loop (Xf4 q1) (0, q1.2.row_, q1.2.at_, v2, ([] : List Int))) fun v10 =>
 some (v10.1, (⟨v10.2.1, v10.2.2.1, v10.2.2.2⟩ : Xnn))
def Xnt (p0 : ByteArray) (p1 : Int) : Option (Seq × Int × Bool) :=
 bnd (Xh4 p0 p1) fun q1 =>
 bnd (Xb5 q1) fun q2 =>
 bnd (Xcw q2.2 4) fun q3 =>
 bnd (Xhg q3.2) fun q4 =>
 bnd (Xhg q4.2) fun q5 =>
 bnd (
 sel q5.2.bad_ (
 some true) (
 bnd (Xf2 (⟨q2.1, q3.1, q4.1, q5.1⟩ : Seq)) fun q7 =>
 some (!q7))) fun v6 =>
 sel v6 (
 some ((⟨0, 0, [], []⟩ : Seq), 0, false)) (
 some ((⟨q2.1, q3.1, q4.1, q5.1⟩ : Seq), q5.2.at_, true))
def Xns (p0 : ByteArray) (p1 : Int) : Option (Par × Int × Bool) :=
 bnd (Xh4 p0 p1) fun q1 =>
 bnd (Xcw q1 6) fun q2 =>
 bnd (Xcw q2.2 1) fun q3 =>
 bnd (Xcw q3.2 1) fun q4 =>
 bnd (Xcw q4.2 1) fun q5 =>
 bnd (
 sel q5.2.bad_ (
 some true) (
 bnd (Xhc (⟨q2.1, (q3.1 == 1), (q4.1 == 1), (q5.1 == 1)⟩ : Par)) fun q7 =>
 some (!q7))) fun v6 =>
 sel v6 (
 some ((⟨0, false, false, false⟩ : Par), 0, false)) (
 some ((⟨q2.1, (q3.1 == 1), (q4.1 == 1), (q5.1 == 1)⟩ : Par), q5.2.at_, true))
def Xpm (p0 : Int) : Option (Int × Bool) :=
 bnd (Xal p0 0 1000000) fun q1 =>
 sel (!q1) (
 some (0, false)) (
 req ((2 : Int) ≠ 0) <|
 sel ((p0.tmod 2) == 1) (
 req ((2 : Int) ≠ 0) <|
 some (Xaa .i64 ((Xaa .i64 (p0 + 1)).tdiv 2), true)) (
 req ((2 : Int) ≠ 0) <|
 some (Xaa .i64 ((Xaa .i64 (0 - p0)).tdiv 2), true)))
def Xd8 (p0 : Xnn) : Option (Int × Xnn) :=
 bnd (Xb5 p0) fun q1 =>
 bnd (Xpm q1.1) fun q2 =>
 bnd (
 sel q1.2.bad_ (
 some true) (
 some (!q2.2))) fun v3 =>
 some (q2.1, (⟨q1.2.row_, q1.2.at_, v3⟩ : Xnn))
def Xme (p0 : Seq) (p1 : Par) (p2 : Ynb) : Option Bool :=
 bnd (
 bnd (Xf2 p0) fun q2 =>
 sel q2 (
 bnd (Xhc p1) fun q3 =>
 sel q3 (
 bnd (Xfc p0) fun q4 =>
 bnd (Xal p2.Tile 0 (Xaa .i64 (q4 - 1))) fun q5 =>
 sel q5 (
 req (0 ≤ p0.Bits) <|
 bnd (Xal p2.Frame 0 (Xaa .i64 ((Xaa .i64 (1 * 2 ^ min p0.Bits.toNat (IntKind.bits .i64))) - 1))) fun q6 =>
 sel q6 (
 bnd (Xal p2.Qp 0 40) fun q7 =>
 some q7) (
 some false)) (
 some false)) (
 some false)) (
 some false)) fun v1 =>
 some v1
def Xip (p0 : Seq) (p1 : Par) (p2 : ByteArray) : Option (Ynb × Int × Bool) :=
 bnd (Xh4 p2 0) fun q1 =>
 bnd (
 bnd (Xf2 p0) fun q3 =>
 sel q3 (
 bnd (Xhc p1) fun q4 =>
 some (!q4)) (
 some true)) fun v2 =>
 sel v2 (
 some ((⟨0, 0, 0⟩ : Ynb), 0, false)) (
 bnd (Xb5 q1) fun q5 =>
 bnd (Xcw q5.2 p0.Bits) fun q6 =>
 bnd (Xd8 q6.2) fun q7 =>
 bnd (
 sel q7.2.bad_ (
 some true) (
 bnd (Xme p0 p1 (⟨q5.1, q6.1, Xaa .i64 (q7.1 + p1.Qp)⟩ : Ynb)) fun q9 =>
 some (!q9))) fun v8 =>
 sel v8 (
 some ((⟨0, 0, 0⟩ : Ynb), 0, false)) (
 some ((⟨q5.1, q6.1, Xaa .i64 (q7.1 + p1.Qp)⟩ : Ynb), q7.2.at_, true)))
def Xir (p0 : Seq) (p1 : Int) : Option (Xyz × Bool) :=
 bnd (Xfc p0) fun q1 =>
 bnd (Xal p1 0 (Xaa .i64 (q1 - 1))) fun q2 =>
 sel (!q2) (
 some ((⟨0, 0, 0, 0⟩ : Xyz), false)) (
 req ((p0.Cols.length : Int) ≠ 0) <|
 req ((p0.Cols.length : Int) ≠ 0) <|
 req (0 ≤ (0 : Int) ∧ (0 : Int) ≤ (p1.tmod (p0.Cols.length : Int)) ∧ (p1.tmod (p0.Cols.length : Int)) ≤ (p0.Cols.length : Int)) <|
 bnd (Xcp ((p0.Cols.drop (0 : Int).toNat).take ((p1.tmod (p0.Cols.length : Int)).toNat - (0 : Int).toNat))) fun q3 =>
 req (0 ≤ (0 : Int) ∧ (0 : Int) ≤ (Xaa .i64 (p1.tdiv (p0.Cols.length : Int))) ∧ (Xaa .i64 (p1.tdiv (p0.Cols.length : Int))) ≤ (p0.Rows.length : Int)) <|
 bnd (Xcp ((p0.Rows.drop (0 : Int).toNat).take ((Xaa .i64 (p1.tdiv (p0.Cols.length : Int))).toNat - (0 : Int).toNat))) fun q4 =>
 req (0 ≤ (p1.tmod (p0.Cols.length : Int)) ∧ (p1.tmod (p0.Cols.length : Int)) < p0.Cols.length) <|
 req (0 ≤ (Xaa .i64 (p1.tdiv (p0.Cols.length : Int))) ∧ (Xaa .i64 (p1.tdiv (p0.Cols.length : Int))) < p0.Rows.length) <|
 some ((⟨Xaa .i64 (8 * q3), Xaa .i64 (8 * q4), Xaa .i64 (8 * (p0.Cols.getD (p1.tmod (p0.Cols.length : Int)).toNat 0)), Xaa .i64 (8 * (p0.Rows.getD (Xaa .i64 (p1.tdiv (p0.Cols.length : Int))).toNat 0))⟩ : Xyz), true))
def Xg5 (p0 : Seq) (p1 : Int) : Option Int :=
 bnd (Xir p0 p1) fun q1 =>
 req ((8 : Int) ≠ 0) <|
 req ((8 : Int) ≠ 0) <|
 some (Xaa .i64 ((Xaa .i64 (q1.1.Wide.tdiv 8)) * (Xaa .i64 (q1.1.High.tdiv 8))))
def Xdw (p0 : Xeu) : Option Bool :=
 bnd (
 bnd (Xal p0.Qp 0 40) fun q2 =>
 sel q2 (
 sel p0.Large (
 some (!p0.Exact)) (
 some true)) (
 some false)) fun v1 =>
 some v1
def Xf5 (p1 : Int) (v8 : (Int × Int × ByteArray × Int × Bool × (List Int))) : Option (Lp (Int × Int × ByteArray × Int × Bool × (List Int)) ((List Int) × ByteArray × Int × Bool)) :=
 bnd (
 sel (decide (v8.2.1 > 0)) (
 some (!v8.2.2.2.2.1)) (
 some false)) fun v16 =>
 sel v16 (
 bnd (Xb5 (⟨v8.2.2.1, v8.2.2.2.1, v8.2.2.2.2.1⟩ : Xnn)) fun q17 =>
 bnd (Xd8 q17.2) fun q18 =>
 bnd (
 sel (decide ((Xaa .i64 (v8.1 + q17.1)) ≥ p1)) (
 some true) (
 sel (q18.1 == 0) (
 some true) (
 bnd (Xal q18.1 (-5000) 5000) fun q20 =>
 some (!q20)))) fun v19 =>
 sel v19 (
 some (.done (v8.2.2.2.2.2, q18.2.row_, q18.2.at_, true))) (
 req (0 ≤ (Xaa .i64 (v8.1 + q17.1)) ∧ (Xaa .i64 (v8.1 + q17.1)) < v8.2.2.2.2.2.length) <|
 req ((Xaa .i64 (v8.1 + q17.1)).toNat < v8.2.2.2.2.2.length) <|
 some (.go (Xaa .i64 ((Xaa .i64 (v8.1 + q17.1)) + 1), Xaa .i64 (v8.2.1 - 1), q18.2.row_, q18.2.at_, q18.2.bad_, (v8.2.2.2.2.2.set ((Xaa .i64 (v8.1 + q17.1)).toNat) q18.1))))) (
 some (.done (v8.2.2.2.2.2, v8.2.2.1, v8.2.2.2.1, v8.2.2.2.2.1)))
def Xhh (p0 : Xnn) (p1 : Int) : Option ((List Int) × Xnn) :=
 req (0 ≤ p1 ∧ p1 ≤ p1 ∧ p1 * 8 ≤ 281474976710656) <|
 bnd (Xb5 p0) fun q1 =>
 bnd (loop (Xf5 p1) (0, q1.1, q1.2.row_, q1.2.at_, q1.2.bad_, (List.replicate p1.toNat (0 : Int)))) fun v15 =>
 some (v15.1, (⟨v15.2.1, v15.2.2.1, v15.2.2.2⟩ : Xnn))
def Xcl (v5 : (Int × ByteArray × Int × Bool × (List Int))) : Option (Lp (Int × ByteArray × Int × Bool × (List Int)) ((List Int) × ByteArray × Int × Bool)) :=
 sel (decide (v5.1 < 4)) (
 bnd (Xhh (⟨v5.2.1, v5.2.2.1, v5.2.2.2.1⟩ : Xnn) 16) fun q9 =>
 req ((v5.2.2.2.2.length + q9.1.length) * 8 ≤ 140737488355328 ∧ v5.2.2.2.2.length + q9.1.length ≤ maxLen) <|
 some (.go (Xaa .i64 (v5.1 + 1), q9.2.row_, q9.2.at_, q9.2.bad_, (v5.2.2.2.2 ++ q9.1)))) (
 some (.done (v5.2.2.2.2, v5.2.1, v5.2.2.1, v5.2.2.2.1)))
def Xc5 (p0 : Xnn) (p1 : Xeu) : Option ((List Int) × Xnn) :=
 bnd (
 sel p1.Large (
 some true) (
 some p1.Exact)) fun v1 =>
 sel v1 (
 bnd (Xhh p0 64) fun q2 =>
 some (q2.1, q2.2)) (
 bnd (loop (Xcl) (0, p0.row_, p0.at_, p0.bad_, ([] : List Int))) fun v8 =>
 some (v8.1, (⟨v8.2.1, v8.2.2.1, v8.2.2.2⟩ : Xnn)))
def Xle (p0 : (List Int)) (p2 : Int) (p3 : Int) (v3 : Int) : Option (Lp Int (Ou Unit Bool)) :=
 sel (decide (v3 < (p0.length : Int))) (
 req (0 ≤ v3 ∧ v3 < p0.length) <|
 bnd (Xal (p0.getD v3.toNat 0) p2 p3) fun q7 =>
 sel (!q7) (
 some (.done (.ret false))) (
 some (.go (Xaa .i64 (v3 + 1))))) (
 some (.done (.out ())))
def Xbu (p0 : (List Int)) (p1 : Int) (p2 : Int) (p3 : Int) : Option Bool :=
 bnd (loop (Xle p0 p2 p3) 0) fun o8 => match o8 with
| .out v6 => (
 some ((p0.length : Int) == p1))
| .ret r => some r
def Xfk (p0 : (List Int)) : Option Bool :=
 bnd (Xbu p0 64 (-5000) 5000) fun q1 =>
 some q1
def Xgu (p0 : Xam) : Option Bool :=
 sel (p0.Kind == 0) (
 bnd (
 sel (p0.Mode == 0) (
 sel (p0.Dx == 0) (
 sel (p0.Dy == 0) (
 some ((p0.Levels.length : Int) == 0)) (
 some false)) (
 some false)) (
 some false)) fun v1 =>
 some v1) (
 sel (p0.Kind == 1) (
 bnd (
 sel (p0.Mode == 0) (
 bnd (Xal p0.Dx (-16) 16) fun q3 =>
 sel q3 (
 bnd (Xal p0.Dy (-16) 16) fun q4 =>
 sel q4 (
 bnd (Xfk p0.Levels) fun q5 =>
 some q5) (
 some false)) (
 some false)) (
 some false)) fun v2 =>
 some v2) (
 sel (p0.Kind == 2) (
 bnd (
 bnd (Xal p0.Mode 0 3) fun q7 =>
 sel q7 (
 sel (p0.Dx == 0) (
 sel (p0.Dy == 0) (
 bnd (Xfk p0.Levels) fun q8 =>
 some q8) (
 some false)) (
 some false)) (
 some false)) fun v6 =>
 some v6) (
 some false)))
def Xg7 (p0 : Xnn) (p1 : Xeu) : Option (Xam × Xnn) :=
 bnd (
 sel (!p1.Key) (
 bnd (Xb5 p0) fun q2 =>
 some (q2.2.row_, q2.2.at_, q2.2.bad_, q2.1)) (
 some (p0.row_, p0.at_, p0.bad_, 2))) fun v1 =>
 bnd (
 sel v1.2.2.1 (
 some (v1.1, v1.2.1, v1.2.2.1, 0, 0, 0, [])) (
 sel (v1.2.2.2 == 1) (
 bnd (Xd8 (⟨v1.1, v1.2.1, v1.2.2.1⟩ : Xnn)) fun q4 =>
 bnd (Xd8 q4.2) fun q5 =>
 bnd (Xc5 q5.2 p1) fun q6 =>
 some (q6.2.row_, q6.2.at_, q6.2.bad_, 0, q4.1, q5.1, q6.1)) (
 sel (v1.2.2.2 == 2) (
 bnd (Xb5 (⟨v1.1, v1.2.1, v1.2.2.1⟩ : Xnn)) fun q7 =>
 bnd (Xc5 q7.2 p1) fun q8 =>
 some (q8.2.row_, q8.2.at_, q8.2.bad_, q7.1, 0, 0, q8.1)) (
 some (v1.1, v1.2.1, v1.2.2.1, 0, 0, 0, []))))) fun v3 =>
 bnd (
 sel v3.2.2.1 (
 some true) (
 bnd (Xgu (⟨v1.2.2.2, v3.2.2.2.1, v3.2.2.2.2.1, v3.2.2.2.2.2.1, v3.2.2.2.2.2.2⟩ : Xam)) fun q10 =>
 some (!q10))) fun v9 =>
 some ((⟨v1.2.2.2, v3.2.2.2.1, v3.2.2.2.2.1, v3.2.2.2.2.2.1, v3.2.2.2.2.2.2⟩ : Xam), (⟨v3.1, v3.2.1, v9⟩ : Xnn))
def Xg3 (p2 : Int) (p3 : Xeu) (v7 : (Int × ByteArray × Int × Bool × (List Xam))) : Option (Lp (Int × ByteArray × Int × Bool × (List Xam)) (Ou (ByteArray × Int × Bool × (List Xam)) ((List Xam) × Bool))) :=
 sel (decide (v7.1 < p2)) (
 bnd (Xg7 (⟨v7.2.1, v7.2.2.1, v7.2.2.2.1⟩ : Xnn) p3) fun q11 =>
 req ((v7.2.2.2.2.length + ([q11.1]).length) * 56 ≤ 140737488355328 ∧ v7.2.2.2.2.length + ([q11.1]).length ≤ maxLen) <|
 sel q11.2.bad_ (
 some (.done (.ret (([] : List Xam), false)))) (
 some (.go (Xaa .i64 (v7.1 + 1), q11.2.row_, q11.2.at_, q11.2.bad_, (v7.2.2.2.2 ++ ([q11.1])))))) (
 some (.done (.out (v7.2.1, v7.2.2.1, v7.2.2.2.1, v7.2.2.2.2))))
def Xiq (p0 : ByteArray) (p1 : Int) (p2 : Int) (p3 : Xeu) : Option ((List Xam) × Bool) :=
 bnd (Xh4 p0 p1) fun q1 =>
 bnd (
 bnd (Xal p2 1 64) fun q3 =>
 sel q3 (
 bnd (Xdw p3) fun q4 =>
 some (!q4)) (
 some true)) fun v2 =>
 sel v2 (
 some (([] : List Xam), false)) (
 bnd (loop (Xg3 p2 p3) (0, q1.row_, q1.at_, q1.bad_, ([] : List Xam))) fun o12 => match o12 with
| .out v10 => (
 sel (v10.2.1 != (p0.size : Int)) (
 some (([] : List Xam), false)) (
 some (v10.2.2.2, true)))
| .ret r => some r)
def Xh3 (p0 : Int) : Option Bool :=
 bnd (
 req ((8 : Int) ≠ 0) <|
 sel ((p0.tmod 8) == 0) (
 bnd (Xal p0 8 64) fun q2 =>
 some q2) (
 some false)) fun v1 =>
 some v1
def Xb9 (p0 : Pic) (p1 : Xyz) : Option Bool :=
 bnd (
 bnd (Xal p1.Wide 1 p0.Wide) fun q2 =>
 sel q2 (
 bnd (Xal p1.High 1 p0.High) fun q3 =>
 sel q3 (
 bnd (Xal p1.Left 0 (Xaa .i64 (p0.Wide - p1.Wide))) fun q4 =>
 sel q4 (
 bnd (Xal p1.Top 0 (Xaa .i64 (p0.High - p1.High))) fun q5 =>
 some q5) (
 some false)) (
 some false)) (
 some false)) fun v1 =>
 some v1
def Xsw (p0 : Pic) (p1 : Xyz) (v5 : (Int × (List Int))) : Option (Lp (Int × (List Int)) (List Int)) :=
 sel (decide (v5.1 < (Xaa .i64 (p1.Top + p1.High)))) (
 req (0 ≤ (Xaa .i64 ((Xaa .i64 (v5.1 * p0.Wide)) + p1.Left)) ∧ (Xaa .i64 ((Xaa .i64 (v5.1 * p0.Wide)) + p1.Left)) ≤ (Xaa .i64 ((Xaa .i64 ((Xaa .i64 (v5.1 * p0.Wide)) + p1.Left)) + p1.Wide)) ∧ (Xaa .i64 ((Xaa .i64 ((Xaa .i64 (v5.1 * p0.Wide)) + p1.Left)) + p1.Wide)) ≤ (p0.Dots.size : Int)) <|
 req ((v5.2.length + (Xaz (p0.Dots.extract (Xaa .i64 ((Xaa .i64 (v5.1 * p0.Wide)) + p1.Left)).toNat (Xaa .i64 ((Xaa .i64 ((Xaa .i64 (v5.1 * p0.Wide)) + p1.Left)) + p1.Wide)).toNat)).length) * 1 ≤ 140737488355328 ∧ v5.2.length + (Xaz (p0.Dots.extract (Xaa .i64 ((Xaa .i64 (v5.1 * p0.Wide)) + p1.Left)).toNat (Xaa .i64 ((Xaa .i64 ((Xaa .i64 (v5.1 * p0.Wide)) + p1.Left)) + p1.Wide)).toNat)).length ≤ maxLen) <|
 some (.go (Xaa .i64 (v5.1 + 1), (v5.2 ++ (Xaz (p0.Dots.extract (Xaa .i64 ((Xaa .i64 (v5.1 * p0.Wide)) + p1.Left)).toNat (Xaa .i64 ((Xaa .i64 ((Xaa .i64 (v5.1 * p0.Wide)) + p1.Left)) + p1.Wide)).toNat)))))) (
 some (.done v5.2))
def Xo5 (p0 : Pic) (p1 : Xyz) : Option (Pic × Bool) :=
 bnd (
 bnd (Xbt p0) fun q2 =>
 sel q2 (
 bnd (Xb9 p0 p1) fun q3 =>
 some (!q3)) (
 some true)) fun v1 =>
 sel v1 (
 some ((⟨0, 0, ⟨#[]⟩⟩ : Pic), false)) (
 req (0 ≤ (0 : Int) ∧ (0 : Int) ≤ (Xaa .i64 (p1.Wide * p1.High)) ∧ (Xaa .i64 (p1.Wide * p1.High)) * 1 ≤ 281474976710656) <|
 bnd (loop (Xsw p0 p1) (p1.Top, (List.replicate (0 : Int).toNat (0 : Int)))) fun v7 =>
 some ((⟨p1.Wide, p1.High, (strOfNums v7)⟩ : Pic), true))
def Xnq (p0 : Int) (p1 : Int) (v5 : (Int × (List Int))) : Option (Lp (Int × (List Int)) (List Int)) :=
 sel (decide (v5.1 < ((List.replicate (Xaa .i64 (p0 * p1)).toNat (0 : Int)).length : Int))) (
 req (0 ≤ v5.1 ∧ v5.1 < v5.2.length) <|
 req (v5.1.toNat < v5.2.length) <|
 some (.go (Xaa .i64 (v5.1 + 1), (v5.2.set v5.1.toNat 128)))) (
 some (.done v5.2))
def Xnp (p0 : Int) (p1 : Int) : Option Pic :=
 bnd (
 bnd (Xal p0 1 256) fun q2 =>
 sel q2 (
 bnd (Xal p1 1 256) fun q3 =>
 some (!q3)) (
 some true)) fun v1 =>
 sel v1 (
 some (⟨0, 0, ⟨#[]⟩⟩ : Pic)) (
 req (0 ≤ (Xaa .i64 (p0 * p1)) ∧ (Xaa .i64 (p0 * p1)) ≤ (Xaa .i64 (p0 * p1)) ∧ (Xaa .i64 (p0 * p1)) * 1 ≤ 281474976710656) <|
 bnd (loop (Xnq p0 p1) (0, (List.replicate (Xaa .i64 (p0 * p1)).toNat (0 : Int)))) fun v7 =>
 some (⟨p0, p1, (strOfNums v7)⟩ : Pic))
def Xca (p0 : Pic) (p1 : Int) (p2 : Int) : Option Bool :=
 bnd (
 req ((8 : Int) ≠ 0) <|
 sel ((p1.tmod 8) == 0) (
 req ((8 : Int) ≠ 0) <|
 sel ((p2.tmod 8) == 0) (
 bnd (Xal p1 0 (Xaa .i64 (p0.Wide - 8))) fun q2 =>
 sel q2 (
 bnd (Xal p2 0 (Xaa .i64 (p0.High - 8))) fun q3 =>
 some q3) (
 some false)) (
 some false)) (
 some false)) fun v1 =>
 some v1
def Xel (p0 : Xam) (p1 : Xeu) : Option Bool :=
 bnd (
 sel p1.Key (
 some (p0.Kind == 2)) (
 some true)) fun v1 =>
 some v1
def Xc4 (p0 : Int) (p1 : Int) (p2 : Int) : Option Int :=
 some (if (if p2 < p0 then p2 else p0) > p1 then (if p2 < p0 then p2 else p0) else p1)
def Xfa (p0 : Pic) (p1 : Int) (p2 : Int) : Option Int :=
 bnd (Xc4 p2 0 (Xaa .i64 (p0.High - 1))) fun q1 =>
 bnd (Xc4 p1 0 (Xaa .i64 (p0.Wide - 1))) fun q2 =>
 req (0 ≤ (Xaa .i64 ((Xaa .i64 (q1 * p0.Wide)) + q2)) ∧ (Xaa .i64 ((Xaa .i64 (q1 * p0.Wide)) + q2)) < p0.Dots.size) <|
 some (Xaa .i64 ((Xuh p0.Dots (Xaa .i64 ((Xaa .i64 (q1 * p0.Wide)) + q2)))))
def Xe9 (p0 : Pic) (p1 : Int) (p2 : Int) (v10 : (Int × (List Int))) (v23 : (Int × (List Int))) : Option (Lp (Int × (List Int)) (List Int)) :=
 sel (decide (v23.1 < 8)) (
 bnd (Xfa p0 (Xaa .i64 (p1 + v23.1)) (Xaa .i64 (p2 + v10.1))) fun q27 =>
 req ((v23.2.length + ([q27]).length) * 8 ≤ 140737488355328 ∧ v23.2.length + ([q27]).length ≤ maxLen) <|
 some (.go (Xaa .i64 (v23.1 + 1), (v23.2 ++ ([q27]))))) (
 some (.done v23.2))
def Xe8 (p0 : Pic) (p1 : Int) (p2 : Int) (v10 : (Int × (List Int))) : Option (Lp (Int × (List Int)) (List Int)) :=
 sel (decide (v10.1 < 8)) (
 bnd (loop (Xe9 p0 p1 p2 v10) (0, v10.2)) fun v26 =>
 some (.go (Xaa .i64 (v10.1 + 1), v26))) (
 some (.done v10.2))
def Xb8 (p0 : Pic) (p1 : Int) (p2 : Int) : Option (List Int) :=
 req (0 ≤ (0 : Int) ∧ (0 : Int) ≤ (64 : Int) ∧ (64 : Int) * 8 ≤ 281474976710656) <|
 bnd (loop (Xe8 p0 p1 p2) (0, (List.replicate (0 : Int).toNat (0 : Int)))) fun v20 =>
 some v20
def Xlg (p0 : Int) (v16 : (Int × (List Int))) (v37 : (Int × (List Int))) : Option (Lp (Int × (List Int)) (List Int)) :=
 sel (decide (v37.1 ≤ v16.1)) (
 bnd (
 bnd (
 req ((2 : Int) ≠ 0) <|
 sel ((v16.1.tmod 2) == 0) (
 some (Xaa .i64 (v16.1 - v37.1))) (
 some v37.1)) fun v44 =>
 bnd (
 sel (decide (v44 < p0)) (
 some (decide ((Xaa .i64 (v16.1 - v44)) < p0))) (
 some false)) fun v45 =>
 sel v45 (
 req ((v37.2.length + ([Xaa .i64 ((Xaa .i64 (v44 * p0)) + (Xaa .i64 (v16.1 - v44)))]).length) * 8 ≤ 140737488355328 ∧ v37.2.length + ([Xaa .i64 ((Xaa .i64 (v44 * p0)) + (Xaa .i64 (v16.1 - v44)))]).length ≤ maxLen) <|
 some (v37.2 ++ ([Xaa .i64 ((Xaa .i64 (v44 * p0)) + (Xaa .i64 (v16.1 - v44)))]))) (
 some v37.2)) fun v43 =>
 some (.go (Xaa .i64 (v37.1 + 1), v43))) (
 some (.done v37.2))
def Xhk (p0 : Int) (v16 : (Int × (List Int))) : Option (Lp (Int × (List Int)) (List Int)) :=
 sel (decide (v16.1 ≤ (Xaa .i64 ((Xaa .i64 (2 * p0)) - 2)))) (
 bnd (loop (Xlg p0 v16) (0, v16.2)) fun v42 =>
 some (.go (Xaa .i64 (v16.1 + 1), v42))) (
 some (.done v16.2))
def Xhf (p0 : Int) : Option (List Int) :=
 bnd (loop (Xhk p0) (0, ([] : List Int))) fun v32 =>
 some v32
def Xis (p1 : (List Int)) (q2 : (List Int)) (v4 : (Int × (List Int))) : Option (Lp (Int × (List Int)) (List Int)) :=
 sel (decide (v4.1 < (q2.length : Int))) (
 req (0 ≤ v4.1 ∧ v4.1 < q2.length) <|
 req (v4.1.toNat < q2.length) <|
 req (0 ≤ v4.1 ∧ v4.1 < p1.length) <|
 req (0 ≤ (q2.getD v4.1.toNat 0) ∧ (q2.getD v4.1.toNat 0) < v4.2.length) <|
 req ((q2.getD v4.1.toNat 0).toNat < v4.2.length) <|
 some (.go (Xaa .i64 (v4.1 + 1), (v4.2.set ((q2.getD v4.1.toNat 0).toNat) (p1.getD v4.1.toNat 0))))) (
 some (.done v4.2))
def Xfj (p0 : Int) (p1 : (List Int)) : Option ((List Int) × Bool) :=
 bnd (
 sel (p0 != 4) (
 sel (p0 != 8) (
 some true) (
 some ((p1.length : Int) != (Xaa .i64 (p0 * p0))))) (
 some ((p1.length : Int) != (Xaa .i64 (p0 * p0))))) fun v1 =>
 sel v1 (
 some (([] : List Int), false)) (
 req (0 ≤ (p1.length : Int) ∧ (p1.length : Int) ≤ (p1.length : Int) ∧ (p1.length : Int) * 8 ≤ 281474976710656) <|
 bnd (Xhf p0) fun q2 =>
 bnd (loop (Xis p1 q2) (0, (List.replicate (p1.length : Int).toNat (0 : Int)))) fun v6 =>
 some (v6, true))
def Xkb (p0 : Int) : Option Int :=
 bnd (Xal p0 0 40) fun q1 =>
 sel (!q1) (
 some 0) (
 req ((6 : Int) ≠ 0) <|
 req (0 ≤ (p0.tmod 6) ∧ (p0.tmod 6) < ([10, 11, 13, 14, 16, 18]).length) <|
 req ((p0.tmod 6).toNat < ([10, 11, 13, 14, 16, 18]).length) <|
 req ((6 : Int) ≠ 0) <|
 req (0 ≤ (Xaa .i64 (p0.tdiv 6))) <|
 some (Xaa .i64 ((([10, 11, 13, 14, 16, 18]).getD ((p0.tmod 6).toNat) 0) * 2 ^ min (Xaa .i64 (p0.tdiv 6)).toNat (IntKind.bits .i64))))
def Xje (p0 : Int) (p1 : Int) : Option Int :=
 bnd (Xal p0 (-5000) 5000) fun q1 =>
 sel (!q1) (
 some 0) (
 bnd (Xkb p1) fun q2 =>
 some (Xaa .i64 (p0 * q2)))
def Xmk (p0 : Int) (p1 : Int) : Option Int :=
 bnd (
 bnd (Xal p0 0 7) fun q2 =>
 sel q2 (
 bnd (Xal p1 0 7) fun q3 =>
 some (!q3)) (
 some true)) fun v1 =>
 sel v1 (
 some 0) (
 req (0 ≤ (1 : Int)) <|
 req (0 ≤ (2 : Int)) <|
 req ((2 : Int) ≠ 0) <|
 sel (((Xaa .i64 ((Xaa .i64 ((IntKind.wrap .i64 (BitVec.ofInt (IntKind.bits .i64) (IntKind.wrap .i64 (BitVec.ofInt (IntKind.bits .i64) p0 &&& BitVec.ofInt (IntKind.bits .i64) p1).toNat) &&& BitVec.ofInt (IntKind.bits .i64) 1).toNat) + (IntKind.wrap .i64 (BitVec.ofInt (IntKind.bits .i64) ((IntKind.wrap .i64 (BitVec.ofInt (IntKind.bits .i64) p0 &&& BitVec.ofInt (IntKind.bits .i64) p1).toNat) / 2 ^ min (1 : Int).toNat (IntKind.bits .i64)) &&& BitVec.ofInt (IntKind.bits .i64) 1).toNat))) + (IntKind.wrap .i64 (BitVec.ofInt (IntKind.bits .i64) ((IntKind.wrap .i64 (BitVec.ofInt (IntKind.bits .i64) p0 &&& BitVec.ofInt (IntKind.bits .i64) p1).toNat) / 2 ^ min (2 : Int).toNat (IntKind.bits .i64)) &&& BitVec.ofInt (IntKind.bits .i64) 1).toNat))).tmod 2) == 0) (
 some 1) (
 some (-1)))
def Xlj (p0 : (List Int)) (v31 : (Int × (List Int))) (v72 : (Int × (List Int))) (v85 : (Int × (List Int))) : Option (Lp (Int × (List Int)) (List Int)) :=
 sel (decide (v85.1 < 8)) (
 req (0 ≤ (Xaa .i64 ((Xaa .i64 (8 * v31.1)) + v72.1)) ∧ (Xaa .i64 ((Xaa .i64 (8 * v31.1)) + v72.1)) < v85.2.length) <|
 req ((Xaa .i64 ((Xaa .i64 (8 * v31.1)) + v72.1)).toNat < v85.2.length) <|
 bnd (Xmk v72.1 v85.1) fun q89 =>
 req (0 ≤ (Xaa .i64 ((Xaa .i64 (8 * v31.1)) + v85.1)) ∧ (Xaa .i64 ((Xaa .i64 (8 * v31.1)) + v85.1)) < p0.length) <|
 req (0 ≤ (Xaa .i64 ((Xaa .i64 (8 * v31.1)) + v72.1)) ∧ (Xaa .i64 ((Xaa .i64 (8 * v31.1)) + v72.1)) < v85.2.length) <|
 req ((Xaa .i64 ((Xaa .i64 (8 * v31.1)) + v72.1)).toNat < v85.2.length) <|
 some (.go (Xaa .i64 (v85.1 + 1), (v85.2.set ((Xaa .i64 ((Xaa .i64 (8 * v31.1)) + v72.1)).toNat) (Xaa .i64 ((v85.2.getD ((Xaa .i64 ((Xaa .i64 (8 * v31.1)) + v72.1)).toNat) 0) + (Xaa .i64 (q89 * (p0.getD (Xaa .i64 ((Xaa .i64 (8 * v31.1)) + v85.1)).toNat 0))))))))) (
 some (.done v85.2))
def Xs2 (p0 : (List Int)) (v31 : (Int × (List Int))) (v72 : (Int × (List Int))) : Option (Lp (Int × (List Int)) (List Int)) :=
 sel (decide (v72.1 < 8)) (
 bnd (loop (Xlj p0 v31 v72) (0, v72.2)) fun v88 =>
 some (.go (Xaa .i64 (v72.1 + 1), v88))) (
 some (.done v72.2))
def Xs1 (p0 : (List Int)) (v31 : (Int × (List Int))) : Option (Lp (Int × (List Int)) (List Int)) :=
 sel (decide (v31.1 < 8)) (
 bnd (loop (Xs2 p0 v31) (0, v31.2)) fun v82 =>
 some (.go (Xaa .i64 (v31.1 + 1), v82))) (
 some (.done v31.2))
def Xji (v62 : (List Int)) (v123 : (Int × (List Int))) (v164 : (Int × (List Int))) (v177 : (Int × (List Int))) : Option (Lp (Int × (List Int)) (List Int)) :=
 sel (decide (v177.1 < 8)) (
 req (0 ≤ (Xaa .i64 ((Xaa .i64 (8 * v123.1)) + v164.1)) ∧ (Xaa .i64 ((Xaa .i64 (8 * v123.1)) + v164.1)) < v177.2.length) <|
 req ((Xaa .i64 ((Xaa .i64 (8 * v123.1)) + v164.1)).toNat < v177.2.length) <|
 bnd (Xmk v123.1 v177.1) fun q181 =>
 req (0 ≤ (Xaa .i64 ((Xaa .i64 (8 * v177.1)) + v164.1)) ∧ (Xaa .i64 ((Xaa .i64 (8 * v177.1)) + v164.1)) < v62.length) <|
 req ((Xaa .i64 ((Xaa .i64 (8 * v177.1)) + v164.1)).toNat < v62.length) <|
 req (0 ≤ (Xaa .i64 ((Xaa .i64 (8 * v123.1)) + v164.1)) ∧ (Xaa .i64 ((Xaa .i64 (8 * v123.1)) + v164.1)) < v177.2.length) <|
 req ((Xaa .i64 ((Xaa .i64 (8 * v123.1)) + v164.1)).toNat < v177.2.length) <|
 some (.go (Xaa .i64 (v177.1 + 1), (v177.2.set ((Xaa .i64 ((Xaa .i64 (8 * v123.1)) + v164.1)).toNat) (Xaa .i64 ((v177.2.getD ((Xaa .i64 ((Xaa .i64 (8 * v123.1)) + v164.1)).toNat) 0) + (Xaa .i64 (q181 * (v62.getD ((Xaa .i64 ((Xaa .i64 (8 * v177.1)) + v164.1)).toNat) 0))))))))) (
 some (.done v177.2))
def Xrb (v62 : (List Int)) (v123 : (Int × (List Int))) (v164 : (Int × (List Int))) : Option (Lp (Int × (List Int)) (List Int)) :=
 sel (decide (v164.1 < 8)) (
 bnd (loop (Xji v62 v123 v164) (0, v164.2)) fun v180 =>
 some (.go (Xaa .i64 (v164.1 + 1), v180))) (
 some (.done v164.2))
def Xra (v62 : (List Int)) (v123 : (Int × (List Int))) : Option (Lp (Int × (List Int)) (List Int)) :=
 sel (decide (v123.1 < 8)) (
 bnd (loop (Xrb v62 v123) (0, v123.2)) fun v174 =>
 some (.go (Xaa .i64 (v123.1 + 1), v174))) (
 some (.done v123.2))
def Xr8 (p0 : (List Int)) : Option (List Int) :=
 req (0 ≤ (64 : Int) ∧ (64 : Int) ≤ (64 : Int) ∧ (64 : Int) * 8 ≤ 281474976710656) <|
 bnd (loop (Xs1 p0) (0, (List.replicate (64 : Int).toNat (0 : Int)))) fun v62 =>
 req (0 ≤ (64 : Int) ∧ (64 : Int) ≤ (64 : Int) ∧ (64 : Int) * 8 ≤ 281474976710656) <|
 bnd (loop (Xra v62) (0, (List.replicate (64 : Int).toNat (0 : Int)))) fun v154 =>
 some v154
def Xo9 (p0 : Int) (p1 : Int) : Option Int :=
 req (p1 ≠ 0) <|
 bnd (
 req (p1 ≠ 0) <|
 sel (decide ((p0.tmod p1) < 0)) (
 some (Xaa .i64 ((Xaa .i64 (p0.tdiv p1)) - 1))) (
 some (Xaa .i64 (p0.tdiv p1)))) fun v1 =>
 some v1
def Xpv (p0 : (List Int)) (v3 : (Int × (List Int))) : Option (Lp (Int × (List Int)) (List Int)) :=
 sel (decide (v3.1 < (p0.length : Int))) (
 req (0 ≤ v3.1 ∧ v3.1 < v3.2.length) <|
 req (v3.1.toNat < v3.2.length) <|
 bnd (Xo9 (Xaa .i64 ((v3.2.getD v3.1.toNat 0) + 32)) 64) fun q7 =>
 req (0 ≤ v3.1 ∧ v3.1 < v3.2.length) <|
 req (v3.1.toNat < v3.2.length) <|
 some (.go (Xaa .i64 (v3.1 + 1), (v3.2.set v3.1.toNat q7)))) (
 some (.done v3.2))
def Xkq (p0 : (List Int)) : Option ((List Int) × (List Int)) :=
 bnd (loop (Xpv p0) (0, p0)) fun v6 =>
 some (v6, v6)
def Xjd (p0 : (List Int)) : Option (List Int) :=
 bnd (Xbu p0 64 (-10000000) 10000000) fun q1 =>
 sel (!q1) (
 some ([] : List Int)) (
 bnd (Xr8 p0) fun q2 =>
 bnd (Xkq q2) fun q3 =>
 some q3.2)
def Xsx (p0 : Int) : Option Int :=
 bnd (Xal p0 0 15) fun q1 =>
 sel (!q1) (
 some (-1)) (
 req ((4 : Int) ≠ 0) <|
 req ((2 : Int) ≠ 0) <|
 req ((4 : Int) ≠ 0) <|
 req ((2 : Int) ≠ 0) <|
 bnd (
 sel (((Xaa .i64 (p0.tdiv 4)).tmod 2) == 0) (
 some (((p0.tmod 4).tmod 2) == 0)) (
 some false)) fun v2 =>
 sel v2 (
 some 0) (
 bnd (
 sel (((Xaa .i64 (p0.tdiv 4)).tmod 2) == 1) (
 some (((p0.tmod 4).tmod 2) == 1)) (
 some false)) fun v3 =>
 sel v3 (
 some 1) (
 some 2)))
def Xnu (p0 : Int) (p1 : Int) : Option Int :=
 bnd (
 bnd (Xal p0 0 40) fun q2 =>
 sel q2 (
 bnd (Xal p1 0 15) fun q3 =>
 some (!q3)) (
 some true)) fun v1 =>
 sel v1 (
 some 0) (
 req ((6 : Int) ≠ 0) <|
 bnd (Xsx p1) fun q4 =>
 req (0 ≤ (p0.tmod 6) ∧ (p0.tmod 6) < 6) <|
 req (0 ≤ q4 ∧ q4 < 3) <|
 req (((0 + (p0.tmod 6).toNat * 3) + q4.toNat * 1) < ([10, 16, 13, 11, 18, 14, 13, 20, 16, 14, 23, 18, 16, 25, 20, 18, 29, 23] : List Int).length) <|
 req ((6 : Int) ≠ 0) <|
 req (0 ≤ (Xaa .i64 (p0.tdiv 6))) <|
 some (Xaa .i64 ((([10, 16, 13, 11, 18, 14, 13, 20, 16, 14, 23, 18, 16, 25, 20, 18, 29, 23] : List Int).getD ((0 + (p0.tmod 6).toNat * 3) + q4.toNat * 1) 0) * 2 ^ min (Xaa .i64 (p0.tdiv 6)).toNat (IntKind.bits .i64))))
def Xjf (p0 : Int) (p1 : Int) (p2 : Int) : Option Int :=
 bnd (Xal p0 (-5000) 5000) fun q1 =>
 sel (!q1) (
 some 0) (
 bnd (Xnu p1 p2) fun q2 =>
 some (Xaa .i64 (p0 * q2)))
def Xei (p0 : Int) (p1 : Int) (p2 : Int) (p3 : Int) : Option (Int × Int × Int × Int) :=
 bnd (Xo9 p1 2) fun q1 =>
 bnd (Xo9 p3 2) fun q2 =>
 some (Xaa .i64 ((Xaa .i64 (p0 + p2)) + (Xaa .i64 (p1 + q2))), Xaa .i64 ((Xaa .i64 (p0 - p2)) + (Xaa .i64 (q1 - p3))), Xaa .i64 ((Xaa .i64 (p0 - p2)) - (Xaa .i64 (q1 - p3))), Xaa .i64 ((Xaa .i64 (p0 + p2)) - (Xaa .i64 (p1 + q2))))
def Xgh (v4 : (Int × (List Int))) : Option (Lp (Int × (List Int)) (List Int)) :=
 sel (decide (v4.1 < 16)) (
 req (0 ≤ v4.1 ∧ v4.1 < v4.2.length) <|
 req (v4.1.toNat < v4.2.length) <|
 req (0 ≤ (Xaa .i64 (v4.1 + 1)) ∧ (Xaa .i64 (v4.1 + 1)) < v4.2.length) <|
 req ((Xaa .i64 (v4.1 + 1)).toNat < v4.2.length) <|
 req (0 ≤ (Xaa .i64 (v4.1 + 2)) ∧ (Xaa .i64 (v4.1 + 2)) < v4.2.length) <|
 req ((Xaa .i64 (v4.1 + 2)).toNat < v4.2.length) <|
 req (0 ≤ (Xaa .i64 (v4.1 + 3)) ∧ (Xaa .i64 (v4.1 + 3)) < v4.2.length) <|
 req ((Xaa .i64 (v4.1 + 3)).toNat < v4.2.length) <|
 bnd (Xei (v4.2.getD v4.1.toNat 0) (v4.2.getD ((Xaa .i64 (v4.1 + 1)).toNat) 0) (v4.2.getD ((Xaa .i64 (v4.1 + 2)).toNat) 0) (v4.2.getD ((Xaa .i64 (v4.1 + 3)).toNat) 0)) fun q8 =>
 req (0 ≤ v4.1 ∧ v4.1 ≤ (Xaa .i64 (v4.1 + 4)) ∧ (Xaa .i64 (v4.1 + 4)) ≤ (v4.2.length : Int)) <|
 req ((v4.1.toNat + ((Xaa .i64 (v4.1 + 4)).toNat - v4.1.toNat) ≤ v4.2.length ∧ ([q8.1, q8.2.1, q8.2.2.1, q8.2.2.2]).length ≤ ((Xaa .i64 (v4.1 + 4)).toNat - v4.1.toNat))) <|
 some (.go (Xaa .i64 (v4.1 + 4), (over v4.2 v4.1.toNat ([q8.1, q8.2.1, q8.2.2.1, q8.2.2.2]))))) (
 some (.done v4.2))
def Xf7 (v17 : (Int × (List Int))) (q26 : (Int × Int × Int × Int)) (v28 : (Int × (List Int))) : Option (Lp (Int × (List Int)) (List Int)) :=
 sel (decide (v28.1 < 4)) (
 req (0 ≤ v28.1 ∧ v28.1 < ([q26.1, q26.2.1, q26.2.2.1, q26.2.2.2] : List Int).length) <|
 req (0 ≤ (Xaa .i64 (v17.1 + (Xaa .i64 (4 * v28.1)))) ∧ (Xaa .i64 (v17.1 + (Xaa .i64 (4 * v28.1)))) < v28.2.length) <|
 req ((Xaa .i64 (v17.1 + (Xaa .i64 (4 * v28.1)))).toNat < v28.2.length) <|
 some (.go (Xaa .i64 (v28.1 + 1), (v28.2.set ((Xaa .i64 (v17.1 + (Xaa .i64 (4 * v28.1)))).toNat) (([q26.1, q26.2.1, q26.2.2.1, q26.2.2.2] : List Int).getD v28.1.toNat 0))))) (
 some (.done v28.2))
def Xf6 (v17 : (Int × (List Int))) : Option (Lp (Int × (List Int)) (List Int)) :=
 sel (decide (v17.1 < 4)) (
 req (0 ≤ v17.1 ∧ v17.1 < v17.2.length) <|
 req (v17.1.toNat < v17.2.length) <|
 req (0 ≤ (Xaa .i64 (v17.1 + 4)) ∧ (Xaa .i64 (v17.1 + 4)) < v17.2.length) <|
 req ((Xaa .i64 (v17.1 + 4)).toNat < v17.2.length) <|
 req (0 ≤ (Xaa .i64 (v17.1 + 8)) ∧ (Xaa .i64 (v17.1 + 8)) < v17.2.length) <|
 req ((Xaa .i64 (v17.1 + 8)).toNat < v17.2.length) <|
 req (0 ≤ (Xaa .i64 (v17.1 + 12)) ∧ (Xaa .i64 (v17.1 + 12)) < v17.2.length) <|
 req ((Xaa .i64 (v17.1 + 12)).toNat < v17.2.length) <|
 bnd (Xei (v17.2.getD v17.1.toNat 0) (v17.2.getD ((Xaa .i64 (v17.1 + 4)).toNat) 0) (v17.2.getD ((Xaa .i64 (v17.1 + 8)).toNat) 0) (v17.2.getD ((Xaa .i64 (v17.1 + 12)).toNat) 0)) fun q26 =>
 bnd (loop (Xf7 v17 q26) (0, v17.2)) fun v30 =>
 some (.go (Xaa .i64 (v17.1 + 1), v30))) (
 some (.done v17.2))
def Xcy (p0 : (List Int)) : Option (List Int) :=
 bnd (Xd3 p0) fun q1 =>
 bnd (loop (Xgh) (0, q1)) fun v7 =>
 bnd (loop (Xf6) (0, v7)) fun v25 =>
 some v25
def Xk5 (p0 : (List Int)) : Option (List Int) :=
 bnd (Xbu p0 16 (-10000000) 10000000) fun q1 =>
 sel (!q1) (
 some ([] : List Int)) (
 bnd (Xcy p0) fun q2 =>
 bnd (Xkq q2) fun q3 =>
 some q3.2)
def Xoi (p0 : Int) (v7 : (Int × (List Int))) (v16 : (Int × (List Int))) : Option (Lp (Int × (List Int)) (List Int)) :=
 sel (decide (v16.1 < 4)) (
 req ((2 : Int) ≠ 0) <|
 req ((2 : Int) ≠ 0) <|
 req ((v16.2.length + ([Xaa .i64 ((Xaa .i64 ((Xaa .i64 ((Xaa .i64 (v7.1 + (Xaa .i64 ((Xaa .i64 (p0.tdiv 2)) * 4)))) * 8)) + v16.1)) + (Xaa .i64 ((p0.tmod 2) * 4)))]).length) * 8 ≤ 140737488355328 ∧ v16.2.length + ([Xaa .i64 ((Xaa .i64 ((Xaa .i64 ((Xaa .i64 (v7.1 + (Xaa .i64 ((Xaa .i64 (p0.tdiv 2)) * 4)))) * 8)) + v16.1)) + (Xaa .i64 ((p0.tmod 2) * 4)))]).length ≤ maxLen) <|
 some (.go (Xaa .i64 (v16.1 + 1), (v16.2 ++ ([Xaa .i64 ((Xaa .i64 ((Xaa .i64 ((Xaa .i64 (v7.1 + (Xaa .i64 ((Xaa .i64 (p0.tdiv 2)) * 4)))) * 8)) + v16.1)) + (Xaa .i64 ((p0.tmod 2) * 4)))]))))) (
 some (.done v16.2))
def Xj0 (p0 : Int) (v7 : (Int × (List Int))) : Option (Lp (Int × (List Int)) (List Int)) :=
 sel (decide (v7.1 < 4)) (
 bnd (loop (Xoi p0 v7) (0, v7.2)) fun v18 =>
 some (.go (Xaa .i64 (v7.1 + 1), v18))) (
 some (.done v7.2))
def Xkn (p0 : Int) : Option (List Int) :=
 bnd (loop (Xj0 p0) (0, ([] : List Int))) fun v14 =>
 some v14
def Xe7 (p1 : Xeu) (q5 : ((List Int) × Bool)) (v8 : (Int × (List Int))) : Option (Lp (Int × (List Int)) (List Int)) :=
 sel (decide (v8.1 < (q5.1.length : Int))) (
 req (0 ≤ v8.1 ∧ v8.1 < v8.2.length) <|
 req (v8.1.toNat < v8.2.length) <|
 bnd (Xje (v8.2.getD v8.1.toNat 0) p1.Qp) fun q12 =>
 req (0 ≤ v8.1 ∧ v8.1 < v8.2.length) <|
 req (v8.1.toNat < v8.2.length) <|
 some (.go (Xaa .i64 (v8.1 + 1), (v8.2.set v8.1.toNat q12)))) (
 some (.done v8.2))
def Xej (p1 : Xeu) (q51 : ((List Int) × Bool)) (v54 : (Int × (List Int))) : Option (Lp (Int × (List Int)) (List Int)) :=
 sel (decide (v54.1 < (q51.1.length : Int))) (
 req (0 ≤ v54.1 ∧ v54.1 < v54.2.length) <|
 req (v54.1.toNat < v54.2.length) <|
 bnd (Xjf (v54.2.getD v54.1.toNat 0) p1.Qp v54.1) fun q58 =>
 req (0 ≤ v54.1 ∧ v54.1 < v54.2.length) <|
 req (v54.1.toNat < v54.2.length) <|
 some (.go (Xaa .i64 (v54.1 + 1), (v54.2.set v54.1.toNat q58)))) (
 some (.done v54.2))
def Xgq (q60 : (List Int)) (q61 : (List Int)) (v63 : (Int × (List Int))) : Option (Lp (Int × (List Int)) (List Int)) :=
 sel (decide (v63.1 < (q61.length : Int))) (
 req (0 ≤ v63.1 ∧ v63.1 < q61.length) <|
 req (v63.1.toNat < q61.length) <|
 req (0 ≤ v63.1 ∧ v63.1 < q60.length) <|
 req (v63.1.toNat < q60.length) <|
 req (0 ≤ (q61.getD v63.1.toNat 0) ∧ (q61.getD v63.1.toNat 0) < v63.2.length) <|
 req ((q61.getD v63.1.toNat 0).toNat < v63.2.length) <|
 some (.go (Xaa .i64 (v63.1 + 1), (v63.2.set ((q61.getD v63.1.toNat 0).toNat) (q60.getD v63.1.toNat 0))))) (
 some (.done v63.2))
def Xj8 (p0 : (List Int)) (p1 : Xeu) (v32 : (Int × (List Int))) : Option (Lp (Int × (List Int)) (List Int)) :=
 sel (decide (v32.1 < 4)) (
 req (0 ≤ (Xaa .i64 (16 * v32.1)) ∧ (Xaa .i64 (16 * v32.1)) ≤ (Xaa .i64 ((Xaa .i64 (16 * v32.1)) + 16)) ∧ (Xaa .i64 ((Xaa .i64 (16 * v32.1)) + 16)) ≤ (p0.length : Int)) <|
 bnd (Xfj 4 ((p0.drop (Xaa .i64 (16 * v32.1)).toNat).take ((Xaa .i64 ((Xaa .i64 (16 * v32.1)) + 16)).toNat - (Xaa .i64 (16 * v32.1)).toNat))) fun q51 =>
 bnd (loop (Xej p1 q51) (0, q51.1)) fun v57 =>
 bnd (Xk5 v57) fun q60 =>
 bnd (Xkn v32.1) fun q61 =>
 bnd (loop (Xgq q60 q61) (0, v32.2)) fun v65 =>
 some (.go (Xaa .i64 (v32.1 + 1), v65))) (
 some (.done v32.2))
def Xhu (p0 : (List Int)) (p1 : Xeu) : Option ((List Int) × Bool) :=
 bnd (
 bnd (Xfk p0) fun q2 =>
 sel q2 (
 bnd (Xdw p1) fun q3 =>
 some (!q3)) (
 some true)) fun v1 =>
 sel v1 (
 some (([] : List Int), false)) (
 sel p1.Exact (
 bnd (Xfj 8 p0) fun q4 =>
 some (q4.1, q4.2)) (
 sel p1.Large (
 bnd (Xfj 8 p0) fun q5 =>
 bnd (loop (Xe7 p1 q5) (0, q5.1)) fun v11 =>
 bnd (Xjd v11) fun q14 =>
 some (q14, true)) (
 req (0 ≤ (64 : Int) ∧ (64 : Int) ≤ (64 : Int) ∧ (64 : Int) * 8 ≤ 281474976710656) <|
 bnd (loop (Xj8 p0 p1) (0, (List.replicate (64 : Int).toNat (0 : Int)))) fun v50 =>
 some (v50, true))))
def Xm7 (p0 : (List Int)) (p1 : (List Int)) (v6 : (Int × (List Int))) : Option (Lp (Int × (List Int)) (List Int)) :=
 sel (decide (v6.1 < (p0.length : Int))) (
 req (0 ≤ v6.1 ∧ v6.1 < p0.length) <|
 req (0 ≤ v6.1 ∧ v6.1 < p1.length) <|
 bnd (Xc4 (Xaa .i64 ((p0.getD v6.1.toNat 0) + (p1.getD v6.1.toNat 0))) 0 255) fun q10 =>
 req ((v6.2.length + ([q10]).length) * 8 ≤ 140737488355328 ∧ v6.2.length + ([q10]).length ≤ maxLen) <|
 some (.go (Xaa .i64 (v6.1 + 1), (v6.2 ++ ([q10]))))) (
 some (.done v6.2))
def Xmf (p0 : (List Int)) (p1 : (List Int)) : Option (List Int) :=
 bnd (
 bnd (Xbu p0 64 0 255) fun q2 =>
 sel q2 (
 bnd (Xbu p1 64 (-10000000) 10000000) fun q3 =>
 some (!q3)) (
 some true)) fun v1 =>
 sel v1 (
 some ([] : List Int)) (
 bnd (loop (Xm7 p0 p1) (0, ([] : List Int))) fun v9 =>
 some v9)
def Xk4 (p0 : Pic) (p1 : Int) (p2 : Int) (v9 : (Int × (List Int) × (List Int))) : Option (Lp (Int × (List Int) × (List Int)) ((List Int) × (List Int))) :=
 sel (decide (v9.1 < 8)) (
 bnd (
 bnd (
 sel (decide (p2 > 0)) (
 bnd (Xfa p0 (Xaa .i64 (p1 + v9.1)) (Xaa .i64 (p2 - 1))) fun q18 =>
 req ((v9.2.1.length + ([q18]).length) * 8 ≤ 140737488355328 ∧ v9.2.1.length + ([q18]).length ≤ maxLen) <|
 some (v9.2.1 ++ ([q18]))) (
 some v9.2.1)) fun v17 =>
 sel (decide (p1 > 0)) (
 bnd (Xfa p0 (Xaa .i64 (p1 - 1)) (Xaa .i64 (p2 + v9.1))) fun q19 =>
 req ((v9.2.2.length + ([q19]).length) * 8 ≤ 140737488355328 ∧ v9.2.2.length + ([q19]).length ≤ maxLen) <|
 some (v17, (v9.2.2 ++ ([q19])))) (
 some (v17, v9.2.2))) fun v16 =>
 some (.go (Xaa .i64 (v9.1 + 1), v16.1, v16.2))) (
 some (.done (v9.2.1, v9.2.2)))
def Xkh (p0 : Pic) (p1 : Int) (p2 : Int) : Option (Xi9 × Bool) :=
 bnd (
 bnd (Xbt p0) fun q2 =>
 sel q2 (
 bnd (Xca p0 p1 p2) fun q3 =>
 some (!q3)) (
 some true)) fun v1 =>
 sel v1 (
 some ((⟨[], [], 0⟩ : Xi9), false)) (
 bnd (loop (Xk4 p0 p1 p2) (0, [], [])) fun v15 =>
 bnd (
 bnd (
 sel (decide (p1 > 0)) (
 some (decide (p2 > 0))) (
 some false)) fun v22 =>
 sel v22 (
 bnd (Xfa p0 (Xaa .i64 (p1 - 1)) (Xaa .i64 (p2 - 1))) fun q23 =>
 some q23) (
 some (-1))) fun v21 =>
 some ((⟨v15.1, v15.2, v21⟩ : Xi9), true))
def Xfz (p0 : Xi9) (v4 : Int) : Option (Lp Int (Ou Unit Bool)) :=
 sel (decide (v4 < (([p0.Above, p0.Left]).length : Int))) (
 req (0 ≤ v4 ∧ v4 < ([p0.Above, p0.Left]).length) <|
 req (v4.toNat < ([p0.Above, p0.Left]).length) <|
 bnd (
 sel (decide (((([p0.Above, p0.Left]).getD v4.toNat Xgn).length : Int) > 0)) (
 bnd (Xbu (([p0.Above, p0.Left]).getD v4.toNat Xgn) 8 0 255) fun q10 =>
 some (!q10)) (
 some false)) fun v9 =>
 sel v9 (
 some (.done (.ret false))) (
 some (.go (Xaa .i64 (v4 + 1))))) (
 some (.done (.out ())))
def Xki (p0 : Xi9) : Option Bool :=
 bnd (loop (Xfz p0) 0) fun o11 => match o11 with
| .out v8 => (
 bnd (Xal p0.Corner (-1) 255) fun q12 =>
 some q12)
| .ret r => some r
def Xmp (p0 : (List Int)) : Option (List Int) :=
 sel ((p0.length : Int) == 0) (
 some ([128, 128, 128, 128, 128, 128, 128, 128])) (
 some p0)
def Xg2 (p0 : Int) (v4 : Int) (q7 : (List Int)) (q8 : (List Int)) (v9 : Int) (v22 : (Int × (List Int))) (v39 : (Int × (List Int))) : Option (Lp (Int × (List Int)) (List Int)) :=
 sel (decide (v39.1 < 8)) (
 bnd (
 sel (p0 == 0) (
 req ((v39.2.length + ([v4]).length) * 8 ≤ 140737488355328 ∧ v39.2.length + ([v4]).length ≤ maxLen) <|
 some (v39.2 ++ ([v4]))) (
 sel (p0 == 1) (
 req (0 ≤ v39.1 ∧ v39.1 < q7.length) <|
 req ((v39.2.length + ([(q7.getD v39.1.toNat 0)]).length) * 8 ≤ 140737488355328 ∧ v39.2.length + ([(q7.getD v39.1.toNat 0)]).length ≤ maxLen) <|
 some (v39.2 ++ ([(q7.getD v39.1.toNat 0)]))) (
 sel (p0 == 2) (
 req (0 ≤ v22.1 ∧ v22.1 < q8.length) <|
 req ((v39.2.length + ([(q8.getD v22.1.toNat 0)]).length) * 8 ≤ 140737488355328 ∧ v39.2.length + ([(q8.getD v22.1.toNat 0)]).length ≤ maxLen) <|
 some (v39.2 ++ ([(q8.getD v22.1.toNat 0)]))) (
 req (0 ≤ v22.1 ∧ v22.1 < q8.length) <|
 req (0 ≤ v39.1 ∧ v39.1 < q7.length) <|
 bnd (Xc4 (Xaa .i64 ((Xaa .i64 ((q8.getD v22.1.toNat 0) + (q7.getD v39.1.toNat 0))) - v9)) 0 255) fun q45 =>
 req ((v39.2.length + ([q45]).length) * 8 ≤ 140737488355328 ∧ v39.2.length + ([q45]).length ≤ maxLen) <|
 some (v39.2 ++ ([q45])))))) fun v44 =>
 some (.go (Xaa .i64 (v39.1 + 1), v44))) (
 some (.done v39.2))
def Xoc (p0 : Int) (v4 : Int) (q7 : (List Int)) (q8 : (List Int)) (v9 : Int) (v22 : (Int × (List Int))) : Option (Lp (Int × (List Int)) (List Int)) :=
 sel (decide (v22.1 < 8)) (
 bnd (loop (Xg2 p0 v4 q7 q8 v9 v22) (0, v22.2)) fun v43 =>
 some (.go (Xaa .i64 (v22.1 + 1), v43))) (
 some (.done v22.2))
def Xgg (p0 : Int) (p1 : Xi9) : Option (List Int) :=
 bnd (
 bnd (Xki p1) fun q2 =>
 sel q2 (
 bnd (Xal p0 0 3) fun q3 =>
 some (!q3)) (
 some true)) fun v1 =>
 sel v1 (
 some ([] : List Int)) (
 bnd (
 sel (decide ((Xaa .i64 ((p1.Above.length : Int) + (p1.Left.length : Int))) > 0)) (
 bnd (Xcp p1.Above) fun q5 =>
 bnd (Xcp p1.Left) fun q6 =>
 req ((2 : Int) ≠ 0) <|
 req ((Xaa .i64 ((p1.Above.length : Int) + (p1.Left.length : Int))) ≠ 0) <|
 some (Xaa .i64 ((Xaa .i64 ((Xaa .i64 (q5 + q6)) + (Xaa .i64 ((Xaa .i64 ((p1.Above.length : Int) + (p1.Left.length : Int))).tdiv 2)))).tdiv (Xaa .i64 ((p1.Above.length : Int) + (p1.Left.length : Int)))))) (
 some 128)) fun v4 =>
 bnd (Xmp p1.Above) fun q7 =>
 bnd (Xmp p1.Left) fun q8 =>
 bnd (
 sel (decide (p1.Corner < 0)) (
 some 128) (
 some p1.Corner)) fun v9 =>
 bnd (loop (Xoc p0 v4 q7 q8 v9) (0, ([] : List Int))) fun v35 =>
 some v35)
def Xbz (p0 : Pic) (p1 : Pic) (p2 : Int) (p3 : Int) (p4 : Xeu) (p5 : Int) (p6 : Int) (p7 : Xam) : Option ((List Int) × Bool) :=
 bnd (
 bnd (Xbt p0) fun q2 =>
 sel q2 (
 bnd (Xca p0 p5 p6) fun q3 =>
 sel q3 (
 bnd (Xal p2 0 256) fun q4 =>
 sel q4 (
 bnd (Xal p3 0 256) fun q5 =>
 sel q5 (
 bnd (Xgu p7) fun q6 =>
 sel q6 (
 bnd (Xdw p4) fun q7 =>
 sel q7 (
 bnd (Xel p7 p4) fun q8 =>
 sel q8 (
 sel (p7.Kind != 2) (
 bnd (Xbt p1) fun q9 =>
 some (!q9)) (
 some false)) (
 some true)) (
 some true)) (
 some true)) (
 some true)) (
 some true)) (
 some true)) (
 some true)) fun v1 =>
 sel v1 (
 some (([] : List Int), false)) (
 sel (p7.Kind == 0) (
 bnd (Xb8 p1 (Xaa .i64 (p2 + p5)) (Xaa .i64 (p3 + p6))) fun q10 =>
 some (q10, true)) (
 bnd (Xhu p7.Levels p4) fun q11 =>
 sel (p7.Kind == 1) (
 bnd (Xb8 p1 (Xaa .i64 ((Xaa .i64 (p2 + p5)) + p7.Dx)) (Xaa .i64 ((Xaa .i64 (p3 + p6)) + p7.Dy))) fun q12 =>
 bnd (Xmf q12 q11.1) fun q13 =>
 some (q13, true)) (
 bnd (Xkh p0 p5 p6) fun q14 =>
 bnd (Xgg p7.Mode q14.1) fun q15 =>
 bnd (Xmf q15 q11.1) fun q16 =>
 some (q16, true))))
def Xrz (p0 : Pic) : Option (List Int) :=
 req (p0.Dots.size ≤ maxLen) <|
 some (Xaz p0.Dots)
def Xs0 (p0 : Pic) (p1 : Int) (p2 : Int) (p3 : (List Int)) (v3 : (Int × (List Int))) : Option (Lp (Int × (List Int)) (List Int)) :=
 sel (decide (v3.1 < (p3.length : Int))) (
 req (0 ≤ v3.1 ∧ v3.1 < p3.length) <|
 req ((8 : Int) ≠ 0) <|
 req ((8 : Int) ≠ 0) <|
 req (0 ≤ (Xaa .i64 ((Xaa .i64 ((Xaa .i64 ((Xaa .i64 (p2 + (Xaa .i64 (v3.1.tdiv 8)))) * p0.Wide)) + p1)) + (v3.1.tmod 8))) ∧ (Xaa .i64 ((Xaa .i64 ((Xaa .i64 ((Xaa .i64 (p2 + (Xaa .i64 (v3.1.tdiv 8)))) * p0.Wide)) + p1)) + (v3.1.tmod 8))) < v3.2.length) <|
 req ((Xaa .i64 ((Xaa .i64 ((Xaa .i64 ((Xaa .i64 (p2 + (Xaa .i64 (v3.1.tdiv 8)))) * p0.Wide)) + p1)) + (v3.1.tmod 8))).toNat < v3.2.length) <|
 some (.go (Xaa .i64 (v3.1 + 1), (v3.2.set ((Xaa .i64 ((Xaa .i64 ((Xaa .i64 ((Xaa .i64 (p2 + (Xaa .i64 (v3.1.tdiv 8)))) * p0.Wide)) + p1)) + (v3.1.tmod 8))).toNat) (Xaa .u8 ((p3.getD v3.1.toNat 0))))))) (
 some (.done v3.2))
def Xvt (p0 : Pic) (p1 : Int) (p2 : Int) (p3 : (List Int)) : Option Pic :=
 bnd (Xrz p0) fun q1 =>
 bnd (loop (Xs0 p0 p1 p2 p3) (0, q1)) fun v5 =>
 some (⟨p0.Wide, p0.High, (strOfNums v5)⟩ : Pic)
def Xbd (p1 : Xyz) (p2 : Xeu) (p4 : (List Xam)) (v10 : (Int × Int × Int × Int × ByteArray)) (v16 : (Int × Int × Int × ByteArray)) : Option (Lp (Int × Int × Int × ByteArray) (Ou (Int × Int × ByteArray) (Pic × Bool))) :=
 sel (decide (v16.1 < (p4.length : Int))) (
 req (0 ≤ v16.1 ∧ v16.1 < p4.length) <|
 req ((8 : Int) ≠ 0) <|
 req ((Xaa .i64 (p1.Wide.tdiv 8)) ≠ 0) <|
 req ((8 : Int) ≠ 0) <|
 req ((Xaa .i64 (p1.Wide.tdiv 8)) ≠ 0) <|
 bnd (Xbz (⟨v16.2.1, v16.2.2.1, v16.2.2.2⟩ : Pic) (⟨v10.2.2.1, v10.2.2.2.1, v10.2.2.2.2⟩ : Pic) v10.1 v10.2.1 p2 (Xaa .i64 ((v16.1.tmod (Xaa .i64 (p1.Wide.tdiv 8))) * 8)) (Xaa .i64 ((Xaa .i64 (v16.1.tdiv (Xaa .i64 (p1.Wide.tdiv 8)))) * 8)) (⟨(p4.getD v16.1.toNat Xgo).Kind, (p4.getD v16.1.toNat Xgo).Mode, (p4.getD v16.1.toNat Xgo).Dx, (p4.getD v16.1.toNat Xgo).Dy, (p4.getD v16.1.toNat Xgo).Levels⟩ : Xam)) fun q21 =>
 sel (!q21.2) (
 some (.done (.ret ((⟨0, 0, ⟨#[]⟩⟩ : Pic), false)))) (
 bnd (Xvt (⟨v16.2.1, v16.2.2.1, v16.2.2.2⟩ : Pic) (Xaa .i64 ((v16.1.tmod (Xaa .i64 (p1.Wide.tdiv 8))) * 8)) (Xaa .i64 ((Xaa .i64 (v16.1.tdiv (Xaa .i64 (p1.Wide.tdiv 8)))) * 8)) q21.1) fun q22 =>
 some (.go (Xaa .i64 (v16.1 + 1), q22.Wide, q22.High, q22.Dots)))) (
 some (.done (.out (v16.2.1, v16.2.2.1, v16.2.2.2))))
def Xcv (p0 : Pic) (p1 : Xyz) (p2 : Xeu) (p3 : Bool) (p4 : (List Xam)) : Option (Pic × Bool) :=
 bnd (
 bnd (Xh3 p1.Wide) fun q2 =>
 sel q2 (
 bnd (Xh3 p1.High) fun q3 =>
 sel q3 (
 bnd (Xal p1.Left 0 256) fun q4 =>
 sel q4 (
 bnd (Xal p1.Top 0 256) fun q5 =>
 sel q5 (
 bnd (Xdw p2) fun q6 =>
 sel q6 (
 req ((8 : Int) ≠ 0) <|
 req ((8 : Int) ≠ 0) <|
 some ((p4.length : Int) != (Xaa .i64 ((Xaa .i64 (p1.Wide.tdiv 8)) * (Xaa .i64 (p1.High.tdiv 8)))))) (
 some true)) (
 some true)) (
 some true)) (
 some true)) (
 some true)) fun v1 =>
 sel v1 (
 some ((⟨0, 0, ⟨#[]⟩⟩ : Pic), false)) (
 bnd (
 sel p2.Key (
 some false) (
 bnd (Xbt p0) fun q8 =>
 sel q8 (
 bnd (Xb9 p0 p1) fun q9 =>
 some (!q9)) (
 some true))) fun v7 =>
 sel v7 (
 some ((⟨0, 0, ⟨#[]⟩⟩ : Pic), false)) (
 bnd (
 sel p3 (
 sel (!p2.Key) (
 bnd (Xo5 p0 p1) fun q11 =>
 some (0, 0, q11.1.Wide, q11.1.High, q11.1.Dots)) (
 some (0, 0, p0.Wide, p0.High, p0.Dots))) (
 some (p1.Left, p1.Top, p0.Wide, p0.High, p0.Dots))) fun v10 =>
 bnd (Xnp p1.Wide p1.High) fun q12 =>
 bnd (loop (Xbd p1 p2 p4 v10) (0, q12.Wide, q12.High, q12.Dots)) fun o23 => match o23 with
| .out v20 => (
 some ((⟨v20.1, v20.2.1, v20.2.2⟩ : Pic), true))
| .ret r => some r))
def Xm8 (p0 : Pic) (p1 : Pic) (p2 : Int) (p3 : Int) (v7 : (Int × (List Int))) : Option (Lp (Int × (List Int)) (List Int)) :=
 sel (decide (v7.1 < p1.High)) (
 req (0 ≤ (Xaa .i64 ((Xaa .i64 ((Xaa .i64 (p3 + v7.1)) * p0.Wide)) + p2)) ∧ (Xaa .i64 ((Xaa .i64 ((Xaa .i64 (p3 + v7.1)) * p0.Wide)) + p2)) ≤ (v7.2.length : Int) ∧ (v7.2.length : Int) ≤ (v7.2.length : Int)) <|
 req (0 ≤ (Xaa .i64 (v7.1 * p1.Wide)) ∧ (Xaa .i64 (v7.1 * p1.Wide)) ≤ (Xaa .i64 ((Xaa .i64 (v7.1 + 1)) * p1.Wide)) ∧ (Xaa .i64 ((Xaa .i64 (v7.1 + 1)) * p1.Wide)) ≤ (p1.Dots.size : Int)) <|
 req (((Xaa .i64 ((Xaa .i64 ((Xaa .i64 (p3 + v7.1)) * p0.Wide)) + p2)).toNat + ((v7.2.length : Int).toNat - (Xaa .i64 ((Xaa .i64 ((Xaa .i64 (p3 + v7.1)) * p0.Wide)) + p2)).toNat) ≤ v7.2.length ∧ (Xaz (p1.Dots.extract (Xaa .i64 (v7.1 * p1.Wide)).toNat (Xaa .i64 ((Xaa .i64 (v7.1 + 1)) * p1.Wide)).toNat)).length ≤ ((v7.2.length : Int).toNat - (Xaa .i64 ((Xaa .i64 ((Xaa .i64 (p3 + v7.1)) * p0.Wide)) + p2)).toNat))) <|
 some (.go (Xaa .i64 (v7.1 + 1), (over v7.2 ((Xaa .i64 ((Xaa .i64 ((Xaa .i64 (p3 + v7.1)) * p0.Wide)) + p2)).toNat) (Xaz (p1.Dots.extract (Xaa .i64 (v7.1 * p1.Wide)).toNat (Xaa .i64 ((Xaa .i64 (v7.1 + 1)) * p1.Wide)).toNat)))))) (
 some (.done v7.2))
def Xmi (p0 : Pic) (p1 : Pic) (p2 : Int) (p3 : Int) : Option (Pic × Bool) :=
 bnd (
 bnd (Xbt p0) fun q2 =>
 sel q2 (
 bnd (Xbt p1) fun q3 =>
 sel q3 (
 bnd (Xb9 p0 (⟨p2, p3, p1.Wide, p1.High⟩ : Xyz)) fun q4 =>
 some (!q4)) (
 some true)) (
 some true)) fun v1 =>
 sel v1 (
 some (p0, false)) (
 bnd (Xrz p0) fun q5 =>
 bnd (loop (Xm8 p0 p1 p2 p3) (0, q5)) fun v9 =>
 some ((⟨p0.Wide, p0.High, (strOfNums v9)⟩ : Pic), true))
def Xrx (p0 : Int) (p1 : Int) : Option Int :=
 req (0 ≤ p1) <|
 req ((Xaa .i64 (1 * 2 ^ min p1.toNat (IntKind.bits .i64))) ≠ 0) <|
 some ((Xaa .i64 (p0 + 1)).tmod (Xaa .i64 (1 * 2 ^ min p1.toNat (IntKind.bits .i64))))
def Xdt (p0 : Xa3) (p1 : Bool) (p2 : ByteArray) : Option (Xa3 × Int × Pic × Xa3) :=
 bnd (
 sel p0.HasSeq (
 some (!p0.HasPar)) (
 some true)) fun v1 =>
 sel v1 (
 some (p0, 4, (⟨0, 0, ⟨#[]⟩⟩ : Pic), p0)) (
 bnd (Xip p0.Seq p0.Par p2) fun q2 =>
 sel (!q2.2.2) (
 some (p0, 5, (⟨0, 0, ⟨#[]⟩⟩ : Pic), p0)) (
 sel (q2.1.Tile != p0.Got) (
 some (p0, 6, (⟨0, 0, ⟨#[]⟩⟩ : Pic), p0)) (
 bnd (
 sel (p0.Frame != (-1)) (
 some (p0.Frame != q2.1.Frame)) (
 some false)) fun v3 =>
 sel v3 (
 some (p0, 7, (⟨0, 0, ⟨#[]⟩⟩ : Pic), p0)) (
 bnd (
 sel p1 (
 some false) (
 some (!p0.HasRef))) fun v4 =>
 sel v4 (
 some (p0, 8, (⟨0, 0, ⟨#[]⟩⟩ : Pic), p0)) (
 bnd (Xg5 p0.Seq q2.1.Tile) fun q5 =>
 bnd (Xiq p2 q2.2.1 q5 (⟨p1, q2.1.Qp, p0.Par.Large, p0.Par.Exact⟩ : Xeu)) fun q6 =>
 sel (!q6.2) (
 some (p0, 9, (⟨0, 0, ⟨#[]⟩⟩ : Pic), p0)) (
 bnd (Xir p0.Seq q2.1.Tile) fun q7 =>
 bnd (Xcv p0.Ref q7.1 (⟨p1, q2.1.Qp, p0.Par.Large, p0.Par.Exact⟩ : Xeu) p0.Par.Confined q6.1) fun q8 =>
 bnd (
 sel (p0.Got == 0) (
 bnd (Xka p0.Seq) fun q10 =>
 bnd (Xnp q10.1 q10.2) fun q11 =>
 some (q11.Wide, q11.High, q11.Dots)) (
 some (p0.Now.Wide, p0.Now.High, p0.Now.Dots))) fun v9 =>
 bnd (Xmi (⟨v9.1, v9.2.1, v9.2.2⟩ : Pic) q8.1 q7.1.Left q7.1.Top) fun q12 =>
 bnd (Xfc p0.Seq) fun q13 =>
 sel (decide ((Xaa .i64 (p0.Got + 1)) < q13)) (
 some ((⟨p0.HasSeq, p0.HasPar, p0.HasRef, p0.Seq, p0.Par, q2.1.Frame, Xaa .i64 (p0.Got + 1), q12.1, p0.Ref⟩ : Xa3), 0, (⟨0, 0, ⟨#[]⟩⟩ : Pic), p0)) (
 bnd (Xrx q2.1.Frame p0.Seq.Bits) fun q14 =>
 some ((⟨p0.HasSeq, p0.HasPar, true, p0.Seq, p0.Par, q14, 0, (⟨0, 0, ⟨#[]⟩⟩ : Pic), q12.1⟩ : Xa3), 0, q12.1, p0))))))))
def Xds (p0 : Xa3) (p1 : ByteArray) : Option (Xa3 × Int × Pic) :=
 bnd (Xbq p0) fun q1 =>
 bnd (Xo6 q1) fun q2 =>
 sel (!q2) (
 some (q1, 1, (⟨0, 0, ⟨#[]⟩⟩ : Pic))) (
 bnd (Xpq p1) fun q3 =>
 sel (!q3.2.2) (
 some (q1, 2, (⟨0, 0, ⟨#[]⟩⟩ : Pic))) (
 sel (q3.1 == 7) (
 bnd (Xnt q3.2.1 0) fun q4 =>
 bnd (
 sel q4.2.2 (
 some (q4.2.1 != (q3.2.1.size : Int))) (
 some true)) fun v5 =>
 sel v5 (
 some (q1, 3, (⟨0, 0, ⟨#[]⟩⟩ : Pic))) (
 bnd (Xpk) fun q6 =>
 some ((⟨true, q6.HasPar, q6.HasRef, q4.1, q6.Par, q6.Frame, q6.Got, q6.Now, q6.Ref⟩ : Xa3), 0, (⟨0, 0, ⟨#[]⟩⟩ : Pic)))) (
 sel (q3.1 == 8) (
 bnd (Xns q3.2.1 0) fun q7 =>
 bnd (
 sel q7.2.2 (
 some (q7.2.1 != (q3.2.1.size : Int))) (
 some true)) fun v8 =>
 sel v8 (
 some (q1, 3, (⟨0, 0, ⟨#[]⟩⟩ : Pic))) (
 bnd (
 sel q1.HasSeq (
 some (decide (q1.Got > 0))) (
 some true)) fun v9 =>
 sel v9 (
 some (q1, 4, (⟨0, 0, ⟨#[]⟩⟩ : Pic))) (
 some ((⟨q1.HasSeq, true, q1.HasRef, q1.Seq, q7.1, q1.Frame, q1.Got, q1.Now, q1.Ref⟩ : Xa3), 0, (⟨0, 0, ⟨#[]⟩⟩ : Pic))))) (
 bnd (Xdt q1 (q3.1 == 5) q3.2.1) fun q11 =>
 some ((⟨q11.1.HasSeq, q11.1.HasPar, q11.1.HasRef, (⟨q11.1.Seq.Level, q11.1.Seq.Bits, q11.2.2.2.Seq.Cols, q11.2.2.2.Seq.Rows⟩ : Seq), q11.1.Par, q11.1.Frame, q11.1.Got, q11.1.Now, q11.1.Ref⟩ : Xa3), q11.2.1, q11.2.2.1)))))
def Xhb (p1 : (List ByteArray)) (v6 : (Int × Bool × Bool × Bool × Int × Int × Int × Bool × Bool × Bool × Int × Int × Int × Int × ByteArray × Int × Int × ByteArray × (List Pic) × (List Int) × (List Int) × (List Int))) : Option (Lp (Int × Bool × Bool × Bool × Int × Int × Int × Bool × Bool × Bool × Int × Int × Int × Int × ByteArray × Int × Int × ByteArray × (List Pic) × (List Int) × (List Int) × (List Int)) (Bool × Bool × Bool × Int × Int × Int × Bool × Bool × Bool × Int × Int × Int × Int × ByteArray × Int × Int × ByteArray × (List Pic) × (List Int) × (List Int) × (List Int))) :=
 sel (decide (v6.1 < (p1.length : Int))) (
 bnd (
 req (0 ≤ v6.1 ∧ v6.1 < p1.length) <|
 bnd (Xds (⟨v6.2.1, v6.2.2.1, v6.2.2.2.1, (⟨v6.2.2.2.2.1, v6.2.2.2.2.2.1, v6.2.2.2.2.2.2.2.2.2.2.2.2.2.2.2.2.2.2.2.2.1, v6.2.2.2.2.2.2.2.2.2.2.2.2.2.2.2.2.2.2.2.2.2⟩ : Seq), (⟨v6.2.2.2.2.2.2.1, v6.2.2.2.2.2.2.2.1, v6.2.2.2.2.2.2.2.2.1, v6.2.2.2.2.2.2.2.2.2.1⟩ : Par), v6.2.2.2.2.2.2.2.2.2.2.1, v6.2.2.2.2.2.2.2.2.2.2.2.1, (⟨v6.2.2.2.2.2.2.2.2.2.2.2.2.1, v6.2.2.2.2.2.2.2.2.2.2.2.2.2.1, v6.2.2.2.2.2.2.2.2.2.2.2.2.2.2.1⟩ : Pic), (⟨v6.2.2.2.2.2.2.2.2.2.2.2.2.2.2.2.1, v6.2.2.2.2.2.2.2.2.2.2.2.2.2.2.2.2.1, v6.2.2.2.2.2.2.2.2.2.2.2.2.2.2.2.2.2.1⟩ : Pic)⟩ : Xa3) (p1.getD v6.1.toNat Ybg)) fun q13 =>
 req ((v6.2.2.2.2.2.2.2.2.2.2.2.2.2.2.2.2.2.2.2.1.length + ([q13.2.1]).length) * 8 ≤ 140737488355328 ∧ v6.2.2.2.2.2.2.2.2.2.2.2.2.2.2.2.2.2.2.2.1.length + ([q13.2.1]).length ≤ maxLen) <|
 bnd (Xbt q13.2.2) fun q14 =>
 sel q14 (
 req ((v6.2.2.2.2.2.2.2.2.2.2.2.2.2.2.2.2.2.2.1.length + ([q13.2.2]).length) * 32 ≤ 140737488355328 ∧ v6.2.2.2.2.2.2.2.2.2.2.2.2.2.2.2.2.2.2.1.length + ([q13.2.2]).length ≤ maxLen) <|
 some (q13.1.HasSeq, q13.1.HasPar, q13.1.HasRef, q13.1.Seq.Level, q13.1.Seq.Bits, q13.1.Par.Qp, q13.1.Par.Large, q13.1.Par.Exact, q13.1.Par.Confined, q13.1.Frame, q13.1.Got, q13.1.Now.Wide, q13.1.Now.High, q13.1.Now.Dots, q13.1.Ref.Wide, q13.1.Ref.High, q13.1.Ref.Dots, (v6.2.2.2.2.2.2.2.2.2.2.2.2.2.2.2.2.2.2.1 ++ ([q13.2.2])), (v6.2.2.2.2.2.2.2.2.2.2.2.2.2.2.2.2.2.2.2.1 ++ ([q13.2.1])), q13.1.Seq.Cols, q13.1.Seq.Rows)) (
 some (q13.1.HasSeq, q13.1.HasPar, q13.1.HasRef, q13.1.Seq.Level, q13.1.Seq.Bits, q13.1.Par.Qp, q13.1.Par.Large, q13.1.Par.Exact, q13.1.Par.Confined, q13.1.Frame, q13.1.Got, q13.1.Now.Wide, q13.1.Now.High, q13.1.Now.Dots, q13.1.Ref.Wide, q13.1.Ref.High, q13.1.Ref.Dots, v6.2.2.2.2.2.2.2.2.2.2.2.2.2.2.2.2.2.2.1, (v6.2.2.2.2.2.2.2.2.2.2.2.2.2.2.2.2.2.2.2.1 ++ ([q13.2.1])), q13.1.Seq.Cols, q13.1.Seq.Rows))) fun v12 =>
 some (.go (Xaa .i64 (v6.1 + 1), v12.1, v12.2.1, v12.2.2.1, v12.2.2.2.1, v12.2.2.2.2.1, v12.2.2.2.2.2.1, v12.2.2.2.2.2.2.1, v12.2.2.2.2.2.2.2.1, v12.2.2.2.2.2.2.2.2.1, v12.2.2.2.2.2.2.2.2.2.1, v12.2.2.2.2.2.2.2.2.2.2.1, v12.2.2.2.2.2.2.2.2.2.2.2.1, v12.2.2.2.2.2.2.2.2.2.2.2.2.1, v12.2.2.2.2.2.2.2.2.2.2.2.2.2.1, v12.2.2.2.2.2.2.2.2.2.2.2.2.2.2.1, v12.2.2.2.2.2.2.2.2.2.2.2.2.2.2.2.1, v12.2.2.2.2.2.2.2.2.2.2.2.2.2.2.2.2.1, v12.2.2.2.2.2.2.2.2.2.2.2.2.2.2.2.2.2.1, v12.2.2.2.2.2.2.2.2.2.2.2.2.2.2.2.2.2.2.1, v12.2.2.2.2.2.2.2.2.2.2.2.2.2.2.2.2.2.2.2.1, v12.2.2.2.2.2.2.2.2.2.2.2.2.2.2.2.2.2.2.2.2))) (
 some (.done (v6.2.1, v6.2.2.1, v6.2.2.2.1, v6.2.2.2.2.1, v6.2.2.2.2.2.1, v6.2.2.2.2.2.2.1, v6.2.2.2.2.2.2.2.1, v6.2.2.2.2.2.2.2.2.1, v6.2.2.2.2.2.2.2.2.2.1, v6.2.2.2.2.2.2.2.2.2.2.1, v6.2.2.2.2.2.2.2.2.2.2.2.1, v6.2.2.2.2.2.2.2.2.2.2.2.2.1, v6.2.2.2.2.2.2.2.2.2.2.2.2.2.1, v6.2.2.2.2.2.2.2.2.2.2.2.2.2.2.1, v6.2.2.2.2.2.2.2.2.2.2.2.2.2.2.2.1, v6.2.2.2.2.2.2.2.2.2.2.2.2.2.2.2.2.1, v6.2.2.2.2.2.2.2.2.2.2.2.2.2.2.2.2.2.1, v6.2.2.2.2.2.2.2.2.2.2.2.2.2.2.2.2.2.2.1, v6.2.2.2.2.2.2.2.2.2.2.2.2.2.2.2.2.2.2.2.1, v6.2.2.2.2.2.2.2.2.2.2.2.2.2.2.2.2.2.2.2.2.1, v6.2.2.2.2.2.2.2.2.2.2.2.2.2.2.2.2.2.2.2.2.2)))
def Xpj (p0 : Xa3) (p1 : (List ByteArray)) : Option (Xa3 × (List Pic) × (List Int)) :=
 bnd (Xbq p0) fun q1 =>
 sel (decide ((p1.length : Int) > 400)) (
 some (q1, ([] : List Pic), ([] : List Int))) (
 bnd (loop (Xhb p1) (0, q1.HasSeq, q1.HasPar, q1.HasRef, q1.Seq.Level, q1.Seq.Bits, q1.Par.Qp, q1.Par.Large, q1.Par.Exact, q1.Par.Confined, q1.Frame, q1.Got, q1.Now.Wide, q1.Now.High, q1.Now.Dots, q1.Ref.Wide, q1.Ref.High, q1.Ref.Dots, ([] : List Pic), ([] : List Int), q1.Seq.Cols, q1.Seq.Rows)) fun v11 =>
 some ((⟨v11.1, v11.2.1, v11.2.2.1, (⟨v11.2.2.2.1, v11.2.2.2.2.1, v11.2.2.2.2.2.2.2.2.2.2.2.2.2.2.2.2.2.2.2.1, v11.2.2.2.2.2.2.2.2.2.2.2.2.2.2.2.2.2.2.2.2⟩ : Seq), (⟨v11.2.2.2.2.2.1, v11.2.2.2.2.2.2.1, v11.2.2.2.2.2.2.2.1, v11.2.2.2.2.2.2.2.2.1⟩ : Par), v11.2.2.2.2.2.2.2.2.2.1, v11.2.2.2.2.2.2.2.2.2.2.1, (⟨v11.2.2.2.2.2.2.2.2.2.2.2.1, v11.2.2.2.2.2.2.2.2.2.2.2.2.1, v11.2.2.2.2.2.2.2.2.2.2.2.2.2.1⟩ : Pic), (⟨v11.2.2.2.2.2.2.2.2.2.2.2.2.2.2.1, v11.2.2.2.2.2.2.2.2.2.2.2.2.2.2.2.1, v11.2.2.2.2.2.2.2.2.2.2.2.2.2.2.2.2.1⟩ : Pic)⟩ : Xa3), v11.2.2.2.2.2.2.2.2.2.2.2.2.2.2.2.2.2.1, v11.2.2.2.2.2.2.2.2.2.2.2.2.2.2.2.2.2.2.1))
def Xl8 (p0 : Xbw) : Option (Rate × Xbw) :=
 bnd (Xa6 p0 2000) fun q1 =>
 bnd (Xa6 q1.2 41) fun q2 =>
 bnd (Xa6 q2.2 (Xaa .i64 ((Xaa .i64 (16 * (Xaa .i64 (1 + q1.1)))) + 1))) fun q3 =>
 some ((⟨q2.1, Xaa .i64 (1 + q1.1), Xaa .i64 (q3.1 - (Xaa .i64 (8 * (Xaa .i64 (1 + q1.1)))))⟩ : Rate), q3.2)
def Xj4 (p0 : (List Int)) (p1 : (List Int)) (v3 : Int) : Option (Lp Int (Ou Unit Int)) :=
 sel (decide (v3 ≤ 3)) (
 bnd (Xmz (⟨v3, 3, p0, p1⟩ : Seq)) fun q7 =>
 sel q7 (
 some (.done (.ret v3))) (
 some (.go (Xaa .i64 (v3 + 1))))) (
 some (.done (.out ())))
def Xlt (p0 : (List Int)) (p1 : (List Int)) : Option Int :=
 bnd (loop (Xj4 p0 p1) 1) fun o8 => match o8 with
| .out v6 => (
 some 0)
| .ret r => some r
def Xp2 (p0 : Rate) : Option Bool :=
 bnd (
 bnd (Xar p0.Qp 0 40) fun q2 =>
 sel q2 (
 bnd (Xar p0.Target 1 100000) fun q3 =>
 sel q3 (
 bnd (Xar p0.Debt (Xaa .i64 ((-8) * p0.Target)) (Xaa .i64 (8 * p0.Target))) fun q4 =>
 some q4) (
 some false)) (
 some false)) fun v1 =>
 some v1
def Xm1 (p0 : Seq) : Option (Int × Int) :=
 bnd (Xmz p0) fun q1 =>
 sel (!q1) (
 some (0, 0)) (
 bnd (Xig p0.Cols) fun q2 =>
 bnd (Xig p0.Rows) fun q3 =>
 some (Xaa .i64 (8 * q2), Xaa .i64 (8 * q3)))
def Xe4 (p0 : Pic) : Option Bool :=
 bnd (
 bnd (Xar p0.Wide 1 256) fun q2 =>
 sel q2 (
 bnd (Xar p0.High 1 256) fun q3 =>
 sel q3 (
 some ((p0.Dots.size : Int) == (Xaa .i64 (p0.Wide * p0.High)))) (
 some false)) (
 some false)) fun v1 =>
 some v1
def Xlu (p0 : Xbb) : Option Bool :=
 bnd (
 bnd (Xkw p0.Seq) fun q2 =>
 sel (q2 != 1) (
 some true) (
 bnd (Xsh p0.Par) fun q3 =>
 sel q3 (
 bnd (Xp2 p0.Rate) fun q4 =>
 sel q4 (
 sel (decide (p0.Frame < 0)) (
 some true) (
 req (0 ≤ (Xaa .u64 (p0.Seq.Bits))) <|
 some (decide (p0.Frame ≥ (Xaa .i64 (1 * 2 ^ min (Xaa .u64 (p0.Seq.Bits)).toNat (IntKind.bits .i64))))))) (
 some true)) (
 some true))) fun v1 =>
 sel v1 (
 some false) (
 bnd (
 bnd (Xar p0.Every 1 1000) fun q6 =>
 sel q6 (
 bnd (Xar p0.Since 0 1000) fun q7 =>
 sel q7 (
 bnd (Xar p0.Reach 0 4) fun q8 =>
 some (!q8)) (
 some true)) (
 some true)) fun v5 =>
 sel v5 (
 some false) (
 bnd (Xm1 p0.Seq) fun q9 =>
 sel p0.Has (
 bnd (
 bnd (Xe4 p0.Ref) fun q11 =>
 sel q11 (
 sel (p0.Ref.Wide == q9.1) (
 some (p0.Ref.High == q9.2)) (
 some false)) (
 some false)) fun v10 =>
 some v10) (
 bnd (
 sel (p0.Ref.Wide == 0) (
 sel (p0.Ref.High == 0) (
 some ((p0.Ref.Dots.size : Int) == 0)) (
 some false)) (
 some false)) fun v12 =>
 some v12)))
def Xjq (p0 : Int) (p1 : Int) (p2 : Int) (p3 : Par) (p4 : Rate) (p5 : Int) (p6 : Int) : Option (Xbb × Bool) :=
 bnd (Xlt ([p0]) ([p1])) fun q1 =>
 bnd (Xlu (⟨(⟨q1, p2, [p0], [p1]⟩ : Seq), p3, p4, 0, 0, p5, p6, false, (⟨0, 0, ⟨#[]⟩⟩ : Pic)⟩ : Xbb)) fun q2 =>
 sel (!q2) (
 some ((⟨(⟨0, 0, [], []⟩ : Seq), (⟨0, false, false, false⟩ : Par), (⟨0, 0, 0⟩ : Rate), 0, 0, 0, 0, false, (⟨0, 0, ⟨#[]⟩⟩ : Pic)⟩ : Xbb), false)) (
 some ((⟨(⟨q1, p2, [p0], [p1]⟩ : Seq), p3, p4, 0, 0, p5, p6, false, (⟨0, 0, ⟨#[]⟩⟩ : Pic)⟩ : Xbb), true))
def Xl2 (p1 : Int) (v7 : (Int × Int × (List Int) × Int × Int × (List Int))) : Option (Lp (Int × Int × (List Int) × Int × Int × (List Int)) ((List Int) × (List Int) × Int × Int)) :=
 sel (decide (v7.2.1 < p1)) (
 bnd (
 bnd (Xa6 (⟨v7.2.2.1, v7.2.2.2.1, v7.2.2.2.2.1⟩ : Xbw) 6) fun q15 =>
 sel (q15.1 == 0) (
 bnd (Xcs q15.2) fun q16 =>
 some (q16.1, q16.2.b_, q16.2.i_, q16.2.h_)) (
 sel (q15.1 == 1) (
 bnd (Xa6 q15.2 9) fun q17 =>
 some ((IntKind.wrap .i64 (BitVec.ofInt (IntKind.bits .i64) (Xaa .i64 ((Xaa .i64 (v7.1 + q17.1)) + 252)) &&& BitVec.ofInt (IntKind.bits .i64) 255).toNat), q17.2.b_, q17.2.i_, q17.2.h_)) (
 some (v7.1, q15.2.b_, q15.2.i_, q15.2.h_)))) fun v14 =>
 req ((v7.2.2.2.2.2.length + ([Xaa .u8 (v14.1)]).length) * 1 ≤ 140737488355328 ∧ v7.2.2.2.2.2.length + ([Xaa .u8 (v14.1)]).length ≤ maxLen) <|
 some (.go (v14.1, Xaa .i64 (v7.2.1 + 1), v14.2.1, v14.2.2.1, v14.2.2.2, (v7.2.2.2.2.2 ++ ([Xaa .u8 (v14.1)]))))) (
 some (.done (v7.2.2.2.2.2, v7.2.2.1, v7.2.2.2.1, v7.2.2.2.2.1)))
def Xn5 (p0 : Xbw) (p1 : Int) : Option (ByteArray × Xbw) :=
 bnd (Xcs p0) fun q1 =>
 bnd (loop (Xl2 p1) (q1.1, 0, q1.2.b_, q1.2.i_, q1.2.h_, ([] : List Int))) fun v13 =>
 some ((strOfNums v13.1), (⟨v13.2.1, v13.2.2.1, v13.2.2.2⟩ : Xbw))
def Xi1 (p0 : Xbw) (p1 : Int) (p2 : Int) : Option (Pic × Xbw) :=
 bnd (Xn5 p0 (Xaa .i64 (p1 * p2))) fun q1 =>
 some ((⟨p1, p2, q1.1⟩ : Pic), q1.2)
def Xff (p0 : Int) (p1 : Int) (p2 : Int) : Option Int :=
 bnd (
 sel (decide (p2 < p1)) (
 some true) (
 some (decide (p0 < p1)))) fun v1 =>
 sel v1 (
 some p1) (
 sel (decide (p0 > p2)) (
 some p2) (
 some p0))
def Xe3 (p0 : Pic) (p1 : Int) (p2 : Int) : Option Int :=
 bnd (Xe4 p0) fun q1 =>
 sel (!q1) (
 some (-1)) (
 bnd (Xff p2 0 (Xaa .i64 (p0.High - 1))) fun q2 =>
 bnd (Xff p1 0 (Xaa .i64 (p0.Wide - 1))) fun q3 =>
 req (0 ≤ (Xaa .i64 ((Xaa .i64 (q2 * p0.Wide)) + q3)) ∧ (Xaa .i64 ((Xaa .i64 (q2 * p0.Wide)) + q3)) < p0.Dots.size) <|
 some (Xaa .i64 ((Xuh p0.Dots (Xaa .i64 ((Xaa .i64 (q2 * p0.Wide)) + q3))))))
def Xl5 (p1 : Pic) (v3 : (Int × Int × (List Int) × Int × Int)) (v7 : (Int × (List Int))) : Option (Lp (Int × (List Int)) (List Int)) :=
 sel (decide (v7.1 < (p1.Dots.size : Int))) (
 req (p1.Wide ≠ 0) <|
 req (p1.Wide ≠ 0) <|
 bnd (Xe3 p1 (Xaa .i64 ((v7.1.tmod p1.Wide) + v3.1)) (Xaa .i64 ((Xaa .i64 (v7.1.tdiv p1.Wide)) + v3.2.1))) fun q11 =>
 req ((v7.2.length + ([Xaa .u8 (q11)]).length) * 1 ≤ 140737488355328 ∧ v7.2.length + ([Xaa .u8 (q11)]).length ≤ maxLen) <|
 some (.go (Xaa .i64 (v7.1 + 1), (v7.2 ++ ([Xaa .u8 (q11)]))))) (
 some (.done v7.2))
def Xl6 (v17 : (Int × (List Int) × Int × Int × (List Int))) : Option (Lp (Int × (List Int) × Int × Int × (List Int)) ((List Int) × (List Int) × Int × Int)) :=
 bnd (Xa6 (⟨v17.2.1, v17.2.2.1, v17.2.2.2.1⟩ : Xbw) 6) fun q23 =>
 sel (decide (v17.1 < q23.1)) (
 bnd (Xa6 q23.2 (v17.2.2.2.2.length : Int)) fun q24 =>
 bnd (Xcs q24.2) fun q25 =>
 req (0 ≤ q24.1 ∧ q24.1 < v17.2.2.2.2.length) <|
 req (q24.1.toNat < v17.2.2.2.2.length) <|
 some (.go (Xaa .i64 (v17.1 + 1), q25.2.b_, q25.2.i_, q25.2.h_, (v17.2.2.2.2.set q24.1.toNat (Xaa .u8 (q25.1)))))) (
 some (.done (v17.2.2.2.2, q23.2.b_, q23.2.i_, q23.2.h_)))
def Xn7 (p0 : Xbw) (p1 : Pic) : Option (Pic × Xbw) :=
 bnd (Xa6 p0 7) fun q1 =>
 bnd (Xa6 q1.2 5) fun q2 =>
 bnd (
 bnd (Xgk q2.2 3) fun q4 =>
 sel q4.1 (
 some (0, 0, q4.2.b_, q4.2.i_, q4.2.h_)) (
 some (Xaa .i64 (q1.1 - 3), Xaa .i64 (q2.1 - 2), q4.2.b_, q4.2.i_, q4.2.h_))) fun v3 =>
 bnd (loop (Xl5 p1 v3) (0, ([] : List Int))) fun v10 =>
 bnd (loop (Xl6) (0, v3.2.2.1, v3.2.2.2.1, v3.2.2.2.2, v10)) fun v22 =>
 some ((⟨p1.Wide, p1.High, (strOfNums v22.1)⟩ : Pic), (⟨v22.2.1, v22.2.2.1, v22.2.2.2⟩ : Xbw))
def Xix (q9 : (Int × Int)) (v18 : (Int × (List Int) × Int × Int × Int × Int × ByteArray × (List Pic) × (List Bool))) : Option (Lp (Int × (List Int) × Int × Int × Int × Int × ByteArray × (List Pic) × (List Bool)) ((List Pic) × (List Bool))) :=
 bnd (Xa6 (⟨v18.2.1, v18.2.2.1, v18.2.2.2.1⟩ : Xbw) 4) fun q27 =>
 sel (decide (v18.1 < (Xaa .i64 (2 + q27.1)))) (
 bnd (
 req ((v18.2.2.2.2.2.2.2.1.length + ([(⟨v18.2.2.2.2.1, v18.2.2.2.2.2.1, v18.2.2.2.2.2.2.1⟩ : Pic)]).length) * 32 ≤ 140737488355328 ∧ v18.2.2.2.2.2.2.2.1.length + ([(⟨v18.2.2.2.2.1, v18.2.2.2.2.2.1, v18.2.2.2.2.2.2.1⟩ : Pic)]).length ≤ maxLen) <|
 bnd (Xgk q27.2 4) fun q29 =>
 req ((v18.2.2.2.2.2.2.2.2.length + ([q29.1]).length) * 1 ≤ 140737488355328 ∧ v18.2.2.2.2.2.2.2.2.length + ([q29.1]).length ≤ maxLen) <|
 bnd (Xn7 q29.2 (⟨v18.2.2.2.2.1, v18.2.2.2.2.2.1, v18.2.2.2.2.2.2.1⟩ : Pic)) fun q30 =>
 bnd (Xgk q30.2 4) fun q31 =>
 sel q31.1 (
 bnd (Xi1 q31.2 q9.1 q9.2) fun q32 =>
 some (q32.2.b_, q32.2.i_, q32.2.h_, q32.1.Wide, q32.1.High, q32.1.Dots, (v18.2.2.2.2.2.2.2.2 ++ ([q29.1])))) (
 some (q31.2.b_, q31.2.i_, q31.2.h_, q30.1.Wide, q30.1.High, q30.1.Dots, (v18.2.2.2.2.2.2.2.2 ++ ([q29.1]))))) fun v28 =>
 some (.go (Xaa .i64 (v18.1 + 1), v28.1, v28.2.1, v28.2.2.1, v28.2.2.2.1, v28.2.2.2.2.1, v28.2.2.2.2.2.1, (v18.2.2.2.2.2.2.2.1 ++ ([(⟨v18.2.2.2.2.1, v18.2.2.2.2.2.1, v18.2.2.2.2.2.2.1⟩ : Pic)])), v28.2.2.2.2.2.2))) (
 some (.done (v18.2.2.2.2.2.2.2.1, v18.2.2.2.2.2.2.2.2)))
def Xjm (p0 : (List Int)) : Option (Xbb × (List Pic) × (List Bool)) :=
 bnd (Xp5 p0) fun q1 =>
 bnd (Xa6 q1 2) fun q2 =>
 bnd (Xa6 q2.2 2) fun q3 =>
 bnd (Xha q3.2) fun q4 =>
 bnd (Xl8 q4.2) fun q5 =>
 bnd (Xa6 q5.2 5) fun q6 =>
 bnd (Xa6 q6.2 3) fun q7 =>
 bnd (Xjq (Xaa .i64 (1 + q2.1)) (Xaa .i64 (1 + q3.1)) 3 q4.1 q5.1 (Xaa .i64 (1 + q6.1)) q7.1) fun q8 =>
 bnd (Xm1 q8.1.Seq) fun q9 =>
 bnd (Xi1 q7.2 q9.1 q9.2) fun q10 =>
 bnd (loop (Xix q9) (0, q10.2.b_, q10.2.i_, q10.2.h_, q10.1.Wide, q10.1.High, q10.1.Dots, ([] : List Pic), ([] : List Bool))) fun v26 =>
 some (q8.1, v26.1, v26.2)
def Xj9 (p0 : Rate) : Option Bool :=
 bnd (
 bnd (Xal p0.Qp 0 40) fun q2 =>
 sel q2 (
 bnd (Xal p0.Target 1 100000) fun q3 =>
 sel q3 (
 bnd (Xal p0.Debt (Xaa .i64 ((-8) * p0.Target)) (Xaa .i64 (8 * p0.Target))) fun q4 =>
 some q4) (
 some false)) (
 some false)) fun v1 =>
 some v1
def Xfb (p0 : Xbb) : Option Bool :=
 bnd (
 bnd (Xfc p0.Seq) fun q2 =>
 sel (q2 != 1) (
 some true) (
 bnd (Xhc p0.Par) fun q3 =>
 sel q3 (
 bnd (Xj9 p0.Rate) fun q4 =>
 sel q4 (
 req (0 ≤ p0.Seq.Bits) <|
 bnd (Xal p0.Frame 0 (Xaa .i64 ((Xaa .i64 (1 * 2 ^ min p0.Seq.Bits.toNat (IntKind.bits .i64))) - 1))) fun q5 =>
 sel q5 (
 bnd (Xal p0.Every 1 1000) fun q6 =>
 sel q6 (
 bnd (Xal p0.Since 0 1000) fun q7 =>
 sel q7 (
 bnd (Xal p0.Reach 0 4) fun q8 =>
 some (!q8)) (
 some true)) (
 some true)) (
 some true)) (
 some true)) (
 some true))) fun v1 =>
 sel v1 (
 some false) (
 sel p0.Has (
 bnd (Xnw p0.Ref p0.Seq) fun q9 =>
 some q9) (
 some (((p0.Ref.Wide == 0) && ((p0.Ref.High == 0) && (p0.Ref.Dots.toList == (⟨#[]⟩ : ByteArray).toList))) == true)))
def Xmg (p0 : Xbb) (p1 : Bool) : Option Bool :=
 bnd (
 bnd (Xfb p0) fun q2 =>
 sel q2 (
 sel p1 (
 some true) (
 sel p0.Has (
 some (decide (p0.Since ≥ p0.Every))) (
 some true))) (
 some false)) fun v1 =>
 some v1
def Xem (p0 : Xbb) : Option Xbb :=
 bnd (Xkm p0.Seq) fun q1 =>
 some (⟨q1, p0.Par, p0.Rate, p0.Frame, p0.Since, p0.Every, p0.Reach, p0.Has, p0.Ref⟩ : Xbb)
def Xrs (p0 : Rate) (p1 : Bool) : Option Int :=
 bnd (Xj9 p0) fun q1 =>
 sel (!q1) (
 some 0) (
 sel p1 (
 some (if (Xaa .i64 (p0.Qp - 2)) > (0 : Int) then (Xaa .i64 (p0.Qp - 2)) else (0 : Int))) (
 some p0.Qp))
def Xny (p0 : Int) : Option Int :=
 some (if (Xaa .i64 (0 - p0)) > p0 then (Xaa .i64 (0 - p0)) else p0)
def Xps (p0 : (List Int)) (p1 : (List Int)) (v3 : (Int × Int)) : Option (Lp (Int × Int) Int) :=
 sel (decide (v3.2 < (p0.length : Int))) (
 req (0 ≤ v3.2 ∧ v3.2 < p0.length) <|
 req (0 ≤ v3.2 ∧ v3.2 < p1.length) <|
 bnd (Xny (Xaa .i64 ((p0.getD v3.2.toNat 0) - (p1.getD v3.2.toNat 0)))) fun q7 =>
 some (.go (Xaa .i64 (v3.1 + q7), Xaa .i64 (v3.2 + 1)))) (
 some (.done v3.1))
def Xqp (p0 : (List Int)) (p1 : (List Int)) : Option Int :=
 bnd (loop (Xps p0 p1) (0, 0)) fun v6 =>
 some v6
def Xdc (v2 : (Int × Int)) : Option (Lp (Int × Int) Int) :=
 sel (decide (v2.1 > 0)) (
 req (0 ≤ (1 : Int)) <|
 some (.go ((v2.1 / 2 ^ min (1 : Int).toNat (IntKind.bits .i64)), Xaa .i64 (v2.2 + 1)))) (
 some (.done v2.2))
def Xna (p0 : Int) : Option Int :=
 bnd (loop (Xdc) (p0, 0)) fun v4 =>
 some v4
def Xli (v2 : (Int × Int × (List Int))) : Option (Lp (Int × Int × (List Int)) (List Int)) :=
 sel (decide (v2.2.1 ≥ 0)) (
 req (0 ≤ v2.2.1 ∧ v2.2.1 < v2.2.2.length) <|
 req (v2.2.1.toNat < v2.2.2.length) <|
 req (0 ≤ (1 : Int)) <|
 some (.go ((v2.1 / 2 ^ min (1 : Int).toNat (IntKind.bits .i64)), Xaa .i64 (v2.2.1 - 1), (v2.2.2.set v2.2.1.toNat (Xaa .u8 (Xaa .i64 (48 + (IntKind.wrap .i64 (BitVec.ofInt (IntKind.bits .i64) v2.1 &&& BitVec.ofInt (IntKind.bits .i64) 1).toNat)))))))) (
 some (.done v2.2.2))
def Xkr (p0 : Int) (p1 : Int) : Option ByteArray :=
 req (0 ≤ p1 ∧ p1 ≤ p1 ∧ p1 * 1 ≤ 281474976710656) <|
 bnd (loop (Xli) (p0, Xaa .i64 (p1 - 1), (List.replicate p1.toNat (0 : Int)))) fun v4 =>
 some (strOfNums v4)
def Xi4 (p0 : Int) : Option ByteArray :=
 bnd (Xna (Xaa .i64 (p0 + 1))) fun q1 =>
 bnd (Xkr (Xaa .i64 (p0 + 1)) (Xaa .i64 ((Xaa .i64 (2 * q1)) - 1))) fun q2 =>
 some q2
def Xo8 (p0 : Int) : Option (ByteArray × Bool) :=
 bnd (Xal p0 0 1000000) fun q1 =>
 sel (!q1) (
 some (⟨#[]⟩, false)) (
 bnd (Xi4 p0) fun q2 =>
 some (q2, true))
def Xml (p0 : Int) : Option Int :=
 bnd (Xo8 p0) fun q1 =>
 some (q1.1.size : Int)
def Xik (p0 : (List Int)) (p1 : Xi9) (v16 : (Int × Int × Int)) : Option (Lp (Int × Int × Int) (Int × Int)) :=
 sel (decide (v16.2.2 ≤ 3)) (
 bnd (
 bnd (Xgg v16.2.2 p1) fun q25 =>
 bnd (Xqp p0 q25) fun q26 =>
 bnd (Xml v16.2.2) fun q27 =>
 bnd (
 sel (decide (v16.2.1 < 0)) (
 some true) (
 some (decide ((Xaa .i64 (q26 + q27)) < v16.2.1)))) fun v28 =>
 sel v28 (
 some (v16.2.2, Xaa .i64 (q26 + q27))) (
 some (v16.1, v16.2.1))) fun v24 =>
 some (.go (v24.1, v24.2, Xaa .i64 (v16.2.2 + 1)))) (
 some (.done (v16.1, v16.2.1)))
def Xjc (p0 : (List Int)) (p1 : Xi9) : Option (Int × Int) :=
 bnd (
 bnd (Xki p1) fun q2 =>
 sel q2 (
 bnd (Xbu p0 64 0 255) fun q3 =>
 some (!q3)) (
 some true)) fun v1 =>
 sel v1 (
 some (0, (-1))) (
 bnd (loop (Xik p0 p1) (0, (-1), 0)) fun v23 =>
 some (v23.1, v23.2))
def Xjz (p0 : (List Int)) (p1 : (List Int)) (v2 : (Int × (List Int))) : Option (Lp (Int × (List Int)) (List Int)) :=
 sel (decide (v2.1 < (p0.length : Int))) (
 req (0 ≤ v2.1 ∧ v2.1 < p0.length) <|
 req (0 ≤ v2.1 ∧ v2.1 < p1.length) <|
 req ((v2.2.length + ([Xaa .i64 ((p0.getD v2.1.toNat 0) - (p1.getD v2.1.toNat 0))]).length) * 8 ≤ 140737488355328 ∧ v2.2.length + ([Xaa .i64 ((p0.getD v2.1.toNat 0) - (p1.getD v2.1.toNat 0))]).length ≤ maxLen) <|
 some (.go (Xaa .i64 (v2.1 + 1), (v2.2 ++ ([Xaa .i64 ((p0.getD v2.1.toNat 0) - (p1.getD v2.1.toNat 0))]))))) (
 some (.done v2.2))
def Xgw (p0 : (List Int)) (p1 : (List Int)) : Option (List Int) :=
 bnd (loop (Xjz p0 p1) (0, ([] : List Int))) fun v4 =>
 some v4
def Xla (p1 : (List Int)) (q2 : (List Int)) (v4 : (Int × (List Int))) : Option (Lp (Int × (List Int)) (List Int)) :=
 sel (decide (v4.1 < (q2.length : Int))) (
 req (0 ≤ v4.1 ∧ v4.1 < q2.length) <|
 req (v4.1.toNat < q2.length) <|
 req (0 ≤ (q2.getD v4.1.toNat 0) ∧ (q2.getD v4.1.toNat 0) < p1.length) <|
 req ((v4.2.length + ([(p1.getD (q2.getD v4.1.toNat 0).toNat 0)]).length) * 8 ≤ 140737488355328 ∧ v4.2.length + ([(p1.getD (q2.getD v4.1.toNat 0).toNat 0)]).length ≤ maxLen) <|
 some (.go (Xaa .i64 (v4.1 + 1), (v4.2 ++ ([(p1.getD (q2.getD v4.1.toNat 0).toNat 0)]))))) (
 some (.done v4.2))
def Xhv (p0 : Int) (p1 : (List Int)) : Option ((List Int) × Bool) :=
 bnd (
 sel (p0 != 4) (
 sel (p0 != 8) (
 some true) (
 some ((p1.length : Int) != (Xaa .i64 (p0 * p0))))) (
 some ((p1.length : Int) != (Xaa .i64 (p0 * p0))))) fun v1 =>
 sel v1 (
 some (([] : List Int), false)) (
 bnd (Xhf p0) fun q2 =>
 bnd (loop (Xla p1 q2) (0, ([] : List Int))) fun v6 =>
 some (v6, true))
def Xrr (p0 : (List Int)) : Option (List Int) :=
 bnd (Xbu p0 64 (-1000) 1000) fun q1 =>
 sel (!q1) (
 some ([] : List Int)) (
 bnd (Xr8 p0) fun q2 =>
 some q2)
def Xpw (p0 : Int) (p1 : Int) : Option Int :=
 sel (decide (p1 < 0)) (
 some (Xaa .i64 (0 - p0))) (
 some p0)
def Xht (p0 : Int) (p1 : Int) : Option Int :=
 bnd (
 bnd (Xal p0 (-20000) 20000) fun q2 =>
 sel q2 (
 bnd (Xal p1 0 40) fun q3 =>
 some (!q3)) (
 some true)) fun v1 =>
 sel v1 (
 some 0) (
 bnd (Xkb p1) fun q4 =>
 bnd (Xny p0) fun q5 =>
 req ((2 : Int) ≠ 0) <|
 req (q4 ≠ 0) <|
 bnd (Xpw (Xaa .i64 ((Xaa .i64 (q5 + (Xaa .i64 (q4.tdiv 2)))).tdiv q4)) p0) fun q6 =>
 some q6)
def Xmd (p0 : Int) (p1 : Int) (p2 : Int) (p3 : Int) : Option (Int × Int × Int × Int) :=
 some (Xaa .i64 ((Xaa .i64 ((Xaa .i64 (p0 + p1)) + p2)) + p3), Xaa .i64 ((Xaa .i64 ((Xaa .i64 ((Xaa .i64 (2 * p0)) + p1)) - p2)) - (Xaa .i64 (2 * p3))), Xaa .i64 ((Xaa .i64 ((Xaa .i64 (p0 - p1)) - p2)) + p3), Xaa .i64 ((Xaa .i64 ((Xaa .i64 (p0 - (Xaa .i64 (2 * p1)))) + (Xaa .i64 (2 * p2)))) - p3))
def Xi3 (v4 : (Int × (List Int))) : Option (Lp (Int × (List Int)) (List Int)) :=
 sel (decide (v4.1 < 16)) (
 req (0 ≤ v4.1 ∧ v4.1 < v4.2.length) <|
 req (v4.1.toNat < v4.2.length) <|
 req (0 ≤ (Xaa .i64 (v4.1 + 1)) ∧ (Xaa .i64 (v4.1 + 1)) < v4.2.length) <|
 req ((Xaa .i64 (v4.1 + 1)).toNat < v4.2.length) <|
 req (0 ≤ (Xaa .i64 (v4.1 + 2)) ∧ (Xaa .i64 (v4.1 + 2)) < v4.2.length) <|
 req ((Xaa .i64 (v4.1 + 2)).toNat < v4.2.length) <|
 req (0 ≤ (Xaa .i64 (v4.1 + 3)) ∧ (Xaa .i64 (v4.1 + 3)) < v4.2.length) <|
 req ((Xaa .i64 (v4.1 + 3)).toNat < v4.2.length) <|
 bnd (Xmd (v4.2.getD v4.1.toNat 0) (v4.2.getD ((Xaa .i64 (v4.1 + 1)).toNat) 0) (v4.2.getD ((Xaa .i64 (v4.1 + 2)).toNat) 0) (v4.2.getD ((Xaa .i64 (v4.1 + 3)).toNat) 0)) fun q8 =>
 req (0 ≤ v4.1 ∧ v4.1 ≤ (Xaa .i64 (v4.1 + 4)) ∧ (Xaa .i64 (v4.1 + 4)) ≤ (v4.2.length : Int)) <|
 req ((v4.1.toNat + ((Xaa .i64 (v4.1 + 4)).toNat - v4.1.toNat) ≤ v4.2.length ∧ ([q8.1, q8.2.1, q8.2.2.1, q8.2.2.2]).length ≤ ((Xaa .i64 (v4.1 + 4)).toNat - v4.1.toNat))) <|
 some (.go (Xaa .i64 (v4.1 + 4), (over v4.2 v4.1.toNat ([q8.1, q8.2.1, q8.2.2.1, q8.2.2.2]))))) (
 some (.done v4.2))
def Xh7 (v17 : (Int × (List Int))) (q26 : (Int × Int × Int × Int)) (v28 : (Int × (List Int))) : Option (Lp (Int × (List Int)) (List Int)) :=
 sel (decide (v28.1 < 4)) (
 req (0 ≤ v28.1 ∧ v28.1 < ([q26.1, q26.2.1, q26.2.2.1, q26.2.2.2] : List Int).length) <|
 req (0 ≤ (Xaa .i64 (v17.1 + (Xaa .i64 (4 * v28.1)))) ∧ (Xaa .i64 (v17.1 + (Xaa .i64 (4 * v28.1)))) < v28.2.length) <|
 req ((Xaa .i64 (v17.1 + (Xaa .i64 (4 * v28.1)))).toNat < v28.2.length) <|
 some (.go (Xaa .i64 (v28.1 + 1), (v28.2.set ((Xaa .i64 (v17.1 + (Xaa .i64 (4 * v28.1)))).toNat) (([q26.1, q26.2.1, q26.2.2.1, q26.2.2.2] : List Int).getD v28.1.toNat 0))))) (
 some (.done v28.2))
def Xh6 (v17 : (Int × (List Int))) : Option (Lp (Int × (List Int)) (List Int)) :=
 sel (decide (v17.1 < 4)) (
 req (0 ≤ v17.1 ∧ v17.1 < v17.2.length) <|
 req (v17.1.toNat < v17.2.length) <|
 req (0 ≤ (Xaa .i64 (v17.1 + 4)) ∧ (Xaa .i64 (v17.1 + 4)) < v17.2.length) <|
 req ((Xaa .i64 (v17.1 + 4)).toNat < v17.2.length) <|
 req (0 ≤ (Xaa .i64 (v17.1 + 8)) ∧ (Xaa .i64 (v17.1 + 8)) < v17.2.length) <|
 req ((Xaa .i64 (v17.1 + 8)).toNat < v17.2.length) <|
 req (0 ≤ (Xaa .i64 (v17.1 + 12)) ∧ (Xaa .i64 (v17.1 + 12)) < v17.2.length) <|
 req ((Xaa .i64 (v17.1 + 12)).toNat < v17.2.length) <|
 bnd (Xmd (v17.2.getD v17.1.toNat 0) (v17.2.getD ((Xaa .i64 (v17.1 + 4)).toNat) 0) (v17.2.getD ((Xaa .i64 (v17.1 + 8)).toNat) 0) (v17.2.getD ((Xaa .i64 (v17.1 + 12)).toNat) 0)) fun q26 =>
 bnd (loop (Xh7 v17 q26) (0, v17.2)) fun v30 =>
 some (.go (Xaa .i64 (v17.1 + 1), v30))) (
 some (.done v17.2))
def Xd5 (p0 : (List Int)) : Option (List Int) :=
 bnd (Xd3 p0) fun q1 =>
 bnd (loop (Xi3) (0, q1)) fun v7 =>
 bnd (loop (Xh6) (0, v7)) fun v25 =>
 some v25
def Xuo (p0 : (List Int)) : Option (List Int) :=
 bnd (Xbu p0 16 (-1000) 1000) fun q1 =>
 sel (!q1) (
 some ([] : List Int)) (
 bnd (Xd5 p0) fun q2 =>
 some q2)
def Xnv (p0 : Int) (p1 : Int) : Option Int :=
 bnd (
 bnd (Xal p0 0 40) fun q2 =>
 sel q2 (
 bnd (Xal p1 0 15) fun q3 =>
 some (!q3)) (
 some true)) fun v1 =>
 sel v1 (
 some 0) (
 req ((6 : Int) ≠ 0) <|
 bnd (Xsx p1) fun q4 =>
 req (0 ≤ (p0.tmod 6) ∧ (p0.tmod 6) < 6) <|
 req (0 ≤ q4 ∧ q4 < 3) <|
 req (((0 + (p0.tmod 6).toNat * 3) + q4.toNat * 1) < ([13107, 5243, 8066, 11916, 4660, 7490, 10082, 4194, 6554, 9362, 3647, 5825, 8192, 3355, 5243, 7282, 2893, 4559] : List Int).length) <|
 some (([13107, 5243, 8066, 11916, 4660, 7490, 10082, 4194, 6554, 9362, 3647, 5825, 8192, 3355, 5243, 7282, 2893, 4559] : List Int).getD ((0 + (p0.tmod 6).toNat * 3) + q4.toNat * 1) 0))
def Xhx (p0 : Int) (p1 : Int) (p2 : Int) : Option Int :=
 bnd (
 bnd (Xal p0 (-20000) 20000) fun q2 =>
 sel q2 (
 bnd (Xal p1 0 40) fun q3 =>
 sel q3 (
 bnd (Xal p2 0 15) fun q4 =>
 some (!q4)) (
 some true)) (
 some true)) fun v1 =>
 sel v1 (
 some 0) (
 req ((6 : Int) ≠ 0) <|
 req (0 ≤ (Xaa .i64 (15 + (Xaa .i64 (p1.tdiv 6))))) <|
 bnd (Xny p0) fun q5 =>
 bnd (Xnv p1 p2) fun q6 =>
 req ((3 : Int) ≠ 0) <|
 req ((Xaa .i64 (1 * 2 ^ min (Xaa .i64 (15 + (Xaa .i64 (p1.tdiv 6)))).toNat (IntKind.bits .i64))) ≠ 0) <|
 bnd (Xpw (Xaa .i64 ((Xaa .i64 ((Xaa .i64 (q5 * q6)) + (Xaa .i64 ((Xaa .i64 (1 * 2 ^ min (Xaa .i64 (15 + (Xaa .i64 (p1.tdiv 6)))).toNat (IntKind.bits .i64))).tdiv 3)))).tdiv (Xaa .i64 (1 * 2 ^ min (Xaa .i64 (15 + (Xaa .i64 (p1.tdiv 6)))).toNat (IntKind.bits .i64))))) p0) fun q7 =>
 some q7)
def Xjv (p1 : Xeu) (q5 : (List Int)) (v8 : (Int × (List Int))) : Option (Lp (Int × (List Int)) (List Int)) :=
 sel (decide (v8.1 < (q5.length : Int))) (
 req (0 ≤ v8.1 ∧ v8.1 < v8.2.length) <|
 req (v8.1.toNat < v8.2.length) <|
 bnd (Xht (v8.2.getD v8.1.toNat 0) p1.Qp) fun q12 =>
 req (0 ≤ v8.1 ∧ v8.1 < v8.2.length) <|
 req (v8.1.toNat < v8.2.length) <|
 some (.go (Xaa .i64 (v8.1 + 1), (v8.2.set v8.1.toNat q12)))) (
 some (.done v8.2))
def Xf1 (p0 : (List Int)) (q51 : (List Int)) (v53 : (Int × (List Int))) : Option (Lp (Int × (List Int)) (List Int)) :=
 sel (decide (v53.1 < (q51.length : Int))) (
 req (0 ≤ v53.1 ∧ v53.1 < q51.length) <|
 req (v53.1.toNat < q51.length) <|
 req (0 ≤ (q51.getD v53.1.toNat 0) ∧ (q51.getD v53.1.toNat 0) < p0.length) <|
 req ((v53.2.length + ([(p0.getD (q51.getD v53.1.toNat 0).toNat 0)]).length) * 8 ≤ 140737488355328 ∧ v53.2.length + ([(p0.getD (q51.getD v53.1.toNat 0).toNat 0)]).length ≤ maxLen) <|
 some (.go (Xaa .i64 (v53.1 + 1), (v53.2 ++ ([(p0.getD (q51.getD v53.1.toNat 0).toNat 0)]))))) (
 some (.done v53.2))
def Xil (p1 : Xeu) (q57 : (List Int)) (v60 : (Int × (List Int))) : Option (Lp (Int × (List Int)) (List Int)) :=
 sel (decide (v60.1 < (q57.length : Int))) (
 req (0 ≤ v60.1 ∧ v60.1 < v60.2.length) <|
 req (v60.1.toNat < v60.2.length) <|
 bnd (Xhx (v60.2.getD v60.1.toNat 0) p1.Qp v60.1) fun q64 =>
 req (0 ≤ v60.1 ∧ v60.1 < v60.2.length) <|
 req (v60.1.toNat < v60.2.length) <|
 some (.go (Xaa .i64 (v60.1 + 1), (v60.2.set v60.1.toNat q64)))) (
 some (.done v60.2))
def Xmh (p0 : (List Int)) (p1 : Xeu) (v32 : (Int × (List Int))) : Option (Lp (Int × (List Int)) (List Int)) :=
 sel (decide (v32.1 < 4)) (
 bnd (Xkn v32.1) fun q51 =>
 bnd (loop (Xf1 p0 q51) (0, ([] : List Int))) fun v55 =>
 bnd (Xuo v55) fun q57 =>
 bnd (loop (Xil p1 q57) (0, q57)) fun v63 =>
 bnd (Xhv 4 v63) fun q66 =>
 req ((v32.2.length + q66.1.length) * 8 ≤ 140737488355328 ∧ v32.2.length + q66.1.length ≤ maxLen) <|
 some (.go (Xaa .i64 (v32.1 + 1), (v32.2 ++ q66.1)))) (
 some (.done v32.2))
def Xgr (p0 : (List Int)) (p1 : Xeu) : Option ((List Int) × Bool) :=
 bnd (
 bnd (Xbu p0 64 (-255) 255) fun q2 =>
 sel q2 (
 bnd (Xdw p1) fun q3 =>
 some (!q3)) (
 some true)) fun v1 =>
 sel v1 (
 some (([] : List Int), false)) (
 sel p1.Exact (
 bnd (Xhv 8 p0) fun q4 =>
 some (q4.1, q4.2)) (
 sel p1.Large (
 bnd (Xrr p0) fun q5 =>
 bnd (loop (Xjv p1 q5) (0, q5)) fun v11 =>
 bnd (Xhv 8 v11) fun q14 =>
 some (q14.1, q14.2)) (
 bnd (loop (Xmh p0 p1) (0, ([] : List Int))) fun v50 =>
 some (v50, true))))
def Xmc (p0 : Int) : Option (Int × Bool) :=
 bnd (Xal p0 (-500000) 500000) fun q1 =>
 sel (!q1) (
 some (0, false)) (
 sel (decide (p0 > 0)) (
 some (Xaa .i64 ((Xaa .i64 (2 * p0)) - 1), true)) (
 some (Xaa .i64 ((-2) * p0), true)))
def Xkj (p0 : Int) : Option (ByteArray × Bool) :=
 bnd (Xmc p0) fun q1 =>
 sel (!q1.2) (
 some (⟨#[]⟩, false)) (
 bnd (Xo8 q1.1) fun q2 =>
 some (q2.1, q2.2))
def Xmj (p0 : Int) : Option Int :=
 bnd (Xkj p0) fun q1 =>
 some (q1.1.size : Int)
def Xdb (p0 : Pic) (p1 : (List Int)) (p2 : Int) (p3 : Int) (p4 : Int) (v33 : (Int × Int × Int × Int)) (v70 : (Int × Int × Int × Int)) : Option (Lp (Int × Int × Int × Int) (Int × Int × Int)) :=
 sel (decide (v70.2.2.2 ≤ p4)) (
 bnd (
 bnd (Xb9 p0 (⟨Xaa .i64 (p2 + v70.2.2.2), Xaa .i64 (p3 + v33.2.2.2), 8, 8⟩ : Xyz)) fun q81 =>
 sel (!q81) (
 some (v70.1, v70.2.1, v70.2.2.1)) (
 bnd (Xb8 p0 (Xaa .i64 (p2 + v70.2.2.2)) (Xaa .i64 (p3 + v33.2.2.2))) fun q82 =>
 bnd (Xqp p1 q82) fun q83 =>
 bnd (Xmj v70.2.2.2) fun q84 =>
 bnd (Xmj v33.2.2.2) fun q85 =>
 bnd (
 sel (decide (v70.2.2.1 < 0)) (
 some true) (
 some (decide ((Xaa .i64 ((Xaa .i64 (q83 + q84)) + q85)) < v70.2.2.1)))) fun v86 =>
 sel v86 (
 some (v70.2.2.2, v33.2.2.2, Xaa .i64 ((Xaa .i64 (q83 + q84)) + q85))) (
 some (v70.1, v70.2.1, v70.2.2.1)))) fun v80 =>
 some (.go (v80.1, v80.2.1, v80.2.2, Xaa .i64 (v70.2.2.2 + 1)))) (
 some (.done (v70.1, v70.2.1, v70.2.2.1)))
def Xfy (p0 : Pic) (p1 : (List Int)) (p2 : Int) (p3 : Int) (p4 : Int) (v33 : (Int × Int × Int × Int)) : Option (Lp (Int × Int × Int × Int) (Int × Int × Int)) :=
 sel (decide (v33.2.2.2 ≤ p4)) (
 bnd (loop (Xdb p0 p1 p2 p3 p4 v33) (v33.1, v33.2.1, v33.2.2.1, Xaa .i64 (0 - p4))) fun v79 =>
 some (.go (v79.1, v79.2.1, v79.2.2, Xaa .i64 (v33.2.2.2 + 1)))) (
 some (.done (v33.1, v33.2.1, v33.2.2.1)))
def Xd2 (p0 : Pic) (p1 : (List Int)) (p2 : Int) (p3 : Int) (p4 : Int) : Option (Int × Int × Int) :=
 bnd (
 bnd (Xbt p0) fun q2 =>
 sel q2 (
 bnd (Xbu p1 64 0 255) fun q3 =>
 sel q3 (
 bnd (Xal p4 0 4) fun q4 =>
 sel q4 (
 bnd (Xca p0 p2 p3) fun q5 =>
 some (!q5)) (
 some true)) (
 some true)) (
 some true)) fun v1 =>
 sel v1 (
 some (0, 0, (-1))) (
 bnd (loop (Xfy p0 p1 p2 p3 p4) (0, 0, (-1), Xaa .i64 (0 - p4))) fun v61 =>
 some (v61.1, v61.2.1, v61.2.2))
def Xfi (p0 : Pic) (p1 : Pic) (p2 : (List Int)) (p3 : Int) (p4 : Int) (p5 : Xeu) (p6 : Int) : Option (Xam × (List Int) × Bool) :=
 bnd (
 bnd (Xbt p0) fun q2 =>
 sel q2 (
 bnd (Xca p0 p3 p4) fun q3 =>
 sel q3 (
 bnd (Xbu p2 64 0 255) fun q4 =>
 sel q4 (
 bnd (Xdw p5) fun q5 =>
 sel q5 (
 bnd (Xal p6 0 4) fun q6 =>
 some (!q6)) (
 some true)) (
 some true)) (
 some true)) (
 some true)) fun v1 =>
 sel v1 (
 some ((⟨0, 0, 0, 0, []⟩ : Xam), ([] : List Int), false)) (
 bnd (
 sel p5.Key (
 some false) (
 bnd (Xbt p1) fun q8 =>
 sel q8 (
 sel (p1.Wide != p0.Wide) (
 some true) (
 some (p1.High != p0.High))) (
 some true))) fun v7 =>
 sel v7 (
 some ((⟨0, 0, 0, 0, []⟩ : Xam), ([] : List Int), false)) (
 bnd (Xkh p0 p3 p4) fun q9 =>
 bnd (Xjc p2 q9.1) fun q10 =>
 bnd (Xgg q10.1 q9.1) fun q11 =>
 bnd (Xgw p2 q11) fun q12 =>
 bnd (Xgr q12 p5) fun q13 =>
 bnd (
 sel (!p5.Key) (
 bnd (Xb8 p1 p3 p4) fun q15 =>
 bnd (Xqp p2 q15) fun q16 =>
 sel (q16 == 0) (
 some (0, 0, 0, 0, [])) (
 bnd (Xd2 p1 p2 p3 p4 p6) fun q17 =>
 sel (decide (q17.2.2 ≤ q10.2)) (
 bnd (Xb8 p1 (Xaa .i64 (p3 + q17.1)) (Xaa .i64 (p4 + q17.2.1))) fun q18 =>
 bnd (Xgw p2 q18) fun q19 =>
 bnd (Xgr q19 p5) fun q20 =>
 bnd (
 sel (q17.1 == 0) (
 sel (q17.2.1 == 0) (
 bnd (Xbu q20.1 64 0 0) fun q22 =>
 some q22) (
 some false)) (
 some false)) fun v21 =>
 sel v21 (
 some (0, 0, 0, 0, [])) (
 some (1, 0, q17.1, q17.2.1, q20.1))) (
 some (2, q10.1, 0, 0, q13.1)))) (
 some (2, q10.1, 0, 0, q13.1))) fun v14 =>
 bnd (Xbz p0 p1 0 0 p5 p3 p4 (⟨v14.1, v14.2.1, v14.2.2.1, v14.2.2.2.1, v14.2.2.2.2⟩ : Xam)) fun q23 =>
 sel (!q23.2) (
 some ((⟨0, 0, 0, 0, []⟩ : Xam), ([] : List Int), false)) (
 some ((⟨v14.1, v14.2.1, v14.2.2.1, v14.2.2.2.1, v14.2.2.2.2⟩ : Xam), q23.1, true))))
def Xe1 (p0 : Pic) (p1 : Pic) (p2 : Xeu) (p3 : Int) (v25 : (Int × (List Xam) × Int × Int × ByteArray)) (v46 : (Int × (List Xam) × Int × Int × ByteArray)) : Option (Lp (Int × (List Xam) × Int × Int × ByteArray) (Ou ((List Xam) × Int × Int × ByteArray) ((List Xam) × Pic × Bool))) :=
 sel (decide (v46.1 < p0.Wide)) (
 bnd (Xb8 p0 v46.1 v25.1) fun q52 =>
 bnd (Xfi (⟨v46.2.2.1, v46.2.2.2.1, v46.2.2.2.2⟩ : Pic) p1 q52 v46.1 v25.1 p2 p3) fun q53 =>
 sel (!q53.2.2) (
 some (.done (.ret (([] : List Xam), (⟨0, 0, ⟨#[]⟩⟩ : Pic), false)))) (
 req ((v46.2.1.length + ([q53.1]).length) * 56 ≤ 140737488355328 ∧ v46.2.1.length + ([q53.1]).length ≤ maxLen) <|
 bnd (Xvt (⟨v46.2.2.1, v46.2.2.2.1, v46.2.2.2.2⟩ : Pic) v46.1 v25.1 q53.2.1) fun q54 =>
 some (.go (Xaa .i64 (v46.1 + 8), (v46.2.1 ++ ([q53.1])), q54.Wide, q54.High, q54.Dots)))) (
 some (.done (.out (v46.2.1, v46.2.2.1, v46.2.2.2.1, v46.2.2.2.2))))
def Xe0 (p0 : Pic) (p1 : Pic) (p2 : Xeu) (p3 : Int) (v25 : (Int × (List Xam) × Int × Int × ByteArray)) : Option (Lp (Int × (List Xam) × Int × Int × ByteArray) (Ou ((List Xam) × Int × Int × ByteArray) ((List Xam) × Pic × Bool))) :=
 sel (decide (v25.1 < p0.High)) (
 bnd (loop (Xe1 p0 p1 p2 p3 v25) (0, v25.2.1, v25.2.2.1, v25.2.2.2.1, v25.2.2.2.2)) fun o55 => match o55 with
| .out v51 => (
 some (.go (Xaa .i64 (v25.1 + 8), v51.1, v51.2.1, v51.2.2.1, v51.2.2.2)))
| .ret r => some (.done (.ret r))) (
 some (.done (.out (v25.2.1, v25.2.2.1, v25.2.2.2.1, v25.2.2.2.2))))
def Xkk (p0 : Pic) (p1 : Pic) (p2 : Xeu) (p3 : Int) : Option ((List Xam) × Pic × Bool) :=
 bnd (
 bnd (Xbt p0) fun q2 =>
 sel q2 (
 bnd (Xh3 p0.Wide) fun q3 =>
 sel q3 (
 bnd (Xh3 p0.High) fun q4 =>
 sel q4 (
 bnd (Xdw p2) fun q5 =>
 sel q5 (
 bnd (Xal p3 0 4) fun q6 =>
 some (!q6)) (
 some true)) (
 some true)) (
 some true)) (
 some true)) fun v1 =>
 sel v1 (
 some (([] : List Xam), (⟨0, 0, ⟨#[]⟩⟩ : Pic), false)) (
 bnd (
 sel p2.Key (
 some false) (
 bnd (Xbt p1) fun q8 =>
 sel q8 (
 sel (p1.Wide != p0.Wide) (
 some true) (
 some (p1.High != p0.High))) (
 some true))) fun v7 =>
 sel v7 (
 some (([] : List Xam), (⟨0, 0, ⟨#[]⟩⟩ : Pic), false)) (
 bnd (Xnp p0.Wide p0.High) fun q9 =>
 bnd (loop (Xe0 p0 p1 p2 p3) (0, ([] : List Xam), q9.Wide, q9.High, q9.Dots)) fun o56 => match o56 with
| .out v41 => (
 some (v41.1, (⟨v41.2.1, v41.2.2.1, v41.2.2.2⟩ : Pic), true))
| .ret r => some r))
def Xnr (p0 : Seq) (p1 : Par) (p2 : Ynb) : Option (ByteArray × Bool) :=
 bnd (Xme p0 p1 p2) fun q1 =>
 sel (!q1) (
 some (⟨#[]⟩, false)) (
 bnd (Xkj (Xaa .i64 (p2.Qp - p1.Qp))) fun q2 =>
 bnd (Xi4 p2.Tile) fun q3 =>
 bnd (Xkr p2.Frame p0.Bits) fun q4 =>
 req (q3.size + q4.size ≤ 9223372036854775807) <|
 req ((q3 ++ q4).size + q2.1.size ≤ 9223372036854775807) <|
 some (((q3 ++ q4) ++ q2.1), true))
def Xko (p0 : (List Int)) (v3 : (Int × Int)) : Option (Lp (Int × Int) Int) :=
 sel (decide (v3.2 < (p0.length : Int))) (
 bnd (
 req (0 ≤ v3.2 ∧ v3.2 < p0.length) <|
 sel ((p0.getD v3.2.toNat 0) != 0) (
 some (Xaa .i64 (v3.1 + 1))) (
 some v3.1)) fun v7 =>
 some (.go (v7, Xaa .i64 (v3.2 + 1)))) (
 some (.done v3.1))
def Xkp (p0 : (List Int)) (v15 : (Int × Int × (List Int))) : Option (Lp (Int × Int × (List Int)) (List Int)) :=
 sel (decide (v15.2.1 < (p0.length : Int))) (
 bnd (
 req (0 ≤ v15.2.1 ∧ v15.2.1 < p0.length) <|
 sel ((p0.getD v15.2.1.toNat 0) == 0) (
 some (Xaa .i64 (v15.1 + 1), v15.2.2)) (
 bnd (Xmc (p0.getD v15.2.1.toNat 0)) fun q23 =>
 bnd (Xi4 v15.1) fun q24 =>
 req ((v15.2.2.length + (Xaz q24).length) * 1 ≤ 140737488355328 ∧ v15.2.2.length + (Xaz q24).length ≤ maxLen) <|
 bnd (Xi4 q23.1) fun q25 =>
 req (((v15.2.2 ++ (Xaz q24)).length + (Xaz q25).length) * 1 ≤ 140737488355328 ∧ (v15.2.2 ++ (Xaz q24)).length + (Xaz q25).length ≤ maxLen) <|
 some (0, ((v15.2.2 ++ (Xaz q24)) ++ (Xaz q25))))) fun v22 =>
 some (.go (v22.1, Xaa .i64 (v15.2.1 + 1), v22.2))) (
 some (.done v15.2.2))
def Xr2 (p0 : (List Int)) : Option (List Int) :=
 bnd (loop (Xko p0) (0, 0)) fun v6 =>
 bnd (Xi4 v6) fun q9 =>
 req ((([] : List Int).length + (Xaz q9).length) * 1 ≤ 140737488355328 ∧ ([] : List Int).length + (Xaz q9).length ≤ maxLen) <|
 bnd (loop (Xkp p0) (0, 0, (([] : List Int) ++ (Xaz q9)))) fun v21 =>
 some v21
def Xdd (p0 : (List Int)) (v5 : (Int × (List Int))) : Option (Lp (Int × (List Int)) (List Int)) :=
 sel (decide (v5.1 < 4)) (
 req (0 ≤ (Xaa .i64 (16 * v5.1)) ∧ (Xaa .i64 (16 * v5.1)) ≤ (Xaa .i64 ((Xaa .i64 (16 * v5.1)) + 16)) ∧ (Xaa .i64 ((Xaa .i64 (16 * v5.1)) + 16)) ≤ (p0.length : Int)) <|
 bnd (Xr2 ((p0.drop (Xaa .i64 (16 * v5.1)).toNat).take ((Xaa .i64 ((Xaa .i64 (16 * v5.1)) + 16)).toNat - (Xaa .i64 (16 * v5.1)).toNat))) fun q9 =>
 req ((v5.2.length + q9.length) * 1 ≤ 140737488355328 ∧ v5.2.length + q9.length ≤ maxLen) <|
 some (.go (Xaa .i64 (v5.1 + 1), (v5.2 ++ q9)))) (
 some (.done v5.2))
def Xhe (p0 : (List Int)) (p1 : Xeu) : Option (List Int) :=
 bnd (
 sel p1.Large (
 some true) (
 some p1.Exact)) fun v1 =>
 sel v1 (
 bnd (Xr2 p0) fun q2 =>
 some q2) (
 bnd (loop (Xdd p0) (0, ([] : List Int))) fun v8 =>
 some v8)
def Xjg (p0 : Xam) (p1 : Xeu) : Option (ByteArray × Bool) :=
 bnd (
 bnd (Xgu p0) fun q2 =>
 sel q2 (
 bnd (Xdw p1) fun q3 =>
 sel q3 (
 bnd (Xel p0 p1) fun q4 =>
 some (!q4)) (
 some true)) (
 some true)) fun v1 =>
 sel v1 (
 some (⟨#[]⟩, false)) (
 bnd (
 sel (!p1.Key) (
 bnd (Xi4 p0.Kind) fun q6 =>
 req ((([] : List Int).length + (Xaz q6).length) * 1 ≤ 140737488355328 ∧ ([] : List Int).length + (Xaz q6).length ≤ maxLen) <|
 some (([] : List Int) ++ (Xaz q6))) (
 some ([] : List Int))) fun v5 =>
 bnd (
 sel (p0.Kind == 1) (
 bnd (Xkj p0.Dx) fun q8 =>
 bnd (Xkj p0.Dy) fun q9 =>
 req ((v5.length + (Xaz q8.1).length) * 1 ≤ 140737488355328 ∧ v5.length + (Xaz q8.1).length ≤ maxLen) <|
 req (((v5 ++ (Xaz q8.1)).length + (Xaz q9.1).length) * 1 ≤ 140737488355328 ∧ (v5 ++ (Xaz q8.1)).length + (Xaz q9.1).length ≤ maxLen) <|
 bnd (Xhe p0.Levels p1) fun q10 =>
 req ((((v5 ++ (Xaz q8.1)) ++ (Xaz q9.1)).length + q10.length) * 1 ≤ 140737488355328 ∧ ((v5 ++ (Xaz q8.1)) ++ (Xaz q9.1)).length + q10.length ≤ maxLen) <|
 some (((v5 ++ (Xaz q8.1)) ++ (Xaz q9.1)) ++ q10)) (
 sel (p0.Kind == 2) (
 bnd (Xi4 p0.Mode) fun q11 =>
 req ((v5.length + (Xaz q11).length) * 1 ≤ 140737488355328 ∧ v5.length + (Xaz q11).length ≤ maxLen) <|
 bnd (Xhe p0.Levels p1) fun q12 =>
 req (((v5 ++ (Xaz q11)).length + q12.length) * 1 ≤ 140737488355328 ∧ (v5 ++ (Xaz q11)).length + q12.length ≤ maxLen) <|
 some ((v5 ++ (Xaz q11)) ++ q12)) (
 some v5))) fun v7 =>
 some ((strOfNums v7), true))
def Xf3 (p0 : (List Xam)) (p1 : Xeu) (v4 : (Int × (List Int))) : Option (Lp (Int × (List Int)) (Ou (List Int) (ByteArray × Bool))) :=
 sel (decide (v4.1 < (p0.length : Int))) (
 req (0 ≤ v4.1 ∧ v4.1 < p0.length) <|
 bnd (Xjg (⟨(p0.getD v4.1.toNat Xgo).Kind, (p0.getD v4.1.toNat Xgo).Mode, (p0.getD v4.1.toNat Xgo).Dx, (p0.getD v4.1.toNat Xgo).Dy, (p0.getD v4.1.toNat Xgo).Levels⟩ : Xam) p1) fun q8 =>
 sel (!q8.2) (
 some (.done (.ret (⟨#[]⟩, false)))) (
 req ((v4.2.length + (Xaz q8.1).length) * 1 ≤ 140737488355328 ∧ v4.2.length + (Xaz q8.1).length ≤ maxLen) <|
 some (.go (Xaa .i64 (v4.1 + 1), (v4.2 ++ (Xaz q8.1)))))) (
 some (.done (.out v4.2)))
def Xkl (p0 : (List Xam)) (p1 : Xeu) : Option (ByteArray × Bool) :=
 bnd (Xal (p0.length : Int) 1 64) fun q1 =>
 sel (!q1) (
 some (⟨#[]⟩, false)) (
 bnd (loop (Xf3 p0 p1) (0, ([] : List Int))) fun o9 => match o9 with
| .out v7 => (
 some ((strOfNums v7), true))
| .ret r => some r)
def Xhw (p0 : Seq) (v14 : (ByteArray × Int)) (v29 : (ByteArray × Int)) : Option (Lp (ByteArray × Int) ByteArray) :=
 sel (decide (v29.2 < ((([p0.Cols, p0.Rows]).getD v14.2.toNat Xgn).length : Int))) (
 req (0 ≤ v29.2 ∧ v29.2 < (([p0.Cols, p0.Rows]).getD v14.2.toNat Xgn).length) <|
 bnd (Xi4 ((([p0.Cols, p0.Rows]).getD v14.2.toNat Xgn).getD v29.2.toNat 0)) fun q33 =>
 req (v29.1.size + q33.size ≤ 9223372036854775807) <|
 some (.go ((v29.1 ++ q33), Xaa .i64 (v29.2 + 1)))) (
 some (.done v29.1))
def Xek (p0 : Seq) (v14 : (ByteArray × Int)) : Option (Lp (ByteArray × Int) ByteArray) :=
 sel (decide (v14.2 < (([p0.Cols, p0.Rows]).length : Int))) (
 req (0 ≤ v14.2 ∧ v14.2 < ([p0.Cols, p0.Rows]).length) <|
 req (v14.2.toNat < ([p0.Cols, p0.Rows]).length) <|
 bnd (Xi4 ((([p0.Cols, p0.Rows]).getD v14.2.toNat Xgn).length : Int)) fun q26 =>
 req (v14.1.size + q26.size ≤ 9223372036854775807) <|
 bnd (loop (Xhw p0 v14) ((v14.1 ++ q26), 0)) fun v32 =>
 some (.go (v32, Xaa .i64 (v14.2 + 1)))) (
 some (.done v14.1))
def Xpp (p0 : Seq) : Option (ByteArray × Bool) :=
 bnd (Xf2 p0) fun q1 =>
 sel (!q1) (
 some (⟨#[]⟩, false)) (
 bnd (Xi4 p0.Level) fun q2 =>
 bnd (Xkr p0.Bits 4) fun q3 =>
 req (q2.size + q3.size ≤ 9223372036854775807) <|
 bnd (loop (Xek p0) ((q2 ++ q3), 0)) fun v25 =>
 some (v25, true))
def Xr7 (p0 : Bool) : Option ByteArray :=
 sel p0 (
 some ⟨#[49]⟩) (
 some ⟨#[48]⟩)
def Xpn (p0 : Par) : Option (ByteArray × Bool) :=
 bnd (Xhc p0) fun q1 =>
 sel (!q1) (
 some (⟨#[]⟩, false)) (
 bnd (Xkr p0.Qp 6) fun q2 =>
 bnd (Xr7 p0.Large) fun q3 =>
 req (q2.size + q3.size ≤ 9223372036854775807) <|
 bnd (Xr7 p0.Exact) fun q4 =>
 req ((q2 ++ q3).size + q4.size ≤ 9223372036854775807) <|
 bnd (Xr7 p0.Confined) fun q5 =>
 req (((q2 ++ q3) ++ q4).size + q5.size ≤ 9223372036854775807) <|
 some ((((q2 ++ q3) ++ q4) ++ q5), true))
def Xg4 (p0 : ByteArray) (v4 : (Int × (List Int))) : Option (Lp (Int × (List Int)) (List Int)) :=
 sel (decide (v4.1 < (p0.size : Int))) (
 bnd (
 req (0 ≤ v4.1 ∧ v4.1 < p0.size) <|
 sel ((Xuh p0 v4.1) == 49) (
 req ((8 : Int) ≠ 0) <|
 req (0 ≤ (Xaa .i64 (v4.1.tdiv 8)) ∧ (Xaa .i64 (v4.1.tdiv 8)) < v4.2.length) <|
 req ((Xaa .i64 (v4.1.tdiv 8)).toNat < v4.2.length) <|
 req ((8 : Int) ≠ 0) <|
 req (0 ≤ (v4.1.tmod 8)) <|
 req (0 ≤ (Xaa .i64 (v4.1.tdiv 8)) ∧ (Xaa .i64 (v4.1.tdiv 8)) < v4.2.length) <|
 req ((Xaa .i64 (v4.1.tdiv 8)).toNat < v4.2.length) <|
 some (v4.2.set ((Xaa .i64 (v4.1.tdiv 8)).toNat) (IntKind.wrap .u8 (BitVec.ofInt (IntKind.bits .u8) (v4.2.getD ((Xaa .i64 (v4.1.tdiv 8)).toNat) 0) ||| BitVec.ofInt (IntKind.bits .u8) ((128 : Int) / 2 ^ min (v4.1.tmod 8).toNat (IntKind.bits .u8))).toNat))) (
 some v4.2)) fun v8 =>
 some (.go (Xaa .i64 (v4.1 + 1), v8))) (
 some (.done v4.2))
def Xk8 (p0 : ByteArray) : Option (ByteArray × Bool) :=
 bnd (Xo7 p0) fun q1 =>
 sel (!q1) (
 some (⟨#[]⟩, false)) (
 req ((8 : Int) ≠ 0) <|
 req (0 ≤ (Xaa .i64 ((Xaa .i64 ((p0.size : Int).tdiv 8)) + 1)) ∧ (Xaa .i64 ((Xaa .i64 ((p0.size : Int).tdiv 8)) + 1)) ≤ (Xaa .i64 ((Xaa .i64 ((p0.size : Int).tdiv 8)) + 1)) ∧ (Xaa .i64 ((Xaa .i64 ((p0.size : Int).tdiv 8)) + 1)) * 1 ≤ 281474976710656) <|
 bnd (loop (Xg4 p0) (0, (List.replicate (Xaa .i64 ((Xaa .i64 ((p0.size : Int).tdiv 8)) + 1)).toNat (0 : Int)))) fun v7 =>
 req ((8 : Int) ≠ 0) <|
 req (0 ≤ (Xaa .i64 ((p0.size : Int).tdiv 8)) ∧ (Xaa .i64 ((p0.size : Int).tdiv 8)) < v7.length) <|
 req ((Xaa .i64 ((p0.size : Int).tdiv 8)).toNat < v7.length) <|
 req ((8 : Int) ≠ 0) <|
 req (0 ≤ ((p0.size : Int).tmod 8)) <|
 req (0 ≤ (Xaa .i64 ((p0.size : Int).tdiv 8)) ∧ (Xaa .i64 ((p0.size : Int).tdiv 8)) < v7.length) <|
 req ((Xaa .i64 ((p0.size : Int).tdiv 8)).toNat < v7.length) <|
 some ((strOfNums (v7.set ((Xaa .i64 ((p0.size : Int).tdiv 8)).toNat) (IntKind.wrap .u8 (BitVec.ofInt (IntKind.bits .u8) (v7.getD ((Xaa .i64 ((p0.size : Int).tdiv 8)).toNat) 0) ||| BitVec.ofInt (IntKind.bits .u8) ((128 : Int) / 2 ^ min ((p0.size : Int).tmod 8).toNat (IntKind.bits .u8))).toNat))), true))
def Xkc (p0 : Int) (p1 : ByteArray) : Option (ByteArray × Bool) :=
 bnd (Xk8 p1) fun q1 =>
 bnd (
 sel q1.2 (
 bnd (Xmo p0) fun q3 =>
 some (!q3)) (
 some true)) fun v2 =>
 sel v2 (
 some (⟨#[]⟩, false)) (
 req ((strOfNums ([Xaa .u8 (p0)])).size + q1.1.size ≤ 9223372036854775807) <|
 some (((strOfNums ([Xaa .u8 (p0)])) ++ q1.1), true))
def Xhy (p0 : Xbb) : Option (List ByteArray) :=
 bnd (Xfb p0) fun q1 =>
 sel (!q1) (
 some ([] : List ByteArray)) (
 bnd (Xpp p0.Seq) fun q2 =>
 bnd (Xpn p0.Par) fun q3 =>
 bnd (Xkc 7 q2.1) fun q4 =>
 bnd (Xkc 8 q3.1) fun q5 =>
 some ([q4.1, q5.1]))
def Xk7 (p0 : Rate) (p1 : Int) : Option Rate :=
 bnd (Xj9 p0) fun q1 =>
 sel (!q1) (
 some p0) (
 bnd (Xc4 p1 0 400000) fun q2 =>
 bnd (Xc4 (Xaa .i64 ((Xaa .i64 (p0.Debt + q2)) - p0.Target)) (Xaa .i64 ((-8) * p0.Target)) (Xaa .i64 (8 * p0.Target))) fun q3 =>
 bnd (
 sel (decide (q3 > p0.Target)) (
 some (Xaa .i64 (p0.Qp + 1))) (
 sel (decide (q3 < (Xaa .i64 (0 - p0.Target)))) (
 some (Xaa .i64 (p0.Qp - 1))) (
 some p0.Qp))) fun v4 =>
 bnd (Xc4 v4 0 40) fun q5 =>
 some (⟨q5, p0.Target, q3⟩ : Rate))
def Xhz (p0 : Xbb) (p1 : Pic) (p2 : Bool) : Option (Xbb × (List ByteArray) × Bool) :=
 bnd (
 bnd (Xfb p0) fun q2 =>
 sel q2 (
 bnd (Xnw p1 p0.Seq) fun q3 =>
 some (!q3)) (
 some true)) fun v1 =>
 sel v1 (
 bnd (Xem p0) fun q4 =>
 some (q4, ([] : List ByteArray), false)) (
 bnd (Xmg p0 p2) fun q5 =>
 bnd (
 sel q5 (
 some false) (
 some (decide (p0.Since ≥ 1000)))) fun v6 =>
 sel v6 (
 bnd (Xem p0) fun q7 =>
 some (q7, ([] : List ByteArray), false)) (
 bnd (Xrs p0.Rate q5) fun q8 =>
 bnd (Xkk p1 p0.Ref (⟨q5, q8, p0.Par.Large, p0.Par.Exact⟩ : Xeu) p0.Reach) fun q9 =>
 bnd (Xnr p0.Seq p0.Par (⟨0, p0.Frame, q8⟩ : Ynb)) fun q10 =>
 bnd (Xkl q9.1 (⟨q5, q8, p0.Par.Large, p0.Par.Exact⟩ : Xeu)) fun q11 =>
 bnd (Xem p0) fun q12 =>
 bnd (
 sel q5 (
 bnd (Xhy p0) fun q14 =>
 some (5, 1, q14)) (
 some (1, Xaa .i64 (q12.Since + 1), ([] : List ByteArray)))) fun v13 =>
 req (q10.1.size + q11.1.size ≤ 9223372036854775807) <|
 bnd (Xkc v13.1 (q10.1 ++ q11.1)) fun q15 =>
 bnd (Xk7 p0.Rate (Xaa .i64 ((q10.1.size : Int) + (q11.1.size : Int)))) fun q16 =>
 req (0 ≤ p0.Seq.Bits) <|
 req ((Xaa .i64 (1 * 2 ^ min p0.Seq.Bits.toNat (IntKind.bits .i64))) ≠ 0) <|
 req ((v13.2.2.length + ([q15.1]).length) * 16 ≤ 140737488355328 ∧ v13.2.2.length + ([q15.1]).length ≤ maxLen) <|
 some ((⟨q12.Seq, q12.Par, q16, ((Xaa .i64 (p0.Frame + 1)).tmod (Xaa .i64 (1 * 2 ^ min p0.Seq.Bits.toNat (IntKind.bits .i64)))), v13.2.1, q12.Every, q12.Reach, true, q9.2.1⟩ : Xbb), (v13.2.2 ++ ([q15.1])), true)))
def Xe2 (q36 : (Xa3 × (List Pic) × (List Int))) (v42 : Int) : Option (Lp Int (Ou Unit Bool)) :=
 sel (decide (v42 < (q36.2.2.length : Int))) (
 req (0 ≤ v42 ∧ v42 < q36.2.2.length) <|
 req (v42.toNat < q36.2.2.length) <|
 sel ((q36.2.2.getD v42.toNat 0) != 0) (
 some (.done (.ret false))) (
 some (.go (Xaa .i64 (v42 + 1))))) (
 some (.done (.out ())))
def Xg8 (q2 : (Xbb × (List Pic) × (List Bool))) (v18 : (Int × Int × Int × Int × Int × Bool × Bool × Bool × Int × Int × Int × Int × Int × Int × Int × Bool × Int × Int × ByteArray × Bool × Bool × Bool × Int × Int × (List Int) × (List Int) × Int × Bool × Bool × Bool × Int × Int × Int × Int × ByteArray × Int × Int × ByteArray × (List Int) × (List Int))) : Option (Lp (Int × Int × Int × Int × Int × Bool × Bool × Bool × Int × Int × Int × Int × Int × Int × Int × Bool × Int × Int × ByteArray × Bool × Bool × Bool × Int × Int × (List Int) × (List Int) × Int × Bool × Bool × Bool × Int × Int × Int × Int × ByteArray × Int × Int × ByteArray × (List Int) × (List Int)) (Ou Unit Bool)) :=
 sel (decide (v18.2.1 < (q2.2.1.length : Int))) (
 req (0 ≤ v18.2.1 ∧ v18.2.1 < q2.2.2.length) <|
 req (v18.2.1.toNat < q2.2.2.length) <|
 bnd (Xmg (⟨(⟨v18.2.2.1, v18.2.2.2.1, v18.2.2.2.2.2.2.2.2.2.2.2.2.2.2.2.2.2.2.2.2.2.2.2.2.2.2.2.2.2.2.2.2.2.2.2.2.2.2.1, v18.2.2.2.2.2.2.2.2.2.2.2.2.2.2.2.2.2.2.2.2.2.2.2.2.2.2.2.2.2.2.2.2.2.2.2.2.2.2.2⟩ : Seq), (⟨v18.2.2.2.2.1, v18.2.2.2.2.2.1, v18.2.2.2.2.2.2.1, v18.2.2.2.2.2.2.2.1⟩ : Par), (⟨v18.2.2.2.2.2.2.2.2.1, v18.2.2.2.2.2.2.2.2.2.1, v18.2.2.2.2.2.2.2.2.2.2.1⟩ : Rate), v18.2.2.2.2.2.2.2.2.2.2.2.1, v18.2.2.2.2.2.2.2.2.2.2.2.2.1, v18.2.2.2.2.2.2.2.2.2.2.2.2.2.1, v18.2.2.2.2.2.2.2.2.2.2.2.2.2.2.1, v18.2.2.2.2.2.2.2.2.2.2.2.2.2.2.2.1, (⟨v18.2.2.2.2.2.2.2.2.2.2.2.2.2.2.2.2.1, v18.2.2.2.2.2.2.2.2.2.2.2.2.2.2.2.2.2.1, v18.2.2.2.2.2.2.2.2.2.2.2.2.2.2.2.2.2.2.1⟩ : Pic)⟩ : Xbb) (q2.2.2.getD v18.2.1.toNat Yuy)) fun q34 =>
 req (0 ≤ v18.2.1 ∧ v18.2.1 < q2.2.1.length) <|
 req (v18.2.1.toNat < q2.2.1.length) <|
 req (0 ≤ v18.2.1 ∧ v18.2.1 < q2.2.2.length) <|
 req (v18.2.1.toNat < q2.2.2.length) <|
 bnd (Xhz (⟨(⟨v18.2.2.1, v18.2.2.2.1, v18.2.2.2.2.2.2.2.2.2.2.2.2.2.2.2.2.2.2.2.2.2.2.2.2.2.2.2.2.2.2.2.2.2.2.2.2.2.2.1, v18.2.2.2.2.2.2.2.2.2.2.2.2.2.2.2.2.2.2.2.2.2.2.2.2.2.2.2.2.2.2.2.2.2.2.2.2.2.2.2⟩ : Seq), (⟨v18.2.2.2.2.1, v18.2.2.2.2.2.1, v18.2.2.2.2.2.2.1, v18.2.2.2.2.2.2.2.1⟩ : Par), (⟨v18.2.2.2.2.2.2.2.2.1, v18.2.2.2.2.2.2.2.2.2.1, v18.2.2.2.2.2.2.2.2.2.2.1⟩ : Rate), v18.2.2.2.2.2.2.2.2.2.2.2.1, v18.2.2.2.2.2.2.2.2.2.2.2.2.1, v18.2.2.2.2.2.2.2.2.2.2.2.2.2.1, v18.2.2.2.2.2.2.2.2.2.2.2.2.2.2.1, v18.2.2.2.2.2.2.2.2.2.2.2.2.2.2.2.1, (⟨v18.2.2.2.2.2.2.2.2.2.2.2.2.2.2.2.2.1, v18.2.2.2.2.2.2.2.2.2.2.2.2.2.2.2.2.2.1, v18.2.2.2.2.2.2.2.2.2.2.2.2.2.2.2.2.2.2.1⟩ : Pic)⟩ : Xbb) (⟨(q2.2.1.getD v18.2.1.toNat Yrw).Wide, (q2.2.1.getD v18.2.1.toNat Yrw).High, (q2.2.1.getD v18.2.1.toNat Yrw).Dots⟩ : Pic) (q2.2.2.getD v18.2.1.toNat Yuy)) fun q35 =>
 req ((([] : List ByteArray).length + q35.2.1.length) * 16 ≤ 140737488355328 ∧ ([] : List ByteArray).length + q35.2.1.length ≤ maxLen) <|
 bnd (Xpj (⟨v18.2.2.2.2.2.2.2.2.2.2.2.2.2.2.2.2.2.2.2.1, v18.2.2.2.2.2.2.2.2.2.2.2.2.2.2.2.2.2.2.2.2.1, v18.2.2.2.2.2.2.2.2.2.2.2.2.2.2.2.2.2.2.2.2.2.1, (⟨v18.2.2.2.2.2.2.2.2.2.2.2.2.2.2.2.2.2.2.2.2.2.2.1, v18.2.2.2.2.2.2.2.2.2.2.2.2.2.2.2.2.2.2.2.2.2.2.2.1, v18.2.2.2.2.2.2.2.2.2.2.2.2.2.2.2.2.2.2.2.2.2.2.2.2.1, v18.2.2.2.2.2.2.2.2.2.2.2.2.2.2.2.2.2.2.2.2.2.2.2.2.2.1⟩ : Seq), (⟨v18.2.2.2.2.2.2.2.2.2.2.2.2.2.2.2.2.2.2.2.2.2.2.2.2.2.2.1, v18.2.2.2.2.2.2.2.2.2.2.2.2.2.2.2.2.2.2.2.2.2.2.2.2.2.2.2.1, v18.2.2.2.2.2.2.2.2.2.2.2.2.2.2.2.2.2.2.2.2.2.2.2.2.2.2.2.2.1, v18.2.2.2.2.2.2.2.2.2.2.2.2.2.2.2.2.2.2.2.2.2.2.2.2.2.2.2.2.2.1⟩ : Par), v18.2.2.2.2.2.2.2.2.2.2.2.2.2.2.2.2.2.2.2.2.2.2.2.2.2.2.2.2.2.2.1, v18.2.2.2.2.2.2.2.2.2.2.2.2.2.2.2.2.2.2.2.2.2.2.2.2.2.2.2.2.2.2.2.1, (⟨v18.2.2.2.2.2.2.2.2.2.2.2.2.2.2.2.2.2.2.2.2.2.2.2.2.2.2.2.2.2.2.2.2.1, v18.2.2.2.2.2.2.2.2.2.2.2.2.2.2.2.2.2.2.2.2.2.2.2.2.2.2.2.2.2.2.2.2.2.1, v18.2.2.2.2.2.2.2.2.2.2.2.2.2.2.2.2.2.2.2.2.2.2.2.2.2.2.2.2.2.2.2.2.2.2.1⟩ : Pic), (⟨v18.2.2.2.2.2.2.2.2.2.2.2.2.2.2.2.2.2.2.2.2.2.2.2.2.2.2.2.2.2.2.2.2.2.2.2.1, v18.2.2.2.2.2.2.2.2.2.2.2.2.2.2.2.2.2.2.2.2.2.2.2.2.2.2.2.2.2.2.2.2.2.2.2.2.1, v18.2.2.2.2.2.2.2.2.2.2.2.2.2.2.2.2.2.2.2.2.2.2.2.2.2.2.2.2.2.2.2.2.2.2.2.2.2.1⟩ : Pic)⟩ : Xa3) (([] : List ByteArray) ++ q35.2.1)) fun q36 =>
 bnd (
 sel q35.2.2 (
 sel ((q36.2.1.length : Int) != 1) (
 some true) (
 req (0 ≤ (0 : Int) ∧ (0 : Int) < q36.2.1.length) <|
 req ((0 : Int).toNat < q36.2.1.length) <|
 sel (((((q36.2.1.getD ((0 : Int).toNat) Yrw).Wide) == q35.1.Ref.Wide) && ((((q36.2.1.getD ((0 : Int).toNat) Yrw).High) == q35.1.Ref.High) && (((q36.2.1.getD ((0 : Int).toNat) Yrw).Dots).toList == q35.1.Ref.Dots.toList))) == false) (
 some true) (
 sel ((q36.2.2.length : Int) != (q35.2.1.length : Int)) (
 some true) (
 sel (q34 == ((q35.2.1.length : Int) == 3)) (
 req ((8 : Int) ≠ 0) <|
 sel (q35.1.Frame != ((Xaa .i64 (v18.1 + 1)).tmod 8)) (
 some true) (
 bnd (Xfb q35.1) fun q38 =>
 sel q38 (
 bnd (Xo6 q36.1) fun q39 =>
 some (!q39)) (
 some true))) (
 some true))))) (
 some true)) fun v37 =>
 sel v37 (
 some (.done (.ret false))) (
 bnd (
 sel v18.2.2.2.2.2.2.1 (
 req (0 ≤ (0 : Int) ∧ (0 : Int) < q36.2.1.length) <|
 req ((0 : Int).toNat < q36.2.1.length) <|
 req (0 ≤ v18.2.1 ∧ v18.2.1 < q2.2.1.length) <|
 req (v18.2.1.toNat < q2.2.1.length) <|
 some (((((q36.2.1.getD ((0 : Int).toNat) Yrw).Wide) == ((q2.2.1.getD v18.2.1.toNat Yrw).Wide)) && ((((q36.2.1.getD ((0 : Int).toNat) Yrw).High) == ((q2.2.1.getD v18.2.1.toNat Yrw).High)) && (((q36.2.1.getD ((0 : Int).toNat) Yrw).Dots).toList == ((q2.2.1.getD v18.2.1.toNat Yrw).Dots).toList))) == false)) (
 some false)) fun v40 =>
 sel v40 (
 some (.done (.ret false))) (
 bnd (loop (Xe2 q36) 0) fun o45 => match o45 with
| .out v44 => (
 bnd (
 sel (v18.2.1 == 0) (
 sel q34 (
 req (0 ≤ v18.2.1 ∧ v18.2.1 < q2.2.2.length) <|
 req (v18.2.1.toNat < q2.2.2.length) <|
 sel (q2.2.2.getD v18.2.1.toNat Yuy) (
 sel (decide (v18.2.1 ≥ v18.2.2.2.2.2.2.2.2.2.2.2.2.2.1)) (
 sel (v18.2.2.2.2.2.2.2.2.2.2.2.2.2.1 == 1) (
 some (!q34)) (
 some false)) (
 some false)) (
 sel (decide (v18.2.1 ≥ v18.2.2.2.2.2.2.2.2.2.2.2.2.2.1)) (
 sel (v18.2.2.2.2.2.2.2.2.2.2.2.2.2.1 == 1) (
 some (!q34)) (
 some false)) (
 some false))) (
 some true)) (
 req (0 ≤ v18.2.1 ∧ v18.2.1 < q2.2.2.length) <|
 req (v18.2.1.toNat < q2.2.2.length) <|
 sel (q2.2.2.getD v18.2.1.toNat Yuy) (
 sel q34 (
 sel (decide (v18.2.1 ≥ v18.2.2.2.2.2.2.2.2.2.2.2.2.2.1)) (
 sel (v18.2.2.2.2.2.2.2.2.2.2.2.2.2.1 == 1) (
 some (!q34)) (
 some false)) (
 some false)) (
 some true)) (
 sel (decide (v18.2.1 ≥ v18.2.2.2.2.2.2.2.2.2.2.2.2.2.1)) (
 sel (v18.2.2.2.2.2.2.2.2.2.2.2.2.2.1 == 1) (
 some (!q34)) (
 some false)) (
 some false)))) fun v46 =>
 sel v46 (
 some (.done (.ret false))) (
 some (.go (q35.1.Frame, Xaa .i64 (v18.2.1 + 1), q35.1.Seq.Level, q35.1.Seq.Bits, q35.1.Par.Qp, q35.1.Par.Large, q35.1.Par.Exact, q35.1.Par.Confined, q35.1.Rate.Qp, q35.1.Rate.Target, q35.1.Rate.Debt, q35.1.Frame, q35.1.Since, q35.1.Every, q35.1.Reach, q35.1.Has, q35.1.Ref.Wide, q35.1.Ref.High, q35.1.Ref.Dots, q36.1.HasSeq, q36.1.HasPar, q36.1.HasRef, q36.1.Seq.Level, q36.1.Seq.Bits, q36.1.Seq.Cols, q36.1.Seq.Rows, q36.1.Par.Qp, q36.1.Par.Large, q36.1.Par.Exact, q36.1.Par.Confined, q36.1.Frame, q36.1.Got, q36.1.Now.Wide, q36.1.Now.High, q36.1.Now.Dots, q36.1.Ref.Wide, q36.1.Ref.High, q36.1.Ref.Dots, q35.1.Seq.Cols, q35.1.Seq.Rows))))
| .ret r => some (.done (.ret r))))) (
 some (.done (.out ())))
def Xqs (p0 : (List Int)) : Option Bool :=
 bnd (Yga p0) fun q1 =>
 sel q1 (
 some true) (
 bnd (Xjm p0) fun q2 =>
 bnd (Xpk) fun q3 =>
 bnd (loop (Xg8 q2) (q2.1.Frame, 0, q2.1.Seq.Level, q2.1.Seq.Bits, q2.1.Par.Qp, q2.1.Par.Large, q2.1.Par.Exact, q2.1.Par.Confined, q2.1.Rate.Qp, q2.1.Rate.Target, q2.1.Rate.Debt, q2.1.Frame, q2.1.Since, q2.1.Every, q2.1.Reach, q2.1.Has, q2.1.Ref.Wide, q2.1.Ref.High, q2.1.Ref.Dots, q3.HasSeq, q3.HasPar, q3.HasRef, q3.Seq.Level, q3.Seq.Bits, q3.Seq.Cols, q3.Seq.Rows, q3.Par.Qp, q3.Par.Large, q3.Par.Exact, q3.Par.Confined, q3.Frame, q3.Got, q3.Now.Wide, q3.Now.High, q3.Now.Dots, q3.Ref.Wide, q3.Ref.High, q3.Ref.Dots, q2.1.Seq.Cols, q2.1.Seq.Rows)) fun o47 => match o47 with
| .out v33 => (
 some true)
| .ret r => some r)
end
end Go.Proofs.YtnhflbeahbcklaaGreat.A
